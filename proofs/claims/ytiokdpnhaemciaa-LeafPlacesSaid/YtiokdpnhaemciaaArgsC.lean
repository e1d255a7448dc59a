/- Numbers of 64 bits that came in, alone and in slices. -/
import Derived.Test.YtiokdpnhaemciaaArgsB
import Derived.Test.YtiokdpnhaemciaaPut
namespace Go.Proofs.Ytiokdpnhaemciaa
open Go.RowKit Go.Proofs.YtiokdpnhaemciaaW.PrintWords
open Go.ChangeShapes
theorem num_of {a : Int} (wa : (Lit.int .u64 a).wf = true) : ∃ m : UInt64, a = uv m := by
  simp [Lit.wf, IntKind.min, IntKind.max, IntKind.signed, IntKind.bits] at wa
  refine ⟨UInt64.ofNat a.toNat, ?_⟩
  unfold uv
  rw [UInt64.toNat_ofNat']
  omega
section
variable {H : Type} {enc : TypeId × Value → H} {w : World} {base : Nat} {spare : Nat → Bool} {held : Bool}
theorem arg_num {n : Nat} {cs : List Value} {x : DataW H × List MemPlace} (h : DataW.trod enc Try.prog w base spare held n 22 cs = some x) : ∃ y : UInt64, kU64.K w y cs ∧ True := by
  obtain ⟨a, rfl, _, wa⟩ := DataW.trod_int Try.underlying22 h
  obtain ⟨m, rfl⟩ := num_of wa
  exact ⟨m, rfl, trivial⟩
theorem arg_nums {n : Nat} {cs : List Value} {x : DataW H × List MemPlace} (h : DataW.trod enc Try.prog w base spare held n 90 cs = some x) :
    ∃ A c xs, cs = [.slice A xs.length c] ∧ xs.length ≤ c ∧ (A = none → c = 0) ∧ Ru w A xs := by
  obtain ⟨A, c, xs, rfl, hc, _, hn, hr, _⟩ := open_kd kU64 (fun _ => True) Try.underlying90 (by kernel_rfl) (by decide) (fun _ _ _ h => arg_num h) h
  exact ⟨A, c, xs, rfl, hc, hn, hr⟩
end
end Go.Proofs.Ytiokdpnhaemciaa
