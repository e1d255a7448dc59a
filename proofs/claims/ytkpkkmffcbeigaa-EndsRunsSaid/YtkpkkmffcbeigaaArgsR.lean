/- Acts that came in. -/
import Derived.Test.YtkpkkmffcbeigaaArgsC
import Derived.Test.YtkpkkmffcbeigaaRuns
import Derived.ChangeSame
namespace Go.Proofs.Ytkpkkmffcbeigaa
open Go.RowKit Go.Proofs.YtkpkkmffcbeigaaW.PrintWords
open Go.ChangeShapes
section
variable {H : Type} {enc : TypeId × Value → H} {w : World} {base : Nat} {spare : Nat → Bool} {held : Bool}
theorem arg_act {n : Nat} {cs : List Value} {x : DataW H × List MemPlace} (h : DataW.trod enc Try.prog w base spare held n 42 cs = some x) : ∃ y : Int × Int, kAct.K w y cs ∧ True := by
  obtain ⟨y0, y1, m, _, hl, h0, h1⟩ := trod_struct2 Try.underlying42 h
  have hl2 : cs.length = 2 := hl.trans (by kernel_rfl)
  obtain ⟨a, e0, _, _⟩ := DataW.trod_int Try.underlying3 h0
  obtain ⟨b, e1, _, _⟩ := DataW.trod_int Try.underlying3 h1
  match cs, hl2 with
  | [c0, c1], _ =>
    have e0' : c0 = .int .i64 a := by
      have : [c0] = [Value.int .i64 a] := e0
      injection this
    have e1' : c1 = .int .i64 b := by
      have : [c1] = [Value.int .i64 b] := e1
      injection this
    subst e0'; subst e1'
    exact ⟨(a, b), ⟨[.int .i64 a], [.int .i64 b], rfl, rfl, rfl⟩, trivial⟩
theorem arg_acts {n : Nat} {cs : List Value} {x : DataW H × List MemPlace} (h : DataW.trod enc Try.prog w base spare held n 38 cs = some x) :
    ∃ A c xs, cs = [.slice A xs.length c] ∧ xs.length ≤ c ∧ (A = none → c = 0) ∧ RA w A xs := by
  obtain ⟨A, c, xs, rfl, hc, _, hn, hr, _⟩ := open_kd kAct (fun _ => True) Try.underlying38 (by kernel_rfl) (by decide) (fun _ _ _ h => arg_act h) h
  exact ⟨A, c, xs, rfl, hc, hn, hr⟩
end
end Go.Proofs.Ytkpkkmffcbeigaa
