/- Slices of slices of bytes that came in. -/
import Derived.Test.YtenlkobjldhfgaaArgsB
import Derived.Test.YtenlkobjldhfgaaRds
namespace Go.Proofs.Ytenlkobjldhfgaa
open Go.RowKit Go.Proofs.YtenlkobjldhfgaaW.PrintWords
open Go.ChangeShapes
section
variable {H : Type} {enc : TypeId × Value → H} {w : World} {base : Nat} {spare : Nat → Bool} {held : Bool}
theorem arg_bytess {n : Nat} {cs : List Value} {x : DataW H × List MemPlace} (h : DataW.trod enc Try.prog w base spare held n 33 cs = some x) :
    ∃ A c xs, cs = [.slice A xs.length c] ∧ xs.length ≤ c ∧ (A = none → c = 0) ∧ Rds w A xs := by
  obtain ⟨A, c, xs, rfl, hc, _, hn, hr, _⟩ := open_kd kBytes (fun _ => True) Try.underlying33 (by kernel_rfl) (by decide) (fun _ cs _ h => by
    obtain ⟨A, c, xs, rfl, hs⟩ := arg_bytes h
    exact ⟨xs, ⟨A, c, rfl, hs.cap, hs.rd⟩, trivial⟩) h
  exact ⟨A, c, xs, rfl, hc, hn, hr⟩
end
end Go.Proofs.Ytenlkobjldhfgaa
