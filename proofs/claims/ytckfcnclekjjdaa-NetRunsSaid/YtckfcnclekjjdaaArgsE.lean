/- Slices of slices of bytes that came in, with what is known of nil. -/
import Derived.Test.YtckfcnclekjjdaaArgsB
import Derived.ChangeSame
set_option linter.unusedVariables false
set_option linter.unusedSimpArgs false
namespace Go.Proofs.Ytckfcnclekjjdaa
open Go.RowKit Go.Proofs.YtckfcnclekjjdaaW.PrintWords
open Go.ChangeShapes
/-- A kind that is only read. -/
def kBN : Kd (List UInt8) where
  sz := 1
  E := []
  K := fun w xs cs => ∃ A c, cs = [.slice A xs.length c] ∧ Sl w A c xs
  M := fun _ _ _ _ _ => False
  K_len := fun ⟨A, c, h, _⟩ => by rw [h]; rfl
  K_one := fun ⟨A, c, h, _⟩ u hu => by rw [h] at hu; rw [List.mem_singleton.1 hu]; rfl
  K_below := fun hb ⟨A, c, h, hs⟩ => ⟨A, c, h, hs.below hb⟩
  K_of_M := fun h => h.elim
  M_mono := fun _ h => h
  M_bound := fun h => h
  M_move := fun _ h => h
  M_lower := fun _ h => h
theorem cell_below {w w1 : World} (hb : Below w.heap.size w w1) {a : Addr} {v : Value} (h : w.cell? a = some v) : w1.cell? a = some v := by
  have hlt : a.block < w.heap.size := by
    rcases Nat.lt_or_ge a.block w.heap.size with h' | h'
    · exact h'
    · rw [World.cell?, Array.getElem?_eq_none h'] at h; cases h
  rw [← h]
  exact World.cell?_of_block (hb.block _ hlt)
theorem bn_get {w : World} {A : Option Addr} {n : Nat} {ys : List (List UInt8)} (h : kBN.C w A n ys) (j : Nat) (hj : j < ys.length) : ∃ (ad : Addr) (B : Option Addr) (c : Nat) (b : List UInt8), A = some ad ∧ ys[j]? = some b ∧ w.cell? (ad.add (j * 1)) = some (.slice B b.length c) ∧ Sl w B c b := by
  obtain ⟨ad, e, hc⟩ := h.2.2 (by have := h.1; omega)
  obtain ⟨cs, hs, ⟨B, c, rfl, hsl⟩, hcell⟩ := hc j _ (List.getElem?_eq_getElem hj)
  exact ⟨ad, B, c, ys[j], e, List.getElem?_eq_getElem hj, hcell 0 _ rfl, hsl⟩
section
variable {H : Type} {enc : TypeId × Value → H} {w : World} {base : Nat} {spare : Nat → Bool} {held : Bool}
theorem arg_bn {n : Nat} {cs : List Value} {x : DataW H × List MemPlace} (h : DataW.trod enc Try.prog w base spare held n 22 cs = some x) :
    ∃ A c xs, cs = [.slice A xs.length c] ∧ xs.length ≤ c ∧ kBN.C w A xs.length xs := by
  obtain ⟨A, c, xs, rfl, hc, _, hn, hr, _⟩ := open_kd kBN (fun _ => True) Try.underlying22 (by kernel_rfl) (by decide) (fun _ cs _ h => by
    obtain ⟨A, c, xs, rfl, hc, _, hn, hr, _⟩ := open_kd kByte (fun _ => True) Try.underlying24 (by kernel_rfl) (by decide) (fun _ _ _ h => arg_byte h) h
    exact ⟨xs, ⟨A, c, rfl, hr, hc, hn⟩, trivial⟩) h
  exact ⟨A, c, xs, rfl, hc, hr⟩
theorem arg_b1 {n : Nat} {cs : List Value} {x : DataW H × List MemPlace} (h : DataW.trod enc Try.prog w base spare held n 24 cs = some x) : ∃ A c xs, cs = [.slice A xs.length c] ∧ Sl w A c xs := by
  obtain ⟨A, c, xs, rfl, hc, _, hn, hr, _⟩ := open_kd kByte (fun _ => True) Try.underlying24 (by kernel_rfl) (by decide) (fun _ _ _ h => arg_byte h) h
  exact ⟨A, c, xs, rfl, hr, hc, hn⟩
end
end Go.Proofs.Ytckfcnclekjjdaa
