/- Items and haves in memory. -/
import Derived.Test.YtmachdikonelbaaZFrameReadsFrP
import Derived.Test.YtmachdikonelbaaZFrameReadsFlat
import Derived.Test.YtmachdikonelbaaZFrameReadsByWO
set_option linter.unusedVariables false
set_option linter.unusedSimpArgs false
namespace Go.Proofs.Ytmachdikonelbaa
open Go.RowKit Go.Proofs.YtmachdikonelbaaW.PrintWords Go.Proofs.YtmachdikonelbaaW.PrintLast Crc
structure V8 where
  a : Value
  b : Value
  c : Value
  d : Value
  e : Value
  f : Value
  g : Value
  h : Value
abbrev V8.l (q : V8) (t : List Value) : List Value := q.a :: q.b :: q.c :: q.d :: q.e :: q.f :: q.g :: q.h :: t
abbrev itC (x : It) : List Value := .int .i64 x.1 :: .bool x.2.1 :: nums .u8 (x.2.2.map bv)
def itP (x : It) (cs : List Value) : Prop := cs = itC x ∧ x.2.2.length = 16
def kIt : Kd It := flatK 18 itP (fun x cs h => by rw [h.1]; simp [nums_length, h.2]) (fun x cs h u hu => by
  rw [h.1] at hu
  rcases List.mem_cons.1 hu with rfl | hu
  · rfl
  · rcases List.mem_cons.1 hu with rfl | hu
    · rfl
    · exact nums_mem hu)
abbrev hvC (x : Hv) : List Value := [.int .u32 x.1, .int .u32 x.2.1, .int .u32 x.2.2]
def hvP (x : Hv) (cs : List Value) : Prop := cs = hvC x
def kHv : Kd Hv := flatK 3 hvP (fun x cs h => by rw [h]; rfl) (fun x cs h u hu => by
  rw [h] at hu
  simp only [hvC, List.mem_cons, List.not_mem_nil, or_false] at hu
  rcases hu with rfl | rfl | rfl <;> rfl)
theorem it_get {w : World} {A : Option Addr} {n : Nat} {ps : List It} (h : kIt.C w A n ps) (j : Nat) (hj : j < ps.length) : ∃ ad x, A = some ad ∧ ps[j]? = some x ∧ x.2.2.length = 16 ∧ ∀ i u, (itC x)[i]? = some u → w.cell? ((ad.add (j * 18)).add i) = some u := by
  obtain ⟨ad, e, hc⟩ := h.2.2 (by have := h.1; omega)
  obtain ⟨c, hs, ⟨hr, h2⟩, hcell⟩ := hc j _ (List.getElem?_eq_getElem hj)
  refine ⟨ad, ps[j], e, List.getElem?_eq_getElem hj, h2, fun i u hu => ?_⟩
  rw [add_add]
  exact hcell i u (by rw [hr]; exact hu)
theorem hv_get {w : World} {A : Option Addr} {n : Nat} {ps : List Hv} (h : kHv.C w A n ps) (j : Nat) (hj : j < ps.length) : ∃ ad x, A = some ad ∧ ps[j]? = some x ∧ ∀ i u, (hvC x)[i]? = some u → w.cell? ((ad.add (j * 3)).add i) = some u := by
  obtain ⟨ad, e, hc⟩ := h.2.2 (by have := h.1; omega)
  obtain ⟨c, hs, hr, hcell⟩ := hc j _ (List.getElem?_eq_getElem hj)
  refine ⟨ad, ps[j], e, List.getElem?_eq_getElem hj, fun i u hu => ?_⟩
  rw [add_add]
  have hr' : c = hvC ps[j] := hr
  exact hcell i u (by rw [hr']; exact hu)
theorem it_cells {w : World} {ad : Addr} {n j : Nat} {ps : List It} {x : It} (h : kIt.C w (some ad) n ps) (hx : ps[j]? = some x) : ∀ i u, (itC x)[i]? = some u → w.cell? ((ad.add (j * 18)).add i) = some u := by
  obtain ⟨a', y, e, hy, -, hc⟩ := it_get h j (List.getElem?_eq_some_iff.1 hx).1
  obtain rfl := Option.some.inj e
  obtain rfl := Option.some.inj (hy.symm.trans hx)
  exact hc
theorem hv_cells {w : World} {ad : Addr} {n j : Nat} {ps : List Hv} {x : Hv} (h : kHv.C w (some ad) n ps) (hx : ps[j]? = some x) : ∀ i u, (hvC x)[i]? = some u → w.cell? ((ad.add (j * 3)).add i) = some u := by
  obtain ⟨a', y, e, hy, hc⟩ := hv_get h j (List.getElem?_eq_some_iff.1 hx).1
  obtain rfl := Option.some.inj e
  obtain rfl := Option.some.inj (hy.symm.trans hx)
  exact hc
end Go.Proofs.Ytmachdikonelbaa
