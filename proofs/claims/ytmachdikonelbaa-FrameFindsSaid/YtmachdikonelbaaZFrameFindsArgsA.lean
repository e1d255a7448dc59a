/- Arrays of whole numbers that came in. -/
import Derived.Test.YtmachdikonelbaaZFrameFindsArgsB
import Derived.Test.YtmachdikonelbaaZFrameFindsConvB
import Derived.Test.YtmachdikonelbaaZFrameFindsByWO
set_option linter.unusedVariables false
set_option linter.unusedSimpArgs false
namespace Go.Proofs.Ytmachdikonelbaa
open Go.RowKit Go.Proofs.YtmachdikonelbaaW.PrintWords
open Go.ChangeShapes
section
variable {H : Type} {enc : TypeId × Value → H} {w : World} {base : Nat} {spare : Nat → Bool} {held : Bool} {n m t e b0 : Nat} {k : IntKind} {r : Reach} {v : Value} {x : DataW H × List MemPlace}
set_option maxRecDepth 10000 in
theorem arg_ints (hsz0 : Try.prog.cellsOf t = n) (ht : Try.prog.underlying t = some (.array n e)) (he : Try.prog.underlying e = some (.int k)) (hc1 : Try.prog.cellsOf e = 1) (hv : Value.okWide Try.prog w r b0 t v) (h : DataW.trod enc Try.prog w base spare held m t v.cells.toList = some x) :
    ∃ zs : List Int, zs.length = n ∧ v = .agg (nums k zs).toArray ∧ ∀ z ∈ zs, (Lit.int k z).wf = true := by
  have hv2 : ∃ cs, v = .agg cs ∧ cs.size = Try.prog.cellsOf t := by
    unfold Value.okWide at hv
    rw [ht] at hv
    obtain ⟨cs, e, hs, _⟩ := hv
    exact ⟨cs, e, hs⟩
  obtain ⟨cs, rfl, hs⟩ := hv2
  obtain ⟨ys, q, _, _, hlen, hyl, hall⟩ := DataW.trod_array ht h
  have each : ∀ i, i < n → ∃ c : Int, cs[i]? = some (.int k c) ∧ (Lit.int k c).wf = true := by
    intro i hi
    have h1 := hall i hi
    rw [hc1, Nat.mul_one] at h1
    obtain ⟨y, hy⟩ : ∃ y, ys[i]? = some y := ⟨_, List.getElem?_eq_getElem (by omega)⟩
    rw [hy] at h1
    obtain ⟨a, ha, _, wa⟩ := DataW.trod_int he h1
    refine ⟨a, ?_, wa⟩
    have h2 : ((cs.toList.drop i).take 1)[0]? = some (.int k a) := by
      have : Value.cells (.agg cs) = cs := rfl
      rw [this] at ha
      rw [ha]; rfl
    rw [List.getElem?_take, if_pos (by omega), List.getElem?_drop] at h2
    simpa using h2
  have hsz : cs.size ≤ n ∧ n ≤ cs.size := by
    constructor
    · rcases Nat.lt_or_ge n cs.size with h1 | h1
      · omega
      · exact h1
    · rcases Nat.lt_or_ge cs.size n with h1 | h1
      · obtain ⟨c, hc, _⟩ := each cs.size h1
        simp at hc
      · exact h1
  have hl : ∀ q, q ≤ n → ∃ xs : List Int, xs.length = q ∧ cs.toList.take q = nums k xs ∧ ∀ z ∈ xs, (Lit.int k z).wf = true := by
    intro q
    induction q with
    | zero => intro _; exact ⟨[], rfl, by simp [nums], fun z hz => by cases hz⟩
    | succ q ih =>
      intro hk
      obtain ⟨xs, hx, he, hw⟩ := ih (by omega)
      obtain ⟨c, hc, hcw⟩ := each q (by omega)
      refine ⟨xs ++ [c], by simp [hx], ?_, fun z hz => ?_⟩
      · have hkl : q < cs.toList.length := by simp; omega
        rw [List.take_succ_eq_append_getElem hkl, he]
        have : cs.toList[q] = .int k c := by
          have := (Array.getElem?_eq_some_iff.1 hc).2
          simpa using this
        rw [this]; simp [nums]
      · rcases List.mem_append.1 hz with h1 | h1
        · exact hw z h1
        · obtain rfl : z = c := by simpa using h1
          exact hcw
  obtain ⟨xs, hx, he, hw⟩ := hl n (Nat.le_refl _)
  refine ⟨xs, hx, ?_, hw⟩
  rw [List.take_of_length_le (by simp; omega)] at he
  rw [← he]
set_option maxRecDepth 10000 in
theorem arg_u8s (hsz0 : Try.prog.cellsOf t = n) (ht : Try.prog.underlying t = some (.array n 5)) (hv : Value.okWide Try.prog w r b0 t v) (h : DataW.trod enc Try.prog w base spare held m t v.cells.toList = some x) : ∃ xs : List UInt8, xs.length = n ∧ v = .agg (nums .u8 (xs.map bv)).toArray := by
  obtain ⟨zs, hl, rfl, hw⟩ := arg_ints hsz0 ht Try.underlying5 (by kernel_rfl) hv h
  have hb : isB zs = true := (isB_iff zs).2 fun z hz => by
    have := bounds_u8 (hw z hz)
    omega
  exact ⟨toB zs, by rw [toB_length, hl], by rw [toB_bv zs hb]⟩
end
end Go.Proofs.Ytmachdikonelbaa
