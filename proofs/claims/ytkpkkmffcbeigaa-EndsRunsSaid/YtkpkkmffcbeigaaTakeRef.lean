/- The document's Take and Num. -/
import Derived.Test.YtkpkkmffcbeigaaBack
namespace Go.Proofs.Ytkpkkmffcbeigaa
open Go.RowKit Go.Proofs.YtkpkkmffcbeigaaW.PrintWords

/-- The document's reader as a value. -/
def rdrV (A : Option Addr) (n c : Nat) (at_ : Nat) (f : Bool) : Value := .agg #[.slice A n c, .int .i64 at_, .bool f]
def takeAt (xs : List UInt8) (at_ : Nat) (f : Bool) (n : Int) : Nat := if takeBad (xs.drop at_) f n then at_ else at_ + n.toNat
theorem takeAt_le (xs : List UInt8) (at_ : Nat) (f : Bool) (n : Int) (h : at_ ≤ xs.length) : takeAt xs at_ f n ≤ xs.length := by
  unfold takeAt
  split
  · exact h
  · rename_i hb
    unfold takeBad at hb
    simp only [Bool.or_eq_true, decide_eq_true_eq, not_or, List.length_drop] at hb
    omega
theorem takeAt_rest (xs : List UInt8) (at_ : Nat) (f : Bool) (n : Int) : xs.drop (takeAt xs at_ f n) = takeRest (xs.drop at_) f n := by
  unfold takeAt takeRest
  split
  · rfl
  · rw [List.drop_drop]

theorem cells3 {w : World} {g : Nat} {a b c : Value} {t : TypeId} (h : w.heap[g]? = some (.cells #[a, b, c] t)) :
    w.cell? ⟨g, 0, none⟩ = some a ∧ w.cell? ⟨g, 1, none⟩ = some b ∧ w.cell? ⟨g, 2, none⟩ = some c ∧ w.frozen? ⟨g, 0, none⟩ = false ∧ w.frozen? ⟨g, 1, none⟩ = false ∧ w.frozen? ⟨g, 2, none⟩ = false := by
  refine ⟨?_, ?_, ?_, ?_, ?_, ?_⟩
  · unfold World.cell?; rw [h]; rfl
  · unfold World.cell?; rw [h]; rfl
  · unfold World.cell?; rw [h]; rfl
  · unfold World.frozen?; rw [h]; rfl
  · unfold World.frozen?; rw [h]; rfl
  · unfold World.frozen?; rw [h]; rfl
theorem two_kept {w w2 : World} {o0 o1 o2 : Obj} {r : Nat} (hr : r = w.heap.size + 1 + 1) (hg : (((w.alloc o0).alloc o1).alloc o2).grownBy w2 (some r)) : w2.heap[w.heap.size]? = some o0 ∧ w2.heap[w.heap.size + 1]? = some o1 ∧ Below w.heap.size w w2 := by
  subst hr
  have e1 : (w.alloc o0).heap.size = w.heap.size + 1 := by simp
  have e2 : ((w.alloc o0).alloc o1).heap.size = w.heap.size + 1 + 1 := by simp
  have e3 : (((w.alloc o0).alloc o1).alloc o2).heap.size = w.heap.size + 1 + 1 + 1 := by simp
  refine ⟨?_, ?_, ?_⟩
  · rw [hg.block _ (by omega) (by simp <;> omega), Below.heap_alloc _ _ _ (by omega), Below.heap_alloc _ _ _ (by omega)]; exact heap_alloc_new w o0
  · rw [hg.block _ (by omega) (by simp <;> omega), Below.heap_alloc _ _ _ (by omega)]
    have := heap_alloc_new (w.alloc o0) o1
    rw [e1] at this
    exact this
  · exact ((((Below.refl _ w).alloc (Nat.le_refl _) o0).alloc (by omega) o1).alloc (by omega) o2).grown hg (by omega) (fun k e => by cases e; omega)
theorem sl_four {w : World} {A : Option Addr} {c s : Nat} {xs : List UInt8} (h : Sl w A c xs) (hf : ∀ a, A = some a → s + 1 + 1 ≤ a.block) (v1 v2 v3 v4 : Value) :
    Sl ((((w.setCell ⟨s, 1, none⟩ v1).setCell ⟨s + 1, 0, none⟩ v2).setCell ⟨s + 1, 1, none⟩ v3).setCell ⟨s + 1, 2, none⟩ v4) A c xs := by
  refine h.same fun _ a e k => ?_
  have h1 := hf a e
  rw [World.cell?_setCell_far _ _ _ _ (by rw [addr_block]; show s + 1 ≠ _; omega), World.cell?_setCell_far _ _ _ _ (by rw [addr_block]; show s + 1 ≠ _; omega), World.cell?_setCell_far _ _ _ _ (by rw [addr_block]; show s + 1 ≠ _; omega), World.cell?_setCell_far _ _ _ _ (by rw [addr_block]; show s ≠ _; omega)]
theorem Own.empty_at (w : World) (n base : Nat) (hn : w.heap.size = n) (hb : base ≤ n) : Own (w.alloc (.cells #[] 5)) base (.slice (some ⟨n, 0, none⟩) 0 0) [] := by
  subst hn
  exact Own.lower (Own.empty w) hb

set_option maxHeartbeats 4000000 in
theorem rtake_any (A : Option Addr) (c : Nat) (xs : List UInt8) (at_ : Nat) (f : Bool) (n : Int) (w : World) (hr : Sl w A c xs) (ha : at_ ≤ xs.length) (hl : xs.length ≤ 140737488355000) :
    Calls Try.prog 18 #[rdrV A xs.length c at_ f, .int .i64 n] w fun e w' => ∃ A' c', e = .returned (.tuple #[rdrV A xs.length c (takeAt xs at_ f n) (takeBad (xs.drop at_) f n), .slice A' (takeOut (xs.drop at_) f n).length c']) ∧ Sl w' A' c' (takeOut (xs.drop at_) f n) ∧ (∀ a, A' = some a → w.heap.size ≤ a.block) ∧ Below w.heap.size w w' := by
  have HR := Lib.hid hr
  have hcap := hr.cap
  clear hr
  unfold rdrV
  by_cases hbad : takeBad (xs.drop at_) f n = true
  · have HK := Lib.hid (show takeOut (xs.drop at_) f n = [] by unfold takeOut; rw [hbad]; rfl)
    have HK2 := Lib.hid (show takeAt xs at_ f n = at_ by unfold takeAt; rw [hbad]; rfl)
    have HK3 := Lib.hid hbad
    have HE := Lib.hid (show ∀ w', Below w.heap.size w w' → ∃ A' c', Ending.returned (.tuple #[.agg #[.slice A xs.length c, .int .i64 at_, .bool true], .slice none 0 0]) = .returned (.tuple #[.agg #[.slice A xs.length c, .int .i64 (takeAt xs at_ f n), .bool (takeBad (xs.drop at_) f n)], .slice A' (takeOut (xs.drop at_) f n).length c']) ∧ Sl w' A' c' (takeOut (xs.drop at_) f n) ∧ (∀ a, A' = some a → w.heap.size ≤ a.block) ∧ Below w.heap.size w w' from
      fun w' hb => ⟨none, 0, by rw [HK.out, HK2.out, HK3.out]; rfl, by rw [HK.out]; exact Sl.none _, fun _ e => (by cases e), hb⟩)
    unfold takeBad at hbad
    rw [List.length_drop] at hbad
    cases f
    · by_cases hn : n < 0
      · clear hbad
        go_enter Try.func18, Try.ntmps18
        go_wp2
        refine bodyPost_ret (v := .tuple #[.agg #[.slice A xs.length c, .int .i64 at_, .bool true], .slice none 0 0]) ?_ rfl ?_
        · simp [results, Try.f18, go_sem]
        · exact HE.out _ (((alloc_below _ _).trans ((alloc_below _ _).mono (by simp))))
      · have hn2 : (xs.length : Int) - at_ < n := by simp [hn] at hbad; omega
        clear hbad
        go_enter Try.func18, Try.ntmps18
        go_wp2
        refine bodyPost_ret (v := .tuple #[.agg #[.slice A xs.length c, .int .i64 at_, .bool true], .slice none 0 0]) ?_ rfl ?_
        · simp [results, Try.f18, go_sem]
        · exact HE.out _ (((alloc_below _ _).trans ((alloc_below _ _).mono (by simp))))
    · clear hbad
      go_enter Try.func18, Try.ntmps18
      go_wp2
      refine bodyPost_ret (v := .tuple #[.agg #[.slice A xs.length c, .int .i64 at_, .bool true], .slice none 0 0]) ?_ rfl ?_
      · simp [results, Try.f18, go_sem]
      · exact HE.out _ (((alloc_below _ _).trans ((alloc_below _ _).mono (by simp))))
  · have HK := Lib.hid (show takeOut (xs.drop at_) f n = (xs.drop at_).take n.toNat by unfold takeOut; rw [if_neg hbad])
    have HK2 := Lib.hid (show takeAt xs at_ f n = at_ + n.toNat by unfold takeAt; rw [if_neg hbad])
    have HK3 := Lib.hid (show takeBad (xs.drop at_) f n = false by simpa using hbad)
    unfold takeBad at hbad
    rw [List.length_drop] at hbad
    obtain rfl : f = false := by cases f <;> simp_all
    have hn0 : 0 ≤ n := by simp at hbad; omega
    have hn1 : n ≤ (xs.length : Int) - at_ := by simp at hbad; omega
    have hn2 : (at_ : Int) + n ≤ (c : Int) := by omega
    clear hbad
    obtain ⟨m, rfl⟩ : ∃ m : Nat, n = (m : Int) := ⟨n.toNat, by omega⟩
    rw [Int.toNat_natCast] at HK HK2
    have HX := Lib.hid (show ((xs.drop at_).take m).length = m by rw [List.length_take, List.length_drop]; omega)
    by_cases hc : c = at_
    · obtain rfl : m = 0 := by omega
      have HD := Lib.hid (show (xs.drop at_).take 0 = [] from List.take_zero)
      go_enter Try.func18, Try.ntmps18
      go_wp2_with (at_builtin; (refine own_append (w.heap.size + 1 + 1) rfl (.tmp 25) (.tmp 34) rfl _ _ [] _ _ _ (Own.empty_at _ (w.heap.size + 1 + 1) (w.heap.size + 1 + 1) (by simp) (by omega)) (Rd.of_cells (by simp) (fun h => absurd h (by simp))) rfl rfl rfl (by simp <;> omega) (by simp) ?_); intro v w2 HO HG _; have HO := Lib.hid HO; have HG := Lib.hid HG; obtain ⟨Ao, co, rfl, hso⟩ := HO.out.sl; have HS := Lib.hid hso; clear hso; obtain ⟨q0, q1, qb⟩ := two_kept rfl HG.out; obtain ⟨d0, d1, d2, d3, d4, d5⟩ := cells3 q0; obtain ⟨e0, e1, e2, e3, e4, e5⟩ := cells3 q1; have HQ := Lib.hid qb; clear q0 q1 qb)
      refine bodyPost_ret (v := .tuple #[.agg #[.slice A xs.length at_, .int .i64 (at_ : Int), .bool false], .slice Ao 0 co]) ?_ rfl ?_
      · clear HK HK2 HK3 HX HG HO HS HQ HR
        simp [results, Try.f18, go_sem, d0, d1, d2, d3, d4, d5, e0, e1, e2, e3, e4, e5]
      · have hb := (((HQ.out.setCell (p := ⟨w.heap.size, 1, none⟩) (Nat.le_refl _) (.int .i64 (at_ : Int))).setCell (p := ⟨w.heap.size + 1, 0, none⟩) (by show w.heap.size ≤ w.heap.size + 1; omega) (.slice A xs.length at_)).setCell (p := ⟨w.heap.size + 1, 1, none⟩) (by show w.heap.size ≤ w.heap.size + 1; omega) (.int .i64 (at_ : Int))).setCell (p := ⟨w.heap.size + 1, 2, none⟩) (by show w.heap.size ≤ w.heap.size + 1; omega) (.bool false)
        subst hc
        have f1 := HS.out
        have f2 := HO.out.base
        refine ⟨Ao, co, ?_, ?_, fun a e => Nat.le_trans (by omega) (f2 _ (by rw [e]; rfl)), hb⟩
        · rw [HK.out, HK2.out, HK3.out]; rfl
        · rw [HK.out]; exact sl_four f1 (fun a e => f2 _ (by rw [e]; rfl)) _ _ _ _
    · go_enter Try.func18, Try.ntmps18
      go_wp2_with (at_builtin; refine own_append (w.heap.size + 1 + 1) rfl (.tmp 25) (.tmp 34) rfl _ _ ((xs.drop at_).take m) _ _ _ (Own.empty_at _ (w.heap.size + 1 + 1) (w.heap.size + 1 + 1) (by simp) (by omega)) (((HR.out.below (((alloc_below _ _).alloc (by simp) _).alloc (by simp <;> omega) _)).drop at_ (by omega)).take m (by rw [List.length_drop]; omega)).rd rfl rfl (by have := HX.out; omega) (by simp <;> omega) (by have := HX.out; simp only [List.length_nil]; omega) ?_; intro v w2 HO HG _; have HO := Lib.hid HO; have HG := Lib.hid HG; obtain ⟨Ao, co, rfl, hso⟩ := HO.out.sl; have HS := Lib.hid hso; clear hso; obtain ⟨q0, q1, qb⟩ := two_kept rfl HG.out; obtain ⟨d0, d1, d2, d3, d4, d5⟩ := cells3 q0; obtain ⟨e0, e1, e2, e3, e4, e5⟩ := cells3 q1; have HQ := Lib.hid qb; clear q0 q1 qb)
      refine bodyPost_ret (v := .tuple #[.agg #[.slice A xs.length c, .int .i64 ((at_ : Int) + m), .bool false], .slice Ao (min m (xs.length - at_)) co]) ?_ rfl ?_
      · clear HK HK2 HK3 HX HG HO HS HQ HR
        simp [results, Try.f18, go_sem, d0, d1, d2, d3, d4, d5, e0, e1, e2, e3, e4, e5]
      · have hb := (((HQ.out.setCell (p := ⟨w.heap.size, 1, none⟩) (Nat.le_refl _) (.int .i64 ((at_ : Int) + m))).setCell (p := ⟨w.heap.size + 1, 0, none⟩) (by show w.heap.size ≤ w.heap.size + 1; omega) (.slice A xs.length c)).setCell (p := ⟨w.heap.size + 1, 1, none⟩) (by show w.heap.size ≤ w.heap.size + 1; omega) (.int .i64 ((at_ : Int) + m))).setCell (p := ⟨w.heap.size + 1, 2, none⟩) (by show w.heap.size ≤ w.heap.size + 1; omega) (.bool false)
        have f1 := HS.out
        have f2 := HO.out.base
        refine ⟨Ao, co, ?_, ?_, fun a e => Nat.le_trans (by omega) (f2 _ (by rw [e]; rfl)), hb⟩
        · rw [HK.out, HK2.out, HK3.out, Int.natCast_add, List.length_take, List.length_drop]
        · rw [HK.out]; exact sl_four f1 (fun a e => f2 _ (by rw [e]; rfl)) _ _ _ _
end Go.Proofs.Ytkpkkmffcbeigaa
