-- Printed by a program of this session (wip/printx.py), which runs the kit's print with texts of its own put in.
import Derived.Test.YthohdcnhnopafaaDoorPLabelPutsx0
import Derived.Test.YthohdcnhnopafaaDoorPLabelPutsx2
import Derived.Test.YthohdcnhnopafaaDoorPLabelPutsx3
namespace Go.Proofs.YthohdcnhnopafaaDoor.PLabelPuts
open Go.RowKit Go.Proofs.YthohdcnhnopafaaDoorW.PrintWords Go.Proofs.YthohdcnhnopafaaDoorW.PrintLast Go.Proofs.YthohdcnhnopafaaDoorW.PrintMore
attribute [local go_sem] max2_int min2_int max_two min_two max_three min_three max_four min_four   -- for this text's walks alone
set_option linter.unusedVariables false
set_option linter.unusedSimpArgs false

/-! ### understudylaw03_LabelPuts: function 7 -/
def understudylaw03_LabelPuts.j0 : Nat → List Int → List (S24) → Bool → Option (Bool)
  | 0, _, _, _ => none
  | k + 1, x0, x1, x15 => if x15 = true then (some true) else ((some (([] : List Int) : List Int)).bind fun y212 => (if y212.length + x0.length < 140737488355328 then ((some (y212 ++ x0 : List Int)).bind fun y215 => ((label_Put.f k y215 x1).bind fun t218 => ((understudyref03_Put.f k x0 x1).bind fun t221 => (if (strOfNums t218).toList = (strOfNums t221).toList then (some ((strOfNums y215).toList == (strOfNums x0).toList)) else (some false))))) else (none)))
def understudylaw03_LabelPuts.f (k : Nat) (l0 : List Int) (l1 : List (S24)) : Option (Bool) := (understudylaw03_labelAlive.f k).bind fun t211 => (if t211 = true then (if (l0.length : Int) > 200 then (understudylaw03_LabelPuts.j0 k l0 l1 true) else (understudylaw03_LabelPuts.j0 k l0 l1 (decide ((l1.length : Int) > 100)))) else (some false))
theorem understudylaw03_LabelPuts.mono_l : ∀ k, (∀ y0 y1 y2, LeO (understudylaw03_LabelPuts.j0 k y0 y1 y2) (understudylaw03_LabelPuts.j0 (k + 1) y0 y1 y2))
  | 0 => fun _ _ _ r h => by simp [understudylaw03_LabelPuts.j0] at h
  | k + 1 => by
    have ih0 := understudylaw03_LabelPuts.mono_l k
    · intro y0 y1 y2
      unfold understudylaw03_LabelPuts.j0
      repeat' first
      | (with_reducible exact ih0 _ _ _)
      | (with_reducible exact label_Put.mono _ _ _)
      | (with_reducible exact understudylaw03_labelAlive.mono _)
      | (with_reducible exact understudyref03_Put.mono _ _ _)
      | (with_reducible exact LeO.refl _)
      | (with_reducible exact LeO.none _)
      | (with_reducible refine LeO.ite ?_ ?_)
      | (with_reducible refine LeO.bind ?_ (fun _ => ?_))
      | exact ih0 _ _ _
      | exact label_Put.mono _ _ _
      | exact understudylaw03_labelAlive.mono _
      | exact understudyref03_Put.mono _ _ _
      | exact LeO.none _
      | refine LeO.ite ?_ ?_
      | refine LeO.bind ?_ (fun _ => ?_)
theorem understudylaw03_LabelPuts.mono : ∀ a0 a1 k, LeO (understudylaw03_LabelPuts.f k a0 a1) (understudylaw03_LabelPuts.f (k + 1) a0 a1) := by
  intro a0 a1 k
  have ih0 := understudylaw03_LabelPuts.mono_l k
  unfold understudylaw03_LabelPuts.f
  repeat' first
      | (with_reducible exact ih0 _ _ _)
      | (with_reducible exact label_Put.mono _ _ _)
      | (with_reducible exact understudylaw03_labelAlive.mono _)
      | (with_reducible exact understudyref03_Put.mono _ _ _)
      | (with_reducible exact LeO.refl _)
      | (with_reducible exact LeO.none _)
      | (with_reducible refine LeO.ite ?_ ?_)
      | (with_reducible refine LeO.bind ?_ (fun _ => ?_))
      | exact ih0 _ _ _
      | exact label_Put.mono _ _ _
      | exact understudylaw03_labelAlive.mono _
      | exact understudyref03_Put.mono _ _ _
      | exact LeO.none _
      | refine LeO.ite ?_ ?_
      | refine LeO.bind ?_ (fun _ => ?_)
def understudylaw03_LabelPuts.T6 : Bool × List (List Nat × List Nat) := (true, [([], []), ([], []), ([0, 1], [0, 1]), ([2], [2]), ([], []), ([], []), ([4, 5, 2], [4, 5]), ([6], [6]), ([3, 7], [3, 7]), ([8, 6], [8]), ([9], [9]), ([10, 9], [9, 10]), ([9], [9]), ([12, 9], [9, 12]), ([11, 13, 9], [9, 11, 13]), ([9, 14], [9, 14]), ([15, 9, 0, 1, 2, 3, 4, 5, 6, 7, 8, 9, 10, 11, 12, 13, 14, 15], [15])])
def understudylaw03_LabelPuts.B6 : List Nat := [0, 0, 3, 7, 0, 0, 55, 119, 255, 511, 1023, 2047, 1023, 5119, 16383, 32767, 65535]
theorem understudylaw03_LabelPuts.tab6 : rtab .any (opsOf Tryd.f7 6) = understudylaw03_LabelPuts.T6 := by kernel_rfl
theorem understudylaw03_LabelPuts.bits6 : waitsOk understudylaw03_LabelPuts.T6.2 understudylaw03_LabelPuts.B6 = true := by kernel_rfl
set_option maxHeartbeats 8000000 in
set_option maxRecDepth 100000 in
theorem understudylaw03_LabelPuts.calls (k : Nat) (A0 : Option Addr) (c0 : Nat) (l0 : List Int) (A1 : Option Addr) (c1 : Nat) (l1 : List (S24)) (r : Bool) (w : World) (hr0 : Kd.C (Kd.int .u8) w A0 l0.length l0) (hc0 : l0.length ≤ c0) (hr1 : Kd.C k24 w A1 l1.length l1) (hc1 : l1.length ≤ c1) (h : understudylaw03_LabelPuts.f k l0 l1 = some r) :
    Calls Tryd.prog 7 #[.slice A0 l0.length c0, .slice A1 l1.length c1] w fun e w' => e = .returned (.bool r) ∧ Below w.heap.size w w' := by
  have HR0 := Aside0.mk hr0
  have HC0 := Aside0.mk hc0
  clear hr0 hc0
  have HR1 := Aside0.mk hr1
  have HC1 := Aside0.mk hc1
  clear hr1 hc1
  have HB := Aside0.mk (Below.refl w.heap.size w)
  have H : ((understudylaw03_labelAlive.f k).bind fun t211 => (if t211 = true then (if (l0.length : Int) > 200 then (understudylaw03_LabelPuts.j0 k l0 l1 true) else (understudylaw03_LabelPuts.j0 k l0 l1 (decide ((l1.length : Int) > 100)))) else (some false))) = some r := h
  clear h
  replace H := Option.bind_eq_some_iff.mp H
  obtain ⟨t211, A30, H⟩ := H
  replace H : (if t211 = true then (if (l0.length : Int) > 200 then (understudylaw03_LabelPuts.j0 k l0 l1 true) else (understudylaw03_LabelPuts.j0 k l0 l1 (decide ((l1.length : Int) > 100)))) else (some false)) = some r := H
  have A3 := Aside0.mk A30
  clear A30
  by_cases c4 : t211 = true
  · subst c4
    have H1 : (if (l0.length : Int) > 200 then (understudylaw03_LabelPuts.j0 k l0 l1 true) else (understudylaw03_LabelPuts.j0 k l0 l1 (decide ((l1.length : Int) > 100)))) = some r := by rw [if_pos rfl] at H; exact H
    clear H
    have H := H1
    clear H1
    have HC5 := Aside0.mk H
    clear H
    go_enter Tryd.func7, Tryd.ntmps7
    go_upto_region 3 with (first | ((with_reducible refine gate_callee (f := 10) rfl ?_); refine goesL_ (some 6) rfl rfl Tryd.func10 (by kernel_rfl) rfl #[] rfl (by (try simp only [List.map_toArray, List.map_cons, List.map_nil]); first | done | rfl | (simp only [List.length_drop, List.length_take]; rfl)) ?_; (with_reducible refine (understudylaw03_labelAlive.calls k  true _ A3.out).mono ?_); rintro e w6 ⟨rfl, hb⟩; refine ⟨_, rfl, ?_⟩; have n0_ := Aside0.mk (below_step (by repeat (first | (with_reducible first | exact HB.out | apply below_alloc | apply pw_below_drewN | apply below_drew1) | exact HB.out)) hb); clear HB; have HB := n0_; clear n0_; (try clear hb); (try clear hb2); (try clear hk); (try clear hi)))
    (try simp only [Act.put, List.setIfInBounds_toArray, List.set_cons_zero, List.set_cons_succ])
    go_cut [15] (fun v15 wc => ∃ (kq : Nat) (x15_4 : Bool), v15 = .bool x15_4 ∧ Aside0 (understudylaw03_LabelPuts.j0 kq l0 l1 x15_4 = some r) ∧ Aside0 (kq ≤ k) ∧ Aside0 (Below w.heap.size w wc))
    case first =>
      have H := HC5.out
      clear HC5
      by_cases c7 : (l0.length : Int) > 200
      · rw [if_pos c7] at H
        have c7b0 : decide (200 < (l0.length : Int)) = true := decide_eq_true c7
        have c7b1 : decide (200 < l0.length) = true := decide_eq_true (by omega)
        clear c7
        (first | rw [c7b0] | (simp only [i64_w, i32_w]; rw [c7b0]) | skip)
        have H' := Aside0.mk H
        clear H
        go_wp2
        go_meet
        case rel => exact ⟨_, (true), (by first | rfl | (simp; done) | (simp [*]; done)), H', ⟨by first | omega | exact Nat.le_refl _⟩, ⟨by repeat (first | (with_reducible first | exact HB.out | apply below_alloc | apply pw_below_drewN | apply below_drew1) | exact HB.out)⟩⟩
      · rw [if_neg c7] at H
        have c7b0 : decide (200 < (l0.length : Int)) = false := decide_eq_false c7
        have c7b1 : decide (200 < l0.length) = false := decide_eq_false (by omega)
        clear c7
        (first | rw [c7b0] | (simp only [i64_w, i32_w]; rw [c7b0]) | skip)
        have H' := Aside0.mk H
        clear H
        go_wp2
        go_meet
        case rel => exact ⟨_, (decide ((l1.length : Int) > 100)), (by first | rfl | (simp; done) | (simp [*]; done)), H', ⟨by first | omega | exact Nat.le_refl _⟩, ⟨by repeat (first | (with_reducible first | exact HB.out | apply below_alloc | apply pw_below_drewN | apply below_drew1) | exact HB.out)⟩⟩
    case rest =>
      clear HC5
      try clear c1
      try clear p2
      try clear c4
      try clear c7
      try clear c7b0
      try clear c7b1
      obtain ⟨kq, x15_4, rfl, HA, HJ4, HB⟩ := hcut
      cases kq with
      | zero => exact absurd HA.out (by simp [understudylaw03_LabelPuts.j0])
      | succ kj4 =>
        have H := HA.out
        clear HA
        simp only [understudylaw03_LabelPuts.j0] at H
        by_cases c8 : x15_4 = true
        · subst c8
          have H1 : (some true) = some r := by rw [if_pos rfl] at H; exact H
          clear H
          have H := H1
          clear H1
          obtain rfl := Option.some.inj H
          go_wp2
          go_ret
          exact ⟨by first | rfl | (simp [errW_none, errW_some] <;> rfl) | (simp [*, errW_none, errW_some] <;> rfl), by repeat (first | (with_reducible first | exact HB.out | apply below_alloc | apply pw_below_drewN | apply below_drew1) | exact HB.out)⟩
        · replace c8 := Bool.eq_false_iff.mpr c8
          subst c8
          have H1 : ((some (([] : List Int) : List Int)).bind fun y212 => (if y212.length + l0.length < 140737488355328 then ((some (y212 ++ l0 : List Int)).bind fun y215 => ((label_Put.f kj4 y215 l1).bind fun t218 => ((understudyref03_Put.f kj4 l0 l1).bind fun t221 => (if (strOfNums t218).toList = (strOfNums t221).toList then (some ((strOfNums y215).toList == (strOfNums l0).toList)) else (some false))))) else (none))) = some r := by rw [if_neg (show ¬ (false = true) by decide)] at H; exact H
          clear H
          have H := H1
          clear H1
          obtain ⟨y212, hy212⟩ : ∃ y_ : List Int, y_ = (([] : List Int)) := ⟨_, rfl⟩
          replace H : (if y212.length + l0.length < 140737488355328 then ((some (y212 ++ l0 : List Int)).bind fun y215 => ((label_Put.f kj4 y215 l1).bind fun t218 => ((understudyref03_Put.f kj4 l0 l1).bind fun t221 => (if (strOfNums t218).toList = (strOfNums t221).toList then (some ((strOfNums y215).toList == (strOfNums l0).toList)) else (some false))))) else (none)) = some r := by first | (rw [hy212]; with_reducible exact H) | (have H2_ := (Option.bind_some _ _).symm.trans H; rw [hy212]; with_reducible exact H2_) | (have H2_ := (Option.bind_some _ _).symm.trans H; with_reducible exact H2_) | with_reducible exact H | (rw [hy212]; exact H) | exact H
          have Ny212 := Aside0.mk hy212
          clear hy212
          by_cases c9 : y212.length + l0.length < 140737488355328
          · rw [if_pos c9] at H
            have LMc9 := Aside0.mk c9
            clear c9
            obtain ⟨y215, hy215⟩ : ∃ y_ : List Int, y_ = (y212 ++ l0) := ⟨_, rfl⟩
            replace H : ((label_Put.f kj4 y215 l1).bind fun t218 => ((understudyref03_Put.f kj4 l0 l1).bind fun t221 => (if (strOfNums t218).toList = (strOfNums t221).toList then (some ((strOfNums y215).toList == (strOfNums l0).toList)) else (some false)))) = some r := by first | (rw [hy215]; with_reducible exact H) | (have H2_ := (Option.bind_some _ _).symm.trans H; rw [hy215]; with_reducible exact H2_) | (have H2_ := (Option.bind_some _ _).symm.trans H; with_reducible exact H2_) | with_reducible exact H | (rw [hy215]; exact H) | exact H
            have Ny215 := Aside0.mk hy215
            clear hy215
            replace H := Option.bind_eq_some_iff.mp H
            obtain ⟨t218, A100, H⟩ := H
            replace H : ((understudyref03_Put.f kj4 l0 l1).bind fun t221 => (if (strOfNums t218).toList = (strOfNums t221).toList then (some ((strOfNums y215).toList == (strOfNums l0).toList)) else (some false))) = some r := H
            have A10 := Aside0.mk A100
            clear A100
            replace H := Option.bind_eq_some_iff.mp H
            obtain ⟨t221, A110, H⟩ := H
            replace H : (if (strOfNums t218).toList = (strOfNums t221).toList then (some ((strOfNums y215).toList == (strOfNums l0).toList)) else (some false)) = some r := H
            have A11 := Aside0.mk A110
            clear A110
            by_cases c12 : (strOfNums t218).toList = (strOfNums t221).toList
            · rw [if_pos c12] at H
              have c12b0 : ((strOfNums t218).toList == (strOfNums t221).toList) = true := beq_iff_eq.mpr c12
              have c12b1 : ((strOfNums t218).toList != (strOfNums t221).toList) = false := bne_eq_false_iff_eq.mpr c12
              clear c12
              obtain rfl := Option.some.inj H
              try go_wp2_with (first | ((with_reducible refine gate_dst (N := 16) rfl ?_); (try (refine gate_guard (by rfl) ?_; dsimp only)); refine Kd.R_lit (Kd.int .u8) _ 5 ?hg (N := 16) ?hd (xs := ([] : List Int)) (inner := []) (ok := fun _ => True) (okp := fun _ => True) ?hr ?hp (fun _ hk => hk) trivial (Below.refl _ _) (Nat.le_refl _) (by simp) ?_; (case hd => rfl); (case hg => rfl); (case hr => first | (go_simp; done) | (go_simp; rfl)); (case hp => exact (Reps.none _ _)); intro v213 w13 ho14 hb hg_ hnew_; clear hg_ hnew_; (first | rw [← Ny212.out] at ho14 | (simp only [Int.reduceToNat] at ho14; rw [← Ny212.out] at ho14)); have n0_ := Aside0.mk (Kd.R_lower ho14 (below_size (by repeat (first | (with_reducible first | exact HB.out | apply below_alloc | apply pw_below_drewN | apply below_drew1) | exact HB.out)))); have n1_ := Aside0.mk (below_step (by repeat (first | (with_reducible first | exact HB.out | apply below_alloc | apply pw_below_drewN | apply below_drew1) | exact HB.out)) hb); clear HB; have HO214 := n0_; have HB := n1_; clear n0_ n1_; clear hb ho14) | ((with_reducible refine gate_builtin (b := .append) (xs := #[.tmp 16, .tmp 17]) rfl ?_); (try (refine gate_guard (by rfl) ?_; dsimp only)); at_builtin; refine Kd.R_append_rows (Kd.int .u8) (w0 := w) w.heap.size rfl (.tmp 16) (.tmp 17) 39 5 (.int .u8 0) 1 rfl Tryd.underlying39 info5 rfl (by decide) (by omega) v213 y212 l0 _ _ _ (fun _ => True) (fun _ => False) rfl rfl ?aO ?aR (fun _ _ h => h) (fun _ h => h.elim) ?aF ?aB ?aS ?aL ?_; (case aR => repeat (first | exact (Kd.C_below HR0.out HB.out) | (with_reducible refine Kd.C_alloc ?_ _) | (with_reducible refine Kd.C_drewN ?_ _) | (with_reducible refine Kd.C_drew ?_))); (case aB => exact (by repeat (first | (with_reducible first | exact HB.out | apply below_alloc | apply pw_below_drewN | apply below_drew1) | exact HB.out))); (case aF => exact (fun _ _ => trivial)); (case aO => exact (by (with_reducible repeat (first | apply Kd.R_alloc | apply Kd.R_drewN | apply Kd.R_drew)); exact HO214.out)); (case aS => exact (below_size (by repeat (first | (with_reducible first | exact HB.out | apply below_alloc | apply pw_below_drewN | apply below_drew1) | exact HB.out)))); (case aL => have := LMc9.out; omega); intro v216 w15 ho hb hg hat; rw [← Ny215.out] at ho; have n0_ := Aside0.mk (hb); have n1_ := Aside0.mk (ho); clear HB; clear HO214; have HB := n0_; have HO217 := n1_; clear n0_ n1_; clear ho hb hg hat; obtain ⟨Ao16, co16, eo16⟩ := Kd.R_slice HO217.out; subst eo16))
              have n0_ := Aside0.mk (Kd.R_drew HO217.out)
              have n1_ := Aside0.mk (below_drew1 HB.out)
              clear HO217
              clear HB
              have HO217 := n0_
              have HB := n1_
              clear n0_ n1_
              refine start_ (n := 17) (S := fun w' => True) (ds := []) #[false, false, false, false, false, false, false, false, false, false, false, false, false, false, false, false, false] (by kernel_rfl) rfl rfl trivial (fun hHeld => ?_); refine with_tabW understudylaw03_LabelPuts.tab6 understudylaw03_LabelPuts.bits6 (fun HT_ HW_ => ?_)
              generalize w15.drew = w17 at HO217 HB hHeld ⊢
              refine pure_ (i := 0) (N := some 19) (v := ?_) (a' := ?_) #[true, false, false, false, false, false, false, false, false, false, false, false, false, false, false, false, false] rfl rfl (any_of HT_.out (by kernel_rfl)) (fun _ _ _ h => h) (Or.inl ⟨by rfl, ?_⟩) ?_ ?_
              rotate_left
              · intro w'
                go_simp
                with_reducible rfl
              rotate_left
              · simp only [Act.put, List.setIfInBounds_toArray, List.set_cons_zero, List.set_cons_succ, i64_w, i32_w]
                rfl
              refine pure_ (i := 1) (N := some 20) (v := ?_) (a' := ?_) #[true, true, false, false, false, false, false, false, false, false, false, false, false, false, false, false, false] rfl rfl (any_of HT_.out (by kernel_rfl)) (fun _ _ _ h => h) (Or.inl ⟨by rfl, ?_⟩) ?_ ?_
              rotate_left
              · intro w'
                go_simp
                with_reducible rfl
              rotate_left
              · simp only [Act.put, List.setIfInBounds_toArray, List.set_cons_zero, List.set_cons_succ, i64_w, i32_w]
                rfl
              refine pure_ (i := 4) (N := some 23) (v := ?_) (a' := ?_) #[true, true, false, false, true, false, false, false, false, false, false, false, false, false, false, false, false] rfl rfl (any_of HT_.out (by kernel_rfl)) (fun _ _ _ h => h) (Or.inl ⟨by rfl, ?_⟩) ?_ ?_
              rotate_left
              · intro w'
                go_simp
                with_reducible rfl
              rotate_left
              · simp only [Act.put, List.setIfInBounds_toArray, List.set_cons_zero, List.set_cons_succ, i64_w, i32_w]
                rfl
              refine pure_ (i := 5) (N := some 24) (v := ?_) (a' := ?_) #[true, true, false, false, true, true, false, false, false, false, false, false, false, false, false, false, false] rfl rfl (any_of HT_.out (by kernel_rfl)) (fun _ _ _ h => h) (Or.inl ⟨by rfl, ?_⟩) ?_ ?_
              rotate_left
              · intro w'
                go_simp
                with_reducible rfl
              rotate_left
              · simp only [Act.put, List.setIfInBounds_toArray, List.set_cons_zero, List.set_cons_succ, i64_w, i32_w]
                rfl
              refine inv_at [2, 3, 6, 7, 8, 9, 10, 11, 12, 13, 14, 15, 16] (fun a0_ b a w' => ∃ (v219 : Value) (v222 : Value), a = putSel a0_ b [(2, 21, v219), (3, 22, .string (strOfNums t218)), (6, 25, v222), (7, 26, .string (strOfNums t221)), (8, 27, .bool ((strOfNums t218).toList == (strOfNums t221).toList)), (9, 28, .bool ((strOfNums t218).toList == (strOfNums t221).toList)), (10, 29, .slice Ao16 y215.length co16), (11, 30, .string (strOfNums y215)), (12, 31, .slice A0 l0.length c0), (13, 32, .string (strOfNums l0)), (14, 33, .bool ((strOfNums y215).toList == (strOfNums l0).toList)), (15, 34, .bool ((strOfNums y215).toList == (strOfNums l0).toList)), (16, 4, .bool ((strOfNums y215).toList == (strOfNums l0).toList))] ∧ (Kd.R (Kd.int .u8) 5 w' w.heap.size (fun _ => True) (.slice Ao16 y215.length co16) y215) ∧ (Below w.heap.size w w') ∧ (b 2 = true → Kd.R (Kd.int .u8) 5 w' w.heap.size (fun k_ => some k_ ≠ (.slice Ao16 y215.length co16 : Value).ownBlock) v219 t218) ∧ (b 6 = true → Kd.R (Kd.int .u8) 5 w' w.heap.size (fun k_ => some k_ ≠ (.slice Ao16 y215.length co16 : Value).ownBlock) v222 t221)) HT_.out HW_.out (by kernel_rfl) (by kernel_rfl) ?_ ?_ ?_
              · exact ⟨.bool false, .bool false, by simp only [putSel, Bool.false_eq_true, if_false], HO217.out, HB.out, fun h_ => absurd h_ (by decide), fun h_ => absurd h_ (by decide)⟩
              · skip
                clear HB HO217
                refine steps_cons ?_ ?_
                · rintro b a w' ⟨v219, v222, ha, Q_HO217, Q_HB, Q_HO220, Q_HO223⟩ hb_ hon hoff
                  refine ⟨_, rfl, fun K hK => ?_⟩
                  have e19 : a.tmps[19]? = some (.slice Ao16 y215.length co16) := by rw [ha]; exact (putSel_off rfl).trans rfl
                  have e20 : a.tmps[20]? = some (.slice A1 l1.length c1) := by rw [ha]; exact (putSel_off rfl).trans rfl
                  replace ha := Aside0.mk ha
                  have HO217 := Aside0.mk Q_HO217
                  have HB := Aside0.mk Q_HB
                  refine goes_ Tryd.func21 (by kernel_rfl) rfl #[.slice Ao16 y215.length co16, .slice A1 l1.length c1] (by rfl) rfl rfl (by first | (simp only [List.map_toArray, List.map_cons, List.map_nil, Act.eval, Array.getD_eq_getD_getElem?, Option.getD_some, e19, e20]; done) | (simp only [List.map_toArray, List.map_cons, List.map_nil, Act.eval, Array.getD_eq_getD_getElem?, Option.getD_some, e19, e20]; rfl)) ?_
                  with_reducible refine (label_Put.calls kj4 _ _ y215 _ _ l1 t218 _ ?side1 ?side2 ?side3 ?side4 A10.out).mono ?_
                  (case side1 => repeat (first | exact (Kd.R_reads' HO217.out).2.2 | (with_reducible refine Kd.C_alloc ?_ _) | (with_reducible refine Kd.C_drewN ?_ _) | (with_reducible refine Kd.C_drew ?_)))
                  (case side2 => exact (Kd.R_reads' HO217.out).2.1)
                  (case side3 => repeat (first | exact (Kd.C_below HR1.out HB.out) | (with_reducible refine Kd.C_alloc ?_ _) | (with_reducible refine Kd.C_drewN ?_ _) | (with_reducible refine Kd.C_drew ?_)))
                  (case side4 => exact HC1.out)
                  rintro e w18 ⟨v219, rfl, ho0, hb⟩
                  refine ⟨_, rfl, ?_⟩
                  have n0_ := Aside0.mk (Kd.R_elder' (by (with_reducible repeat (first | apply Kd.R_alloc | apply Kd.R_drewN | apply Kd.R_drew)); exact HO217.out) (Kd.R_base ho0) hb)
                  have n1_ := Aside0.mk (Kd.R_lower (Kd.R_new' ho0 (Kd.R_lt (by (with_reducible repeat (first | apply Kd.R_alloc | apply Kd.R_drewN | apply Kd.R_drew)); exact HO217.out))) (below_size (by repeat (first | (with_reducible first | exact HB.out | apply below_alloc | apply pw_below_drewN | apply below_drew1) | exact HB.out))))
                  have n2_ := Aside0.mk (below_step (by repeat (first | (with_reducible first | exact HB.out | apply below_alloc | apply pw_below_drewN | apply below_drew1) | exact HB.out)) hb)
                  clear HO217
                  clear HB
                  have HO217 := n0_
                  have HO220 := n1_
                  have HB := n2_
                  clear n0_ n1_ n2_
                  (try clear hb)
                  (try clear hb2)
                  (try clear hk)
                  (try clear hi)
                  (try clear ho0)
                  refine hK.out _ _ ⟨v219, v222, (by rw [ha.out]; exact putSel_upk 0 hb_ rfl rfl rfl), (by first | exact ((by (with_reducible repeat (first | apply Kd.R_alloc | apply Kd.R_drewN | apply Kd.R_drew)); exact Kd.R_mono HO217.out (fun _ hk => hk.2))) | exact (Kd.R_mono HO217.out (fun _ h_ => by first | trivial | exact h_ | exact h_.1 | exact h_.2 | exact h_.1.1 | exact h_.1.2 | exact h_.2.1 | exact h_.2.2 | grind))), (by repeat (first | (with_reducible first | exact HB.out | apply below_alloc | apply pw_below_drewN | apply below_drew1) | exact HB.out)), (by first | exact (fun _ => (by (with_reducible repeat (first | apply Kd.R_alloc | apply Kd.R_drewN | apply Kd.R_drew)); exact Kd.R_mono HO220.out (fun _ hk => hk.2))) | exact (fun _ => Kd.R_mono HO220.out (fun _ h_ => by first | trivial | exact h_ | exact h_.1 | exact h_.2 | exact h_.1.1 | exact h_.1.2 | exact h_.2.1 | exact h_.2.2 | grind))), fun h0_ => absurd ((hoff 6 (by kernel_rfl)).symm.trans h0_) (by decide)⟩
                refine steps_cons ?_ ?_
                · rintro b a w' ⟨v219, v222, ha, Q_HO217, Q_HB, Q_HO220, Q_HO223⟩ hb_ hon hoff
                  refine ⟨_, rfl, fun K hK => ?_⟩
                  have e21 : a.tmps[21]? = some (v219) := by rw [ha]; exact putSel_on (e := (2, 21, v219)) 0 rfl rfl (hon 2 (by kernel_rfl)) rfl
                  replace ha := Aside0.mk ha
                  have HO217 := Aside0.mk Q_HO217
                  have HB := Aside0.mk Q_HB
                  have HO220 := Aside0.mk (Q_HO220 (hon 2 (by kernel_rfl)))
                  have hcv_ := own_string (P := Tryd.prog) Tryd.underlying39 Tryd.underlying5 Tryd.underlying9 (Kd.own_of_R HO220.out)
                  obtain ⟨Ao3_0, co3_0, eo_⟩ := Kd.R_slice HO220.out
                  subst eo_
                  refine value_ (w1 := w') (v := .string (strOfNums t218)) (by rfl) rfl ?_ ?_
                  · go_simp
                    (try simp only [i64_w])
                    try rfl
                  refine hK.out _ _ ⟨.slice Ao3_0 t218.length co3_0, v222, (by rw [ha.out]; exact putSel_upk 1 hb_ rfl rfl rfl), (by first | exact (Q_HO217) | exact (Kd.R_mono HO217.out (fun _ h_ => by first | trivial | exact h_ | exact h_.1 | exact h_.2 | exact h_.1.1 | exact h_.1.2 | exact h_.2.1 | exact h_.2.2 | grind))), Q_HB, (by first | exact (Q_HO220) | exact (fun _ => Kd.R_mono HO220.out (fun _ h_ => by first | trivial | exact h_ | exact h_.1 | exact h_.2 | exact h_.1.1 | exact h_.1.2 | exact h_.2.1 | exact h_.2.2 | grind))), (by first | exact (Q_HO223) | exact (fun _ => Kd.R_mono HO223.out (fun _ h_ => by first | trivial | exact h_ | exact h_.1 | exact h_.2 | exact h_.1.1 | exact h_.1.2 | exact h_.2.1 | exact h_.2.2 | grind)))⟩
                refine steps_cons ?_ ?_
                · rintro b a w' ⟨v219, v222, ha, Q_HO217, Q_HB, Q_HO220, Q_HO223⟩ hb_ hon hoff
                  refine ⟨_, rfl, fun K hK => ?_⟩
                  have e23 : a.tmps[23]? = some (.slice A0 l0.length c0) := by rw [ha]; exact (putSel_off rfl).trans rfl
                  have e24 : a.tmps[24]? = some (.slice A1 l1.length c1) := by rw [ha]; exact (putSel_off rfl).trans rfl
                  replace ha := Aside0.mk ha
                  have HO217 := Aside0.mk Q_HO217
                  have HB := Aside0.mk Q_HB
                  have HO220 := Aside0.mk (Q_HO220 (hon 2 (by kernel_rfl)))
                  refine goes_ Tryd.func22 (by kernel_rfl) rfl #[.slice A0 l0.length c0, .slice A1 l1.length c1] (by rfl) rfl rfl (by first | (simp only [List.map_toArray, List.map_cons, List.map_nil, Act.eval, Array.getD_eq_getD_getElem?, Option.getD_some, e23, e24]; done) | (simp only [List.map_toArray, List.map_cons, List.map_nil, Act.eval, Array.getD_eq_getD_getElem?, Option.getD_some, e23, e24]; rfl)) ?_
                  with_reducible refine (understudyref03_Put.calls kj4 _ _ l0 _ _ l1 t221 _ ?side1 ?side2 ?side3 ?side4 A11.out).mono ?_
                  (case side1 => repeat (first | exact (Kd.C_below HR0.out HB.out) | (with_reducible refine Kd.C_alloc ?_ _) | (with_reducible refine Kd.C_drewN ?_ _) | (with_reducible refine Kd.C_drew ?_)))
                  (case side2 => exact HC0.out)
                  (case side3 => repeat (first | exact (Kd.C_below HR1.out HB.out) | (with_reducible refine Kd.C_alloc ?_ _) | (with_reducible refine Kd.C_drewN ?_ _) | (with_reducible refine Kd.C_drew ?_)))
                  (case side4 => exact HC1.out)
                  rintro e w20 ⟨v222, rfl, ho0, hb⟩
                  refine ⟨_, rfl, ?_⟩
                  have n0_ := Aside0.mk (Kd.R_elder' (by (with_reducible repeat (first | apply Kd.R_alloc | apply Kd.R_drewN | apply Kd.R_drew)); exact HO217.out) (Kd.R_base ho0) hb)
                  have n1_ := Aside0.mk (Kd.R_elder' (by (with_reducible repeat (first | apply Kd.R_alloc | apply Kd.R_drewN | apply Kd.R_drew)); exact HO220.out) (Kd.R_base ho0) hb)
                  have n2_ := Aside0.mk (Kd.R_lower (Kd.R_new' (Kd.R_new' ho0 (Kd.R_lt (by (with_reducible repeat (first | apply Kd.R_alloc | apply Kd.R_drewN | apply Kd.R_drew)); exact HO217.out))) (Kd.R_lt (by (with_reducible repeat (first | apply Kd.R_alloc | apply Kd.R_drewN | apply Kd.R_drew)); exact HO220.out))) (below_size (by repeat (first | (with_reducible first | exact HB.out | apply below_alloc | apply pw_below_drewN | apply below_drew1) | exact HB.out))))
                  have n3_ := Aside0.mk (below_step (by repeat (first | (with_reducible first | exact HB.out | apply below_alloc | apply pw_below_drewN | apply below_drew1) | exact HB.out)) hb)
                  clear HO217
                  clear HO220
                  clear HB
                  have HO217 := n0_
                  have HO220 := n1_
                  have HO223 := n2_
                  have HB := n3_
                  clear n0_ n1_ n2_ n3_
                  (try clear hb)
                  (try clear hb2)
                  (try clear hk)
                  (try clear hi)
                  (try clear ho0)
                  refine hK.out _ _ ⟨v219, v222, (by rw [ha.out]; exact putSel_upk 2 hb_ rfl rfl rfl), (by first | exact ((by (with_reducible repeat (first | apply Kd.R_alloc | apply Kd.R_drewN | apply Kd.R_drew)); exact HO217.out)) | exact (Kd.R_mono HO217.out (fun _ h_ => by first | trivial | exact h_ | exact h_.1 | exact h_.2 | exact h_.1.1 | exact h_.1.2 | exact h_.2.1 | exact h_.2.2 | grind))), (by repeat (first | (with_reducible first | exact HB.out | apply below_alloc | apply pw_below_drewN | apply below_drew1) | exact HB.out)), (by first | exact (fun _ => (by (with_reducible repeat (first | apply Kd.R_alloc | apply Kd.R_drewN | apply Kd.R_drew)); exact HO220.out)) | exact (fun _ => Kd.R_mono HO220.out (fun _ h_ => by first | trivial | exact h_ | exact h_.1 | exact h_.2 | exact h_.1.1 | exact h_.1.2 | exact h_.2.1 | exact h_.2.2 | grind))), (by first | exact (fun _ => (by (with_reducible repeat (first | apply Kd.R_alloc | apply Kd.R_drewN | apply Kd.R_drew)); exact Kd.R_mono HO223.out (fun _ hk => ⟨hk.1.2, hk.2⟩))) | exact (fun _ => Kd.R_mono HO223.out (fun _ h_ => by first | trivial | exact h_ | exact h_.1 | exact h_.2 | exact h_.1.1 | exact h_.1.2 | exact h_.2.1 | exact h_.2.2 | grind)))⟩
                refine steps_cons ?_ ?_
                · rintro b a w' ⟨v219, v222, ha, Q_HO217, Q_HB, Q_HO220, Q_HO223⟩ hb_ hon hoff
                  refine ⟨_, rfl, fun K hK => ?_⟩
                  have e25 : a.tmps[25]? = some (v222) := by rw [ha]; exact putSel_on (e := (6, 25, v222)) 2 rfl rfl (hon 6 (by kernel_rfl)) rfl
                  replace ha := Aside0.mk ha
                  have HO217 := Aside0.mk Q_HO217
                  have HB := Aside0.mk Q_HB
                  have HO220 := Aside0.mk (Q_HO220 (hon 2 (by kernel_rfl)))
                  have HO223 := Aside0.mk (Q_HO223 (hon 6 (by kernel_rfl)))
                  have hcv_ := own_string (P := Tryd.prog) Tryd.underlying39 Tryd.underlying5 Tryd.underlying9 (Kd.own_of_R HO223.out)
                  obtain ⟨Ao7_0, co7_0, eo_⟩ := Kd.R_slice HO223.out
                  subst eo_
                  refine value_ (w1 := w') (v := .string (strOfNums t221)) (by rfl) rfl ?_ ?_
                  · go_simp
                    (try simp only [i64_w])
                    try rfl
                  refine hK.out _ _ ⟨v219, .slice Ao7_0 t221.length co7_0, (by rw [ha.out]; exact putSel_upk 3 hb_ rfl rfl rfl), (by first | exact (Q_HO217) | exact (Kd.R_mono HO217.out (fun _ h_ => by first | trivial | exact h_ | exact h_.1 | exact h_.2 | exact h_.1.1 | exact h_.1.2 | exact h_.2.1 | exact h_.2.2 | grind))), Q_HB, (by first | exact (Q_HO220) | exact (fun _ => Kd.R_mono HO220.out (fun _ h_ => by first | trivial | exact h_ | exact h_.1 | exact h_.2 | exact h_.1.1 | exact h_.1.2 | exact h_.2.1 | exact h_.2.2 | grind))), (by first | exact (Q_HO223) | exact (fun _ => Kd.R_mono HO223.out (fun _ h_ => by first | trivial | exact h_ | exact h_.1 | exact h_.2 | exact h_.1.1 | exact h_.1.2 | exact h_.2.1 | exact h_.2.2 | grind)))⟩
                refine steps_cons ?_ ?_
                · rintro b a w' ⟨v219, v222, ha, Q_HO217, Q_HB, Q_HO220, Q_HO223⟩ hb_ hon hoff
                  refine ⟨_, rfl, fun K hK => ?_⟩
                  have e22 : a.tmps[22]? = some (.string (strOfNums t218)) := by rw [ha]; exact putSel_on (e := (3, 22, .string (strOfNums t218))) 1 rfl rfl (hon 3 (by kernel_rfl)) rfl
                  have e26 : a.tmps[26]? = some (.string (strOfNums t221)) := by rw [ha]; exact putSel_on (e := (7, 26, .string (strOfNums t221))) 3 rfl rfl (hon 7 (by kernel_rfl)) rfl
                  replace ha := Aside0.mk ha
                  have HO217 := Aside0.mk Q_HO217
                  have HB := Aside0.mk Q_HB
                  have HO220 := Aside0.mk (Q_HO220 (hon 2 (by kernel_rfl)))
                  have HO223 := Aside0.mk (Q_HO223 (hon 6 (by kernel_rfl)))
                  refine value_ (w1 := w') (v := .bool ((strOfNums t218).toList == (strOfNums t221).toList)) (by rfl) rfl ?_ ?_
                  · go_simp
                    (try simp only [i64_w])
                    try rfl
                  refine hK.out _ _ ⟨v219, v222, (by rw [ha.out]; exact putSel_upk 4 hb_ rfl rfl rfl), (by first | exact (Q_HO217) | exact (Kd.R_mono HO217.out (fun _ h_ => by first | trivial | exact h_ | exact h_.1 | exact h_.2 | exact h_.1.1 | exact h_.1.2 | exact h_.2.1 | exact h_.2.2 | grind))), Q_HB, (by first | exact (Q_HO220) | exact (fun _ => Kd.R_mono HO220.out (fun _ h_ => by first | trivial | exact h_ | exact h_.1 | exact h_.2 | exact h_.1.1 | exact h_.1.2 | exact h_.2.1 | exact h_.2.2 | grind))), (by first | exact (Q_HO223) | exact (fun _ => Kd.R_mono HO223.out (fun _ h_ => by first | trivial | exact h_ | exact h_.1 | exact h_.2 | exact h_.1.1 | exact h_.1.2 | exact h_.2.1 | exact h_.2.2 | grind)))⟩
                refine steps_cons ?_ ?_
                · rintro b a w' ⟨v219, v222, ha, Q_HO217, Q_HB, Q_HO220, Q_HO223⟩ hb_ hon hoff
                  refine ⟨_, rfl, fun K hK => ?_⟩
                  have e27 : a.tmps[27]? = some (.bool ((strOfNums t218).toList == (strOfNums t221).toList)) := by rw [ha]; exact putSel_on (e := (8, 27, .bool ((strOfNums t218).toList == (strOfNums t221).toList))) 4 rfl rfl (hon 8 (by kernel_rfl)) rfl
                  replace ha := Aside0.mk ha
                  have HO217 := Aside0.mk Q_HO217
                  have HB := Aside0.mk Q_HB
                  have HO220 := Aside0.mk (Q_HO220 (hon 2 (by kernel_rfl)))
                  have HO223 := Aside0.mk (Q_HO223 (hon 6 (by kernel_rfl)))
                  refine value_ (w1 := w') (v := .bool ((strOfNums t218).toList == (strOfNums t221).toList)) (by rfl) rfl ?_ ?_
                  · go_simp
                    (try simp only [i64_w])
                    try rfl
                  refine hK.out _ _ ⟨v219, v222, (by rw [ha.out]; exact putSel_upk 5 hb_ rfl rfl rfl), (by first | exact (Q_HO217) | exact (Kd.R_mono HO217.out (fun _ h_ => by first | trivial | exact h_ | exact h_.1 | exact h_.2 | exact h_.1.1 | exact h_.1.2 | exact h_.2.1 | exact h_.2.2 | grind))), Q_HB, (by first | exact (Q_HO220) | exact (fun _ => Kd.R_mono HO220.out (fun _ h_ => by first | trivial | exact h_ | exact h_.1 | exact h_.2 | exact h_.1.1 | exact h_.1.2 | exact h_.2.1 | exact h_.2.2 | grind))), (by first | exact (Q_HO223) | exact (fun _ => Kd.R_mono HO223.out (fun _ h_ => by first | trivial | exact h_ | exact h_.1 | exact h_.2 | exact h_.1.1 | exact h_.1.2 | exact h_.2.1 | exact h_.2.2 | grind)))⟩
                refine steps_cons ?_ ?_
                · rintro b a w' ⟨v219, v222, ha, Q_HO217, Q_HB, Q_HO220, Q_HO223⟩ hb_ hon hoff
                  refine ⟨_, rfl, fun K hK => ?_⟩
                  have e5 : a.tmps[5]? = some (.slice Ao16 y215.length co16) := by rw [ha]; exact (putSel_off rfl).trans rfl
                  have e28 : a.tmps[28]? = some (.bool ((strOfNums t218).toList == (strOfNums t221).toList)) := by rw [ha]; exact putSel_on (e := (9, 28, .bool ((strOfNums t218).toList == (strOfNums t221).toList))) 5 rfl rfl (hon 9 (by kernel_rfl)) rfl
                  replace ha := Aside0.mk ha
                  have HO217 := Aside0.mk Q_HO217
                  have HB := Aside0.mk Q_HB
                  have HO220 := Aside0.mk (Q_HO220 (hon 2 (by kernel_rfl)))
                  have HO223 := Aside0.mk (Q_HO223 (hon 6 (by kernel_rfl)))
                  refine value_ (w1 := w') (v := .slice Ao16 y215.length co16) (wanted_on rfl rfl rfl (e28.trans (by first | rfl | (simp [*]; done)))) rfl ?_ ?_
                  · go_simp
                    (try simp only [i64_w])
                    try rfl
                  refine hK.out _ _ ⟨v219, v222, (by rw [ha.out]; exact putSel_upk 6 hb_ rfl rfl rfl), (by first | exact (Q_HO217) | exact (Kd.R_mono HO217.out (fun _ h_ => by first | trivial | exact h_ | exact h_.1 | exact h_.2 | exact h_.1.1 | exact h_.1.2 | exact h_.2.1 | exact h_.2.2 | grind))), Q_HB, (by first | exact (Q_HO220) | exact (fun _ => Kd.R_mono HO220.out (fun _ h_ => by first | trivial | exact h_ | exact h_.1 | exact h_.2 | exact h_.1.1 | exact h_.1.2 | exact h_.2.1 | exact h_.2.2 | grind))), (by first | exact (Q_HO223) | exact (fun _ => Kd.R_mono HO223.out (fun _ h_ => by first | trivial | exact h_ | exact h_.1 | exact h_.2 | exact h_.1.1 | exact h_.1.2 | exact h_.2.1 | exact h_.2.2 | grind)))⟩
                refine steps_cons ?_ ?_
                · rintro b a w' ⟨v219, v222, ha, Q_HO217, Q_HB, Q_HO220, Q_HO223⟩ hb_ hon hoff
                  refine ⟨_, rfl, fun K hK => ?_⟩
                  have e29 : a.tmps[29]? = some (.slice Ao16 y215.length co16) := by rw [ha]; exact putSel_on (e := (10, 29, .slice Ao16 y215.length co16)) 6 rfl rfl (hon 10 (by kernel_rfl)) rfl
                  have e28 : a.tmps[28]? = some (.bool ((strOfNums t218).toList == (strOfNums t221).toList)) := by rw [ha]; exact putSel_on (e := (9, 28, .bool ((strOfNums t218).toList == (strOfNums t221).toList))) 5 rfl rfl (hon 9 (by kernel_rfl)) rfl
                  replace ha := Aside0.mk ha
                  have HO217 := Aside0.mk Q_HO217
                  have HB := Aside0.mk Q_HB
                  have HO220 := Aside0.mk (Q_HO220 (hon 2 (by kernel_rfl)))
                  have HO223 := Aside0.mk (Q_HO223 (hon 6 (by kernel_rfl)))
                  have hcv_ := own_string (P := Tryd.prog) Tryd.underlying39 Tryd.underlying5 Tryd.underlying9 (Kd.own_of_R HO217.out)
                  refine value_ (w1 := w') (v := .string (strOfNums y215)) (wanted_on rfl rfl rfl (e28.trans (by first | rfl | (simp [*]; done)))) rfl ?_ ?_
                  · go_simp
                    (try simp only [i64_w])
                    try rfl
                  refine hK.out _ _ ⟨v219, v222, (by rw [ha.out]; exact putSel_upk 7 hb_ rfl rfl rfl), (by first | exact (Q_HO217) | exact (Kd.R_mono HO217.out (fun _ h_ => by first | trivial | exact h_ | exact h_.1 | exact h_.2 | exact h_.1.1 | exact h_.1.2 | exact h_.2.1 | exact h_.2.2 | grind))), Q_HB, (by first | exact (Q_HO220) | exact (fun _ => Kd.R_mono HO220.out (fun _ h_ => by first | trivial | exact h_ | exact h_.1 | exact h_.2 | exact h_.1.1 | exact h_.1.2 | exact h_.2.1 | exact h_.2.2 | grind))), (by first | exact (Q_HO223) | exact (fun _ => Kd.R_mono HO223.out (fun _ h_ => by first | trivial | exact h_ | exact h_.1 | exact h_.2 | exact h_.1.1 | exact h_.1.2 | exact h_.2.1 | exact h_.2.2 | grind)))⟩
                refine steps_cons ?_ ?_
                · rintro b a w' ⟨v219, v222, ha, Q_HO217, Q_HB, Q_HO220, Q_HO223⟩ hb_ hon hoff
                  refine ⟨_, rfl, fun K hK => ?_⟩
                  have e0 : a.tmps[0]? = some (.slice A0 l0.length c0) := by rw [ha]; exact (putSel_off rfl).trans rfl
                  have e28 : a.tmps[28]? = some (.bool ((strOfNums t218).toList == (strOfNums t221).toList)) := by rw [ha]; exact putSel_on (e := (9, 28, .bool ((strOfNums t218).toList == (strOfNums t221).toList))) 5 rfl rfl (hon 9 (by kernel_rfl)) rfl
                  replace ha := Aside0.mk ha
                  have HO217 := Aside0.mk Q_HO217
                  have HB := Aside0.mk Q_HB
                  have HO220 := Aside0.mk (Q_HO220 (hon 2 (by kernel_rfl)))
                  have HO223 := Aside0.mk (Q_HO223 (hon 6 (by kernel_rfl)))
                  refine value_ (w1 := w') (v := .slice A0 l0.length c0) (wanted_on rfl rfl rfl (e28.trans (by first | rfl | (simp [*]; done)))) rfl ?_ ?_
                  · go_simp
                    (try simp only [i64_w])
                    try rfl
                  refine hK.out _ _ ⟨v219, v222, (by rw [ha.out]; exact putSel_upk 8 hb_ rfl rfl rfl), (by first | exact (Q_HO217) | exact (Kd.R_mono HO217.out (fun _ h_ => by first | trivial | exact h_ | exact h_.1 | exact h_.2 | exact h_.1.1 | exact h_.1.2 | exact h_.2.1 | exact h_.2.2 | grind))), Q_HB, (by first | exact (Q_HO220) | exact (fun _ => Kd.R_mono HO220.out (fun _ h_ => by first | trivial | exact h_ | exact h_.1 | exact h_.2 | exact h_.1.1 | exact h_.1.2 | exact h_.2.1 | exact h_.2.2 | grind))), (by first | exact (Q_HO223) | exact (fun _ => Kd.R_mono HO223.out (fun _ h_ => by first | trivial | exact h_ | exact h_.1 | exact h_.2 | exact h_.1.1 | exact h_.1.2 | exact h_.2.1 | exact h_.2.2 | grind)))⟩
                refine steps_cons ?_ ?_
                · rintro b a w' ⟨v219, v222, ha, Q_HO217, Q_HB, Q_HO220, Q_HO223⟩ hb_ hon hoff
                  refine ⟨_, rfl, fun K hK => ?_⟩
                  have e31 : a.tmps[31]? = some (.slice A0 l0.length c0) := by rw [ha]; exact putSel_on (e := (12, 31, .slice A0 l0.length c0)) 8 rfl rfl (hon 12 (by kernel_rfl)) rfl
                  have e28 : a.tmps[28]? = some (.bool ((strOfNums t218).toList == (strOfNums t221).toList)) := by rw [ha]; exact putSel_on (e := (9, 28, .bool ((strOfNums t218).toList == (strOfNums t221).toList))) 5 rfl rfl (hon 9 (by kernel_rfl)) rfl
                  replace ha := Aside0.mk ha
                  have HO217 := Aside0.mk Q_HO217
                  have HB := Aside0.mk Q_HB
                  have HO220 := Aside0.mk (Q_HO220 (hon 2 (by kernel_rfl)))
                  have HO223 := Aside0.mk (Q_HO223 (hon 6 (by kernel_rfl)))
                  have hcv_ := Kd.C_string (P := Tryd.prog) (A := A0) (c := c0) Tryd.underlying39 Tryd.underlying5 Tryd.underlying9 (Kd.C_below HR0.out HB.out)
                  refine value_ (w1 := w') (v := .string (strOfNums l0)) (wanted_on rfl rfl rfl (e28.trans (by first | rfl | (simp [*]; done)))) rfl ?_ ?_
                  · go_simp
                    (try simp only [i64_w])
                    try rfl
                  refine hK.out _ _ ⟨v219, v222, (by rw [ha.out]; exact putSel_upk 9 hb_ rfl rfl rfl), (by first | exact (Q_HO217) | exact (Kd.R_mono HO217.out (fun _ h_ => by first | trivial | exact h_ | exact h_.1 | exact h_.2 | exact h_.1.1 | exact h_.1.2 | exact h_.2.1 | exact h_.2.2 | grind))), Q_HB, (by first | exact (Q_HO220) | exact (fun _ => Kd.R_mono HO220.out (fun _ h_ => by first | trivial | exact h_ | exact h_.1 | exact h_.2 | exact h_.1.1 | exact h_.1.2 | exact h_.2.1 | exact h_.2.2 | grind))), (by first | exact (Q_HO223) | exact (fun _ => Kd.R_mono HO223.out (fun _ h_ => by first | trivial | exact h_ | exact h_.1 | exact h_.2 | exact h_.1.1 | exact h_.1.2 | exact h_.2.1 | exact h_.2.2 | grind)))⟩
                refine steps_cons ?_ ?_
                · rintro b a w' ⟨v219, v222, ha, Q_HO217, Q_HB, Q_HO220, Q_HO223⟩ hb_ hon hoff
                  refine ⟨_, rfl, fun K hK => ?_⟩
                  have e30 : a.tmps[30]? = some (.string (strOfNums y215)) := by rw [ha]; exact putSel_on (e := (11, 30, .string (strOfNums y215))) 7 rfl rfl (hon 11 (by kernel_rfl)) rfl
                  have e32 : a.tmps[32]? = some (.string (strOfNums l0)) := by rw [ha]; exact putSel_on (e := (13, 32, .string (strOfNums l0))) 9 rfl rfl (hon 13 (by kernel_rfl)) rfl
                  have e28 : a.tmps[28]? = some (.bool ((strOfNums t218).toList == (strOfNums t221).toList)) := by rw [ha]; exact putSel_on (e := (9, 28, .bool ((strOfNums t218).toList == (strOfNums t221).toList))) 5 rfl rfl (hon 9 (by kernel_rfl)) rfl
                  replace ha := Aside0.mk ha
                  have HO217 := Aside0.mk Q_HO217
                  have HB := Aside0.mk Q_HB
                  have HO220 := Aside0.mk (Q_HO220 (hon 2 (by kernel_rfl)))
                  have HO223 := Aside0.mk (Q_HO223 (hon 6 (by kernel_rfl)))
                  refine value_ (w1 := w') (v := .bool ((strOfNums y215).toList == (strOfNums l0).toList)) (wanted_on rfl rfl rfl (e28.trans (by first | rfl | (simp [*]; done)))) rfl ?_ ?_
                  · go_simp
                    (try simp only [i64_w])
                    try rfl
                  refine hK.out _ _ ⟨v219, v222, (by rw [ha.out]; exact putSel_upk 10 hb_ rfl rfl rfl), (by first | exact (Q_HO217) | exact (Kd.R_mono HO217.out (fun _ h_ => by first | trivial | exact h_ | exact h_.1 | exact h_.2 | exact h_.1.1 | exact h_.1.2 | exact h_.2.1 | exact h_.2.2 | grind))), Q_HB, (by first | exact (Q_HO220) | exact (fun _ => Kd.R_mono HO220.out (fun _ h_ => by first | trivial | exact h_ | exact h_.1 | exact h_.2 | exact h_.1.1 | exact h_.1.2 | exact h_.2.1 | exact h_.2.2 | grind))), (by first | exact (Q_HO223) | exact (fun _ => Kd.R_mono HO223.out (fun _ h_ => by first | trivial | exact h_ | exact h_.1 | exact h_.2 | exact h_.1.1 | exact h_.1.2 | exact h_.2.1 | exact h_.2.2 | grind)))⟩
                refine steps_cons ?_ ?_
                · rintro b a w' ⟨v219, v222, ha, Q_HO217, Q_HB, Q_HO220, Q_HO223⟩ hb_ hon hoff
                  refine ⟨_, rfl, fun K hK => ?_⟩
                  have e28 : a.tmps[28]? = some (.bool ((strOfNums t218).toList == (strOfNums t221).toList)) := by rw [ha]; exact putSel_on (e := (9, 28, .bool ((strOfNums t218).toList == (strOfNums t221).toList))) 5 rfl rfl (hon 9 (by kernel_rfl)) rfl
                  have e33 : a.tmps[33]? = some (.bool ((strOfNums y215).toList == (strOfNums l0).toList)) := by rw [ha]; exact putSel_on (e := (14, 33, .bool ((strOfNums y215).toList == (strOfNums l0).toList))) 10 rfl rfl (hon 14 (by kernel_rfl)) rfl
                  replace ha := Aside0.mk ha
                  have HO217 := Aside0.mk Q_HO217
                  have HB := Aside0.mk Q_HB
                  have HO220 := Aside0.mk (Q_HO220 (hon 2 (by kernel_rfl)))
                  have HO223 := Aside0.mk (Q_HO223 (hon 6 (by kernel_rfl)))
                  refine value_ (w1 := w') (v := .bool ((strOfNums y215).toList == (strOfNums l0).toList)) (by rfl) rfl ?_ ?_
                  · go_simp
                    (try simp only [i64_w])
                    try rfl
                  refine hK.out _ _ ⟨v219, v222, (by rw [ha.out]; exact putSel_upk 11 hb_ rfl rfl rfl), (by first | exact (Q_HO217) | exact (Kd.R_mono HO217.out (fun _ h_ => by first | trivial | exact h_ | exact h_.1 | exact h_.2 | exact h_.1.1 | exact h_.1.2 | exact h_.2.1 | exact h_.2.2 | grind))), Q_HB, (by first | exact (Q_HO220) | exact (fun _ => Kd.R_mono HO220.out (fun _ h_ => by first | trivial | exact h_ | exact h_.1 | exact h_.2 | exact h_.1.1 | exact h_.1.2 | exact h_.2.1 | exact h_.2.2 | grind))), (by first | exact (Q_HO223) | exact (fun _ => Kd.R_mono HO223.out (fun _ h_ => by first | trivial | exact h_ | exact h_.1 | exact h_.2 | exact h_.1.1 | exact h_.1.2 | exact h_.2.1 | exact h_.2.2 | grind)))⟩
                refine steps_cons ?_ ?_
                · rintro b a w' ⟨v219, v222, ha, Q_HO217, Q_HB, Q_HO220, Q_HO223⟩ hb_ hon hoff
                  refine ⟨_, rfl, fun K hK => ?_⟩
                  have e34 : a.tmps[34]? = some (.bool ((strOfNums y215).toList == (strOfNums l0).toList)) := by rw [ha]; exact putSel_on (e := (15, 34, .bool ((strOfNums y215).toList == (strOfNums l0).toList))) 11 rfl rfl (hon 15 (by kernel_rfl)) rfl
                  replace ha := Aside0.mk ha
                  have HO217 := Aside0.mk Q_HO217
                  have HB := Aside0.mk Q_HB
                  have HO220 := Aside0.mk (Q_HO220 (hon 2 (by kernel_rfl)))
                  have HO223 := Aside0.mk (Q_HO223 (hon 6 (by kernel_rfl)))
                  refine value_ (w1 := w') (v := .bool ((strOfNums y215).toList == (strOfNums l0).toList)) (by rfl) rfl ?_ ?_
                  · go_simp
                    (try simp only [i64_w])
                    try rfl
                  refine hK.out _ _ ⟨v219, v222, (by rw [ha.out]; exact putSel_upk 12 hb_ rfl rfl rfl), (by first | exact (Q_HO217) | exact (Kd.R_mono HO217.out (fun _ h_ => by first | trivial | exact h_ | exact h_.1 | exact h_.2 | exact h_.1.1 | exact h_.1.2 | exact h_.2.1 | exact h_.2.2 | grind))), Q_HB, (by first | exact (Q_HO220) | exact (fun _ => Kd.R_mono HO220.out (fun _ h_ => by first | trivial | exact h_ | exact h_.1 | exact h_.2 | exact h_.1.1 | exact h_.1.2 | exact h_.2.1 | exact h_.2.2 | grind))), (by first | exact (Q_HO223) | exact (fun _ => Kd.R_mono HO223.out (fun _ h_ => by first | trivial | exact h_ | exact h_.1 | exact h_.2 | exact h_.1.1 | exact h_.1.2 | exact h_.2.1 | exact h_.2.2 | grind)))⟩
                exact steps_nil
              rintro b a w20 hall ⟨v219, v222, ha, Q_HO217, Q_HB, Q_HO220, Q_HO223⟩
              clear HB HO217
              have hb2_ := hall 2 (by kernel_rfl)
              have hb3_ := hall 3 (by kernel_rfl)
              have hb6_ := hall 6 (by kernel_rfl)
              have hb7_ := hall 7 (by kernel_rfl)
              have hb8_ := hall 8 (by kernel_rfl)
              have hb9_ := hall 9 (by kernel_rfl)
              have hb10_ := hall 10 (by kernel_rfl)
              have hb11_ := hall 11 (by kernel_rfl)
              have hb12_ := hall 12 (by kernel_rfl)
              have hb13_ := hall 13 (by kernel_rfl)
              have hb14_ := hall 14 (by kernel_rfl)
              have hb15_ := hall 15 (by kernel_rfl)
              have hb16_ := hall 16 (by kernel_rfl)
              subst ha
              simp only [putSel, hb2_, hb3_, hb6_, hb7_, hb8_, hb9_, hb10_, hb11_, hb12_, hb13_, hb14_, hb15_, hb16_, if_true, Act.put, List.setIfInBounds_toArray, List.set_cons_zero, List.set_cons_succ]
              have HO217 := Aside0.mk Q_HO217
              clear Q_HO217
              have HB := Aside0.mk Q_HB
              clear Q_HB
              have HO220 := Aside0.mk (Q_HO220 hb2_)
              clear Q_HO220
              have HO223 := Aside0.mk (Q_HO223 hb6_)
              clear Q_HO223
              clear hall hb2_ hb3_ hb6_ hb7_ hb8_ hb9_ hb10_ hb11_ hb12_ hb13_ hb14_ hb15_ hb16_
              try go_wp2
              go_ret
              exact ⟨by first | rfl | (simp [errW_none, errW_some] <;> rfl) | (simp [*, errW_none, errW_some] <;> rfl), by repeat (first | (with_reducible first | exact HB.out | apply below_alloc | apply pw_below_drewN | apply below_drew1) | exact HB.out)⟩
            · rw [if_neg c12] at H
              have c12b0 : ((strOfNums t218).toList == (strOfNums t221).toList) = false := beq_eq_false_iff_ne.mpr c12
              have c12b1 : ((strOfNums t218).toList != (strOfNums t221).toList) = true := bne_iff_ne.mpr c12
              obtain rfl := Option.some.inj H
              try go_wp2_with (first | ((with_reducible refine gate_dst (N := 16) rfl ?_); (try (refine gate_guard (by rfl) ?_; dsimp only)); refine Kd.R_lit (Kd.int .u8) _ 5 ?hg (N := 16) ?hd (xs := ([] : List Int)) (inner := []) (ok := fun _ => True) (okp := fun _ => True) ?hr ?hp (fun _ hk => hk) trivial (Below.refl _ _) (Nat.le_refl _) (by simp) ?_; (case hd => rfl); (case hg => rfl); (case hr => first | (go_simp; done) | (go_simp; rfl)); (case hp => exact (Reps.none _ _)); intro v213 w21 ho22 hb hg_ hnew_; clear hg_ hnew_; (first | rw [← Ny212.out] at ho22 | (simp only [Int.reduceToNat] at ho22; rw [← Ny212.out] at ho22)); have n0_ := Aside0.mk (Kd.R_lower ho22 (below_size (by repeat (first | (with_reducible first | exact HB.out | apply below_alloc | apply pw_below_drewN | apply below_drew1) | exact HB.out)))); have n1_ := Aside0.mk (below_step (by repeat (first | (with_reducible first | exact HB.out | apply below_alloc | apply pw_below_drewN | apply below_drew1) | exact HB.out)) hb); clear HB; have HO214 := n0_; have HB := n1_; clear n0_ n1_; clear hb ho22) | ((with_reducible refine gate_builtin (b := .append) (xs := #[.tmp 16, .tmp 17]) rfl ?_); (try (refine gate_guard (by rfl) ?_; dsimp only)); at_builtin; refine Kd.R_append_rows (Kd.int .u8) (w0 := w) w.heap.size rfl (.tmp 16) (.tmp 17) 39 5 (.int .u8 0) 1 rfl Tryd.underlying39 info5 rfl (by decide) (by omega) v213 y212 l0 _ _ _ (fun _ => True) (fun _ => False) rfl rfl ?aO ?aR (fun _ _ h => h) (fun _ h => h.elim) ?aF ?aB ?aS ?aL ?_; (case aR => repeat (first | exact (Kd.C_below HR0.out HB.out) | (with_reducible refine Kd.C_alloc ?_ _) | (with_reducible refine Kd.C_drewN ?_ _) | (with_reducible refine Kd.C_drew ?_))); (case aB => exact (by repeat (first | (with_reducible first | exact HB.out | apply below_alloc | apply pw_below_drewN | apply below_drew1) | exact HB.out))); (case aF => exact (fun _ _ => trivial)); (case aO => exact (by (with_reducible repeat (first | apply Kd.R_alloc | apply Kd.R_drewN | apply Kd.R_drew)); exact HO214.out)); (case aS => exact (below_size (by repeat (first | (with_reducible first | exact HB.out | apply below_alloc | apply pw_below_drewN | apply below_drew1) | exact HB.out)))); (case aL => have := LMc9.out; omega); intro v216 w23 ho hb hg hat; rw [← Ny215.out] at ho; have n0_ := Aside0.mk (hb); have n1_ := Aside0.mk (ho); clear HB; clear HO214; have HB := n0_; have HO217 := n1_; clear n0_ n1_; clear ho hb hg hat; obtain ⟨Ao24, co24, eo24⟩ := Kd.R_slice HO217.out; subst eo24))
              have n0_ := Aside0.mk (Kd.R_drew HO217.out)
              have n1_ := Aside0.mk (below_drew1 HB.out)
              clear HO217
              clear HB
              have HO217 := n0_
              have HB := n1_
              clear n0_ n1_
              refine start_ (n := 17) (S := fun w' => True) (ds := []) #[false, false, false, false, false, false, false, false, false, false, false, false, false, false, false, false, false] (by kernel_rfl) rfl rfl trivial (fun hHeld => ?_); refine with_tabW understudylaw03_LabelPuts.tab6 understudylaw03_LabelPuts.bits6 (fun HT_ HW_ => ?_)
              generalize w23.drew = w25 at HO217 HB hHeld ⊢
              refine pure_ (i := 0) (N := some 19) (v := ?_) (a' := ?_) #[true, false, false, false, false, false, false, false, false, false, false, false, false, false, false, false, false] rfl rfl (any_of HT_.out (by kernel_rfl)) (fun _ _ _ h => h) (Or.inl ⟨by rfl, ?_⟩) ?_ ?_
              rotate_left
              · intro w'
                go_simp
                with_reducible rfl
              rotate_left
              · simp only [Act.put, List.setIfInBounds_toArray, List.set_cons_zero, List.set_cons_succ, i64_w, i32_w]
                rfl
              refine pure_ (i := 1) (N := some 20) (v := ?_) (a' := ?_) #[true, true, false, false, false, false, false, false, false, false, false, false, false, false, false, false, false] rfl rfl (any_of HT_.out (by kernel_rfl)) (fun _ _ _ h => h) (Or.inl ⟨by rfl, ?_⟩) ?_ ?_
              rotate_left
              · intro w'
                go_simp
                with_reducible rfl
              rotate_left
              · simp only [Act.put, List.setIfInBounds_toArray, List.set_cons_zero, List.set_cons_succ, i64_w, i32_w]
                rfl
              refine pure_ (i := 4) (N := some 23) (v := ?_) (a' := ?_) #[true, true, false, false, true, false, false, false, false, false, false, false, false, false, false, false, false] rfl rfl (any_of HT_.out (by kernel_rfl)) (fun _ _ _ h => h) (Or.inl ⟨by rfl, ?_⟩) ?_ ?_
              rotate_left
              · intro w'
                go_simp
                with_reducible rfl
              rotate_left
              · simp only [Act.put, List.setIfInBounds_toArray, List.set_cons_zero, List.set_cons_succ, i64_w, i32_w]
                rfl
              refine pure_ (i := 5) (N := some 24) (v := ?_) (a' := ?_) #[true, true, false, false, true, true, false, false, false, false, false, false, false, false, false, false, false] rfl rfl (any_of HT_.out (by kernel_rfl)) (fun _ _ _ h => h) (Or.inl ⟨by rfl, ?_⟩) ?_ ?_
              rotate_left
              · intro w'
                go_simp
                with_reducible rfl
              rotate_left
              · simp only [Act.put, List.setIfInBounds_toArray, List.set_cons_zero, List.set_cons_succ, i64_w, i32_w]
                rfl
              refine inv_at [2, 3, 6, 7, 8, 9, 10, 11, 12, 13, 14, 15, 16] (fun a0_ b a w' => ∃ (v219 : Value) (v222 : Value), a = putSel a0_ b [(2, 21, v219), (3, 22, .string (strOfNums t218)), (6, 25, v222), (7, 26, .string (strOfNums t221)), (8, 27, .bool ((strOfNums t218).toList == (strOfNums t221).toList)), (9, 28, .bool ((strOfNums t218).toList == (strOfNums t221).toList)), (10, 29, undef), (11, 30, undef), (12, 31, undef), (13, 32, undef), (14, 33, undef), (15, 34, .bool false), (16, 4, .bool false)] ∧ (Kd.R (Kd.int .u8) 5 w' w.heap.size (fun _ => True) (.slice Ao24 y215.length co24) y215) ∧ (Below w.heap.size w w') ∧ (b 2 = true → Kd.R (Kd.int .u8) 5 w' w.heap.size (fun k_ => some k_ ≠ (.slice Ao24 y215.length co24 : Value).ownBlock) v219 t218) ∧ (b 6 = true → Kd.R (Kd.int .u8) 5 w' w.heap.size (fun k_ => some k_ ≠ (.slice Ao24 y215.length co24 : Value).ownBlock) v222 t221)) HT_.out HW_.out (by kernel_rfl) (by kernel_rfl) ?_ ?_ ?_
              · exact ⟨.bool false, .bool false, by simp only [putSel, Bool.false_eq_true, if_false], HO217.out, HB.out, fun h_ => absurd h_ (by decide), fun h_ => absurd h_ (by decide)⟩
              · skip
                clear HB HO217
                refine steps_cons ?_ ?_
                · rintro b a w' ⟨v219, v222, ha, Q_HO217, Q_HB, Q_HO220, Q_HO223⟩ hb_ hon hoff
                  refine ⟨_, rfl, fun K hK => ?_⟩
                  have e19 : a.tmps[19]? = some (.slice Ao24 y215.length co24) := by rw [ha]; exact (putSel_off rfl).trans rfl
                  have e20 : a.tmps[20]? = some (.slice A1 l1.length c1) := by rw [ha]; exact (putSel_off rfl).trans rfl
                  replace ha := Aside0.mk ha
                  have HO217 := Aside0.mk Q_HO217
                  have HB := Aside0.mk Q_HB
                  refine goes_ Tryd.func21 (by kernel_rfl) rfl #[.slice Ao24 y215.length co24, .slice A1 l1.length c1] (by rfl) rfl rfl (by first | (simp only [List.map_toArray, List.map_cons, List.map_nil, Act.eval, Array.getD_eq_getD_getElem?, Option.getD_some, e19, e20]; done) | (simp only [List.map_toArray, List.map_cons, List.map_nil, Act.eval, Array.getD_eq_getD_getElem?, Option.getD_some, e19, e20]; rfl)) ?_
                  with_reducible refine (label_Put.calls kj4 _ _ y215 _ _ l1 t218 _ ?side1 ?side2 ?side3 ?side4 A10.out).mono ?_
                  (case side1 => repeat (first | exact (Kd.R_reads' HO217.out).2.2 | (with_reducible refine Kd.C_alloc ?_ _) | (with_reducible refine Kd.C_drewN ?_ _) | (with_reducible refine Kd.C_drew ?_)))
                  (case side2 => exact (Kd.R_reads' HO217.out).2.1)
                  (case side3 => repeat (first | exact (Kd.C_below HR1.out HB.out) | (with_reducible refine Kd.C_alloc ?_ _) | (with_reducible refine Kd.C_drewN ?_ _) | (with_reducible refine Kd.C_drew ?_)))
                  (case side4 => exact HC1.out)
                  rintro e w26 ⟨v219, rfl, ho0, hb⟩
                  refine ⟨_, rfl, ?_⟩
                  have n0_ := Aside0.mk (Kd.R_elder' (by (with_reducible repeat (first | apply Kd.R_alloc | apply Kd.R_drewN | apply Kd.R_drew)); exact HO217.out) (Kd.R_base ho0) hb)
                  have n1_ := Aside0.mk (Kd.R_lower (Kd.R_new' ho0 (Kd.R_lt (by (with_reducible repeat (first | apply Kd.R_alloc | apply Kd.R_drewN | apply Kd.R_drew)); exact HO217.out))) (below_size (by repeat (first | (with_reducible first | exact HB.out | apply below_alloc | apply pw_below_drewN | apply below_drew1) | exact HB.out))))
                  have n2_ := Aside0.mk (below_step (by repeat (first | (with_reducible first | exact HB.out | apply below_alloc | apply pw_below_drewN | apply below_drew1) | exact HB.out)) hb)
                  clear HO217
                  clear HB
                  have HO217 := n0_
                  have HO220 := n1_
                  have HB := n2_
                  clear n0_ n1_ n2_
                  (try clear hb)
                  (try clear hb2)
                  (try clear hk)
                  (try clear hi)
                  (try clear ho0)
                  refine hK.out _ _ ⟨v219, v222, (by rw [ha.out]; exact putSel_upk 0 hb_ rfl rfl rfl), (by first | exact ((by (with_reducible repeat (first | apply Kd.R_alloc | apply Kd.R_drewN | apply Kd.R_drew)); exact Kd.R_mono HO217.out (fun _ hk => hk.2))) | exact (Kd.R_mono HO217.out (fun _ h_ => by first | trivial | exact h_ | exact h_.1 | exact h_.2 | exact h_.1.1 | exact h_.1.2 | exact h_.2.1 | exact h_.2.2 | grind))), (by repeat (first | (with_reducible first | exact HB.out | apply below_alloc | apply pw_below_drewN | apply below_drew1) | exact HB.out)), (by first | exact (fun _ => (by (with_reducible repeat (first | apply Kd.R_alloc | apply Kd.R_drewN | apply Kd.R_drew)); exact Kd.R_mono HO220.out (fun _ hk => hk.2))) | exact (fun _ => Kd.R_mono HO220.out (fun _ h_ => by first | trivial | exact h_ | exact h_.1 | exact h_.2 | exact h_.1.1 | exact h_.1.2 | exact h_.2.1 | exact h_.2.2 | grind))), fun h0_ => absurd ((hoff 6 (by kernel_rfl)).symm.trans h0_) (by decide)⟩
                refine steps_cons ?_ ?_
                · rintro b a w' ⟨v219, v222, ha, Q_HO217, Q_HB, Q_HO220, Q_HO223⟩ hb_ hon hoff
                  refine ⟨_, rfl, fun K hK => ?_⟩
                  have e21 : a.tmps[21]? = some (v219) := by rw [ha]; exact putSel_on (e := (2, 21, v219)) 0 rfl rfl (hon 2 (by kernel_rfl)) rfl
                  replace ha := Aside0.mk ha
                  have HO217 := Aside0.mk Q_HO217
                  have HB := Aside0.mk Q_HB
                  have HO220 := Aside0.mk (Q_HO220 (hon 2 (by kernel_rfl)))
                  have hcv_ := own_string (P := Tryd.prog) Tryd.underlying39 Tryd.underlying5 Tryd.underlying9 (Kd.own_of_R HO220.out)
                  obtain ⟨Ao3_0, co3_0, eo_⟩ := Kd.R_slice HO220.out
                  subst eo_
                  refine value_ (w1 := w') (v := .string (strOfNums t218)) (by rfl) rfl ?_ ?_
                  · go_simp
                    (try simp only [i64_w])
                    try rfl
                  refine hK.out _ _ ⟨.slice Ao3_0 t218.length co3_0, v222, (by rw [ha.out]; exact putSel_upk 1 hb_ rfl rfl rfl), (by first | exact (Q_HO217) | exact (Kd.R_mono HO217.out (fun _ h_ => by first | trivial | exact h_ | exact h_.1 | exact h_.2 | exact h_.1.1 | exact h_.1.2 | exact h_.2.1 | exact h_.2.2 | grind))), Q_HB, (by first | exact (Q_HO220) | exact (fun _ => Kd.R_mono HO220.out (fun _ h_ => by first | trivial | exact h_ | exact h_.1 | exact h_.2 | exact h_.1.1 | exact h_.1.2 | exact h_.2.1 | exact h_.2.2 | grind))), (by first | exact (Q_HO223) | exact (fun _ => Kd.R_mono HO223.out (fun _ h_ => by first | trivial | exact h_ | exact h_.1 | exact h_.2 | exact h_.1.1 | exact h_.1.2 | exact h_.2.1 | exact h_.2.2 | grind)))⟩
                refine steps_cons ?_ ?_
                · rintro b a w' ⟨v219, v222, ha, Q_HO217, Q_HB, Q_HO220, Q_HO223⟩ hb_ hon hoff
                  refine ⟨_, rfl, fun K hK => ?_⟩
                  have e23 : a.tmps[23]? = some (.slice A0 l0.length c0) := by rw [ha]; exact (putSel_off rfl).trans rfl
                  have e24 : a.tmps[24]? = some (.slice A1 l1.length c1) := by rw [ha]; exact (putSel_off rfl).trans rfl
                  replace ha := Aside0.mk ha
                  have HO217 := Aside0.mk Q_HO217
                  have HB := Aside0.mk Q_HB
                  have HO220 := Aside0.mk (Q_HO220 (hon 2 (by kernel_rfl)))
                  refine goes_ Tryd.func22 (by kernel_rfl) rfl #[.slice A0 l0.length c0, .slice A1 l1.length c1] (by rfl) rfl rfl (by first | (simp only [List.map_toArray, List.map_cons, List.map_nil, Act.eval, Array.getD_eq_getD_getElem?, Option.getD_some, e23, e24]; done) | (simp only [List.map_toArray, List.map_cons, List.map_nil, Act.eval, Array.getD_eq_getD_getElem?, Option.getD_some, e23, e24]; rfl)) ?_
                  with_reducible refine (understudyref03_Put.calls kj4 _ _ l0 _ _ l1 t221 _ ?side1 ?side2 ?side3 ?side4 A11.out).mono ?_
                  (case side1 => repeat (first | exact (Kd.C_below HR0.out HB.out) | (with_reducible refine Kd.C_alloc ?_ _) | (with_reducible refine Kd.C_drewN ?_ _) | (with_reducible refine Kd.C_drew ?_)))
                  (case side2 => exact HC0.out)
                  (case side3 => repeat (first | exact (Kd.C_below HR1.out HB.out) | (with_reducible refine Kd.C_alloc ?_ _) | (with_reducible refine Kd.C_drewN ?_ _) | (with_reducible refine Kd.C_drew ?_)))
                  (case side4 => exact HC1.out)
                  rintro e w28 ⟨v222, rfl, ho0, hb⟩
                  refine ⟨_, rfl, ?_⟩
                  have n0_ := Aside0.mk (Kd.R_elder' (by (with_reducible repeat (first | apply Kd.R_alloc | apply Kd.R_drewN | apply Kd.R_drew)); exact HO217.out) (Kd.R_base ho0) hb)
                  have n1_ := Aside0.mk (Kd.R_elder' (by (with_reducible repeat (first | apply Kd.R_alloc | apply Kd.R_drewN | apply Kd.R_drew)); exact HO220.out) (Kd.R_base ho0) hb)
                  have n2_ := Aside0.mk (Kd.R_lower (Kd.R_new' (Kd.R_new' ho0 (Kd.R_lt (by (with_reducible repeat (first | apply Kd.R_alloc | apply Kd.R_drewN | apply Kd.R_drew)); exact HO217.out))) (Kd.R_lt (by (with_reducible repeat (first | apply Kd.R_alloc | apply Kd.R_drewN | apply Kd.R_drew)); exact HO220.out))) (below_size (by repeat (first | (with_reducible first | exact HB.out | apply below_alloc | apply pw_below_drewN | apply below_drew1) | exact HB.out))))
                  have n3_ := Aside0.mk (below_step (by repeat (first | (with_reducible first | exact HB.out | apply below_alloc | apply pw_below_drewN | apply below_drew1) | exact HB.out)) hb)
                  clear HO217
                  clear HO220
                  clear HB
                  have HO217 := n0_
                  have HO220 := n1_
                  have HO223 := n2_
                  have HB := n3_
                  clear n0_ n1_ n2_ n3_
                  (try clear hb)
                  (try clear hb2)
                  (try clear hk)
                  (try clear hi)
                  (try clear ho0)
                  refine hK.out _ _ ⟨v219, v222, (by rw [ha.out]; exact putSel_upk 2 hb_ rfl rfl rfl), (by first | exact ((by (with_reducible repeat (first | apply Kd.R_alloc | apply Kd.R_drewN | apply Kd.R_drew)); exact HO217.out)) | exact (Kd.R_mono HO217.out (fun _ h_ => by first | trivial | exact h_ | exact h_.1 | exact h_.2 | exact h_.1.1 | exact h_.1.2 | exact h_.2.1 | exact h_.2.2 | grind))), (by repeat (first | (with_reducible first | exact HB.out | apply below_alloc | apply pw_below_drewN | apply below_drew1) | exact HB.out)), (by first | exact (fun _ => (by (with_reducible repeat (first | apply Kd.R_alloc | apply Kd.R_drewN | apply Kd.R_drew)); exact HO220.out)) | exact (fun _ => Kd.R_mono HO220.out (fun _ h_ => by first | trivial | exact h_ | exact h_.1 | exact h_.2 | exact h_.1.1 | exact h_.1.2 | exact h_.2.1 | exact h_.2.2 | grind))), (by first | exact (fun _ => (by (with_reducible repeat (first | apply Kd.R_alloc | apply Kd.R_drewN | apply Kd.R_drew)); exact Kd.R_mono HO223.out (fun _ hk => ⟨hk.1.2, hk.2⟩))) | exact (fun _ => Kd.R_mono HO223.out (fun _ h_ => by first | trivial | exact h_ | exact h_.1 | exact h_.2 | exact h_.1.1 | exact h_.1.2 | exact h_.2.1 | exact h_.2.2 | grind)))⟩
                refine steps_cons ?_ ?_
                · rintro b a w' ⟨v219, v222, ha, Q_HO217, Q_HB, Q_HO220, Q_HO223⟩ hb_ hon hoff
                  refine ⟨_, rfl, fun K hK => ?_⟩
                  have e25 : a.tmps[25]? = some (v222) := by rw [ha]; exact putSel_on (e := (6, 25, v222)) 2 rfl rfl (hon 6 (by kernel_rfl)) rfl
                  replace ha := Aside0.mk ha
                  have HO217 := Aside0.mk Q_HO217
                  have HB := Aside0.mk Q_HB
                  have HO220 := Aside0.mk (Q_HO220 (hon 2 (by kernel_rfl)))
                  have HO223 := Aside0.mk (Q_HO223 (hon 6 (by kernel_rfl)))
                  have hcv_ := own_string (P := Tryd.prog) Tryd.underlying39 Tryd.underlying5 Tryd.underlying9 (Kd.own_of_R HO223.out)
                  obtain ⟨Ao7_0, co7_0, eo_⟩ := Kd.R_slice HO223.out
                  subst eo_
                  refine value_ (w1 := w') (v := .string (strOfNums t221)) (by rfl) rfl ?_ ?_
                  · go_simp
                    (try simp only [i64_w])
                    try rfl
                  refine hK.out _ _ ⟨v219, .slice Ao7_0 t221.length co7_0, (by rw [ha.out]; exact putSel_upk 3 hb_ rfl rfl rfl), (by first | exact (Q_HO217) | exact (Kd.R_mono HO217.out (fun _ h_ => by first | trivial | exact h_ | exact h_.1 | exact h_.2 | exact h_.1.1 | exact h_.1.2 | exact h_.2.1 | exact h_.2.2 | grind))), Q_HB, (by first | exact (Q_HO220) | exact (fun _ => Kd.R_mono HO220.out (fun _ h_ => by first | trivial | exact h_ | exact h_.1 | exact h_.2 | exact h_.1.1 | exact h_.1.2 | exact h_.2.1 | exact h_.2.2 | grind))), (by first | exact (Q_HO223) | exact (fun _ => Kd.R_mono HO223.out (fun _ h_ => by first | trivial | exact h_ | exact h_.1 | exact h_.2 | exact h_.1.1 | exact h_.1.2 | exact h_.2.1 | exact h_.2.2 | grind)))⟩
                refine steps_cons ?_ ?_
                · rintro b a w' ⟨v219, v222, ha, Q_HO217, Q_HB, Q_HO220, Q_HO223⟩ hb_ hon hoff
                  refine ⟨_, rfl, fun K hK => ?_⟩
                  have e22 : a.tmps[22]? = some (.string (strOfNums t218)) := by rw [ha]; exact putSel_on (e := (3, 22, .string (strOfNums t218))) 1 rfl rfl (hon 3 (by kernel_rfl)) rfl
                  have e26 : a.tmps[26]? = some (.string (strOfNums t221)) := by rw [ha]; exact putSel_on (e := (7, 26, .string (strOfNums t221))) 3 rfl rfl (hon 7 (by kernel_rfl)) rfl
                  replace ha := Aside0.mk ha
                  have HO217 := Aside0.mk Q_HO217
                  have HB := Aside0.mk Q_HB
                  have HO220 := Aside0.mk (Q_HO220 (hon 2 (by kernel_rfl)))
                  have HO223 := Aside0.mk (Q_HO223 (hon 6 (by kernel_rfl)))
                  refine value_ (w1 := w') (v := .bool ((strOfNums t218).toList == (strOfNums t221).toList)) (by rfl) rfl ?_ ?_
                  · go_simp
                    (try simp only [i64_w])
                    try rfl
                  refine hK.out _ _ ⟨v219, v222, (by rw [ha.out]; exact putSel_upk 4 hb_ rfl rfl rfl), (by first | exact (Q_HO217) | exact (Kd.R_mono HO217.out (fun _ h_ => by first | trivial | exact h_ | exact h_.1 | exact h_.2 | exact h_.1.1 | exact h_.1.2 | exact h_.2.1 | exact h_.2.2 | grind))), Q_HB, (by first | exact (Q_HO220) | exact (fun _ => Kd.R_mono HO220.out (fun _ h_ => by first | trivial | exact h_ | exact h_.1 | exact h_.2 | exact h_.1.1 | exact h_.1.2 | exact h_.2.1 | exact h_.2.2 | grind))), (by first | exact (Q_HO223) | exact (fun _ => Kd.R_mono HO223.out (fun _ h_ => by first | trivial | exact h_ | exact h_.1 | exact h_.2 | exact h_.1.1 | exact h_.1.2 | exact h_.2.1 | exact h_.2.2 | grind)))⟩
                refine steps_cons ?_ ?_
                · rintro b a w' ⟨v219, v222, ha, Q_HO217, Q_HB, Q_HO220, Q_HO223⟩ hb_ hon hoff
                  refine ⟨_, rfl, fun K hK => ?_⟩
                  have e27 : a.tmps[27]? = some (.bool ((strOfNums t218).toList == (strOfNums t221).toList)) := by rw [ha]; exact putSel_on (e := (8, 27, .bool ((strOfNums t218).toList == (strOfNums t221).toList))) 4 rfl rfl (hon 8 (by kernel_rfl)) rfl
                  replace ha := Aside0.mk ha
                  have HO217 := Aside0.mk Q_HO217
                  have HB := Aside0.mk Q_HB
                  have HO220 := Aside0.mk (Q_HO220 (hon 2 (by kernel_rfl)))
                  have HO223 := Aside0.mk (Q_HO223 (hon 6 (by kernel_rfl)))
                  refine value_ (w1 := w') (v := .bool ((strOfNums t218).toList == (strOfNums t221).toList)) (by rfl) rfl ?_ ?_
                  · go_simp
                    (try simp only [i64_w])
                    try rfl
                  refine hK.out _ _ ⟨v219, v222, (by rw [ha.out]; exact putSel_upk 5 hb_ rfl rfl rfl), (by first | exact (Q_HO217) | exact (Kd.R_mono HO217.out (fun _ h_ => by first | trivial | exact h_ | exact h_.1 | exact h_.2 | exact h_.1.1 | exact h_.1.2 | exact h_.2.1 | exact h_.2.2 | grind))), Q_HB, (by first | exact (Q_HO220) | exact (fun _ => Kd.R_mono HO220.out (fun _ h_ => by first | trivial | exact h_ | exact h_.1 | exact h_.2 | exact h_.1.1 | exact h_.1.2 | exact h_.2.1 | exact h_.2.2 | grind))), (by first | exact (Q_HO223) | exact (fun _ => Kd.R_mono HO223.out (fun _ h_ => by first | trivial | exact h_ | exact h_.1 | exact h_.2 | exact h_.1.1 | exact h_.1.2 | exact h_.2.1 | exact h_.2.2 | grind)))⟩
                refine steps_cons ?_ ?_
                · rintro b a w' ⟨v219, v222, ha, Q_HO217, Q_HB, Q_HO220, Q_HO223⟩ hb_ hon hoff
                  refine ⟨_, rfl, fun K hK => ?_⟩
                  have e28 : a.tmps[28]? = some (.bool ((strOfNums t218).toList == (strOfNums t221).toList)) := by rw [ha]; exact putSel_on (e := (9, 28, .bool ((strOfNums t218).toList == (strOfNums t221).toList))) 5 rfl rfl (hon 9 (by kernel_rfl)) rfl
                  replace ha := Aside0.mk ha
                  have HO217 := Aside0.mk Q_HO217
                  have HB := Aside0.mk Q_HB
                  have HO220 := Aside0.mk (Q_HO220 (hon 2 (by kernel_rfl)))
                  have HO223 := Aside0.mk (Q_HO223 (hon 6 (by kernel_rfl)))
                  refine off_ (wanted_off rfl rfl rfl (e28.trans (by first | rfl | (simp [*]; done)))) ?_
                  refine hK.out _ _ ⟨v219, v222, (by rw [ha.out]; exact putSel_upk 6 hb_ rfl rfl rfl), (by first | exact (Q_HO217) | exact (Kd.R_mono HO217.out (fun _ h_ => by first | trivial | exact h_ | exact h_.1 | exact h_.2 | exact h_.1.1 | exact h_.1.2 | exact h_.2.1 | exact h_.2.2 | grind))), Q_HB, (by first | exact (Q_HO220) | exact (fun _ => Kd.R_mono HO220.out (fun _ h_ => by first | trivial | exact h_ | exact h_.1 | exact h_.2 | exact h_.1.1 | exact h_.1.2 | exact h_.2.1 | exact h_.2.2 | grind))), (by first | exact (Q_HO223) | exact (fun _ => Kd.R_mono HO223.out (fun _ h_ => by first | trivial | exact h_ | exact h_.1 | exact h_.2 | exact h_.1.1 | exact h_.1.2 | exact h_.2.1 | exact h_.2.2 | grind)))⟩
                refine steps_cons ?_ ?_
                · rintro b a w' ⟨v219, v222, ha, Q_HO217, Q_HB, Q_HO220, Q_HO223⟩ hb_ hon hoff
                  refine ⟨_, rfl, fun K hK => ?_⟩
                  have e28 : a.tmps[28]? = some (.bool ((strOfNums t218).toList == (strOfNums t221).toList)) := by rw [ha]; exact putSel_on (e := (9, 28, .bool ((strOfNums t218).toList == (strOfNums t221).toList))) 5 rfl rfl (hon 9 (by kernel_rfl)) rfl
                  replace ha := Aside0.mk ha
                  have HO217 := Aside0.mk Q_HO217
                  have HB := Aside0.mk Q_HB
                  have HO220 := Aside0.mk (Q_HO220 (hon 2 (by kernel_rfl)))
                  have HO223 := Aside0.mk (Q_HO223 (hon 6 (by kernel_rfl)))
                  refine off_ (wanted_off rfl rfl rfl (e28.trans (by first | rfl | (simp [*]; done)))) ?_
                  refine hK.out _ _ ⟨v219, v222, (by rw [ha.out]; exact putSel_upk 7 hb_ rfl rfl rfl), (by first | exact (Q_HO217) | exact (Kd.R_mono HO217.out (fun _ h_ => by first | trivial | exact h_ | exact h_.1 | exact h_.2 | exact h_.1.1 | exact h_.1.2 | exact h_.2.1 | exact h_.2.2 | grind))), Q_HB, (by first | exact (Q_HO220) | exact (fun _ => Kd.R_mono HO220.out (fun _ h_ => by first | trivial | exact h_ | exact h_.1 | exact h_.2 | exact h_.1.1 | exact h_.1.2 | exact h_.2.1 | exact h_.2.2 | grind))), (by first | exact (Q_HO223) | exact (fun _ => Kd.R_mono HO223.out (fun _ h_ => by first | trivial | exact h_ | exact h_.1 | exact h_.2 | exact h_.1.1 | exact h_.1.2 | exact h_.2.1 | exact h_.2.2 | grind)))⟩
                refine steps_cons ?_ ?_
                · rintro b a w' ⟨v219, v222, ha, Q_HO217, Q_HB, Q_HO220, Q_HO223⟩ hb_ hon hoff
                  refine ⟨_, rfl, fun K hK => ?_⟩
                  have e28 : a.tmps[28]? = some (.bool ((strOfNums t218).toList == (strOfNums t221).toList)) := by rw [ha]; exact putSel_on (e := (9, 28, .bool ((strOfNums t218).toList == (strOfNums t221).toList))) 5 rfl rfl (hon 9 (by kernel_rfl)) rfl
                  replace ha := Aside0.mk ha
                  have HO217 := Aside0.mk Q_HO217
                  have HB := Aside0.mk Q_HB
                  have HO220 := Aside0.mk (Q_HO220 (hon 2 (by kernel_rfl)))
                  have HO223 := Aside0.mk (Q_HO223 (hon 6 (by kernel_rfl)))
                  refine off_ (wanted_off rfl rfl rfl (e28.trans (by first | rfl | (simp [*]; done)))) ?_
                  refine hK.out _ _ ⟨v219, v222, (by rw [ha.out]; exact putSel_upk 8 hb_ rfl rfl rfl), (by first | exact (Q_HO217) | exact (Kd.R_mono HO217.out (fun _ h_ => by first | trivial | exact h_ | exact h_.1 | exact h_.2 | exact h_.1.1 | exact h_.1.2 | exact h_.2.1 | exact h_.2.2 | grind))), Q_HB, (by first | exact (Q_HO220) | exact (fun _ => Kd.R_mono HO220.out (fun _ h_ => by first | trivial | exact h_ | exact h_.1 | exact h_.2 | exact h_.1.1 | exact h_.1.2 | exact h_.2.1 | exact h_.2.2 | grind))), (by first | exact (Q_HO223) | exact (fun _ => Kd.R_mono HO223.out (fun _ h_ => by first | trivial | exact h_ | exact h_.1 | exact h_.2 | exact h_.1.1 | exact h_.1.2 | exact h_.2.1 | exact h_.2.2 | grind)))⟩
                refine steps_cons ?_ ?_
                · rintro b a w' ⟨v219, v222, ha, Q_HO217, Q_HB, Q_HO220, Q_HO223⟩ hb_ hon hoff
                  refine ⟨_, rfl, fun K hK => ?_⟩
                  have e28 : a.tmps[28]? = some (.bool ((strOfNums t218).toList == (strOfNums t221).toList)) := by rw [ha]; exact putSel_on (e := (9, 28, .bool ((strOfNums t218).toList == (strOfNums t221).toList))) 5 rfl rfl (hon 9 (by kernel_rfl)) rfl
                  replace ha := Aside0.mk ha
                  have HO217 := Aside0.mk Q_HO217
                  have HB := Aside0.mk Q_HB
                  have HO220 := Aside0.mk (Q_HO220 (hon 2 (by kernel_rfl)))
                  have HO223 := Aside0.mk (Q_HO223 (hon 6 (by kernel_rfl)))
                  refine off_ (wanted_off rfl rfl rfl (e28.trans (by first | rfl | (simp [*]; done)))) ?_
                  refine hK.out _ _ ⟨v219, v222, (by rw [ha.out]; exact putSel_upk 9 hb_ rfl rfl rfl), (by first | exact (Q_HO217) | exact (Kd.R_mono HO217.out (fun _ h_ => by first | trivial | exact h_ | exact h_.1 | exact h_.2 | exact h_.1.1 | exact h_.1.2 | exact h_.2.1 | exact h_.2.2 | grind))), Q_HB, (by first | exact (Q_HO220) | exact (fun _ => Kd.R_mono HO220.out (fun _ h_ => by first | trivial | exact h_ | exact h_.1 | exact h_.2 | exact h_.1.1 | exact h_.1.2 | exact h_.2.1 | exact h_.2.2 | grind))), (by first | exact (Q_HO223) | exact (fun _ => Kd.R_mono HO223.out (fun _ h_ => by first | trivial | exact h_ | exact h_.1 | exact h_.2 | exact h_.1.1 | exact h_.1.2 | exact h_.2.1 | exact h_.2.2 | grind)))⟩
                refine steps_cons ?_ ?_
                · rintro b a w' ⟨v219, v222, ha, Q_HO217, Q_HB, Q_HO220, Q_HO223⟩ hb_ hon hoff
                  refine ⟨_, rfl, fun K hK => ?_⟩
                  have e28 : a.tmps[28]? = some (.bool ((strOfNums t218).toList == (strOfNums t221).toList)) := by rw [ha]; exact putSel_on (e := (9, 28, .bool ((strOfNums t218).toList == (strOfNums t221).toList))) 5 rfl rfl (hon 9 (by kernel_rfl)) rfl
                  replace ha := Aside0.mk ha
                  have HO217 := Aside0.mk Q_HO217
                  have HB := Aside0.mk Q_HB
                  have HO220 := Aside0.mk (Q_HO220 (hon 2 (by kernel_rfl)))
                  have HO223 := Aside0.mk (Q_HO223 (hon 6 (by kernel_rfl)))
                  refine off_ (wanted_off rfl rfl rfl (e28.trans (by first | rfl | (simp [*]; done)))) ?_
                  refine hK.out _ _ ⟨v219, v222, (by rw [ha.out]; exact putSel_upk 10 hb_ rfl rfl rfl), (by first | exact (Q_HO217) | exact (Kd.R_mono HO217.out (fun _ h_ => by first | trivial | exact h_ | exact h_.1 | exact h_.2 | exact h_.1.1 | exact h_.1.2 | exact h_.2.1 | exact h_.2.2 | grind))), Q_HB, (by first | exact (Q_HO220) | exact (fun _ => Kd.R_mono HO220.out (fun _ h_ => by first | trivial | exact h_ | exact h_.1 | exact h_.2 | exact h_.1.1 | exact h_.1.2 | exact h_.2.1 | exact h_.2.2 | grind))), (by first | exact (Q_HO223) | exact (fun _ => Kd.R_mono HO223.out (fun _ h_ => by first | trivial | exact h_ | exact h_.1 | exact h_.2 | exact h_.1.1 | exact h_.1.2 | exact h_.2.1 | exact h_.2.2 | grind)))⟩
                refine steps_cons ?_ ?_
                · rintro b a w' ⟨v219, v222, ha, Q_HO217, Q_HB, Q_HO220, Q_HO223⟩ hb_ hon hoff
                  refine ⟨_, rfl, fun K hK => ?_⟩
                  have e28 : a.tmps[28]? = some (.bool ((strOfNums t218).toList == (strOfNums t221).toList)) := by rw [ha]; exact putSel_on (e := (9, 28, .bool ((strOfNums t218).toList == (strOfNums t221).toList))) 5 rfl rfl (hon 9 (by kernel_rfl)) rfl
                  have e33 : a.tmps[33]? = some (undef) := by rw [ha]; exact putSel_on (e := (14, 33, undef)) 10 rfl rfl (hon 14 (by kernel_rfl)) rfl
                  replace ha := Aside0.mk ha
                  have HO217 := Aside0.mk Q_HO217
                  have HB := Aside0.mk Q_HB
                  have HO220 := Aside0.mk (Q_HO220 (hon 2 (by kernel_rfl)))
                  have HO223 := Aside0.mk (Q_HO223 (hon 6 (by kernel_rfl)))
                  refine value_ (w1 := w') (v := .bool false) (by rfl) rfl ?_ ?_
                  · go_simp
                    (try simp only [i64_w])
                    try rfl
                  refine hK.out _ _ ⟨v219, v222, (by rw [ha.out]; exact putSel_upk 11 hb_ rfl rfl rfl), (by first | exact (Q_HO217) | exact (Kd.R_mono HO217.out (fun _ h_ => by first | trivial | exact h_ | exact h_.1 | exact h_.2 | exact h_.1.1 | exact h_.1.2 | exact h_.2.1 | exact h_.2.2 | grind))), Q_HB, (by first | exact (Q_HO220) | exact (fun _ => Kd.R_mono HO220.out (fun _ h_ => by first | trivial | exact h_ | exact h_.1 | exact h_.2 | exact h_.1.1 | exact h_.1.2 | exact h_.2.1 | exact h_.2.2 | grind))), (by first | exact (Q_HO223) | exact (fun _ => Kd.R_mono HO223.out (fun _ h_ => by first | trivial | exact h_ | exact h_.1 | exact h_.2 | exact h_.1.1 | exact h_.1.2 | exact h_.2.1 | exact h_.2.2 | grind)))⟩
                refine steps_cons ?_ ?_
                · rintro b a w' ⟨v219, v222, ha, Q_HO217, Q_HB, Q_HO220, Q_HO223⟩ hb_ hon hoff
                  refine ⟨_, rfl, fun K hK => ?_⟩
                  have e34 : a.tmps[34]? = some (.bool false) := by rw [ha]; exact putSel_on (e := (15, 34, .bool false)) 11 rfl rfl (hon 15 (by kernel_rfl)) rfl
                  replace ha := Aside0.mk ha
                  have HO217 := Aside0.mk Q_HO217
                  have HB := Aside0.mk Q_HB
                  have HO220 := Aside0.mk (Q_HO220 (hon 2 (by kernel_rfl)))
                  have HO223 := Aside0.mk (Q_HO223 (hon 6 (by kernel_rfl)))
                  refine value_ (w1 := w') (v := .bool false) (by rfl) rfl ?_ ?_
                  · go_simp
                    (try simp only [i64_w])
                    try rfl
                  refine hK.out _ _ ⟨v219, v222, (by rw [ha.out]; exact putSel_upk 12 hb_ rfl rfl rfl), (by first | exact (Q_HO217) | exact (Kd.R_mono HO217.out (fun _ h_ => by first | trivial | exact h_ | exact h_.1 | exact h_.2 | exact h_.1.1 | exact h_.1.2 | exact h_.2.1 | exact h_.2.2 | grind))), Q_HB, (by first | exact (Q_HO220) | exact (fun _ => Kd.R_mono HO220.out (fun _ h_ => by first | trivial | exact h_ | exact h_.1 | exact h_.2 | exact h_.1.1 | exact h_.1.2 | exact h_.2.1 | exact h_.2.2 | grind))), (by first | exact (Q_HO223) | exact (fun _ => Kd.R_mono HO223.out (fun _ h_ => by first | trivial | exact h_ | exact h_.1 | exact h_.2 | exact h_.1.1 | exact h_.1.2 | exact h_.2.1 | exact h_.2.2 | grind)))⟩
                exact steps_nil
              rintro b a w28 hall ⟨v219, v222, ha, Q_HO217, Q_HB, Q_HO220, Q_HO223⟩
              clear HB HO217
              have hb2_ := hall 2 (by kernel_rfl)
              have hb3_ := hall 3 (by kernel_rfl)
              have hb6_ := hall 6 (by kernel_rfl)
              have hb7_ := hall 7 (by kernel_rfl)
              have hb8_ := hall 8 (by kernel_rfl)
              have hb9_ := hall 9 (by kernel_rfl)
              have hb10_ := hall 10 (by kernel_rfl)
              have hb11_ := hall 11 (by kernel_rfl)
              have hb12_ := hall 12 (by kernel_rfl)
              have hb13_ := hall 13 (by kernel_rfl)
              have hb14_ := hall 14 (by kernel_rfl)
              have hb15_ := hall 15 (by kernel_rfl)
              have hb16_ := hall 16 (by kernel_rfl)
              subst ha
              simp only [putSel, hb2_, hb3_, hb6_, hb7_, hb8_, hb9_, hb10_, hb11_, hb12_, hb13_, hb14_, hb15_, hb16_, if_true, Act.put, List.setIfInBounds_toArray, List.set_cons_zero, List.set_cons_succ]
              have HO217 := Aside0.mk Q_HO217
              clear Q_HO217
              have HB := Aside0.mk Q_HB
              clear Q_HB
              have HO220 := Aside0.mk (Q_HO220 hb2_)
              clear Q_HO220
              have HO223 := Aside0.mk (Q_HO223 hb6_)
              clear Q_HO223
              clear hall hb2_ hb3_ hb6_ hb7_ hb8_ hb9_ hb10_ hb11_ hb12_ hb13_ hb14_ hb15_ hb16_
              try go_wp2
              go_ret
              exact ⟨by first | rfl | (simp [errW_none, errW_some] <;> rfl) | (simp [*, errW_none, errW_some] <;> rfl), by repeat (first | (with_reducible first | exact HB.out | apply below_alloc | apply pw_below_drewN | apply below_drew1) | exact HB.out)⟩
          · rw [if_neg c9] at H
            exact absurd H (by simp)
  · replace c4 := Bool.eq_false_iff.mpr c4
    subst c4
    have H1 : (some false) = some r := by rw [if_neg (show ¬ (false = true) by decide)] at H; exact H
    clear H
    have H := H1
    clear H1
    obtain rfl := Option.some.inj H
    go_enter Tryd.func7, Tryd.ntmps7
    go_wp2_with (first | ((with_reducible refine gate_callee (f := 10) rfl ?_); refine goesL_ (some 6) rfl rfl Tryd.func10 (by kernel_rfl) rfl #[] rfl (by (try simp only [List.map_toArray, List.map_cons, List.map_nil]); first | done | rfl | (simp only [List.length_drop, List.length_take]; rfl)) ?_; (with_reducible refine (understudylaw03_labelAlive.calls k  false _ A3.out).mono ?_); rintro e w29 ⟨rfl, hb⟩; refine ⟨_, rfl, ?_⟩; have n0_ := Aside0.mk (below_step (by repeat (first | (with_reducible first | exact HB.out | apply below_alloc | apply pw_below_drewN | apply below_drew1) | exact HB.out)) hb); clear HB; have HB := n0_; clear n0_; (try clear hb); (try clear hb2); (try clear hk); (try clear hi)))
    go_ret
    exact ⟨by first | rfl | (simp [errW_none, errW_some] <;> rfl) | (simp [*, errW_none, errW_some] <;> rfl), by repeat (first | (with_reducible first | exact HB.out | apply below_alloc | apply pw_below_drewN | apply below_drew1) | exact HB.out)⟩

end Go.Proofs.YthohdcnhnopafaaDoor.PLabelPuts
