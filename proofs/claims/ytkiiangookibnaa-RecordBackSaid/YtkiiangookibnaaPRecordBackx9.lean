-- Printed by a program of this session (wip/printx.py), which runs the kit's print with texts of its own put in.
import Derived.Test.YtkiiangookibnaaPRecordBackx0
import Derived.Test.YtkiiangookibnaaPRecordBackx4
import Derived.Test.YtkiiangookibnaaPRecordBackx5
import Derived.Test.YtkiiangookibnaaPRecordBackx7
import Derived.Test.YtkiiangookibnaaPRecordBackx8
import Derived.Test.YtkiiangookibnaaSh
namespace Go.Proofs.Ytkiiangookibnaa.PRecordBack
open Go.RowKit Go.Proofs.YtkiiangookibnaaW.PrintWords Go.Proofs.YtkiiangookibnaaW.PrintLast Go.Proofs.YtkiiangookibnaaW.PrintMore
attribute [local go_sem] max2_int min2_int max_two min_two max_three min_three max_four min_four   -- for this text's walks alone
set_option linter.unusedVariables false
set_option linter.unusedSimpArgs false

/-! ### understudylaw14_recordAlive: function 10 -/
-- IMPORT Derived.Test.YtkiiangookibnaaSh
def understudylaw14_recordAlive.f (k : Nat) : Option (Bool) := (record_Empty.f).bind fun bt174 => ((record_Bytes.f k 1 false 0 0 (-1) 0 0 ([] : List (S48)) bt174.1 bt174.2.1 bt174.2.2.1 bt174.2.2.2.1 bt174.2.2.2.2.1 bt174.2.2.2.2.2.1 bt174.2.2.2.2.2.2.1 bt174.2.2.2.2.2.2.2).bind fun bt183 => ((record_Read.f k bt183.1).bind fun bt187 => (if bt183.2 = 0 then (if bt187.2.2.2.2.2.2.2.2.2.2.2.2.2.2.2.2 = 0 then (if (bt183.1.length : Int) = 50 then ((record_Same.f k bt187.1 bt187.2.1 bt187.2.2.1 bt187.2.2.2.1 bt187.2.2.2.2.1 bt187.2.2.2.2.2.1 bt187.2.2.2.2.2.2.1 bt187.2.2.2.2.2.2.2.1 bt187.2.2.2.2.2.2.2.2.1 bt187.2.2.2.2.2.2.2.2.2.1 bt187.2.2.2.2.2.2.2.2.2.2.1 bt187.2.2.2.2.2.2.2.2.2.2.2.1 bt187.2.2.2.2.2.2.2.2.2.2.2.2.1 bt187.2.2.2.2.2.2.2.2.2.2.2.2.2.1 bt187.2.2.2.2.2.2.2.2.2.2.2.2.2.2.1 bt187.2.2.2.2.2.2.2.2.2.2.2.2.2.2.2.1 1 false 0 0 (-1) 0 0 ([] : List (S48)) bt174.1 bt174.2.1 bt174.2.2.1 bt174.2.2.2.1 bt174.2.2.2.2.1 bt174.2.2.2.2.2.1 bt174.2.2.2.2.2.2.1 bt174.2.2.2.2.2.2.2).bind fun t207 => (if t207 = true then ((record_Right.f k 1 false 0 0 (-1) 0 0 ([] : List (S48)) bt174.1 bt174.2.1 bt174.2.2.1 bt174.2.2.2.1 bt174.2.2.2.2.1 bt174.2.2.2.2.2.1 bt174.2.2.2.2.2.2.1 bt174.2.2.2.2.2.2.2).bind fun t208 => (some t208)) else (some false))) else (some false)) else (some false)) else (some false))))
theorem understudylaw14_recordAlive.mono : ∀ k, LeO (understudylaw14_recordAlive.f k) (understudylaw14_recordAlive.f (k + 1)) := by
  intro k
  unfold understudylaw14_recordAlive.f
  repeat' first
      | (with_reducible exact record_Bytes.mono _ _ _ _ _ _ _ _ _ _ _ _ _ _ _ _ _)
      | (with_reducible exact record_Read.mono _ _)
      | (with_reducible exact record_Right.mono _ _ _ _ _ _ _ _ _ _ _ _ _ _ _ _ _)
      | (with_reducible exact record_Same.mono _ _ _ _ _ _ _ _ _ _ _ _ _ _ _ _ _ _ _ _ _ _ _ _ _ _ _ _ _ _ _ _ _)
      | (with_reducible exact LeO.refl _)
      | (with_reducible exact LeO.none _)
      | (with_reducible refine LeO.ite ?_ ?_)
      | (with_reducible refine LeO.bind ?_ (fun _ => ?_))
set_option maxHeartbeats 8000000 in
set_option maxRecDepth 100000 in
theorem understudylaw14_recordAlive.calls (k : Nat) (r : Bool) (w : World) (h : understudylaw14_recordAlive.f k = some r) :
    Calls Try.prog 10 #[] w fun e w' => e = .returned (.bool r) ∧ Below w.heap.size w w' := by
  unfold understudylaw14_recordAlive.f at h
  obtain ⟨⟨t1, t2, t3, t4, t5, t6, t7, t8⟩, hE, h1⟩ := Option.bind_eq_some_iff.1 h
  clear h
  obtain ⟨⟨b1, b2⟩, hB, h⟩ := Option.bind_eq_some_iff.1 h1
  clear h1
  obtain ⟨⟨s1, s2, s3, s4, s5, s6, s7, s8, s9, s10, s11, s12, s13, s14, s15, s16, s17⟩, hR, h1⟩ := Option.bind_eq_some_iff.1 h
  clear h
  have HE := Lib.hid hE
  have HB := Lib.hid hB
  have HR := Lib.hid hR
  have H := Lib.hid h1
  clear hE hB hR h1
  have HS := St.empty w
  go_enter Try.func10, Try.ntmps10
  go_wp2_with fail
  refine (record_Empty.calls t1 t2 t3 t4 t5 t6 t7 t8 _ HE.out).mono ?_
  rintro e w1 ⟨rfl, hb⟩
  have HS1 := (HS.below hb).alloc [.int .u32 0, .bool false, .int .u32 0, .int .u32 0, .int .i64 0, .int .u32 0, .int .u32 0, .slice none 0 0, .int .u64 0, .int .u32 0, .int .u32 0, .int .u32 0, .int .u32 0, .int .i64 0, .int .i64 0, .int .i64 0] 34
  clear hb HE HS
  go_wp2_with (refine at_store (t := 34) rfl ?_)
  generalize World.alloc _ _ = wa at HS1 ⊢
  generalize w1.heap.size = B1 at HS1 ⊢
  refine ⟨?_⟩
  refine HS1.storeAll rfl 34 (.tmp 1) (.tmp 7) rfl rfl [.int .u32 1, .bool false, .int .u32 0, .int .u32 0, .int .i64 (-1), .int .u32 0, .int .u32 0, .slice none 0 0, .int .u64 t1, .int .u32 t2, .int .u32 t3, .int .u32 t4, .int .u32 t5, .int .i64 t6, .int .i64 t7, .int .i64 t8] rfl (by kernel_rfl) rfl (by simp [Value.oneCell']) ?_
  intro we HSe
  clear HS1
  go_wp2_with (refine at_load (t := 34) rfl ?_)
  refine ⟨?_⟩
  refine St.loadAll (HSe.get (.head _)) rfl 34 (.tmp 1) rfl rfl _ Try.underlying34 rfl (by kernel_rfl) ?_
  go_wp2_with fail
  refine (record_Bytes.calls k 1 false 0 0 (-1) 0 0 none 0 [] t1 t2 t3 t4 t5 t6 t7 t8 b1 b2 _ (Kd.C_nil _ _) (Nat.le_refl _) HB.out).mono ?_
  rintro e w2 ⟨v0, rfl, ho, hb⟩
  have HS2 := HSe.made (hE := rfl) hb ho
  clear hb ho HB HSe
  obtain ⟨A0, c0, hv, hc0, hrd⟩ := row_reads (HS2.get (.head _))
  subst hv
  have HRD := Lib.hid hrd
  clear hrd
  go_wp2_with fail
  refine (record_Read.calls k A0 c0 b1 s1 s2 s3 s4 s5 s6 s7 s8 s9 s10 s11 s12 s13 s14 s15 s16 s17 _ HRD.out hc0 HR.out).mono ?_
  rintro e w3 ⟨v7, rfl, ho, hb⟩
  have HS3 := (HS2.made (hE := rfl) hb ho).alloc [.int .u32 0, .bool false, .int .u32 0, .int .u32 0, .int .i64 0, .int .u32 0, .int .u32 0, .slice none 0 0, .int .u64 0, .int .u32 0, .int .u32 0, .int .u32 0, .int .u32 0, .int .i64 0, .int .i64 0, .int .i64 0] 34
  clear hb ho HRD HR HS2
  obtain ⟨A7, c7, hv, hc7, hrd⟩ := row_reads (HS3.get (.tail _ (.head _)))
  subst hv
  clear hrd
  go_wp2_with (refine at_store (t := 34) rfl ?_)
  generalize World.alloc _ _ = wb at HS3 ⊢
  generalize w3.heap.size = B2 at HS3 ⊢
  refine ⟨?_⟩
  refine HS3.storeAll rfl 34 (.tmp 4) (.tmp 16) rfl rfl [.int .u32 s1, .bool s2, .int .u32 s3, .int .u32 s4, .int .i64 s5, .int .u32 s6, .int .u32 s7, .slice A7 s8.length c7, .int .u64 s9, .int .u32 s10, .int .u32 s11, .int .u32 s12, .int .u32 s13, .int .i64 s14, .int .i64 s15, .int .i64 s16] rfl (by kernel_rfl) rfl (by simp [Value.oneCell']) ?_
  intro wf HSf
  clear HS3
  have hbel := HSf.belowOf
  by_cases h0 : b2 = 0
  · by_cases h1 : s17 = 0
    · by_cases h2 : (b1.length : Int) = 50
      · have h := H.out
        rw [if_pos h0, if_pos h1, if_pos h2] at h
        obtain ⟨t, hS, h3⟩ := Option.bind_eq_some_iff.1 h
        have HSM := Lib.hid hS
        have H3 := Lib.hid h3
        clear h hS h3 H
        go_wp2_with (refine at_load (t := 34) rfl ?_)
        refine ⟨?_⟩
        refine gate_guard (by rfl) ?_
        dsimp only
        refine St.loadAll (HSf.get (.head _)) rfl 34 (.tmp 4) rfl rfl _ Try.underlying34 rfl (by kernel_rfl) ?_
        go_wp2_with (refine at_load (t := 34) rfl ?_)
        refine ⟨?_⟩
        refine gate_guard (by rfl) ?_
        dsimp only
        refine St.loadAll (HSf.get (.tail _ (.tail _ (.tail _ (.head _))))) rfl 34 (.tmp 1) rfl rfl _ Try.underlying34 rfl (by kernel_rfl) ?_
        go_wp2_with fail
        have hrd := (row_reads (HSf.get (.tail _ (.head _))))
        obtain ⟨A7', c7', hv, -, hrd⟩ := hrd
        injection hv with hv1 hv2 hv3
        subst hv1
        refine (record_Same.calls k s1 s2 s3 s4 s5 s6 s7 A7 c7 s8 s9 s10 s11 s12 s13 s14 s15 s16 1 false 0 0 (-1) 0 0 none 0 [] t1 t2 t3 t4 t5 t6 t7 t8 t _ hrd hc7 (Kd.C_nil _ _) (Nat.le_refl _) HSM.out).mono ?_
        rintro e wg ⟨rfl, hb⟩
        have HSg := HSf.below hb
        clear hb hrd HSf HSM hbel
        have hbel := HSg.belowOf
        cases t with
        | false =>
          have h := H3.out
          rw [if_neg (by decide)] at h
          obtain rfl := Option.some.inj h
          go_wp2_with fail
          go_ret
          exact ⟨rfl, hbel⟩
        | true =>
          have h := H3.out
          rw [if_pos rfl] at h
          obtain ⟨u, hu, hur⟩ := Option.bind_eq_some_iff.1 h
          obtain rfl := Option.some.inj hur
          clear H3 h hur
          go_wp2_with (refine at_load (t := 34) rfl ?_)
          refine ⟨?_⟩
          refine gate_guard (by rfl) ?_
          dsimp only
          refine St.loadAll (HSg.get (.tail _ (.tail _ (.tail _ (.head _))))) rfl 34 (.tmp 1) rfl rfl _ Try.underlying34 rfl (by kernel_rfl) ?_
          go_wp2_with fail
          refine (record_Right.calls k 1 false 0 0 (-1) 0 0 none 0 [] t1 t2 t3 t4 t5 t6 t7 t8 u _ (Kd.C_nil _ _) (Nat.le_refl _) hu).mono ?_
          rintro e wh ⟨rfl, hb⟩
          have hbel2 := (HSg.below hb).belowOf
          clear hb HSg
          go_wp2_with fail
          all_goals (go_ret; exact ⟨rfl, hbel2⟩)
      · have h := H.out
        rw [if_pos h0, if_pos h1, if_neg h2] at h
        obtain rfl := Option.some.inj h
        go_wp2_with fail
        go_ret
        exact ⟨rfl, hbel⟩
    · have h := H.out
      rw [if_pos h0, if_neg h1] at h
      obtain rfl := Option.some.inj h
      go_wp2_with fail
      go_ret
      exact ⟨rfl, hbel⟩
  · have h := H.out
    rw [if_neg h0] at h
    obtain rfl := Option.some.inj h
    go_wp2_with fail
    go_ret
    exact ⟨rfl, hbel⟩

/-! ### understudylaw14_RecordBack: function 5 -/
-- IMPORT Derived.Test.YtkiiangookibnaaSh
def back2 (k : Nat) (l1 : List Int) : Option Bool := (record_Read.f k l1).bind fun q => (record_Bytes.f k q.1 q.2.1 q.2.2.1 q.2.2.2.1 q.2.2.2.2.1 q.2.2.2.2.2.1 q.2.2.2.2.2.2.1 q.2.2.2.2.2.2.2.1 q.2.2.2.2.2.2.2.2.1 q.2.2.2.2.2.2.2.2.2.1 q.2.2.2.2.2.2.2.2.2.2.1 q.2.2.2.2.2.2.2.2.2.2.2.1 q.2.2.2.2.2.2.2.2.2.2.2.2.1 q.2.2.2.2.2.2.2.2.2.2.2.2.2.1 q.2.2.2.2.2.2.2.2.2.2.2.2.2.2.1 q.2.2.2.2.2.2.2.2.2.2.2.2.2.2.2.1).bind fun c => if q.2.2.2.2.2.2.2.2.2.2.2.2.2.2.2.2 ≠ 0 ∨ (c.2 = 0 ∧ c.1 = l1) then some true else none
def understudylaw14_RecordBack.f (k : Nat) (a0_0 : Int) (a0_1 : Bool) (a0_2 : Int) (a0_3 : Int) (a0_4 : Int) (a0_5 : Int) (a0_6 : Int) (l0_7 : List (S48)) (a0_8 : Int) (a0_9 : Int) (a0_10 : Int) (a0_11 : Int) (a0_12 : Int) (a0_13 : Int) (a0_14 : Int) (a0_15 : Int) (l1 : List Int) : Option Bool := (understudylaw14_recordAlive.f k).bind fun t => if t = true then (if 30 < (l0_7.length : Int) ∨ 500 < (l1.length : Int) then some true else
  (record_Bytes.f k a0_0 a0_1 a0_2 a0_3 a0_4 a0_5 a0_6 l0_7 a0_8 a0_9 a0_10 a0_11 a0_12 a0_13 a0_14 a0_15).bind fun b => (record_Right.f k a0_0 a0_1 a0_2 a0_3 a0_4 a0_5 a0_6 l0_7 a0_8 a0_9 a0_10 a0_11 a0_12 a0_13 a0_14 a0_15).bind fun rt => if (b.2 = 0 ↔ rt = true) ∧ (b.1.length : Int) ≤ 186 then
    (if b.2 = 0 then (record_Read.f k b.1).bind fun q => if q.2.2.2.2.2.2.2.2.2.2.2.2.2.2.2.2 = 0 then (record_Same.f k a0_0 a0_1 a0_2 a0_3 a0_4 a0_5 a0_6 l0_7 a0_8 a0_9 a0_10 a0_11 a0_12 a0_13 a0_14 a0_15 q.1 q.2.1 q.2.2.1 q.2.2.2.1 q.2.2.2.2.1 q.2.2.2.2.2.1 q.2.2.2.2.2.2.1 q.2.2.2.2.2.2.2.1 q.2.2.2.2.2.2.2.2.1 q.2.2.2.2.2.2.2.2.2.1 q.2.2.2.2.2.2.2.2.2.2.1 q.2.2.2.2.2.2.2.2.2.2.2.1 q.2.2.2.2.2.2.2.2.2.2.2.2.1 q.2.2.2.2.2.2.2.2.2.2.2.2.2.1 q.2.2.2.2.2.2.2.2.2.2.2.2.2.2.1 q.2.2.2.2.2.2.2.2.2.2.2.2.2.2.2.1).bind fun sm => if sm = true then back2 k l1 else none else none else back2 k l1) else none) else none
set_option maxHeartbeats 2000000 in
set_option maxRecDepth 100000 in
theorem understudylaw14_RecordBack.calls (k : Nat) (a0_0 : Int) (a0_1 : Bool) (a0_2 : Int) (a0_3 : Int) (a0_4 : Int) (a0_5 : Int) (a0_6 : Int) (A0_7 : Option Addr) (c0_7 : Nat) (l0_7 : List (S48)) (a0_8 : Int) (a0_9 : Int) (a0_10 : Int) (a0_11 : Int) (a0_12 : Int) (a0_13 : Int) (a0_14 : Int) (a0_15 : Int) (A1 : Option Addr) (c1 : Nat) (l1 : List Int) (r : Bool) (w : World) (hr0_7 : Kd.C k48 w A0_7 l0_7.length l0_7) (hc0_7 : l0_7.length ≤ c0_7) (hr1 : Kd.C (Kd.int .u8) w A1 l1.length l1) (hc1 : l1.length ≤ c1) (h : understudylaw14_RecordBack.f k a0_0 a0_1 a0_2 a0_3 a0_4 a0_5 a0_6 l0_7 a0_8 a0_9 a0_10 a0_11 a0_12 a0_13 a0_14 a0_15 l1 = some r) :
    Calls Try.prog 5 #[.agg #[.int .u32 a0_0, .bool a0_1, .int .u32 a0_2, .int .u32 a0_3, .int .i64 a0_4, .int .u32 a0_5, .int .u32 a0_6, .slice A0_7 l0_7.length c0_7, .int .u64 a0_8, .int .u32 a0_9, .int .u32 a0_10, .int .u32 a0_11, .int .u32 a0_12, .int .i64 a0_13, .int .i64 a0_14, .int .i64 a0_15], .slice A1 l1.length c1] w fun e w' => e = .returned (.bool r) ∧ Below w.heap.size w w' := by
  unfold understudylaw14_RecordBack.f at h
  obtain ⟨t, hA, h1⟩ := Option.bind_eq_some_iff.1 h
  clear h
  cases t with
  | false => rw [if_neg (by decide)] at h1; cases h1
  | true =>
  rw [if_pos rfl] at h1
  have HA := Lib.hid hA
  have H := Lib.hid h1
  have HX0 := Lib.hid hr0_7
  have HX1 := Lib.hid hr1
  clear hA h1 hr0_7 hr1
  have HS := (St.empty w).alloc [.int .u32 a0_0, .bool a0_1, .int .u32 a0_2, .int .u32 a0_3, .int .i64 a0_4, .int .u32 a0_5, .int .u32 a0_6, .slice A0_7 l0_7.length c0_7, .int .u64 a0_8, .int .u32 a0_9, .int .u32 a0_10, .int .u32 a0_11, .int .u32 a0_12, .int .i64 a0_13, .int .i64 a0_14, .int .i64 a0_15] 34
  go_enter Try.func5, Try.ntmps5
  go_wp2_with fail
  generalize World.alloc _ _ = w1 at HS ⊢
  obtain ⟨B0, hB0⟩ : ∃ B0, B0 = w.heap.size := ⟨_, rfl⟩
  rw [← hB0] at HS ⊢
  clear hB0
  refine (understudylaw14_recordAlive.calls k true _ HA.out).mono ?_
  rintro e w2 ⟨rfl, hb⟩
  have HS2 := HS.below hb
  clear hb HS HA
  have k7 := bkCell (HS2.get (.head _)) 7 _ rfl
  have hbel := HS2.belowOf
  have h := H.out
  clear H
  by_cases h30 : 30 < (l0_7.length : Int)
  · rw [if_pos (Or.inl h30)] at h
    obtain rfl := Option.some.inj h
    go_wp2_with fail
    go_ret
    exact ⟨rfl, hbel⟩
  by_cases h500 : 500 < (l1.length : Int)
  · rw [if_pos (Or.inr h500)] at h
    obtain rfl := Option.some.inj h
    go_wp2_with fail
    go_ret
    exact ⟨rfl, hbel⟩
  rw [if_neg (fun x => x.elim h30 h500)] at h
  obtain ⟨⟨b1, b2⟩, hB, h1⟩ := Option.bind_eq_some_iff.1 h
  clear h
  obtain ⟨rt, hRt, h⟩ := Option.bind_eq_some_iff.1 h1
  clear h1
  have HB := Lib.hid hB
  have HRt := Lib.hid hRt
  have H := Lib.hid h
  clear hB hRt h
  go_wp2_with (refine at_load (t := 34) rfl ?_)
  clear k7 hbel
  refine ⟨?_⟩
  refine St.loadAll (HS2.get (.head _)) rfl 34 (.tmp 2) rfl rfl _ Try.underlying34 rfl (by kernel_rfl) ?_
  go_wp2_with fail
  refine (record_Bytes.calls k a0_0 a0_1 a0_2 a0_3 a0_4 a0_5 a0_6 A0_7 c0_7 l0_7 a0_8 a0_9 a0_10 a0_11 a0_12 a0_13 a0_14 a0_15 b1 b2 _ (Kd.C_below HX0.out HS2.belowOf) hc0_7 HB.out).mono ?_
  rintro e w3 ⟨v0, rfl, ho, hb⟩
  have HS3 := HS2.made (hE := rfl) hb ho
  clear hb ho HB HS2
  obtain ⟨Ab, cb, hv, hcb, hrd⟩ := row_reads (HS3.get (.head _))
  subst hv
  clear hrd
  go_wp2_with (refine at_load (t := 34) rfl ?_)
  refine ⟨?_⟩
  refine St.loadAll (HS3.get (.tail _ (.head _))) rfl 34 (.tmp 2) rfl rfl _ Try.underlying34 rfl (by kernel_rfl) ?_
  go_wp2_with fail
  refine (record_Right.calls k a0_0 a0_1 a0_2 a0_3 a0_4 a0_5 a0_6 A0_7 c0_7 l0_7 a0_8 a0_9 a0_10 a0_11 a0_12 a0_13 a0_14 a0_15 rt _ (Kd.C_below HX0.out HS3.belowOf) hc0_7 HRt.out).mono ?_
  rintro e w4 ⟨rfl, hb⟩
  have HS4 := HS3.below hb
  clear hb HRt HS3
  have h := H.out
  clear H
  by_cases hc : (b2 = 0 ↔ rt = true) ∧ (b1.length : Int) ≤ 186
  rotate_left
  · rw [if_neg hc] at h; cases h
  rw [if_pos hc] at h
  obtain ⟨hc0, h186⟩ := hc
  by_cases h0 : b2 = 0
  · rw [if_pos h0] at h
    obtain rfl : rt = true := hc0.1 h0
    obtain ⟨⟨s1, s2, s3, s4, s5, s6, s7, s8, s9, s10, s11, s12, s13, s14, s15, s16, s17⟩, hR, h1⟩ := Option.bind_eq_some_iff.1 h
    clear h
    by_cases h17 : s17 = 0
    rotate_left
    · rw [if_neg h17] at h1; cases h1
    rw [if_pos h17] at h1
    obtain ⟨sm, hSm, h⟩ := Option.bind_eq_some_iff.1 h1
    clear h1
    cases sm with
    | false => rw [if_neg (by decide)] at h; cases h
    | true =>
    rw [if_pos rfl] at h
    have HR := Lib.hid hR
    have HSm := Lib.hid hSm
    have HP := Lib.hid h
    clear hR hSm h
    go_wp2_with fail
    have hrd := (row_C (HS4.get (.head _))).2.2
    refine (record_Read.calls k Ab cb b1 s1 s2 s3 s4 s5 s6 s7 s8 s9 s10 s11 s12 s13 s14 s15 s16 s17 _ hrd hcb HR.out).mono ?_
    rintro e w5 ⟨v7, rfl, ho, hb⟩
    have HS5 := (HS4.made (hE := rfl) hb ho).alloc [.int .u32 0, .bool false, .int .u32 0, .int .u32 0, .int .i64 0, .int .u32 0, .int .u32 0, .slice none 0 0, .int .u64 0, .int .u32 0, .int .u32 0, .int .u32 0, .int .u32 0, .int .i64 0, .int .i64 0, .int .i64 0] 34
    clear hb ho HR HS4 hrd
    obtain ⟨A7, c7, hv, hc7, hrd⟩ := row_reads (HS5.get (.tail _ (.head _)))
    subst hv
    clear hrd
    go_wp2_with (refine at_store (t := 34) rfl ?_)
    generalize World.alloc _ _ = w6 at HS5 ⊢
    generalize w5.heap.size = B7 at HS5 ⊢
    refine ⟨?_⟩
    refine HS5.storeAll rfl 34 (.tmp 7) (.tmp 44) rfl rfl [.int .u32 s1, .bool s2, .int .u32 s3, .int .u32 s4, .int .i64 s5, .int .u32 s6, .int .u32 s7, .slice A7 s8.length c7, .int .u64 s9, .int .u32 s10, .int .u32 s11, .int .u32 s12, .int .u32 s13, .int .i64 s14, .int .i64 s15, .int .i64 s16] rfl (by kernel_rfl) rfl (by simp [Value.oneCell']) ?_
    intro w7 HS7
    clear HS5
    go_wp2_with (refine at_load (t := 34) rfl ?_)
    refine ⟨?_⟩
    refine gate_guard (by rfl) ?_
    dsimp only
    refine St.loadAll (HS7.get (.tail _ (.tail _ (.tail _ (.head _))))) rfl 34 (.tmp 2) rfl rfl _ Try.underlying34 rfl (by kernel_rfl) ?_
    go_wp2_with (refine at_load (t := 34) rfl ?_)
    refine ⟨?_⟩
    refine gate_guard (by rfl) ?_
    dsimp only
    refine St.loadAll (HS7.get (.head _)) rfl 34 (.tmp 7) rfl rfl _ Try.underlying34 rfl (by kernel_rfl) ?_
    go_wp2_with fail
    have hrd := (row_C (HS7.get (.tail _ (.head _)))).2.2
    refine (record_Same.calls k a0_0 a0_1 a0_2 a0_3 a0_4 a0_5 a0_6 A0_7 c0_7 l0_7 a0_8 a0_9 a0_10 a0_11 a0_12 a0_13 a0_14 a0_15 s1 s2 s3 s4 s5 s6 s7 A7 c7 s8 s9 s10 s11 s12 s13 s14 s15 s16 true _ (Kd.C_below HX0.out HS7.belowOf) hc0_7 hrd hc7 HSm.out).mono ?_
    rintro e w8 ⟨rfl, hb⟩
    have HS8 := HS7.below hb
    clear hb hrd HS7 HSm
    have hp := HP.out
    clear HP
    unfold back2 at hp
    obtain ⟨⟨p1, p2, p3, p4, p5, p6, p7, p8, p9, p10, p11, p12, p13, p14, p15, p16, p17⟩, hR2, hp1⟩ := Option.bind_eq_some_iff.1 hp
    clear hp
    obtain ⟨⟨e1_, e2_⟩, hB2, hp⟩ := Option.bind_eq_some_iff.1 hp1
    clear hp1
    have HR2 := Lib.hid hR2
    have HB2 := Lib.hid hB2
    have HP := Lib.hid hp
    clear hR2 hB2 hp
    go_wp2_with fail
    all_goals try (rename_i hz; exact (hz.elim (fun h => h0 (by simpa using h)) (fun h => by omega)).elim)
    refine (record_Read.calls k A1 c1 l1 p1 p2 p3 p4 p5 p6 p7 p8 p9 p10 p11 p12 p13 p14 p15 p16 p17 _ (Kd.C_below HX1.out HS8.belowOf) hc1 HR2.out).mono ?_
    rintro e wr ⟨v7p, rfl, ho, hb⟩
    have HSr := (HS8.made (hE := rfl) hb ho).alloc [.int .u32 0, .bool false, .int .u32 0, .int .u32 0, .int .i64 0, .int .u32 0, .int .u32 0, .slice none 0 0, .int .u64 0, .int .u32 0, .int .u32 0, .int .u32 0, .int .u32 0, .int .i64 0, .int .i64 0, .int .i64 0] 34
    clear hb ho HR2 HS8
    obtain ⟨Ap, cp, hv, hcp, hrd⟩ := row_reads (HSr.get (.tail _ (.head _)))
    subst hv
    clear hrd
    go_wp2_with (refine at_store (t := 34) rfl ?_)
    generalize World.alloc _ _ = wr2 at HSr ⊢
    generalize wr.heap.size = B9 at HSr ⊢
    refine ⟨?_⟩
    refine HSr.storeAll rfl 34 (.tmp 9) (.tmp 57) rfl rfl [.int .u32 p1, .bool p2, .int .u32 p3, .int .u32 p4, .int .i64 p5, .int .u32 p6, .int .u32 p7, .slice Ap p8.length cp, .int .u64 p9, .int .u32 p10, .int .u32 p11, .int .u32 p12, .int .u32 p13, .int .i64 p14, .int .i64 p15, .int .i64 p16] rfl (by kernel_rfl) rfl (by simp [Value.oneCell']) ?_
    intro ws HSs
    clear HSr
    go_wp2_with (refine at_load (t := 34) rfl ?_)
    refine ⟨?_⟩
    refine St.loadAll (HSs.get (.head _)) rfl 34 (.tmp 9) rfl rfl _ Try.underlying34 rfl (by kernel_rfl) ?_
    have hrd := (row_C (HSs.get (.tail _ (.head _)))).2.2
    go_wp2_with fail
    refine (record_Bytes.calls k p1 p2 p3 p4 p5 p6 p7 Ap cp p8 p9 p10 p11 p12 p13 p14 p15 p16 e1_ e2_ _ hrd hcp HB2.out).mono ?_
    rintro e wt ⟨vc, rfl, ho, hb⟩
    have HSt := HSs.made (hE := rfl) hb ho
    clear hb ho hrd HB2 HSs
    obtain ⟨Ac, cc, hv, hcc, hrd⟩ := row_reads (HSt.get (.head _))
    subst hv
    have hs1 := Kd.C_string (P := Try.prog) (A := Ac) (c := cc) Try.underlying22 Try.underlying5 Try.underlying9 hrd
    have hs2 := Kd.C_string (P := Try.prog) (A := A1) (c := c1) Try.underlying22 Try.underlying5 Try.underlying9 (Kd.C_below HX1.out HSt.belowOf)
    have hbel := HSt.belowOf
    clear HSt hrd
    have hp := HP.out
    clear HP
    by_cases he : p17 = 0
    · by_cases hc2 : e2_ = 0
      · by_cases hc1' : e1_ = l1
        · rw [if_pos (Or.inr ⟨hc2, hc1'⟩)] at hp
          obtain rfl := Option.some.inj hp
          subst hc1'
          go_wp2_with fail
          go_ret
          exact ⟨by simp [*], hbel⟩
        · rw [if_neg (fun h => h.elim (fun h => h he) (fun h => hc1' h.2))] at hp
          cases hp
      · rw [if_neg (fun h => h.elim (fun h => h he) (fun h => hc2 h.1))] at hp
        cases hp
    · rw [if_pos (Or.inl he)] at hp
      obtain rfl := Option.some.inj hp
      go_wp2_with fail
      go_ret
      exact ⟨by simp [*], hbel⟩
  · rw [if_neg h0] at h
    have hrt : rt = false := by cases rt with | true => exact absurd (hc0.2 rfl) h0 | false => rfl
    subst hrt
    have HP := Lib.hid h
    clear h
    have hp := HP.out
    clear HP
    unfold back2 at hp
    obtain ⟨⟨p1, p2, p3, p4, p5, p6, p7, p8, p9, p10, p11, p12, p13, p14, p15, p16, p17⟩, hR2, hp1⟩ := Option.bind_eq_some_iff.1 hp
    clear hp
    obtain ⟨⟨e1_, e2_⟩, hB2, hp⟩ := Option.bind_eq_some_iff.1 hp1
    clear hp1
    have HR2 := Lib.hid hR2
    have HB2 := Lib.hid hB2
    have HP := Lib.hid hp
    clear hR2 hB2 hp
    go_wp2_with fail
    all_goals try (rename_i hz; exact (hz.elim (fun h => h0 (by simpa using h)) (fun h => by omega)).elim)
    refine (record_Read.calls k A1 c1 l1 p1 p2 p3 p4 p5 p6 p7 p8 p9 p10 p11 p12 p13 p14 p15 p16 p17 _ (Kd.C_below HX1.out HS4.belowOf) hc1 HR2.out).mono ?_
    rintro e wr ⟨v7p, rfl, ho, hb⟩
    have HSr := (HS4.made (hE := rfl) hb ho).alloc [.int .u32 0, .bool false, .int .u32 0, .int .u32 0, .int .i64 0, .int .u32 0, .int .u32 0, .slice none 0 0, .int .u64 0, .int .u32 0, .int .u32 0, .int .u32 0, .int .u32 0, .int .i64 0, .int .i64 0, .int .i64 0] 34
    clear hb ho HR2 HS4
    obtain ⟨Ap, cp, hv, hcp, hrd⟩ := row_reads (HSr.get (.tail _ (.head _)))
    subst hv
    clear hrd
    go_wp2_with (refine at_store (t := 34) rfl ?_)
    generalize World.alloc _ _ = wr2 at HSr ⊢
    generalize wr.heap.size = B9 at HSr ⊢
    refine ⟨?_⟩
    refine HSr.storeAll rfl 34 (.tmp 9) (.tmp 57) rfl rfl [.int .u32 p1, .bool p2, .int .u32 p3, .int .u32 p4, .int .i64 p5, .int .u32 p6, .int .u32 p7, .slice Ap p8.length cp, .int .u64 p9, .int .u32 p10, .int .u32 p11, .int .u32 p12, .int .u32 p13, .int .i64 p14, .int .i64 p15, .int .i64 p16] rfl (by kernel_rfl) rfl (by simp [Value.oneCell']) ?_
    intro ws HSs
    clear HSr
    go_wp2_with (refine at_load (t := 34) rfl ?_)
    refine ⟨?_⟩
    refine St.loadAll (HSs.get (.head _)) rfl 34 (.tmp 9) rfl rfl _ Try.underlying34 rfl (by kernel_rfl) ?_
    have hrd := (row_C (HSs.get (.tail _ (.head _)))).2.2
    go_wp2_with fail
    refine (record_Bytes.calls k p1 p2 p3 p4 p5 p6 p7 Ap cp p8 p9 p10 p11 p12 p13 p14 p15 p16 e1_ e2_ _ hrd hcp HB2.out).mono ?_
    rintro e wt ⟨vc, rfl, ho, hb⟩
    have HSt := HSs.made (hE := rfl) hb ho
    clear hb ho hrd HB2 HSs
    obtain ⟨Ac, cc, hv, hcc, hrd⟩ := row_reads (HSt.get (.head _))
    subst hv
    have hs1 := Kd.C_string (P := Try.prog) (A := Ac) (c := cc) Try.underlying22 Try.underlying5 Try.underlying9 hrd
    have hs2 := Kd.C_string (P := Try.prog) (A := A1) (c := c1) Try.underlying22 Try.underlying5 Try.underlying9 (Kd.C_below HX1.out HSt.belowOf)
    have hbel := HSt.belowOf
    clear HSt hrd
    have hp := HP.out
    clear HP
    by_cases he : p17 = 0
    · by_cases hc2 : e2_ = 0
      · by_cases hc1' : e1_ = l1
        · rw [if_pos (Or.inr ⟨hc2, hc1'⟩)] at hp
          obtain rfl := Option.some.inj hp
          subst hc1'
          go_wp2_with fail
          go_ret
          exact ⟨by simp [*], hbel⟩
        · rw [if_neg (fun h => h.elim (fun h => h he) (fun h => hc1' h.2))] at hp
          cases hp
      · rw [if_neg (fun h => h.elim (fun h => h he) (fun h => hc2 h.1))] at hp
        cases hp
    · rw [if_pos (Or.inl he)] at hp
      obtain rfl := Option.some.inj hp
      go_wp2_with fail
      go_ret
      exact ⟨by simp [*], hbel⟩

end Go.Proofs.Ytkiiangookibnaa.PRecordBack
