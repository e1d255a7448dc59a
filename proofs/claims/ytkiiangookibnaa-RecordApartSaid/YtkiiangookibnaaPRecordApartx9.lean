-- Printed by a program of this session (wip/printx.py), which runs the kit's print with texts of its own put in.
import Derived.Test.YtkiiangookibnaaPRecordApartx0
import Derived.Test.YtkiiangookibnaaPRecordApartx4
import Derived.Test.YtkiiangookibnaaPRecordApartx5
import Derived.Test.YtkiiangookibnaaPRecordApartx7
import Derived.Test.YtkiiangookibnaaPRecordApartx8
import Derived.Test.YtkiiangookibnaaFreeR
import Derived.Test.YtkiiangookibnaaSh
namespace Go.Proofs.Ytkiiangookibnaa.PRecordApart
open Go.RowKit Go.Proofs.YtkiiangookibnaaW.PrintWords Go.Proofs.YtkiiangookibnaaW.PrintLast Go.Proofs.YtkiiangookibnaaW.PrintMore
attribute [local go_sem] max2_int min2_int max_two min_two max_three min_three max_four min_four   -- for this text's walks alone
set_option linter.unusedVariables false
set_option linter.unusedSimpArgs false

/-! ### understudylaw14_recordAlive: function 10 -/
-- IMPORT Derived.Test.YtkiiangookibnaaSh
def understudylaw14_recordAlive.f (k : Nat) : Option (Bool) := (record_Empty.f).bind fun bt174 => ((record_Bytes.f k 1 false 0 0 (-1) 0 0 ([] : List (S48)) bt174.1 bt174.2.1 bt174.2.2.1 bt174.2.2.2.1 bt174.2.2.2.2.1 bt174.2.2.2.2.2.1 bt174.2.2.2.2.2.2.1 bt174.2.2.2.2.2.2.2).bind fun bt183 => ((record_Read.f k bt183.1).bind fun bt187 => (if bt183.2 = 0 then (if bt187.2.2.2.2.2.2.2.2.2.2.2.2.2.2.2.2 = 0 then (if (bt183.1.length : Int) = 50 then ((record_Same.f k bt187.1 bt187.2.1 bt187.2.2.1 bt187.2.2.2.1 bt187.2.2.2.2.1 bt187.2.2.2.2.2.1 bt187.2.2.2.2.2.2.1 bt187.2.2.2.2.2.2.2.1 bt187.2.2.2.2.2.2.2.2.1 bt187.2.2.2.2.2.2.2.2.2.1 bt187.2.2.2.2.2.2.2.2.2.2.1 bt187.2.2.2.2.2.2.2.2.2.2.2.1 bt187.2.2.2.2.2.2.2.2.2.2.2.2.1 bt187.2.2.2.2.2.2.2.2.2.2.2.2.2.1 bt187.2.2.2.2.2.2.2.2.2.2.2.2.2.2.1 bt187.2.2.2.2.2.2.2.2.2.2.2.2.2.2.2.1 1 false 0 0 (-1) 0 0 ([] : List (S48)) bt174.1 bt174.2.1 bt174.2.2.1 bt174.2.2.2.1 bt174.2.2.2.2.1 bt174.2.2.2.2.2.1 bt174.2.2.2.2.2.2.1 bt174.2.2.2.2.2.2.2).bind fun t207 => (if t207 = true then ((record_Right.f k 1 false 0 0 (-1) 0 0 ([] : List (S48)) bt174.1 bt174.2.1 bt174.2.2.1 bt174.2.2.2.1 bt174.2.2.2.2.1 bt174.2.2.2.2.2.1 bt174.2.2.2.2.2.2.1 bt174.2.2.2.2.2.2.2).bind fun t208 => (some t208)) else (some false))) else (some false)) else (some false)) else (some false))))
theorem understudylaw14_recordAlive.mono : ∀ k, LeO (understudylaw14_recordAlive.f k) (understudylaw14_recordAlive.f (k + 1)) := by
  intro k
  unfold understudylaw14_recordAlive.f
  repeat' first
      | (with_reducible exact record_Bytes.mono _ _ _ _ _ _ _ _ _ _ _ _ _ _ _ _ _)
      | (with_reducible exact record_Read.mono _ _)
      | (with_reducible exact record_Right.mono _ _ _ _ _ _ _ _ _ _ _ _ _ _ _ _ _)
      | (with_reducible exact record_Same.mono _ _ _ _ _ _ _ _ _ _ _ _ _ _ _ _ _ _ _ _ _ _ _ _ _ _ _ _ _ _ _ _ _)
      | (with_reducible exact LeO.refl _)
      | (with_reducible exact LeO.none _)
      | (with_reducible refine LeO.ite ?_ ?_)
      | (with_reducible refine LeO.bind ?_ (fun _ => ?_))
set_option maxHeartbeats 8000000 in
set_option maxRecDepth 100000 in
theorem understudylaw14_recordAlive.calls (k : Nat) (r : Bool) (w : World) (h : understudylaw14_recordAlive.f k = some r) :
    Calls Try.prog 10 #[] w fun e w' => e = .returned (.bool r) ∧ Below w.heap.size w w' := by
  unfold understudylaw14_recordAlive.f at h
  obtain ⟨⟨t1, t2, t3, t4, t5, t6, t7, t8⟩, hE, h1⟩ := Option.bind_eq_some_iff.1 h
  clear h
  obtain ⟨⟨b1, b2⟩, hB, h⟩ := Option.bind_eq_some_iff.1 h1
  clear h1
  obtain ⟨⟨s1, s2, s3, s4, s5, s6, s7, s8, s9, s10, s11, s12, s13, s14, s15, s16, s17⟩, hR, h1⟩ := Option.bind_eq_some_iff.1 h
  clear h
  have HE := Lib.hid hE
  have HB := Lib.hid hB
  have HR := Lib.hid hR
  have H := Lib.hid h1
  clear hE hB hR h1
  have HS := St.empty w
  go_enter Try.func10, Try.ntmps10
  go_wp2_with fail
  refine (record_Empty.calls t1 t2 t3 t4 t5 t6 t7 t8 _ HE.out).mono ?_
  rintro e w1 ⟨rfl, hb⟩
  have HS1 := (HS.below hb).alloc [.int .u32 0, .bool false, .int .u32 0, .int .u32 0, .int .i64 0, .int .u32 0, .int .u32 0, .slice none 0 0, .int .u64 0, .int .u32 0, .int .u32 0, .int .u32 0, .int .u32 0, .int .i64 0, .int .i64 0, .int .i64 0] 34
  clear hb HE HS
  go_wp2_with (refine at_store (t := 34) rfl ?_)
  generalize World.alloc _ _ = wa at HS1 ⊢
  generalize w1.heap.size = B1 at HS1 ⊢
  refine ⟨?_⟩
  refine HS1.storeAll rfl 34 (.tmp 1) (.tmp 7) rfl rfl [.int .u32 1, .bool false, .int .u32 0, .int .u32 0, .int .i64 (-1), .int .u32 0, .int .u32 0, .slice none 0 0, .int .u64 t1, .int .u32 t2, .int .u32 t3, .int .u32 t4, .int .u32 t5, .int .i64 t6, .int .i64 t7, .int .i64 t8] rfl (by kernel_rfl) rfl (by simp [Value.oneCell']) ?_
  intro we HSe
  clear HS1
  go_wp2_with (refine at_load (t := 34) rfl ?_)
  refine ⟨?_⟩
  refine St.loadAll (HSe.get (.head _)) rfl 34 (.tmp 1) rfl rfl _ Try.underlying34 rfl (by kernel_rfl) ?_
  go_wp2_with fail
  refine (record_Bytes.calls k 1 false 0 0 (-1) 0 0 none 0 [] t1 t2 t3 t4 t5 t6 t7 t8 b1 b2 _ (Kd.C_nil _ _) (Nat.le_refl _) HB.out).mono ?_
  rintro e w2 ⟨v0, rfl, ho, hb⟩
  have HS2 := HSe.made (hE := rfl) hb ho
  clear hb ho HB HSe
  obtain ⟨A0, c0, hv, hc0, hrd⟩ := row_reads (HS2.get (.head _))
  subst hv
  have HRD := Lib.hid hrd
  clear hrd
  go_wp2_with fail
  refine (record_Read.calls k A0 c0 b1 s1 s2 s3 s4 s5 s6 s7 s8 s9 s10 s11 s12 s13 s14 s15 s16 s17 _ HRD.out hc0 HR.out).mono ?_
  rintro e w3 ⟨v7, rfl, ho, hb⟩
  have HS3 := (HS2.made (hE := rfl) hb ho).alloc [.int .u32 0, .bool false, .int .u32 0, .int .u32 0, .int .i64 0, .int .u32 0, .int .u32 0, .slice none 0 0, .int .u64 0, .int .u32 0, .int .u32 0, .int .u32 0, .int .u32 0, .int .i64 0, .int .i64 0, .int .i64 0] 34
  clear hb ho HRD HR HS2
  obtain ⟨A7, c7, hv, hc7, hrd⟩ := row_reads (HS3.get (.tail _ (.head _)))
  subst hv
  clear hrd
  go_wp2_with (refine at_store (t := 34) rfl ?_)
  generalize World.alloc _ _ = wb at HS3 ⊢
  generalize w3.heap.size = B2 at HS3 ⊢
  refine ⟨?_⟩
  refine HS3.storeAll rfl 34 (.tmp 4) (.tmp 16) rfl rfl [.int .u32 s1, .bool s2, .int .u32 s3, .int .u32 s4, .int .i64 s5, .int .u32 s6, .int .u32 s7, .slice A7 s8.length c7, .int .u64 s9, .int .u32 s10, .int .u32 s11, .int .u32 s12, .int .u32 s13, .int .i64 s14, .int .i64 s15, .int .i64 s16] rfl (by kernel_rfl) rfl (by simp [Value.oneCell']) ?_
  intro wf HSf
  clear HS3
  have hbel := HSf.belowOf
  by_cases h0 : b2 = 0
  · by_cases h1 : s17 = 0
    · by_cases h2 : (b1.length : Int) = 50
      · have h := H.out
        rw [if_pos h0, if_pos h1, if_pos h2] at h
        obtain ⟨t, hS, h3⟩ := Option.bind_eq_some_iff.1 h
        have HSM := Lib.hid hS
        have H3 := Lib.hid h3
        clear h hS h3 H
        go_wp2_with (refine at_load (t := 34) rfl ?_)
        refine ⟨?_⟩
        refine gate_guard (by rfl) ?_
        dsimp only
        refine St.loadAll (HSf.get (.head _)) rfl 34 (.tmp 4) rfl rfl _ Try.underlying34 rfl (by kernel_rfl) ?_
        go_wp2_with (refine at_load (t := 34) rfl ?_)
        refine ⟨?_⟩
        refine gate_guard (by rfl) ?_
        dsimp only
        refine St.loadAll (HSf.get (.tail _ (.tail _ (.tail _ (.head _))))) rfl 34 (.tmp 1) rfl rfl _ Try.underlying34 rfl (by kernel_rfl) ?_
        go_wp2_with fail
        have hrd := (row_reads (HSf.get (.tail _ (.head _))))
        obtain ⟨A7', c7', hv, -, hrd⟩ := hrd
        injection hv with hv1 hv2 hv3
        subst hv1
        refine (record_Same.calls k s1 s2 s3 s4 s5 s6 s7 A7 c7 s8 s9 s10 s11 s12 s13 s14 s15 s16 1 false 0 0 (-1) 0 0 none 0 [] t1 t2 t3 t4 t5 t6 t7 t8 t _ hrd hc7 (Kd.C_nil _ _) (Nat.le_refl _) HSM.out).mono ?_
        rintro e wg ⟨rfl, hb⟩
        have HSg := HSf.below hb
        clear hb hrd HSf HSM hbel
        have hbel := HSg.belowOf
        cases t with
        | false =>
          have h := H3.out
          rw [if_neg (by decide)] at h
          obtain rfl := Option.some.inj h
          go_wp2_with fail
          go_ret
          exact ⟨rfl, hbel⟩
        | true =>
          have h := H3.out
          rw [if_pos rfl] at h
          obtain ⟨u, hu, hur⟩ := Option.bind_eq_some_iff.1 h
          obtain rfl := Option.some.inj hur
          clear H3 h hur
          go_wp2_with (refine at_load (t := 34) rfl ?_)
          refine ⟨?_⟩
          refine gate_guard (by rfl) ?_
          dsimp only
          refine St.loadAll (HSg.get (.tail _ (.tail _ (.tail _ (.head _))))) rfl 34 (.tmp 1) rfl rfl _ Try.underlying34 rfl (by kernel_rfl) ?_
          go_wp2_with fail
          refine (record_Right.calls k 1 false 0 0 (-1) 0 0 none 0 [] t1 t2 t3 t4 t5 t6 t7 t8 u _ (Kd.C_nil _ _) (Nat.le_refl _) hu).mono ?_
          rintro e wh ⟨rfl, hb⟩
          have hbel2 := (HSg.below hb).belowOf
          clear hb HSg
          go_wp2_with fail
          all_goals (go_ret; exact ⟨rfl, hbel2⟩)
      · have h := H.out
        rw [if_pos h0, if_pos h1, if_neg h2] at h
        obtain rfl := Option.some.inj h
        go_wp2_with fail
        go_ret
        exact ⟨rfl, hbel⟩
    · have h := H.out
      rw [if_pos h0, if_neg h1] at h
      obtain rfl := Option.some.inj h
      go_wp2_with fail
      go_ret
      exact ⟨rfl, hbel⟩
  · have h := H.out
    rw [if_neg h0] at h
    obtain rfl := Option.some.inj h
    go_wp2_with fail
    go_ret
    exact ⟨rfl, hbel⟩

/-! ### understudylaw14_RecordApart: function 6 -/
-- IMPORT Derived.Test.YtkiiangookibnaaFreeR
def understudylaw14_RecordApart.f (k : Nat) (a0_0 : Int) (a0_1 : Bool) (a0_2 : Int) (a0_3 : Int) (a0_4 : Int) (a0_5 : Int) (a0_6 : Int) (l0_7 : List (S48)) (a0_8 : Int) (a0_9 : Int) (a0_10 : Int) (a0_11 : Int) (a0_12 : Int) (a0_13 : Int) (a0_14 : Int) (a0_15 : Int) (a1_0 : Int) (a1_1 : Bool) (a1_2 : Int) (a1_3 : Int) (a1_4 : Int) (a1_5 : Int) (a1_6 : Int) (l1_7 : List (S48)) (a1_8 : Int) (a1_9 : Int) (a1_10 : Int) (a1_11 : Int) (a1_12 : Int) (a1_13 : Int) (a1_14 : Int) (a1_15 : Int) : Option Bool := (understudylaw14_recordAlive.f k).bind fun t => if t = true then (if 30 < (l0_7.length : Int) ∨ 30 < (l1_7.length : Int) then some true else
  (record_Right.f k a0_0 a0_1 a0_2 a0_3 a0_4 a0_5 a0_6 l0_7 a0_8 a0_9 a0_10 a0_11 a0_12 a0_13 a0_14 a0_15).bind fun ra => if ra = true then (record_Right.f k a1_0 a1_1 a1_2 a1_3 a1_4 a1_5 a1_6 l1_7 a1_8 a1_9 a1_10 a1_11 a1_12 a1_13 a1_14 a1_15).bind fun rb => if rb = true then (record_Bytes.f k a0_0 a0_1 a0_2 a0_3 a0_4 a0_5 a0_6 l0_7 a0_8 a0_9 a0_10 a0_11 a0_12 a0_13 a0_14 a0_15).bind fun b => (record_Bytes.f k a1_0 a1_1 a1_2 a1_3 a1_4 a1_5 a1_6 l1_7 a1_8 a1_9 a1_10 a1_11 a1_12 a1_13 a1_14 a1_15).bind fun c => (record_Same.f k a0_0 a0_1 a0_2 a0_3 a0_4 a0_5 a0_6 l0_7 a0_8 a0_9 a0_10 a0_11 a0_12 a0_13 a0_14 a0_15 a1_0 a1_1 a1_2 a1_3 a1_4 a1_5 a1_6 l1_7 a1_8 a1_9 a1_10 a1_11 a1_12 a1_13 a1_14 a1_15).bind fun sm =>
    if b.2 = 0 ∧ c.2 = 0 ∧ ((strOfNums b.1).toList == (strOfNums c.1).toList) = sm ∧ (b.1.length : Int) = wrap64 (50 + wrap64 (13 * (l0_7.length : Int))) then some true else none else some true else some true) else none
set_option maxHeartbeats 4000000 in
set_option maxRecDepth 100000 in
theorem understudylaw14_RecordApart.calls (k : Nat) (a0_0 : Int) (a0_1 : Bool) (a0_2 : Int) (a0_3 : Int) (a0_4 : Int) (a0_5 : Int) (a0_6 : Int) (A0_7 : Option Addr) (c0_7 : Nat) (l0_7 : List (S48)) (a0_8 : Int) (a0_9 : Int) (a0_10 : Int) (a0_11 : Int) (a0_12 : Int) (a0_13 : Int) (a0_14 : Int) (a0_15 : Int) (a1_0 : Int) (a1_1 : Bool) (a1_2 : Int) (a1_3 : Int) (a1_4 : Int) (a1_5 : Int) (a1_6 : Int) (A1_7 : Option Addr) (c1_7 : Nat) (l1_7 : List (S48)) (a1_8 : Int) (a1_9 : Int) (a1_10 : Int) (a1_11 : Int) (a1_12 : Int) (a1_13 : Int) (a1_14 : Int) (a1_15 : Int) (r : Bool) (w : World) (hr0_7 : Kd.C k48 w A0_7 l0_7.length l0_7) (hc0_7 : l0_7.length ≤ c0_7) (hr1_7 : Kd.C k48 w A1_7 l1_7.length l1_7) (hc1_7 : l1_7.length ≤ c1_7) (h : understudylaw14_RecordApart.f k a0_0 a0_1 a0_2 a0_3 a0_4 a0_5 a0_6 l0_7 a0_8 a0_9 a0_10 a0_11 a0_12 a0_13 a0_14 a0_15 a1_0 a1_1 a1_2 a1_3 a1_4 a1_5 a1_6 l1_7 a1_8 a1_9 a1_10 a1_11 a1_12 a1_13 a1_14 a1_15 = some r) :
    Calls Try.prog 6 #[.agg #[.int .u32 a0_0, .bool a0_1, .int .u32 a0_2, .int .u32 a0_3, .int .i64 a0_4, .int .u32 a0_5, .int .u32 a0_6, .slice A0_7 l0_7.length c0_7, .int .u64 a0_8, .int .u32 a0_9, .int .u32 a0_10, .int .u32 a0_11, .int .u32 a0_12, .int .i64 a0_13, .int .i64 a0_14, .int .i64 a0_15], .agg #[.int .u32 a1_0, .bool a1_1, .int .u32 a1_2, .int .u32 a1_3, .int .i64 a1_4, .int .u32 a1_5, .int .u32 a1_6, .slice A1_7 l1_7.length c1_7, .int .u64 a1_8, .int .u32 a1_9, .int .u32 a1_10, .int .u32 a1_11, .int .u32 a1_12, .int .i64 a1_13, .int .i64 a1_14, .int .i64 a1_15]] w fun e w' => e = .returned (.bool r) ∧ Below w.heap.size w w' := by
  unfold understudylaw14_RecordApart.f at h
  obtain ⟨t, hA, h1⟩ := Option.bind_eq_some_iff.1 h
  clear h
  cases t with
  | false => rw [if_neg (by decide)] at h1; cases h1
  | true =>
  rw [if_pos rfl] at h1
  have HA := Lib.hid hA
  have H := Lib.hid h1
  have HX0 := Lib.hid hr0_7
  have HX1 := Lib.hid hr1_7
  clear hA h1 hr0_7 hr1_7
  have HS := (St.empty w).alloc2 [.int .u32 a0_0, .bool a0_1, .int .u32 a0_2, .int .u32 a0_3, .int .i64 a0_4, .int .u32 a0_5, .int .u32 a0_6, .slice A0_7 l0_7.length c0_7, .int .u64 a0_8, .int .u32 a0_9, .int .u32 a0_10, .int .u32 a0_11, .int .u32 a0_12, .int .i64 a0_13, .int .i64 a0_14, .int .i64 a0_15] [.int .u32 a1_0, .bool a1_1, .int .u32 a1_2, .int .u32 a1_3, .int .i64 a1_4, .int .u32 a1_5, .int .u32 a1_6, .slice A1_7 l1_7.length c1_7, .int .u64 a1_8, .int .u32 a1_9, .int .u32 a1_10, .int .u32 a1_11, .int .u32 a1_12, .int .i64 a1_13, .int .i64 a1_14, .int .i64 a1_15] 34 34
  go_enter Try.func6, Try.ntmps6
  go_wp2_with fail
  generalize World.alloc _ _ = w1 at HS ⊢
  obtain ⟨B0, hB0⟩ : ∃ B0, B0 = w.heap.size := ⟨_, rfl⟩
  obtain ⟨B1, hB1⟩ : ∃ B1, B1 = w.heap.size + 1 := ⟨_, rfl⟩
  rw [← hB1, ← hB0] at HS ⊢
  clear hB0 hB1
  refine (understudylaw14_recordAlive.calls k true _ HA.out).mono ?_
  rintro e w2 ⟨rfl, hb⟩
  have HS2 := HS.below hb
  clear hb HS HA
  have k7 := bkCell (HS2.get (.tail _ (.head _))) 7 _ rfl
  have j7 := bkCell (HS2.get (.head _)) 7 _ rfl
  have hbel := HS2.belowOf
  have h := H.out
  clear H
  by_cases h30 : 30 < (l0_7.length : Int)
  · rw [if_pos (Or.inl h30)] at h
    obtain rfl := Option.some.inj h
    go_wp2_with fail
    go_ret
    exact ⟨rfl, hbel⟩
  by_cases h31 : 30 < (l1_7.length : Int)
  · rw [if_pos (Or.inr h31)] at h
    obtain rfl := Option.some.inj h
    go_wp2_with fail
    go_ret
    exact ⟨rfl, hbel⟩
  rw [if_neg (fun x => x.elim h30 h31)] at h
  obtain ⟨ra, hRa, h1⟩ := Option.bind_eq_some_iff.1 h
  clear h
  have HRa := Lib.hid hRa
  have H := Lib.hid h1
  clear hRa h1
  go_wp2_with (refine at_load (t := 34) rfl ?_)
  clear k7 j7 hbel
  refine ⟨?_⟩
  refine gate_guard (by first | rfl | (simp [Region.wanted, yielded, *]; done) | (simp [Region.wanted, yielded, *])) ?_
  dsimp only
  refine St.loadAll (HS2.get (.tail _ (.head _))) rfl 34 (.tmp 2) rfl rfl _ Try.underlying34 rfl (by kernel_rfl) ?_
  go_wp2_with fail
  refine (record_Right.calls k a0_0 a0_1 a0_2 a0_3 a0_4 a0_5 a0_6 A0_7 c0_7 l0_7 a0_8 a0_9 a0_10 a0_11 a0_12 a0_13 a0_14 a0_15 ra _ (Kd.C_below HX0.out HS2.belowOf) hc0_7 HRa.out).mono ?_
  rintro e w3 ⟨rfl, hb⟩
  have HS3 := HS2.below hb
  clear hb HRa HS2
  have hbel := HS3.belowOf
  have h := H.out
  clear H
  cases ra with
  | false =>
    rw [if_neg (by decide)] at h
    obtain rfl := Option.some.inj h
    go_wp2_with fail
    go_ret
    exact ⟨rfl, hbel⟩
  | true =>
  rw [if_pos rfl] at h
  obtain ⟨rb, hRb, h1⟩ := Option.bind_eq_some_iff.1 h
  clear h
  have HRb := Lib.hid hRb
  have H := Lib.hid h1
  clear hRb h1
  go_wp2_with (refine at_load (t := 34) rfl ?_)
  clear hbel
  refine ⟨?_⟩
  refine gate_guard (by first | rfl | (simp [Region.wanted, yielded, *]; done) | (simp [Region.wanted, yielded, *])) ?_
  dsimp only
  refine St.loadAll (HS3.get (.head _)) rfl 34 (.tmp 3) rfl rfl _ Try.underlying34 rfl (by kernel_rfl) ?_
  go_wp2_with fail
  refine (record_Right.calls k a1_0 a1_1 a1_2 a1_3 a1_4 a1_5 a1_6 A1_7 c1_7 l1_7 a1_8 a1_9 a1_10 a1_11 a1_12 a1_13 a1_14 a1_15 rb _ (Kd.C_below HX1.out HS3.belowOf) hc1_7 HRb.out).mono ?_
  rintro e w4 ⟨rfl, hb⟩
  have HS4 := HS3.below hb
  clear hb HRb HS3
  have hbel := HS4.belowOf
  have h := H.out
  clear H
  cases rb with
  | false =>
    rw [if_neg (by decide)] at h
    obtain rfl := Option.some.inj h
    go_wp2_with fail
    go_ret
    exact ⟨rfl, hbel⟩
  | true =>
  rw [if_pos rfl] at h
  obtain ⟨⟨b1, b2⟩, hB, h1⟩ := Option.bind_eq_some_iff.1 h
  clear h
  obtain ⟨⟨c1, c2⟩, hC, h⟩ := Option.bind_eq_some_iff.1 h1
  clear h1
  obtain ⟨sm, hSm, h1⟩ := Option.bind_eq_some_iff.1 h
  clear h
  by_cases hc : b2 = 0 ∧ c2 = 0 ∧ ((strOfNums b1).toList == (strOfNums c1).toList) = sm ∧ (b1.length : Int) = wrap64 (50 + wrap64 (13 * (l0_7.length : Int)))
  rotate_left
  · rw [if_neg hc] at h1; cases h1
  rw [if_pos hc] at h1
  obtain rfl := Option.some.inj h1
  obtain ⟨rfl, rfl, hsm, hlen⟩ := hc
  have HB := Lib.hid hB
  have HC := Lib.hid hC
  have HSm := Lib.hid hSm
  have HSE := Lib.hid hsm
  have HL := Lib.hid hlen
  clear hB hC hSm h1 hsm hlen
  go_wp2_with (refine at_load (t := 34) rfl ?_)
  clear hbel
  refine ⟨?_⟩
  refine St.loadAll (HS4.get (.tail _ (.head _))) rfl 34 (.tmp 2) rfl rfl _ Try.underlying34 rfl (by kernel_rfl) ?_
  go_wp2_with fail
  refine (record_Bytes.calls k a0_0 a0_1 a0_2 a0_3 a0_4 a0_5 a0_6 A0_7 c0_7 l0_7 a0_8 a0_9 a0_10 a0_11 a0_12 a0_13 a0_14 a0_15 b1 0 _ (Kd.C_below HX0.out HS4.belowOf) hc0_7 HB.out).mono ?_
  rintro e w5 ⟨v0, rfl, ho, hb⟩
  have HS5 := HS4.made (hE := rfl) hb ho
  clear hb ho HB HS4
  obtain ⟨Ab, cb, hv, hcb, hrd⟩ := row_reads (HS5.get (.head _))
  subst hv
  clear hrd
  go_wp2_with (refine at_load (t := 34) rfl ?_)
  refine ⟨?_⟩
  refine St.loadAll (HS5.get (.tail _ (.head _))) rfl 34 (.tmp 3) rfl rfl _ Try.underlying34 rfl (by kernel_rfl) ?_
  go_wp2_with fail
  refine (record_Bytes.calls k a1_0 a1_1 a1_2 a1_3 a1_4 a1_5 a1_6 A1_7 c1_7 l1_7 a1_8 a1_9 a1_10 a1_11 a1_12 a1_13 a1_14 a1_15 c1 0 _ (Kd.C_below HX1.out HS5.belowOf) hc1_7 HC.out).mono ?_
  rintro e w6 ⟨v1, rfl, ho, hb⟩
  have HS6 := HS5.made (hE := rfl) hb ho
  clear hb ho HC HS5
  obtain ⟨Ac, cc, hv, hcc, hrd⟩ := row_reads (HS6.get (.head _))
  subst hv
  clear hrd
  go_wp2_with fail
  refine free_region (n := 28) (T := _) [0, 1, 3, 7, 15, 31, 63, 127, 255, 127, 639, 2047, 127, 127, 12415, 32767, 65535, 131071, 262143, 524287, 262143, 1310719, 3407871, 7602175, 15990783, 33554431, 67108863, 134217727] [(0, 41), (1, 42), (2, 43), (3, 44), (4, 45), (5, 46), (6, 47), (7, 48), (8, 49), (9, 50), (10, 51), (11, 52), (12, 53), (13, 54), (14, 55), (15, 56), (16, 57), (17, 58), (18, 59), (19, 60), (20, 61), (21, 62), (22, 63), (23, 64), (24, 65), (25, 66), (26, 67), (27, 4)] (fun i v w => match i with | 0 => v = .int .i64 0 | 1 => v = .bool true | 2 => v = .bool true | 3 => v = .int .i64 0 | 4 => v = .bool true | 5 => v = .bool true | 6 => v = .bool true | 7 => v = .slice Ab b1.length cb | 8 => v = .string (strOfNums b1) | 9 => v = .slice Ac c1.length cc | 10 => v = .string (strOfNums c1) | 11 => v = .bool ((strOfNums b1).toList == (strOfNums c1).toList) | 12 => v = .agg #[.int .u32 a0_0, .bool a0_1, .int .u32 a0_2, .int .u32 a0_3, .int .i64 a0_4, .int .u32 a0_5, .int .u32 a0_6, .slice A0_7 l0_7.length c0_7, .int .u64 a0_8, .int .u32 a0_9, .int .u32 a0_10, .int .u32 a0_11, .int .u32 a0_12, .int .i64 a0_13, .int .i64 a0_14, .int .i64 a0_15] | 13 => v = .agg #[.int .u32 a1_0, .bool a1_1, .int .u32 a1_2, .int .u32 a1_3, .int .i64 a1_4, .int .u32 a1_5, .int .u32 a1_6, .slice A1_7 l1_7.length c1_7, .int .u64 a1_8, .int .u32 a1_9, .int .u32 a1_10, .int .u32 a1_11, .int .u32 a1_12, .int .i64 a1_13, .int .i64 a1_14, .int .i64 a1_15] | 14 => v = .bool sm | 15 => v = .bool true | 16 => v = .bool true | 17 => v = .bool true | 18 => v = .slice Ab b1.length cb | 19 => v = .int .i64 (b1.length : Int) | 20 => v = .pointer (some ⟨B0, 7, none⟩) | 21 => v = .slice A0_7 l0_7.length c0_7 | 22 => v = .int .i64 (l0_7.length : Int) | 23 => v = .int .i64 (wrap64 (13 * (l0_7.length : Int))) | 24 => v = .int .i64 (wrap64 (50 + wrap64 (13 * (l0_7.length : Int)))) | 25 => v = .bool true | 26 => v = .bool true | 27 => v = .bool true | _ => True) (by kernel_rfl) rfl rfl (by kernel_rfl) (by kernel_rfl) (by kernel_rfl) rfl (by kernel_rfl) ⟨_, .head _⟩ ?_ ?_
  · intro e he a wz hB hel hdep
    simp only [List.mem_cons, List.not_mem_nil, or_false] at he
    rcases he with rfl | rfl | rfl | rfl | rfl | rfl | rfl | rfl | rfl | rfl | rfl | rfl | rfl | rfl | rfl | rfl | rfl | rfl | rfl | rfl | rfl | rfl | rfl | rfl | rfl | rfl | rfl | rfl
    · have h6 : a.tmps[6]? = some (.int .i64 0) := (hel 6 (by decide)).trans rfl
      have e6 : a.eval (.tmp 6) = .int .i64 0 := eval_of h6
      exact ⟨_, rfl, rfl, Ok.move (wanted_none rfl) (.inl rfl) e6 (fun _ _ => rfl)⟩
    · obtain ⟨v41, h41, q41⟩ := hdep (0, 41) (by decide) (by decide)
      obtain rfl : v41 = .int .i64 0 := q41.now
      replace h41 : a.tmps[41]? = some (.int .i64 0) := h41
      have e41 : a.eval (.tmp 41) = .int .i64 0 := eval_of h41
      exact ⟨_, rfl, rfl, Ok.pure (.bool true) (wanted_none rfl) (by simp only [execOp]; go_simp) (fun _ _ => rfl)⟩
    · obtain ⟨v42, h42, q42⟩ := hdep (1, 42) (by decide) (by decide)
      obtain rfl : v42 = .bool true := q42.now
      replace h42 : a.tmps[42]? = some (.bool true) := h42
      have e42 : a.eval (.tmp 42) = .bool true := eval_of h42
      exact ⟨_, rfl, rfl, Ok.move (wanted_none rfl) (.inl rfl) (eval_of h42) q42⟩
    · obtain ⟨v43, h43, q43⟩ := hdep (2, 43) (by decide) (by decide)
      obtain rfl : v43 = .bool true := q43.now
      replace h43 : a.tmps[43]? = some (.bool true) := h43
      have e43 : a.eval (.tmp 43) = .bool true := eval_of h43
      have h8 : a.tmps[8]? = some (.int .i64 0) := (hel 8 (by decide)).trans rfl
      have e8 : a.eval (.tmp 8) = .int .i64 0 := eval_of h8
      exact ⟨_, rfl, rfl, Ok.move (wanted_on (t := 43) rfl rfl rfl h43) (.inl rfl) e8 (fun _ _ => rfl)⟩
    · obtain ⟨v43, h43, q43⟩ := hdep (2, 43) (by decide) (by decide)
      obtain rfl : v43 = .bool true := q43.now
      replace h43 : a.tmps[43]? = some (.bool true) := h43
      have e43 : a.eval (.tmp 43) = .bool true := eval_of h43
      obtain ⟨v44, h44, q44⟩ := hdep (3, 44) (by decide) (by decide)
      obtain rfl : v44 = .int .i64 0 := q44.now
      replace h44 : a.tmps[44]? = some (.int .i64 0) := h44
      have e44 : a.eval (.tmp 44) = .int .i64 0 := eval_of h44
      exact ⟨_, rfl, rfl, Ok.pure (.bool true) (wanted_on (t := 43) rfl rfl rfl h43) (by simp only [execOp]; go_simp) (fun _ _ => rfl)⟩
    · obtain ⟨v43, h43, q43⟩ := hdep (2, 43) (by decide) (by decide)
      obtain rfl : v43 = .bool true := q43.now
      replace h43 : a.tmps[43]? = some (.bool true) := h43
      have e43 : a.eval (.tmp 43) = .bool true := eval_of h43
      obtain ⟨v45, h45, q45⟩ := hdep (4, 45) (by decide) (by decide)
      obtain rfl : v45 = .bool true := q45.now
      replace h45 : a.tmps[45]? = some (.bool true) := h45
      have e45 : a.eval (.tmp 45) = .bool true := eval_of h45
      exact ⟨_, rfl, rfl, Ok.pure (.bool true) (wanted_none rfl) (by simp only [execOp]; go_simp) (fun _ _ => rfl)⟩
    · obtain ⟨v46, h46, q46⟩ := hdep (5, 46) (by decide) (by decide)
      obtain rfl : v46 = .bool true := q46.now
      replace h46 : a.tmps[46]? = some (.bool true) := h46
      have e46 : a.eval (.tmp 46) = .bool true := eval_of h46
      exact ⟨_, rfl, rfl, Ok.move (wanted_none rfl) (.inl rfl) (eval_of h46) q46⟩
    · obtain ⟨v47, h47, q47⟩ := hdep (6, 47) (by decide) (by decide)
      obtain rfl : v47 = .bool true := q47.now
      replace h47 : a.tmps[47]? = some (.bool true) := h47
      have e47 : a.eval (.tmp 47) = .bool true := eval_of h47
      have h5 : a.tmps[5]? = some (.slice Ab b1.length cb) := (hel 5 (by decide)).trans rfl
      have e5 : a.eval (.tmp 5) = .slice Ab b1.length cb := eval_of h5
      exact ⟨_, rfl, rfl, Ok.move (wanted_on (t := 47) rfl rfl rfl h47) (.inl rfl) e5 (fun _ _ => rfl)⟩
    · obtain ⟨v47, h47, q47⟩ := hdep (6, 47) (by decide) (by decide)
      obtain rfl : v47 = .bool true := q47.now
      replace h47 : a.tmps[47]? = some (.bool true) := h47
      have e47 : a.eval (.tmp 47) = .bool true := eval_of h47
      obtain ⟨v48, h48, q48⟩ := hdep (7, 48) (by decide) (by decide)
      obtain rfl : v48 = .slice Ab b1.length cb := q48.now
      replace h48 : a.tmps[48]? = some (.slice Ab b1.length cb) := h48
      have e48 : a.eval (.tmp 48) = .slice Ab b1.length cb := eval_of h48
      have HSb := HS6.below hB
      have hs := Kd.C_string (P := Try.prog) (A := Ab) (c := cb) Try.underlying22 Try.underlying5 Try.underlying9 (row_C (HSb.get (.tail _ (.head _)))).2.2
      exact ⟨_, rfl, rfl, Ok.pure (.string (strOfNums b1)) (wanted_on (t := 47) rfl rfl rfl h47) (by simp only [execOp]; go_simp) (fun _ _ => rfl)⟩
    · obtain ⟨v47, h47, q47⟩ := hdep (6, 47) (by decide) (by decide)
      obtain rfl : v47 = .bool true := q47.now
      replace h47 : a.tmps[47]? = some (.bool true) := h47
      have e47 : a.eval (.tmp 47) = .bool true := eval_of h47
      have h7 : a.tmps[7]? = some (.slice Ac c1.length cc) := (hel 7 (by decide)).trans rfl
      have e7 : a.eval (.tmp 7) = .slice Ac c1.length cc := eval_of h7
      exact ⟨_, rfl, rfl, Ok.move (wanted_on (t := 47) rfl rfl rfl h47) (.inl rfl) e7 (fun _ _ => rfl)⟩
    · obtain ⟨v47, h47, q47⟩ := hdep (6, 47) (by decide) (by decide)
      obtain rfl : v47 = .bool true := q47.now
      replace h47 : a.tmps[47]? = some (.bool true) := h47
      have e47 : a.eval (.tmp 47) = .bool true := eval_of h47
      obtain ⟨v50, h50, q50⟩ := hdep (9, 50) (by decide) (by decide)
      obtain rfl : v50 = .slice Ac c1.length cc := q50.now
      replace h50 : a.tmps[50]? = some (.slice Ac c1.length cc) := h50
      have e50 : a.eval (.tmp 50) = .slice Ac c1.length cc := eval_of h50
      have HSb := HS6.below hB
      have hs := Kd.C_string (P := Try.prog) (A := Ac) (c := cc) Try.underlying22 Try.underlying5 Try.underlying9 (row_C (HSb.get (.head _))).2.2
      exact ⟨_, rfl, rfl, Ok.pure (.string (strOfNums c1)) (wanted_on (t := 47) rfl rfl rfl h47) (by simp only [execOp]; go_simp) (fun _ _ => rfl)⟩
    · obtain ⟨v47, h47, q47⟩ := hdep (6, 47) (by decide) (by decide)
      obtain rfl : v47 = .bool true := q47.now
      replace h47 : a.tmps[47]? = some (.bool true) := h47
      have e47 : a.eval (.tmp 47) = .bool true := eval_of h47
      obtain ⟨v49, h49, q49⟩ := hdep (8, 49) (by decide) (by decide)
      obtain rfl : v49 = .string (strOfNums b1) := q49.now
      replace h49 : a.tmps[49]? = some (.string (strOfNums b1)) := h49
      have e49 : a.eval (.tmp 49) = .string (strOfNums b1) := eval_of h49
      obtain ⟨v51, h51, q51⟩ := hdep (10, 51) (by decide) (by decide)
      obtain rfl : v51 = .string (strOfNums c1) := q51.now
      replace h51 : a.tmps[51]? = some (.string (strOfNums c1)) := h51
      have e51 : a.eval (.tmp 51) = .string (strOfNums c1) := eval_of h51
      exact ⟨_, rfl, rfl, Ok.pure (.bool ((strOfNums b1).toList == (strOfNums c1).toList)) (wanted_on (t := 47) rfl rfl rfl h47) (by simp only [execOp]; go_simp) (fun _ _ => rfl)⟩
    · obtain ⟨v47, h47, q47⟩ := hdep (6, 47) (by decide) (by decide)
      obtain rfl : v47 = .bool true := q47.now
      replace h47 : a.tmps[47]? = some (.bool true) := h47
      have e47 : a.eval (.tmp 47) = .bool true := eval_of h47
      have h2 : a.tmps[2]? = some (.pointer (some ⟨B0, 0, none⟩)) := (hel 2 (by decide)).trans rfl
      have e2 : a.eval (.tmp 2) = .pointer (some ⟨B0, 0, none⟩) := eval_of h2
      have HSb := HS6.below hB
      exact ⟨_, rfl, rfl, Ok.loadAll (HSb.get (.tail _ (.tail _ (.tail _ (.head _))))) (wanted_on (t := 47) rfl rfl rfl h47) 34 (.tmp 2) rfl e2 _ Try.underlying34 rfl (by kernel_rfl) (fun _ _ => rfl)⟩
    · obtain ⟨v47, h47, q47⟩ := hdep (6, 47) (by decide) (by decide)
      obtain rfl : v47 = .bool true := q47.now
      replace h47 : a.tmps[47]? = some (.bool true) := h47
      have e47 : a.eval (.tmp 47) = .bool true := eval_of h47
      have h3 : a.tmps[3]? = some (.pointer (some ⟨B1, 0, none⟩)) := (hel 3 (by decide)).trans rfl
      have e3 : a.eval (.tmp 3) = .pointer (some ⟨B1, 0, none⟩) := eval_of h3
      have HSb := HS6.below hB
      exact ⟨_, rfl, rfl, Ok.loadAll (HSb.get (.tail _ (.tail _ (.head _)))) (wanted_on (t := 47) rfl rfl rfl h47) 34 (.tmp 3) rfl e3 _ Try.underlying34 rfl (by kernel_rfl) (fun _ _ => rfl)⟩
    · obtain ⟨v47, h47, q47⟩ := hdep (6, 47) (by decide) (by decide)
      obtain rfl : v47 = .bool true := q47.now
      replace h47 : a.tmps[47]? = some (.bool true) := h47
      have e47 : a.eval (.tmp 47) = .bool true := eval_of h47
      obtain ⟨v53, h53, q53⟩ := hdep (12, 53) (by decide) (by decide)
      obtain rfl : v53 = .agg #[.int .u32 a0_0, .bool a0_1, .int .u32 a0_2, .int .u32 a0_3, .int .i64 a0_4, .int .u32 a0_5, .int .u32 a0_6, .slice A0_7 l0_7.length c0_7, .int .u64 a0_8, .int .u32 a0_9, .int .u32 a0_10, .int .u32 a0_11, .int .u32 a0_12, .int .i64 a0_13, .int .i64 a0_14, .int .i64 a0_15] := q53.now
      replace h53 : a.tmps[53]? = some (.agg #[.int .u32 a0_0, .bool a0_1, .int .u32 a0_2, .int .u32 a0_3, .int .i64 a0_4, .int .u32 a0_5, .int .u32 a0_6, .slice A0_7 l0_7.length c0_7, .int .u64 a0_8, .int .u32 a0_9, .int .u32 a0_10, .int .u32 a0_11, .int .u32 a0_12, .int .i64 a0_13, .int .i64 a0_14, .int .i64 a0_15]) := h53
      have e53 : a.eval (.tmp 53) = .agg #[.int .u32 a0_0, .bool a0_1, .int .u32 a0_2, .int .u32 a0_3, .int .i64 a0_4, .int .u32 a0_5, .int .u32 a0_6, .slice A0_7 l0_7.length c0_7, .int .u64 a0_8, .int .u32 a0_9, .int .u32 a0_10, .int .u32 a0_11, .int .u32 a0_12, .int .i64 a0_13, .int .i64 a0_14, .int .i64 a0_15] := eval_of h53
      obtain ⟨v54, h54, q54⟩ := hdep (13, 54) (by decide) (by decide)
      obtain rfl : v54 = .agg #[.int .u32 a1_0, .bool a1_1, .int .u32 a1_2, .int .u32 a1_3, .int .i64 a1_4, .int .u32 a1_5, .int .u32 a1_6, .slice A1_7 l1_7.length c1_7, .int .u64 a1_8, .int .u32 a1_9, .int .u32 a1_10, .int .u32 a1_11, .int .u32 a1_12, .int .i64 a1_13, .int .i64 a1_14, .int .i64 a1_15] := q54.now
      replace h54 : a.tmps[54]? = some (.agg #[.int .u32 a1_0, .bool a1_1, .int .u32 a1_2, .int .u32 a1_3, .int .i64 a1_4, .int .u32 a1_5, .int .u32 a1_6, .slice A1_7 l1_7.length c1_7, .int .u64 a1_8, .int .u32 a1_9, .int .u32 a1_10, .int .u32 a1_11, .int .u32 a1_12, .int .i64 a1_13, .int .i64 a1_14, .int .i64 a1_15]) := h54
      have e54 : a.eval (.tmp 54) = .agg #[.int .u32 a1_0, .bool a1_1, .int .u32 a1_2, .int .u32 a1_3, .int .i64 a1_4, .int .u32 a1_5, .int .u32 a1_6, .slice A1_7 l1_7.length c1_7, .int .u64 a1_8, .int .u32 a1_9, .int .u32 a1_10, .int .u32 a1_11, .int .u32 a1_12, .int .i64 a1_13, .int .i64 a1_14, .int .i64 a1_15] := eval_of h54
      have HSb := HS6.below hB
      exact ⟨_, rfl, rfl, Ok.call (T := Mk) Try.func15 (by kernel_rfl) rfl #[.agg #[.int .u32 a0_0, .bool a0_1, .int .u32 a0_2, .int .u32 a0_3, .int .i64 a0_4, .int .u32 a0_5, .int .u32 a0_6, .slice A0_7 l0_7.length c0_7, .int .u64 a0_8, .int .u32 a0_9, .int .u32 a0_10, .int .u32 a0_11, .int .u32 a0_12, .int .i64 a0_13, .int .i64 a0_14, .int .i64 a0_15], .agg #[.int .u32 a1_0, .bool a1_1, .int .u32 a1_2, .int .u32 a1_3, .int .i64 a1_4, .int .u32 a1_5, .int .u32 a1_6, .slice A1_7 l1_7.length c1_7, .int .u64 a1_8, .int .u32 a1_9, .int .u32 a1_10, .int .u32 a1_11, .int .u32 a1_12, .int .i64 a1_13, .int .i64 a1_14, .int .i64 a1_15]] (wanted_on (t := 47) rfl rfl rfl h47) rfl (by simp [e53, e54]) ((record_Same.calls k a0_0 a0_1 a0_2 a0_3 a0_4 a0_5 a0_6 A0_7 c0_7 l0_7 a0_8 a0_9 a0_10 a0_11 a0_12 a0_13 a0_14 a0_15 a1_0 a1_1 a1_2 a1_3 a1_4 a1_5 a1_6 A1_7 c1_7 l1_7 a1_8 a1_9 a1_10 a1_11 a1_12 a1_13 a1_14 a1_15 sm _ (Kd.C_below HX0.out HSb.belowOf) hc0_7 (Kd.C_below HX1.out HSb.belowOf) hc1_7 HSm.out).mono (by rintro e w' ⟨rfl, hb⟩; exact ⟨_, rfl, fun _ _ => rfl, hb⟩))⟩
    · obtain ⟨v47, h47, q47⟩ := hdep (6, 47) (by decide) (by decide)
      obtain rfl : v47 = .bool true := q47.now
      replace h47 : a.tmps[47]? = some (.bool true) := h47
      have e47 : a.eval (.tmp 47) = .bool true := eval_of h47
      obtain ⟨v52, h52, q52⟩ := hdep (11, 52) (by decide) (by decide)
      obtain rfl : v52 = .bool ((strOfNums b1).toList == (strOfNums c1).toList) := q52.now
      replace h52 : a.tmps[52]? = some (.bool ((strOfNums b1).toList == (strOfNums c1).toList)) := h52
      have e52 : a.eval (.tmp 52) = .bool ((strOfNums b1).toList == (strOfNums c1).toList) := eval_of h52
      obtain ⟨v55, h55, q55⟩ := hdep (14, 55) (by decide) (by decide)
      obtain rfl : v55 = .bool sm := q55.now
      replace h55 : a.tmps[55]? = some (.bool sm) := h55
      have e55 : a.eval (.tmp 55) = .bool sm := eval_of h55
      have hse := HSE.out
      exact ⟨_, rfl, rfl, Ok.pure (.bool true) (wanted_on (t := 47) rfl rfl rfl h47) (by simp only [execOp]; go_simp) (fun _ _ => rfl)⟩
    · obtain ⟨v47, h47, q47⟩ := hdep (6, 47) (by decide) (by decide)
      obtain rfl : v47 = .bool true := q47.now
      replace h47 : a.tmps[47]? = some (.bool true) := h47
      have e47 : a.eval (.tmp 47) = .bool true := eval_of h47
      obtain ⟨v56, h56, q56⟩ := hdep (15, 56) (by decide) (by decide)
      obtain rfl : v56 = .bool true := q56.now
      replace h56 : a.tmps[56]? = some (.bool true) := h56
      have e56 : a.eval (.tmp 56) = .bool true := eval_of h56
      exact ⟨_, rfl, rfl, Ok.pure (.bool true) (wanted_none rfl) (by simp only [execOp]; go_simp) (fun _ _ => rfl)⟩
    · obtain ⟨v57, h57, q57⟩ := hdep (16, 57) (by decide) (by decide)
      obtain rfl : v57 = .bool true := q57.now
      replace h57 : a.tmps[57]? = some (.bool true) := h57
      have e57 : a.eval (.tmp 57) = .bool true := eval_of h57
      exact ⟨_, rfl, rfl, Ok.move (wanted_none rfl) (.inl rfl) (eval_of h57) q57⟩
    · obtain ⟨v58, h58, q58⟩ := hdep (17, 58) (by decide) (by decide)
      obtain rfl : v58 = .bool true := q58.now
      replace h58 : a.tmps[58]? = some (.bool true) := h58
      have e58 : a.eval (.tmp 58) = .bool true := eval_of h58
      have h5 : a.tmps[5]? = some (.slice Ab b1.length cb) := (hel 5 (by decide)).trans rfl
      have e5 : a.eval (.tmp 5) = .slice Ab b1.length cb := eval_of h5
      exact ⟨_, rfl, rfl, Ok.move (wanted_on (t := 58) rfl rfl rfl h58) (.inl rfl) e5 (fun _ _ => rfl)⟩
    · obtain ⟨v58, h58, q58⟩ := hdep (17, 58) (by decide) (by decide)
      obtain rfl : v58 = .bool true := q58.now
      replace h58 : a.tmps[58]? = some (.bool true) := h58
      have e58 : a.eval (.tmp 58) = .bool true := eval_of h58
      obtain ⟨v59, h59, q59⟩ := hdep (18, 59) (by decide) (by decide)
      obtain rfl : v59 = .slice Ab b1.length cb := q59.now
      replace h59 : a.tmps[59]? = some (.slice Ab b1.length cb) := h59
      have e59 : a.eval (.tmp 59) = .slice Ab b1.length cb := eval_of h59
      exact ⟨_, rfl, rfl, Ok.pure (.int .i64 (b1.length : Int)) (wanted_on (t := 58) rfl rfl rfl h58) (by simp only [execOp]; go_simp) (fun _ _ => rfl)⟩
    · obtain ⟨v58, h58, q58⟩ := hdep (17, 58) (by decide) (by decide)
      obtain rfl : v58 = .bool true := q58.now
      replace h58 : a.tmps[58]? = some (.bool true) := h58
      have e58 : a.eval (.tmp 58) = .bool true := eval_of h58
      have h2 : a.tmps[2]? = some (.pointer (some ⟨B0, 0, none⟩)) := (hel 2 (by decide)).trans rfl
      have e2 : a.eval (.tmp 2) = .pointer (some ⟨B0, 0, none⟩) := eval_of h2
      exact ⟨_, rfl, rfl, Ok.pure (.pointer (some ⟨B0, 7, none⟩)) (wanted_on (t := 58) rfl rfl rfl h58) (by simp only [execOp]; go_simp) (fun _ _ => rfl)⟩
    · obtain ⟨v58, h58, q58⟩ := hdep (17, 58) (by decide) (by decide)
      obtain rfl : v58 = .bool true := q58.now
      replace h58 : a.tmps[58]? = some (.bool true) := h58
      have e58 : a.eval (.tmp 58) = .bool true := eval_of h58
      obtain ⟨v61, h61, q61⟩ := hdep (20, 61) (by decide) (by decide)
      obtain rfl : v61 = .pointer (some ⟨B0, 7, none⟩) := q61.now
      replace h61 : a.tmps[61]? = some (.pointer (some ⟨B0, 7, none⟩)) := h61
      have e61 : a.eval (.tmp 61) = .pointer (some ⟨B0, 7, none⟩) := eval_of h61
      have HSb := HS6.below hB
      have kk := bkCell (HSb.get (.tail _ (.tail _ (.tail _ (.head _))))) 7 _ rfl
      exact ⟨_, rfl, rfl, Ok.pure (.slice A0_7 l0_7.length c0_7) (wanted_on (t := 58) rfl rfl rfl h58) (by simp only [execOp]; go_simp) (fun _ _ => rfl)⟩
    · obtain ⟨v58, h58, q58⟩ := hdep (17, 58) (by decide) (by decide)
      obtain rfl : v58 = .bool true := q58.now
      replace h58 : a.tmps[58]? = some (.bool true) := h58
      have e58 : a.eval (.tmp 58) = .bool true := eval_of h58
      obtain ⟨v62, h62, q62⟩ := hdep (21, 62) (by decide) (by decide)
      obtain rfl : v62 = .slice A0_7 l0_7.length c0_7 := q62.now
      replace h62 : a.tmps[62]? = some (.slice A0_7 l0_7.length c0_7) := h62
      have e62 : a.eval (.tmp 62) = .slice A0_7 l0_7.length c0_7 := eval_of h62
      exact ⟨_, rfl, rfl, Ok.pure (.int .i64 (l0_7.length : Int)) (wanted_on (t := 58) rfl rfl rfl h58) (by simp only [execOp]; go_simp) (fun _ _ => rfl)⟩
    · obtain ⟨v58, h58, q58⟩ := hdep (17, 58) (by decide) (by decide)
      obtain rfl : v58 = .bool true := q58.now
      replace h58 : a.tmps[58]? = some (.bool true) := h58
      have e58 : a.eval (.tmp 58) = .bool true := eval_of h58
      obtain ⟨v63, h63, q63⟩ := hdep (22, 63) (by decide) (by decide)
      obtain rfl : v63 = .int .i64 (l0_7.length : Int) := q63.now
      replace h63 : a.tmps[63]? = some (.int .i64 (l0_7.length : Int)) := h63
      have e63 : a.eval (.tmp 63) = .int .i64 (l0_7.length : Int) := eval_of h63
      exact ⟨_, rfl, rfl, Ok.pure (.int .i64 (wrap64 (13 * (l0_7.length : Int)))) (wanted_on (t := 58) rfl rfl rfl h58) (by simp only [execOp]; go_simp; simp only [i64_w]) (fun _ _ => rfl)⟩
    · obtain ⟨v58, h58, q58⟩ := hdep (17, 58) (by decide) (by decide)
      obtain rfl : v58 = .bool true := q58.now
      replace h58 : a.tmps[58]? = some (.bool true) := h58
      have e58 : a.eval (.tmp 58) = .bool true := eval_of h58
      obtain ⟨v64, h64, q64⟩ := hdep (23, 64) (by decide) (by decide)
      obtain rfl : v64 = .int .i64 (wrap64 (13 * (l0_7.length : Int))) := q64.now
      replace h64 : a.tmps[64]? = some (.int .i64 (wrap64 (13 * (l0_7.length : Int)))) := h64
      have e64 : a.eval (.tmp 64) = .int .i64 (wrap64 (13 * (l0_7.length : Int))) := eval_of h64
      exact ⟨_, rfl, rfl, Ok.pure (.int .i64 (wrap64 (50 + wrap64 (13 * (l0_7.length : Int))))) (wanted_on (t := 58) rfl rfl rfl h58) (by simp only [execOp]; go_simp; simp only [i64_w]) (fun _ _ => rfl)⟩
    · obtain ⟨v58, h58, q58⟩ := hdep (17, 58) (by decide) (by decide)
      obtain rfl : v58 = .bool true := q58.now
      replace h58 : a.tmps[58]? = some (.bool true) := h58
      have e58 : a.eval (.tmp 58) = .bool true := eval_of h58
      obtain ⟨v60, h60, q60⟩ := hdep (19, 60) (by decide) (by decide)
      obtain rfl : v60 = .int .i64 (b1.length : Int) := q60.now
      replace h60 : a.tmps[60]? = some (.int .i64 (b1.length : Int)) := h60
      have e60 : a.eval (.tmp 60) = .int .i64 (b1.length : Int) := eval_of h60
      obtain ⟨v65, h65, q65⟩ := hdep (24, 65) (by decide) (by decide)
      obtain rfl : v65 = .int .i64 (wrap64 (50 + wrap64 (13 * (l0_7.length : Int)))) := q65.now
      replace h65 : a.tmps[65]? = some (.int .i64 (wrap64 (50 + wrap64 (13 * (l0_7.length : Int))))) := h65
      have e65 : a.eval (.tmp 65) = .int .i64 (wrap64 (50 + wrap64 (13 * (l0_7.length : Int)))) := eval_of h65
      have hse := HL.out
      exact ⟨_, rfl, rfl, Ok.pure (.bool true) (wanted_on (t := 58) rfl rfl rfl h58) (by simp only [execOp]; go_simp) (fun _ _ => rfl)⟩
    · obtain ⟨v58, h58, q58⟩ := hdep (17, 58) (by decide) (by decide)
      obtain rfl : v58 = .bool true := q58.now
      replace h58 : a.tmps[58]? = some (.bool true) := h58
      have e58 : a.eval (.tmp 58) = .bool true := eval_of h58
      obtain ⟨v66, h66, q66⟩ := hdep (25, 66) (by decide) (by decide)
      obtain rfl : v66 = .bool true := q66.now
      replace h66 : a.tmps[66]? = some (.bool true) := h66
      have e66 : a.eval (.tmp 66) = .bool true := eval_of h66
      exact ⟨_, rfl, rfl, Ok.pure (.bool true) (wanted_none rfl) (by simp only [execOp]; go_simp) (fun _ _ => rfl)⟩
    · obtain ⟨v67, h67, q67⟩ := hdep (26, 67) (by decide) (by decide)
      obtain rfl : v67 = .bool true := q67.now
      replace h67 : a.tmps[67]? = some (.bool true) := h67
      have e67 : a.eval (.tmp 67) = .bool true := eval_of h67
      exact ⟨_, rfl, rfl, Ok.move (wanted_none rfl) (.inr rfl) (eval_of h67) q67⟩
  intro vs wE hBE hS
  have f41 := hS (0, 41) (by decide)
  have f42 := hS (1, 42) (by decide)
  have f43 := hS (2, 43) (by decide)
  have f44 := hS (3, 44) (by decide)
  have f45 := hS (4, 45) (by decide)
  have f46 := hS (5, 46) (by decide)
  have f47 := hS (6, 47) (by decide)
  have f48 := hS (7, 48) (by decide)
  have f49 := hS (8, 49) (by decide)
  have f50 := hS (9, 50) (by decide)
  have f51 := hS (10, 51) (by decide)
  have f52 := hS (11, 52) (by decide)
  have f53 := hS (12, 53) (by decide)
  have f54 := hS (13, 54) (by decide)
  have f55 := hS (14, 55) (by decide)
  have f56 := hS (15, 56) (by decide)
  have f57 := hS (16, 57) (by decide)
  have f58 := hS (17, 58) (by decide)
  have f59 := hS (18, 59) (by decide)
  have f60 := hS (19, 60) (by decide)
  have f61 := hS (20, 61) (by decide)
  have f62 := hS (21, 62) (by decide)
  have f63 := hS (22, 63) (by decide)
  have f64 := hS (23, 64) (by decide)
  have f65 := hS (24, 65) (by decide)
  have f66 := hS (25, 66) (by decide)
  have f67 := hS (26, 67) (by decide)
  have f4 := hS (27, 4) (by decide)
  clear hS
  simp only [tells, List.map_cons, List.map_nil, putSel, if_true]
  generalize vs 0 = z41 at *
  generalize vs 1 = z42 at *
  generalize vs 2 = z43 at *
  generalize vs 3 = z44 at *
  generalize vs 4 = z45 at *
  generalize vs 5 = z46 at *
  generalize vs 6 = z47 at *
  generalize vs 7 = z48 at *
  generalize vs 8 = z49 at *
  generalize vs 9 = z50 at *
  generalize vs 10 = z51 at *
  generalize vs 11 = z52 at *
  generalize vs 12 = z53 at *
  generalize vs 13 = z54 at *
  generalize vs 14 = z55 at *
  generalize vs 15 = z56 at *
  generalize vs 16 = z57 at *
  generalize vs 17 = z58 at *
  generalize vs 18 = z59 at *
  generalize vs 19 = z60 at *
  generalize vs 20 = z61 at *
  generalize vs 21 = z62 at *
  generalize vs 22 = z63 at *
  generalize vs 23 = z64 at *
  generalize vs 24 = z65 at *
  generalize vs 25 = z66 at *
  generalize vs 26 = z67 at *
  generalize vs 27 = z4 at *
  have f41' : z41 = .int .i64 0 := f41
  clear f41
  subst f41'
  have f42' : z42 = .bool true := f42
  clear f42
  subst f42'
  have f43' : z43 = .bool true := f43
  clear f43
  subst f43'
  have f44' : z44 = .int .i64 0 := f44
  clear f44
  subst f44'
  have f45' : z45 = .bool true := f45
  clear f45
  subst f45'
  have f46' : z46 = .bool true := f46
  clear f46
  subst f46'
  have f47' : z47 = .bool true := f47
  clear f47
  subst f47'
  have f48' : z48 = .slice Ab b1.length cb := f48
  clear f48
  subst f48'
  have f49' : z49 = .string (strOfNums b1) := f49
  clear f49
  subst f49'
  have f50' : z50 = .slice Ac c1.length cc := f50
  clear f50
  subst f50'
  have f51' : z51 = .string (strOfNums c1) := f51
  clear f51
  subst f51'
  have f52' : z52 = .bool ((strOfNums b1).toList == (strOfNums c1).toList) := f52
  clear f52
  subst f52'
  have f53' : z53 = .agg #[.int .u32 a0_0, .bool a0_1, .int .u32 a0_2, .int .u32 a0_3, .int .i64 a0_4, .int .u32 a0_5, .int .u32 a0_6, .slice A0_7 l0_7.length c0_7, .int .u64 a0_8, .int .u32 a0_9, .int .u32 a0_10, .int .u32 a0_11, .int .u32 a0_12, .int .i64 a0_13, .int .i64 a0_14, .int .i64 a0_15] := f53
  clear f53
  subst f53'
  have f54' : z54 = .agg #[.int .u32 a1_0, .bool a1_1, .int .u32 a1_2, .int .u32 a1_3, .int .i64 a1_4, .int .u32 a1_5, .int .u32 a1_6, .slice A1_7 l1_7.length c1_7, .int .u64 a1_8, .int .u32 a1_9, .int .u32 a1_10, .int .u32 a1_11, .int .u32 a1_12, .int .i64 a1_13, .int .i64 a1_14, .int .i64 a1_15] := f54
  clear f54
  subst f54'
  have f55' : z55 = .bool sm := f55
  clear f55
  subst f55'
  have f56' : z56 = .bool true := f56
  clear f56
  subst f56'
  have f57' : z57 = .bool true := f57
  clear f57
  subst f57'
  have f58' : z58 = .bool true := f58
  clear f58
  subst f58'
  have f59' : z59 = .slice Ab b1.length cb := f59
  clear f59
  subst f59'
  have f60' : z60 = .int .i64 (b1.length : Int) := f60
  clear f60
  subst f60'
  have f61' : z61 = .pointer (some ⟨B0, 7, none⟩) := f61
  clear f61
  subst f61'
  have f62' : z62 = .slice A0_7 l0_7.length c0_7 := f62
  clear f62
  subst f62'
  have f63' : z63 = .int .i64 (l0_7.length : Int) := f63
  clear f63
  subst f63'
  have f64' : z64 = .int .i64 (wrap64 (13 * (l0_7.length : Int))) := f64
  clear f64
  subst f64'
  have f65' : z65 = .int .i64 (wrap64 (50 + wrap64 (13 * (l0_7.length : Int)))) := f65
  clear f65
  subst f65'
  have f66' : z66 = .bool true := f66
  clear f66
  subst f66'
  have f67' : z67 = .bool true := f67
  clear f67
  subst f67'
  have f4' : z4 = .bool true := f4
  clear f4
  subst f4'
  simp only [Act.put, List.setIfInBounds_toArray, List.set_cons_zero, List.set_cons_succ]
  have hbel := (HS6.below hBE).belowOf
  clear HS6 HSE HL HSm HX0 HX1
  go_wp2_with fail
  go_ret
  exact ⟨rfl, hbel⟩

end Go.Proofs.Ytkiiangookibnaa.PRecordApart
