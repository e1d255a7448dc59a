/- The row: 'RecordApart' answers true for every input, and its arguments read behind the call as before. -/
import Derived.Test.YtkiiangookibnaaRows
import Derived.Test.YtkiiangookibnaaPureRecordApart
import Derived.WalkKit
import Derived.ProofKit
import Derived.OpenShut
import Derived.ShutString
import Derived.ChangeOld
import Derived.Below
import Derived.WideShapes
namespace Go.Proofs.Ytkiiangookibnaa.recordApart
open Go.ChangeShapes Go.WideShapes Go.ChangeAt Go.RowKit
open Go.ChangeMaps (open_string shut_string)
set_option linter.unusedVariables false
set_option linter.unusedSimpArgs false
theorem own : ownKnob Try.prog.godebug = none := by kernel_rfl
theorem laidOut : laidOutB Try.prog = true := by kernel_rfl
set_option maxRecDepth 100000 in
theorem lifted (os : Os) (started : os.Started) (H : Type) (enc : TypeId × Value → H) :
    ReturnsInHanded {} Try.checked os 6 .any (Rows.recordApartSpec.pre6 enc Try.prog Try.f6 Rows.recordApartRow.domain false) (Rows.recordApartSpec.post enc Try.prog Try.f6 false true false false) := by
  refine returnsInHanded_of_change (C := Try.checked) own started (by kernel_rfl) Try.func6
    (ChangeSpec.witness6 (enc := enc) (C := Try.checked) false ⟨#[], #[.agg #[.int .u32 0, .bool false, .int .u32 0, .int .u32 0, .int .i64 0, .int .u32 0, .int .u32 0, .slice none 0 0, .int .u64 0, .int .u32 0, .int .u32 0, .int .u32 0, .int .u32 0, .int .i64 0, .int .i64 0, .int .i64 0], .agg #[.int .u32 0, .bool false, .int .u32 0, .int .u32 0, .int .i64 0, .int .u32 0, .int .u32 0, .slice none 0 0, .int .u64 0, .int .u32 0, .int .u32 0, .int .u32 0, .int .u32 0, .int .i64 0, .int .i64 0, .int .i64 0]], []⟩ 8 (by kernel_rfl) (by kernel_rfl) (by kernel_rfl) (by kernel_rfl)) ?_
  intro W base args ds gs before hval0 hW hcnd _
  have hval : ∀ (j : Nat) t v, Try.f6.params[j]? = some t → args[j]? = some v → Value.okWide Try.prog W .any base t v := hval0
  have hW' := hW
  obtain ⟨p, q, hA0, hV, rfl, hfz, hnd⟩ := hW
  have hA : DataW.TrodAll enc Try.prog W 0 (fun _ => true) true Try.f6.params.toList args.toList ds p := hA0
  rw [Try.params6] at hA hval
  obtain ⟨v0, vs0, d0, ds0, p0, q0, hargs, rfl, rfl, h0, r0⟩ := trodAll_cons hA
  obtain ⟨v1, vs1, d1, ds1, p1, q1, rfl, rfl, rfl, h1, r1⟩ := trodAll_cons r0
  obtain ⟨rfl, rfl, rfl⟩ := trodAll_nil r1
  obtain rfl : args = #[v0, v1] := by cases args; simp_all
  obtain ⟨rfl, rfl⟩ := trodVars_none hV
  have k0 := h0
  have lt0 : ∀ x ∈ p0, x.block < W.heap.size := by obtain ⟨m, hm⟩ := k0; exact DataW.trod_lt m _ _ _ hm
  obtain ⟨fuel0, hf0⟩ := h0
  obtain ⟨y0, K0, g0⟩ := PRecordApart.arg_t34 hf0
  obtain ⟨cs0, rfl, _⟩ := okWide_struct Try.underlying34 (hval 0 34 v0 rfl rfl)
  obtain ⟨A0_7, c0_7, e0, hc0_7, hr0_7⟩ := PRecordApart.k34_open K0
  obtain rfl : cs0 = #[.int .u32 y0.f0, .bool y0.f1, .int .u32 y0.f2, .int .u32 y0.f3, .int .i64 y0.f4, .int .u32 y0.f5.f0, .int .u32 y0.f5.f1, .slice A0_7 y0.f6.length c0_7, .int .u64 y0.f7.f0, .int .u32 y0.f7.f1.f0, .int .u32 y0.f7.f1.f1, .int .u32 y0.f7.f2.f0, .int .u32 y0.f7.f2.f1, .int .i64 y0.f7.f3, .int .i64 y0.f7.f4, .int .i64 y0.f7.f5] := by apply Array.ext'; exact e0
  have k1 := h1
  have lt1 : ∀ x ∈ p1, x.block < W.heap.size := by obtain ⟨m, hm⟩ := k1; exact DataW.trod_lt m _ _ _ hm
  obtain ⟨fuel1, hf1⟩ := h1
  obtain ⟨y1, K1, g1⟩ := PRecordApart.arg_t34 hf1
  obtain ⟨cs1, rfl, _⟩ := okWide_struct Try.underlying34 (hval 1 34 v1 rfl rfl)
  obtain ⟨A1_7, c1_7, e1, hc1_7, hr1_7⟩ := PRecordApart.k34_open K1
  obtain rfl : cs1 = #[.int .u32 y1.f0, .bool y1.f1, .int .u32 y1.f2, .int .u32 y1.f3, .int .i64 y1.f4, .int .u32 y1.f5.f0, .int .u32 y1.f5.f1, .slice A1_7 y1.f6.length c1_7, .int .u64 y1.f7.f0, .int .u32 y1.f7.f1.f0, .int .u32 y1.f7.f1.f1, .int .u32 y1.f7.f2.f0, .int .u32 y1.f7.f2.f1, .int .i64 y1.f7.f3, .int .i64 y1.f7.f4, .int .i64 y1.f7.f5] := by apply Array.ext'; exact e1
  clear hA0 hval0
  obtain ⟨kk, hp⟩ := PRecordApart.pure_law y0 g0 y1 g1
  refine (PRecordApart.understudylaw14_RecordApart.calls (k := kk) (r := true) (w := W) (a0_0 := y0.f0) (a0_1 := y0.f1) (a0_2 := y0.f2) (a0_3 := y0.f3) (a0_4 := y0.f4) (a0_5 := y0.f5.f0) (a0_6 := y0.f5.f1) (A0_7 := A0_7) (c0_7 := c0_7) (l0_7 := y0.f6) (hr0_7 := hr0_7) (hc0_7 := hc0_7) (a0_8 := y0.f7.f0) (a0_9 := y0.f7.f1.f0) (a0_10 := y0.f7.f1.f1) (a0_11 := y0.f7.f2.f0) (a0_12 := y0.f7.f2.f1) (a0_13 := y0.f7.f3) (a0_14 := y0.f7.f4) (a0_15 := y0.f7.f5) (a1_0 := y1.f0) (a1_1 := y1.f1) (a1_2 := y1.f2) (a1_3 := y1.f3) (a1_4 := y1.f4) (a1_5 := y1.f5.f0) (a1_6 := y1.f5.f1) (A1_7 := A1_7) (c1_7 := c1_7) (l1_7 := y1.f6) (hr1_7 := hr1_7) (hc1_7 := hc1_7) (a1_8 := y1.f7.f0) (a1_9 := y1.f7.f1.f0) (a1_10 := y1.f7.f1.f1) (a1_11 := y1.f7.f2.f0) (a1_12 := y1.f7.f2.f1) (a1_13 := y1.f7.f3) (a1_14 := y1.f7.f4) (a1_15 := y1.f7.f5) (h := hp)).mono fun e W' ⟨he, bel⟩ => ?_
  subst he
  exact ⟨_, rfl, _, _, _, [], _, [], hW', trodAll_mk1 (shut_bool Try.underlying4 _), (trodAll_cons_mk (Below.trod laidOut (by kernel_rfl) (of_decide_eq_true (by kernel_rfl)) k0 bel lt0) (trodAll_cons_mk (Below.trod laidOut (by kernel_rfl) (of_decide_eq_true (by kernel_rfl)) k1 bel lt1) trodAll_mk0)), rfl, bel.frame _, fun h => by cases h⟩
theorem over : Rows.recordApartRow.holds Try.pinned (OpenSpec.ofChange Rows.recordApartSpec) :=
  OpenClaim.holds_of_wide 6 Try.f6 rfl rfl rfl rfl rfl rfl rfl ⟨rfl, rfl, rfl, rfl, rfl⟩ rfl rfl rfl rfl rfl (by kernel_rfl) Try.func6 (by kernel_rfl)
    (of_decide_eq_true (by kernel_rfl)) (by unfold Func.isWrapper; first | (rw [if_pos (by decide +kernel)]; kernel_rfl) | (rw [if_neg (by decide +kernel)]; exact ⟨rfl, rfl⟩))
    (fun os started H enc _ => lifted os started H enc)
theorem proved : Rows.RecordApartSaid := over
#print axioms proved
end Go.Proofs.Ytkiiangookibnaa.recordApart
namespace Go.Proofs.Ytkiiangookibnaa
theorem recordApart_holds : Rows.RecordApartSaid := recordApart.proved
end Go.Proofs.Ytkiiangookibnaa
