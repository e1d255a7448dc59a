/- Package net: Turn, Clear. -/
import Derived.Test.YtckfcnclekjjdaaNt2
set_option linter.unusedVariables false
set_option linter.unusedSimpArgs false
namespace Go.Proofs.Ytckfcnclekjjdaa
open Go.RowKit Go.Proofs.YtckfcnclekjjdaaW.PrintWords Go.Proofs.YtckfcnclekjjdaaW.PrintLast Crc
section
variable {w0 W : World} {F : Nat → Prop} {L : List Res} {G : Nat} {v : Value} {fs : List Fr_}
theorem frs_set (i : Nat) (x : Fr_) : (frs fs).set i (fro x) = frs (fs.set i x) := by unfold frs; rw [List.map_set]
theorem wClear0 {P : Program} {ops : Array Oper} {Q : Exit → Act → World → Prop} {rest : List Oper} {l : List Value} {w : World} {ty t e c : Nat} {pos : String} {after : Array Edge} {x : Operand} {A : Option Addr} (ht : P.underlying t = some (.slice e)) (hx : evl l x = .slice A 0 c) {dd : Option Nat}
    (hk : wpList P ops Q rest ((fr l).put dd (.tuple #[])) w) : wpList P ops Q (⟨dd, .call { callee := .builtin .clear, args := #[x], argTypes := #[t] }, ty, pos, after, none⟩ :: rest) (fr l) w := by
  have hxE : (fr l).eval x = _ := (evl_eq _ _).trans hx
  have hr : (Builtin.clear_ #[t] ty #[.slice A 0 c]).run P w = .ok (.tuple #[]) w := by cases A <;> simp [Builtin.clear_, run_underlying ht, Sem.run_bind]
  refine wpList_plain rfl fun K hK' => ?_
  unfold Oper.wp
  simp [execOp, resolve, invoke, builtin, hxE, hr, Result.andThen]
  exact hK' _ _ hk

set_option maxRecDepth 10000 in
set_option maxHeartbeats 1000000 in
theorem nTurn_yes (HS : St w0 F W (net G v fs L)) {i : Nat} {tt : Int} {fv : Value} {xs : List UInt8} (hf : fs[i]? = some (tt, fv, xs)) (hsm : fs.length ≤ 1000) (hl : xs.length ≤ 1000000) (p : Int) (m : UInt8) : Calls Try.prog 29 #[.pointer (some ⟨G, 0, none⟩), .int .i64 (i : Int), .int .i64 p, .int .u8 (bv m)] W fun e w' => ∃ v' fv', e = .returned (.int .i64 0) ∧ St w0 F w' (net G v' (fs.set i (tt, fv', turnB xs p m)) L) := by
  have hi := (List.getElem?_eq_some_iff.1 hf).1
  obtain ⟨Af, cf, hfv, -⟩ := fr_sl (HS.allGet (.tail _ (.tail _ (.head _))) (frs_get hf))
  dsimp only at hfv
  subst hfv
  · skip
    refine c_enter Try.func29 rfl 35 rfl [.pointer (some ⟨G, 0, none⟩), .int .i64 (i : Int), .int .i64 p, .int .u8 (bv m), undef, undef, undef, undef, undef, undef, undef, undef, undef, undef, undef, undef, undef, undef, undef, undef, undef, undef, undef, undef, undef, undef, undef, undef, undef, undef, undef, undef, undef, undef, undef] rfl ?_
    refine wp_seq_k (fun K1 hK2 => ?_)
    refine c_region (fun ops4 hops3 => ?_)
    clear hops3
    refine p_run (l' := _) _ (x_assign (.int .i64 0) rfl rfl) rfl ?_
    refine wpList_nil ?_
    refine fr_at (l' := [.pointer (some ⟨G, 0, none⟩), .int .i64 (i : Int), .int .i64 p, .int .u8 (bv m), undef, undef, undef, undef, .int .i64 0, undef, undef, undef, undef, undef, undef, undef, undef, undef, undef, undef, undef, undef, undef, undef, undef, undef, undef, undef, undef, undef, undef, undef, undef, undef, undef]) rfl ?_
    refine hK2 _ _ ?_
    refine wp_seq_k (fun K5 hK6 => ?_)
    refine wp_seq_k (fun K7 hK8 => ?_)
    refine c_region (fun ops10 hops9 => ?_)
    clear hops9
    refine p_run (l' := _) _ (x_move (.pointer (some ⟨G, 0, none⟩)) rfl rfl) rfl ?_
    refine p_run (l' := _) _ (x_nil rfl rfl) rfl ?_
    refine p_run (l' := _) _ (x_field (j := 0) _ _ rfl rfl Try.underlying72 rfl (by rfl) rfl) rfl ?_
    refine p_run (l' := [.pointer (some ⟨G, 0, none⟩), .int .i64 (i : Int), .int .i64 p, .int .u8 (bv m), undef, undef, undef, undef, .int .i64 0, .pointer (some ⟨G, 0, none⟩), .pointer (some ⟨G, 0, none⟩), .pointer (some ⟨G, 0, none⟩), .int .i64 (i : Int), undef, undef, undef, undef, undef, undef, undef, undef, undef, undef, undef, undef, undef, undef, undef, undef, undef, undef, undef, undef, undef, undef]) _ (x_move (.int .i64 (i : Int)) rfl rfl) rfl ?_
    refine w_call [.pointer (some ⟨G, 0, none⟩), .int .i64 (i : Int)] Try.func42 (by kernel_rfl) (by rfl) rfl ?_
    replace HS := (((HS.front 2 rfl).front 2 rfl).front 2 rfl)
    refine (nThere_any HS _).mono ?_
    rintro e w' ⟨he_, rfl⟩
    rw [th_in hf] at he_
    subst he_
    obtain ⟨g, c, sp, hv, hb, hc1, hc2, hc3, hone⟩ := row_pk (HS.get (.tail _ (.head _))) (pk_ne hf)
    rw [pk_length] at hv hc1
    subst hv
    replace HS := (HS.front 1 rfl).alter hb (fun b h => (congrArg some (show b = g from h)).symm)
    have hc1f := hc1
    refine ⟨_, rfl, ?_⟩
    refine p_run (l' := _) _ (x_not true rfl rfl) rfl ?_
    refine wpList_nil ?_
    refine fr_at (l' := [.pointer (some ⟨G, 0, none⟩), .int .i64 (i : Int), .int .i64 p, .int .u8 (bv m), undef, undef, undef, undef, .int .i64 0, .pointer (some ⟨G, 0, none⟩), .pointer (some ⟨G, 0, none⟩), .pointer (some ⟨G, 0, none⟩), .int .i64 (i : Int), .bool true, .bool false, undef, undef, undef, undef, undef, undef, undef, undef, undef, undef, undef, undef, undef, undef, undef, undef, undef, undef, undef, undef]) rfl ?_
    refine hK8 _ _ ?_
    refine c_false rfl ?_
    refine wp_skip ?_
    refine hK6 _ _ ?_
    refine wp_seq_k (fun K11 hK12 => ?_)
    refine free_frame (n := 21) (T := _) [0, 1, 3, 7, 15, 0, 0, 64, 192, 448, 960, 0, 4032, 8128, 16320, 0, 0, 131008, 262143, 524287, 1048575] [(0, 15), (1, 16), (2, 17), (3, 18), (4, 19), (5, 20), (6, 21), (7, 22), (8, 23), (9, 24), (10, 25), (11, 26), (12, 27), (13, 28), (14, 29), (15, 30), (16, 31), (17, 32), (18, 33), (19, 34)] (fun bq_ vq_ w_ => qv ((fun i_ => match i_ with | 0 => some (.pointer (some ⟨G, 0, none⟩)) | 1 => some (.pointer (some ⟨G, 0, none⟩)) | 2 => some (.pointer (some ⟨G, 0, none⟩)) | 3 => some (.pointer (some ⟨G, 0, none⟩)) | 4 => some (.slice (some ⟨g, 0, none⟩) fs.length c) | 5 => some (.int .i64 (i : Int)) | 6 => some (.pointer (some ⟨G, 0, none⟩)) | 7 => some (.pointer (some ⟨G, 0, none⟩)) | 8 => some (.pointer (some ⟨G, 0, none⟩)) | 9 => some (.pointer (some ⟨G, 0, none⟩)) | 10 => some (.slice (some ⟨g, 0, none⟩) fs.length c) | 11 => some (.int .i64 (i : Int)) | 12 => some (.pointer (some ⟨g, i * 2, none⟩)) | 13 => some (.pointer (some ⟨g, i * 2 + 1, none⟩)) | 14 => some (.slice Af xs.length cf) | 15 => some (.int .i64 p) | 16 => some (.int .u8 (bv m)) | 18 => some (.pointer (some ⟨g, i * 2, none⟩)) | 19 => some (.pointer (some ⟨g, i * 2 + 1, none⟩)) | _ => none) : Nat → Option Value) bq_ vq_ ∧ cond (bq_ 20) (∃ (v15 : Value), vq_ 17 = v15 ∧ St w0 F w_ (blk g (((pkC (pk fs) ++ sp).set (i * 2 + 1) v15)) 75 :: row kByte rfl 5 v15 (turnB xs p m) :: blk G [.slice (some ⟨g, 0, none⟩) fs.length c] 72 :: allR (frs fs) :: L)) (cond (bq_ 17) (∃ (v15 : Value), vq_ 17 = v15 ∧ St w0 F w_ (row kByte rfl 5 v15 (turnB xs p m) :: blk g ((pkC (pk fs) ++ sp)) 75 :: blk G [.slice (some ⟨g, 0, none⟩) fs.length c] 72 :: allR (frs fs) :: L)) ((St w0 F w_ (blk g ((pkC (pk fs) ++ sp)) 75 :: blk G [.slice (some ⟨g, 0, none⟩) fs.length c] 72 :: allR (frs fs) :: L))))) (by kernel_rfl) rfl rfl (by kernel_rfl) (by kernel_rfl) rfl (by kernel_rfl) (by kernel_rfl) ⟨qv_none, HS.draw⟩ ?_ ?_
    · clear HS
      intro i_ hi_ bq_ vq_ a_ w_ hG hb_ hon hoff hfr hel hval
      obtain ⟨hV, hE⟩ := hG
      have hi_ := List.mem_range.1 hi_
      have hcs : i_ = 0 ∨ i_ = 1 ∨ i_ = 2 ∨ i_ = 3 ∨ i_ = 4 ∨ i_ = 5 ∨ i_ = 6 ∨ i_ = 7 ∨ i_ = 8 ∨ i_ = 9 ∨ i_ = 10 ∨ i_ = 11 ∨ i_ = 12 ∨ i_ = 13 ∨ i_ = 14 ∨ i_ = 15 ∨ i_ = 16 ∨ i_ = 17 ∨ i_ = 18 ∨ i_ = 19 ∨ i_ = 20 := by omega
      rcases hcs with rfl | rfl | rfl | rfl | rfl | rfl | rfl | rfl | rfl | rfl | rfl | rfl | rfl | rfl | rfl | rfl | rfl | rfl | rfl | rfl | rfl
      · have h0 : a_.tmps[0]? = some (.pointer (some ⟨G, 0, none⟩)) := (hel 0 (by decide)).trans rfl
        obtain ⟨l_, rfl⟩ := hfr
        have e0 : evl l_ (.tmp 0) = .pointer (some ⟨G, 0, none⟩) := evl_of h0
        refine ⟨_, rfl, fun K_ hK_ => wp_of_list rfl ?_⟩
        intro ops_
        refine p_run (l' := _) _ (x_move (.pointer (some ⟨G, 0, none⟩)) rfl e0) rfl ?_
        refine wpList_nil ?_
        exact norm_put (hK_ (.pointer (some ⟨G, 0, none⟩)) _ ⟨qv_up hV (fun _ h => Option.some.inj h), hE⟩)
      · have h15 : a_.tmps[15]? = some (.pointer (some ⟨G, 0, none⟩)) := (hval (0, 15) (by decide) (hon 0 (by decide))).trans (congrArg some (hV 0 _ rfl (hon 0 (by decide))))
        obtain ⟨l_, rfl⟩ := hfr
        have e15 : evl l_ (.tmp 15) = .pointer (some ⟨G, 0, none⟩) := evl_of h15
        refine ⟨_, rfl, fun K_ hK_ => wp_of_list rfl ?_⟩
        intro ops_
        refine p_run (l' := _) _ (x_nil rfl e15) rfl ?_
        refine wpList_nil ?_
        exact norm_put (hK_ (.pointer (some ⟨G, 0, none⟩)) _ ⟨qv_up hV (fun _ h => Option.some.inj h), hE⟩)
      · have h16 : a_.tmps[16]? = some (.pointer (some ⟨G, 0, none⟩)) := (hval (1, 16) (by decide) (hon 1 (by decide))).trans (congrArg some (hV 1 _ rfl (hon 1 (by decide))))
        obtain ⟨l_, rfl⟩ := hfr
        have e16 : evl l_ (.tmp 16) = .pointer (some ⟨G, 0, none⟩) := evl_of h16
        refine ⟨_, rfl, fun K_ hK_ => wp_of_list rfl ?_⟩
        intro ops_
        refine p_run (l' := _) _ (x_field (j := 0) _ _ rfl e16 Try.underlying72 rfl (by rfl) rfl) rfl ?_
        refine wpList_nil ?_
        exact norm_put (hK_ (.pointer (some ⟨G, 0, none⟩)) _ ⟨qv_up hV (fun _ h => Option.some.inj h), hE⟩)
      · have h17 : a_.tmps[17]? = some (.pointer (some ⟨G, 0, none⟩)) := (hval (2, 17) (by decide) (hon 2 (by decide))).trans (congrArg some (hV 2 _ rfl (hon 2 (by decide))))
        obtain ⟨l_, rfl⟩ := hfr
        have e17 : evl l_ (.tmp 17) = .pointer (some ⟨G, 0, none⟩) := evl_of h17
        refine ⟨_, rfl, fun K_ hK_ => wp_of_list rfl ?_⟩
        intro ops_
        refine p_run (l' := _) _ (x_field (j := 0) _ _ rfl e17 Try.underlying70 rfl (by rfl) rfl) rfl ?_
        refine wpList_nil ?_
        exact norm_put (hK_ (.pointer (some ⟨G, 0, none⟩)) _ ⟨qv_up hV (fun _ h => Option.some.inj h), hE⟩)
      · have h18 : a_.tmps[18]? = some (.pointer (some ⟨G, 0, none⟩)) := (hval (3, 18) (by decide) (hon 3 (by decide))).trans (congrArg some (hV 3 _ rfl (hon 3 (by decide))))
        obtain ⟨l_, rfl⟩ := hfr
        rcases hq17 : bq_ 17 with _ | _
        · skip
          have hE0 := hE
          rw [show bq_ 20 = false from (hoff 20 (by decide))] at hE0
          rw [show bq_ 17 = false from hq17] at hE0
          simp only [cond_true, cond_false] at hE0
          have HS := hE0
          have e18 : evl l_ (.tmp 18) = .pointer (some ⟨G, 0, none⟩) := evl_of h18
          refine ⟨_, rfl, fun K_ hK_ => wp_of_list rfl ?_⟩
          intro ops_
          refine p_run (l' := _) _ (x_load (.slice (some ⟨g, 0, none⟩) fs.length c) rfl e18 (bkCell (HS.get (.tail _ (.head _))) 0 _ rfl) (by rfl)) rfl ?_
          refine wpList_nil ?_
          exact norm_put (hK_ (.slice (some ⟨g, 0, none⟩) fs.length c) _ ⟨qv_up hV (fun _ h => Option.some.inj h), hE⟩)
        · have hE0 := hE
          rw [show bq_ 20 = false from (hoff 20 (by decide))] at hE0
          rw [show bq_ 17 = true from hq17] at hE0
          simp only [cond_true, cond_false] at hE0
          obtain ⟨v15, hv17, HS⟩ := hE0
          have e18 : evl l_ (.tmp 18) = .pointer (some ⟨G, 0, none⟩) := evl_of h18
          refine ⟨_, rfl, fun K_ hK_ => wp_of_list rfl ?_⟩
          intro ops_
          refine p_run (l' := _) _ (x_load (.slice (some ⟨g, 0, none⟩) fs.length c) rfl e18 (bkCell (HS.get (.tail _ (.tail _ (.head _)))) 0 _ rfl) (by rfl)) rfl ?_
          refine wpList_nil ?_
          exact norm_put (hK_ (.slice (some ⟨g, 0, none⟩) fs.length c) _ ⟨qv_up hV (fun _ h => Option.some.inj h), hE⟩)
      · have h1 : a_.tmps[1]? = some (.int .i64 (i : Int)) := (hel 1 (by decide)).trans rfl
        obtain ⟨l_, rfl⟩ := hfr
        have e1 : evl l_ (.tmp 1) = .int .i64 (i : Int) := evl_of h1
        refine ⟨_, rfl, fun K_ hK_ => wp_of_list rfl ?_⟩
        intro ops_
        refine p_run (l' := _) _ (x_move (.int .i64 (i : Int)) rfl e1) rfl ?_
        refine wpList_nil ?_
        exact norm_put (hK_ (.int .i64 (i : Int)) _ ⟨qv_up hV (fun _ h => Option.some.inj h), hE⟩)
      · have h0 : a_.tmps[0]? = some (.pointer (some ⟨G, 0, none⟩)) := (hel 0 (by decide)).trans rfl
        obtain ⟨l_, rfl⟩ := hfr
        have e0 : evl l_ (.tmp 0) = .pointer (some ⟨G, 0, none⟩) := evl_of h0
        refine ⟨_, rfl, fun K_ hK_ => wp_of_list rfl ?_⟩
        intro ops_
        refine p_run (l' := _) _ (x_move (.pointer (some ⟨G, 0, none⟩)) rfl e0) rfl ?_
        refine wpList_nil ?_
        exact norm_put (hK_ (.pointer (some ⟨G, 0, none⟩)) _ ⟨qv_up hV (fun _ h => Option.some.inj h), hE⟩)
      · have h21 : a_.tmps[21]? = some (.pointer (some ⟨G, 0, none⟩)) := (hval (6, 21) (by decide) (hon 6 (by decide))).trans (congrArg some (hV 6 _ rfl (hon 6 (by decide))))
        obtain ⟨l_, rfl⟩ := hfr
        have e21 : evl l_ (.tmp 21) = .pointer (some ⟨G, 0, none⟩) := evl_of h21
        refine ⟨_, rfl, fun K_ hK_ => wp_of_list rfl ?_⟩
        intro ops_
        refine p_run (l' := _) _ (x_nil rfl e21) rfl ?_
        refine wpList_nil ?_
        exact norm_put (hK_ (.pointer (some ⟨G, 0, none⟩)) _ ⟨qv_up hV (fun _ h => Option.some.inj h), hE⟩)
      · have h22 : a_.tmps[22]? = some (.pointer (some ⟨G, 0, none⟩)) := (hval (7, 22) (by decide) (hon 7 (by decide))).trans (congrArg some (hV 7 _ rfl (hon 7 (by decide))))
        obtain ⟨l_, rfl⟩ := hfr
        have e22 : evl l_ (.tmp 22) = .pointer (some ⟨G, 0, none⟩) := evl_of h22
        refine ⟨_, rfl, fun K_ hK_ => wp_of_list rfl ?_⟩
        intro ops_
        refine p_run (l' := _) _ (x_field (j := 0) _ _ rfl e22 Try.underlying72 rfl (by rfl) rfl) rfl ?_
        refine wpList_nil ?_
        exact norm_put (hK_ (.pointer (some ⟨G, 0, none⟩)) _ ⟨qv_up hV (fun _ h => Option.some.inj h), hE⟩)
      · have h23 : a_.tmps[23]? = some (.pointer (some ⟨G, 0, none⟩)) := (hval (8, 23) (by decide) (hon 8 (by decide))).trans (congrArg some (hV 8 _ rfl (hon 8 (by decide))))
        obtain ⟨l_, rfl⟩ := hfr
        have e23 : evl l_ (.tmp 23) = .pointer (some ⟨G, 0, none⟩) := evl_of h23
        refine ⟨_, rfl, fun K_ hK_ => wp_of_list rfl ?_⟩
        intro ops_
        refine p_run (l' := _) _ (x_field (j := 0) _ _ rfl e23 Try.underlying70 rfl (by rfl) rfl) rfl ?_
        refine wpList_nil ?_
        exact norm_put (hK_ (.pointer (some ⟨G, 0, none⟩)) _ ⟨qv_up hV (fun _ h => Option.some.inj h), hE⟩)
      · have h24 : a_.tmps[24]? = some (.pointer (some ⟨G, 0, none⟩)) := (hval (9, 24) (by decide) (hon 9 (by decide))).trans (congrArg some (hV 9 _ rfl (hon 9 (by decide))))
        obtain ⟨l_, rfl⟩ := hfr
        have hE0 := hE
        rw [show bq_ 20 = false from (hoff 20 (by decide))] at hE0
        rw [show bq_ 17 = false from (hoff 17 (by decide))] at hE0
        simp only [cond_true, cond_false] at hE0
        have HS := hE0
        have e24 : evl l_ (.tmp 24) = .pointer (some ⟨G, 0, none⟩) := evl_of h24
        refine ⟨_, rfl, fun K_ hK_ => wp_of_list rfl ?_⟩
        intro ops_
        refine p_run (l' := _) _ (x_load (.slice (some ⟨g, 0, none⟩) fs.length c) rfl e24 (bkCell (HS.get (.tail _ (.head _))) 0 _ rfl) (by rfl)) rfl ?_
        refine wpList_nil ?_
        exact norm_put (hK_ (.slice (some ⟨g, 0, none⟩) fs.length c) _ ⟨qv_up hV (fun _ h => Option.some.inj h), hE⟩)
      · have h1 : a_.tmps[1]? = some (.int .i64 (i : Int)) := (hel 1 (by decide)).trans rfl
        obtain ⟨l_, rfl⟩ := hfr
        have e1 : evl l_ (.tmp 1) = .int .i64 (i : Int) := evl_of h1
        refine ⟨_, rfl, fun K_ hK_ => wp_of_list rfl ?_⟩
        intro ops_
        refine p_run (l' := _) _ (x_move (.int .i64 (i : Int)) rfl e1) rfl ?_
        refine wpList_nil ?_
        exact norm_put (hK_ (.int .i64 (i : Int)) _ ⟨qv_up hV (fun _ h => Option.some.inj h), hE⟩)
      · have h25 : a_.tmps[25]? = some (.slice (some ⟨g, 0, none⟩) fs.length c) := (hval (10, 25) (by decide) (hon 10 (by decide))).trans (congrArg some (hV 10 _ rfl (hon 10 (by decide))))
        have h26 : a_.tmps[26]? = some (.int .i64 (i : Int)) := (hval (11, 26) (by decide) (hon 11 (by decide))).trans (congrArg some (hV 11 _ rfl (hon 11 (by decide))))
        obtain ⟨l_, rfl⟩ := hfr
        have e25 : evl l_ (.tmp 25) = .slice (some ⟨g, 0, none⟩) fs.length c := evl_of h25
        have e26 : evl l_ (.tmp 26) = .int .i64 (i : Int) := evl_of h26
        refine ⟨_, rfl, fun K_ hK_ => wp_of_list rfl ?_⟩
        intro ops_
        refine p_run (l' := _) (.pointer (some ⟨g, i * 2, none⟩)) ((x_index (A := ⟨g, 0, none⟩) (j := i * 2) (sz := 2) rfl e25 e26 Try.underlying68 (by kernel_rfl) (by omega) rfl).trans (by rw [add_mk, Nat.zero_add])) rfl ?_
        refine wpList_nil ?_
        exact norm_put (hK_ (.pointer (some ⟨g, i * 2, none⟩)) _ ⟨qv_up hV (fun _ h => Option.some.inj h), hE⟩)
      · have h27 : a_.tmps[27]? = some (.pointer (some ⟨g, i * 2, none⟩)) := (hval (12, 27) (by decide) (hon 12 (by decide))).trans (congrArg some (hV 12 _ rfl (hon 12 (by decide))))
        obtain ⟨l_, rfl⟩ := hfr
        have e27 : evl l_ (.tmp 27) = .pointer (some ⟨g, i * 2, none⟩) := evl_of h27
        refine ⟨_, rfl, fun K_ hK_ => wp_of_list rfl ?_⟩
        intro ops_
        refine p_run (l' := _) _ (x_field (j := i * 2 + 1) _ _ rfl e27 Try.underlying75 rfl (by rfl) rfl) rfl ?_
        refine wpList_nil ?_
        exact norm_put (hK_ (.pointer (some ⟨g, i * 2 + 1, none⟩)) _ ⟨qv_up hV (fun _ h => Option.some.inj h), hE⟩)
      · have h28 : a_.tmps[28]? = some (.pointer (some ⟨g, i * 2 + 1, none⟩)) := (hval (13, 28) (by decide) (hon 13 (by decide))).trans (congrArg some (hV 13 _ rfl (hon 13 (by decide))))
        obtain ⟨l_, rfl⟩ := hfr
        have hE0 := hE
        rw [show bq_ 20 = false from (hoff 20 (by decide))] at hE0
        rw [show bq_ 17 = false from (hoff 17 (by decide))] at hE0
        simp only [cond_true, cond_false] at hE0
        have HS := hE0
        have e28 : evl l_ (.tmp 28) = .pointer (some ⟨g, i * 2 + 1, none⟩) := evl_of h28
        refine ⟨_, rfl, fun K_ hK_ => wp_of_list rfl ?_⟩
        intro ops_
        refine p_run (l' := _) _ (x_load (.slice Af xs.length cf) rfl e28 (bkCell (HS.get (.head _)) (i * 2 + 1) _ (pk_at1 (pk_get hf))) (by rfl)) rfl ?_
        refine wpList_nil ?_
        exact norm_put (hK_ (.slice Af xs.length cf) _ ⟨qv_up hV (fun _ h => Option.some.inj h), hE⟩)
      · have h2 : a_.tmps[2]? = some (.int .i64 p) := (hel 2 (by decide)).trans rfl
        obtain ⟨l_, rfl⟩ := hfr
        have e2 : evl l_ (.tmp 2) = .int .i64 p := evl_of h2
        refine ⟨_, rfl, fun K_ hK_ => wp_of_list rfl ?_⟩
        intro ops_
        refine p_run (l' := _) _ (x_move (.int .i64 p) rfl e2) rfl ?_
        refine wpList_nil ?_
        exact norm_put (hK_ (.int .i64 p) _ ⟨qv_up hV (fun _ h => Option.some.inj h), hE⟩)
      · have h3 : a_.tmps[3]? = some (.int .u8 (bv m)) := (hel 3 (by decide)).trans rfl
        obtain ⟨l_, rfl⟩ := hfr
        have e3 : evl l_ (.tmp 3) = .int .u8 (bv m) := evl_of h3
        refine ⟨_, rfl, fun K_ hK_ => wp_of_list rfl ?_⟩
        intro ops_
        refine p_run (l' := _) _ (x_move (.int .u8 (bv m)) rfl e3) rfl ?_
        refine wpList_nil ?_
        exact norm_put (hK_ (.int .u8 (bv m)) _ ⟨qv_up hV (fun _ h => Option.some.inj h), hE⟩)
      · have h29 : a_.tmps[29]? = some (.slice Af xs.length cf) := (hval (14, 29) (by decide) (hon 14 (by decide))).trans (congrArg some (hV 14 _ rfl (hon 14 (by decide))))
        have h30 : a_.tmps[30]? = some (.int .i64 p) := (hval (15, 30) (by decide) (hon 15 (by decide))).trans (congrArg some (hV 15 _ rfl (hon 15 (by decide))))
        have h31 : a_.tmps[31]? = some (.int .u8 (bv m)) := (hval (16, 31) (by decide) (hon 16 (by decide))).trans (congrArg some (hV 16 _ rfl (hon 16 (by decide))))
        obtain ⟨l_, rfl⟩ := hfr
        have hE0 := hE
        rw [show bq_ 20 = false from (hoff 20 (by decide))] at hE0
        rw [show bq_ 17 = false from hb_] at hE0
        simp only [cond_true, cond_false] at hE0
        have HS := hE0
        have e29 : evl l_ (.tmp 29) = .slice Af xs.length cf := evl_of h29
        have e30 : evl l_ (.tmp 30) = .int .i64 p := evl_of h30
        have e31 : evl l_ (.tmp 31) = .int .u8 (bv m) := evl_of h31
        refine ⟨_, rfl, fun K_ hK_ => wp_of_list rfl ?_⟩
        intro ops_
        refine w_call [.slice Af xs.length cf, .int .i64 p, .int .u8 (bv m)] Try.func20 (by kernel_rfl) (by rfl) (by simp only [List.map_cons, List.map_nil, e29, e30, e31] <;> rfl) ?_
        refine (nTurnC_any HS p m rfl (fr_sl' (HS.allGet (.tail _ (.tail _ (.head _))) (frs_get hf))) (by omega)).mono ?_
        clear HS
        rintro e w901702 ⟨v901701, rfl, HS⟩
        refine ⟨_, rfl, ?_⟩
        refine wpList_nil ?_
        refine norm_put (hK_ (v901701) _ ⟨qv_up hV (by intro _ h; cases h), ?_⟩)
        show cond (bq_ 20) _ _
        rw [show bq_ 20 = false from hoff 20 (by decide), cond_false]
        show cond true _ _
        rw [cond_true]
        exact ⟨v901701, rfl, ((((HS.front 3 rfl).front 3 rfl).front 3 rfl).front 3 rfl)⟩
      · have h19 : a_.tmps[19]? = some (.slice (some ⟨g, 0, none⟩) fs.length c) := (hval (4, 19) (by decide) (hon 4 (by decide))).trans (congrArg some (hV 4 _ rfl (hon 4 (by decide))))
        have h20 : a_.tmps[20]? = some (.int .i64 (i : Int)) := (hval (5, 20) (by decide) (hon 5 (by decide))).trans (congrArg some (hV 5 _ rfl (hon 5 (by decide))))
        obtain ⟨l_, rfl⟩ := hfr
        have e19 : evl l_ (.tmp 19) = .slice (some ⟨g, 0, none⟩) fs.length c := evl_of h19
        have e20 : evl l_ (.tmp 20) = .int .i64 (i : Int) := evl_of h20
        refine ⟨_, rfl, fun K_ hK_ => wp_of_list rfl ?_⟩
        intro ops_
        refine p_run (l' := _) (.pointer (some ⟨g, i * 2, none⟩)) ((x_index (A := ⟨g, 0, none⟩) (j := i * 2) (sz := 2) rfl e19 e20 Try.underlying68 (by kernel_rfl) (by omega) rfl).trans (by rw [add_mk, Nat.zero_add])) rfl ?_
        refine wpList_nil ?_
        exact norm_put (hK_ (.pointer (some ⟨g, i * 2, none⟩)) _ ⟨qv_up hV (fun _ h => Option.some.inj h), hE⟩)
      · have h33 : a_.tmps[33]? = some (.pointer (some ⟨g, i * 2, none⟩)) := (hval (18, 33) (by decide) (hon 18 (by decide))).trans (congrArg some (hV 18 _ rfl (hon 18 (by decide))))
        obtain ⟨l_, rfl⟩ := hfr
        have e33 : evl l_ (.tmp 33) = .pointer (some ⟨g, i * 2, none⟩) := evl_of h33
        refine ⟨_, rfl, fun K_ hK_ => wp_of_list rfl ?_⟩
        intro ops_
        refine p_run (l' := _) _ (x_field (j := i * 2 + 1) _ _ rfl e33 Try.underlying75 rfl (by rfl) rfl) rfl ?_
        refine wpList_nil ?_
        exact norm_put (hK_ (.pointer (some ⟨g, i * 2 + 1, none⟩)) _ ⟨qv_up hV (fun _ h => Option.some.inj h), hE⟩)
      · have h32 := hval (17, 32) (by decide) (hon 17 (by decide))
        have h34 : a_.tmps[34]? = some (.pointer (some ⟨g, i * 2 + 1, none⟩)) := (hval (19, 34) (by decide) (hon 19 (by decide))).trans (congrArg some (hV 19 _ rfl (hon 19 (by decide))))
        obtain ⟨l_, rfl⟩ := hfr
        have hE0 := hE
        rw [show bq_ 20 = false from hb_] at hE0
        rw [show bq_ 17 = true from (hon 17 (by decide))] at hE0
        simp only [cond_true, cond_false] at hE0
        obtain ⟨v15, hv17, HS⟩ := hE0
        rw [hv17] at h32
        have e32 : evl l_ (.tmp 32) = v15 := evl_of h32
        have e34 : evl l_ (.tmp 34) = .pointer (some ⟨g, i * 2 + 1, none⟩) := evl_of h34
        refine ⟨_, rfl, fun K_ hK_ => wp_of_list rfl ?_⟩
        intro ops_
        refine St.store (cs' := ((pkC (pk fs) ++ sp).set (i * 2 + 1) v15)) (HS.front 1 rfl) (v15) e34 e32 (row_one (HS.get (.head _))) (by kernel_rfl) (decide_eq_true (by rw [hc3]; omega)) rfl ?_
        clear HS
        intro w902001 HS
        refine wpList_nil ?_
        refine norm_none (hK_ undef _ ⟨qv_up hV (by intro _ h; cases h), ?_⟩)
        show cond true _ _
        rw [cond_true]
        exact ⟨v15, hv17, ((((HS.front 3 rfl).front 3 rfl).front 3 rfl).front 3 rfl)⟩
    intro bq_ vq_ w_ hall hG
    obtain ⟨hV, hE⟩ := hG
    clear HS
    rw [show bq_ 20 = true from hall 20 (by decide)] at hE
    simp only [cond_true] at hE
    obtain ⟨v15, hv17, HS⟩ := hE
    have hv0 := hV 0 _ rfl (hall 0 (by decide))
    have hv1 := hV 1 _ rfl (hall 1 (by decide))
    have hv2 := hV 2 _ rfl (hall 2 (by decide))
    have hv3 := hV 3 _ rfl (hall 3 (by decide))
    have hv4 := hV 4 _ rfl (hall 4 (by decide))
    have hv5 := hV 5 _ rfl (hall 5 (by decide))
    have hv6 := hV 6 _ rfl (hall 6 (by decide))
    have hv7 := hV 7 _ rfl (hall 7 (by decide))
    have hv8 := hV 8 _ rfl (hall 8 (by decide))
    have hv9 := hV 9 _ rfl (hall 9 (by decide))
    have hv10 := hV 10 _ rfl (hall 10 (by decide))
    have hv11 := hV 11 _ rfl (hall 11 (by decide))
    have hv12 := hV 12 _ rfl (hall 12 (by decide))
    have hv13 := hV 13 _ rfl (hall 13 (by decide))
    have hv14 := hV 14 _ rfl (hall 14 (by decide))
    have hv15 := hV 15 _ rfl (hall 15 (by decide))
    have hv16 := hV 16 _ rfl (hall 16 (by decide))
    have hv18 := hV 18 _ rfl (hall 18 (by decide))
    have hv19 := hV 19 _ rfl (hall 19 (by decide))
    clear hV hall
    rw [putSel_fr]
    simp only [tells, List.map_cons, List.map_nil, setAll, List.set_cons_succ, List.set_cons_zero, hv0, hv1, hv2, hv3, hv4, hv5, hv6, hv7, hv8, hv9, hv10, hv11, hv12, hv13, hv14, hv15, hv16, hv17, hv18, hv19]
    clear hv0 hv1 hv2 hv3 hv4 hv5 hv6 hv7 hv8 hv9 hv10 hv11 hv12 hv13 hv14 hv15 hv16 hv17 hv18 hv19
    generalize w_ = w902002 at HS ⊢
    refine fr_at (l' := [.pointer (some ⟨G, 0, none⟩), .int .i64 (i : Int), .int .i64 p, .int .u8 (bv m), undef, undef, undef, undef, .int .i64 0, .pointer (some ⟨G, 0, none⟩), .pointer (some ⟨G, 0, none⟩), .pointer (some ⟨G, 0, none⟩), .int .i64 (i : Int), .bool true, .bool false, .pointer (some ⟨G, 0, none⟩), .pointer (some ⟨G, 0, none⟩), .pointer (some ⟨G, 0, none⟩), .pointer (some ⟨G, 0, none⟩), .slice (some ⟨g, 0, none⟩) fs.length c, .int .i64 (i : Int), .pointer (some ⟨G, 0, none⟩), .pointer (some ⟨G, 0, none⟩), .pointer (some ⟨G, 0, none⟩), .pointer (some ⟨G, 0, none⟩), .slice (some ⟨g, 0, none⟩) fs.length c, .int .i64 (i : Int), .pointer (some ⟨g, i * 2, none⟩), .pointer (some ⟨g, i * 2 + 1, none⟩), .slice Af xs.length cf, .int .i64 p, .int .u8 (bv m), v15, .pointer (some ⟨g, i * 2, none⟩), .pointer (some ⟨g, i * 2 + 1, none⟩)]) rfl ?_
    refine hK12 _ _ ?_
    refine wp_seq_k (fun K902003 hK902004 => ?_)
    refine c_region (fun ops902006 hops902005 => ?_)
    clear hops902005
    refine p_run (l' := _) _ (x_assign (.int .i64 0) rfl rfl) rfl ?_
    refine wpList_nil ?_
    refine fr_at (l' := [.pointer (some ⟨G, 0, none⟩), .int .i64 (i : Int), .int .i64 p, .int .u8 (bv m), undef, undef, undef, undef, .int .i64 0, .pointer (some ⟨G, 0, none⟩), .pointer (some ⟨G, 0, none⟩), .pointer (some ⟨G, 0, none⟩), .int .i64 (i : Int), .bool true, .bool false, .pointer (some ⟨G, 0, none⟩), .pointer (some ⟨G, 0, none⟩), .pointer (some ⟨G, 0, none⟩), .pointer (some ⟨G, 0, none⟩), .slice (some ⟨g, 0, none⟩) fs.length c, .int .i64 (i : Int), .pointer (some ⟨G, 0, none⟩), .pointer (some ⟨G, 0, none⟩), .pointer (some ⟨G, 0, none⟩), .pointer (some ⟨G, 0, none⟩), .slice (some ⟨g, 0, none⟩) fs.length c, .int .i64 (i : Int), .pointer (some ⟨g, i * 2, none⟩), .pointer (some ⟨g, i * 2 + 1, none⟩), .slice Af xs.length cf, .int .i64 p, .int .u8 (bv m), v15, .pointer (some ⟨g, i * 2, none⟩), .pointer (some ⟨g, i * 2 + 1, none⟩)]) rfl ?_
    refine hK902004 _ _ ?_
    refine wp_ret ?_
    try simp only [Exit.inBlock, Exit.then]
    refine c_ret (.int .i64 0) (r_tmp rfl rfl) ?_
    have hnv := row_one (HS.get (.tail _ (.head _)))
    rw [pk_set1 (pk_get hf), show (pk fs).set i (tt, v15) = pk (fs.set i (tt, v15, turnB xs p m)) from pk_set (i := i) (tt, v15, turnB xs p m)] at HS
    have hle : (pk (fs.set i (tt, v15, turnB xs p m))).length = fs.length := by rw [pk_length, List.length_set]
    have hone' : ∀ q ∈ pk (fs.set i (tt, v15, turnB xs p m)), q.2.oneCell' = true := fun q hq => by
      rw [← pk_set] at hq
      rcases List.mem_or_eq_of_mem_set hq with h | h
      · exact hone q h
      · rw [h]; exact hnv
    have hc3' : (pkC (pk (fs.set i (tt, v15, turnB xs p m))) ++ sp).length = c * 2 := by rw [← hc3, List.length_append, List.length_append, pkC_length, pkC_length, hle, pk_length]
    replace HS := HS.alter (pk_row (hE := rfl) (ps := pk (fs.set i (tt, v15, turnB xs p m))) HS.hs.head (by rw [hle]; omega) hc2 hc3' hone') (fun b h => (Option.some.inj (show some g = some b from h)).symm)
    rw [hle] at HS
    replace HS := (HS.front 3 rfl)
    replace HS := (HS.pull i (frs_get hf)).drop
    replace HS := (HS.front 2 rfl)
    replace HS := HS.push (frs_get hf)
    replace HS : St _ _ _ (allR ((frs fs).set i (fro (tt, v15, turnB xs p m))) :: _) := HS
    rw [frs_set] at HS
    exact ⟨_, v15, rfl, ((HS.front 1 rfl).front 2 rfl)⟩

set_option maxRecDepth 10000 in
theorem nTurn_no (HS : St w0 F W (net G v fs L)) (i : Int) (hno : nTh fs i = false) (p : Int) (m : UInt8) : Calls Try.prog 29 #[.pointer (some ⟨G, 0, none⟩), .int .i64 i, .int .i64 p, .int .u8 (bv m)] W fun e w' => e = .returned (.int .i64 191) ∧ w' = W := by
  refine c_enter Try.func29 rfl 35 rfl [.pointer (some ⟨G, 0, none⟩), .int .i64 i, .int .i64 p, .int .u8 (bv m), undef, undef, undef, undef, undef, undef, undef, undef, undef, undef, undef, undef, undef, undef, undef, undef, undef, undef, undef, undef, undef, undef, undef, undef, undef, undef, undef, undef, undef, undef, undef] rfl ?_
  refine wp_seq_k (fun K1 hK2 => ?_)
  refine c_region (fun ops4 hops3 => ?_)
  clear hops3
  refine p_run (l' := _) _ (x_assign (.int .i64 0) rfl rfl) rfl ?_
  refine wpList_nil ?_
  refine fr_at (l' := [.pointer (some ⟨G, 0, none⟩), .int .i64 i, .int .i64 p, .int .u8 (bv m), undef, undef, undef, undef, .int .i64 0, undef, undef, undef, undef, undef, undef, undef, undef, undef, undef, undef, undef, undef, undef, undef, undef, undef, undef, undef, undef, undef, undef, undef, undef, undef, undef]) rfl ?_
  refine hK2 _ _ ?_
  refine wp_seq_k (fun K5 hK6 => ?_)
  refine wp_seq_k (fun K7 hK8 => ?_)
  refine c_region (fun ops10 hops9 => ?_)
  clear hops9
  refine p_run (l' := _) _ (x_move (.pointer (some ⟨G, 0, none⟩)) rfl rfl) rfl ?_
  refine p_run (l' := _) _ (x_nil rfl rfl) rfl ?_
  refine p_run (l' := _) _ (x_field (j := 0) _ _ rfl rfl Try.underlying72 rfl (by rfl) rfl) rfl ?_
  refine p_run (l' := [.pointer (some ⟨G, 0, none⟩), .int .i64 i, .int .i64 p, .int .u8 (bv m), undef, undef, undef, undef, .int .i64 0, .pointer (some ⟨G, 0, none⟩), .pointer (some ⟨G, 0, none⟩), .pointer (some ⟨G, 0, none⟩), .int .i64 i, undef, undef, undef, undef, undef, undef, undef, undef, undef, undef, undef, undef, undef, undef, undef, undef, undef, undef, undef, undef, undef, undef]) _ (x_move (.int .i64 i) rfl rfl) rfl ?_
  refine w_call [.pointer (some ⟨G, 0, none⟩), .int .i64 i] Try.func42 (by kernel_rfl) (by rfl) rfl ?_
  replace HS := (((HS.front 2 rfl).front 2 rfl).front 2 rfl)
  refine (nThere_any HS _).mono ?_
  rintro e w' ⟨he_, rfl⟩
  rw [hno] at he_
  subst he_
  refine ⟨_, rfl, ?_⟩
  refine p_run (l' := _) _ (x_not false rfl rfl) rfl ?_
  refine wpList_nil ?_
  refine fr_at (l' := [.pointer (some ⟨G, 0, none⟩), .int .i64 i, .int .i64 p, .int .u8 (bv m), undef, undef, undef, undef, .int .i64 0, .pointer (some ⟨G, 0, none⟩), .pointer (some ⟨G, 0, none⟩), .pointer (some ⟨G, 0, none⟩), .int .i64 i, .bool false, .bool true, undef, undef, undef, undef, undef, undef, undef, undef, undef, undef, undef, undef, undef, undef, undef, undef, undef, undef, undef, undef]) rfl ?_
  refine hK8 _ _ ?_
  refine c_true rfl ?_
  refine wp_seq_k (fun K11 hK12 => ?_)
  refine c_region (fun ops14 hops13 => ?_)
  clear hops13
  refine p_run (l' := _) _ (x_assign (.int .i64 191) rfl rfl) rfl ?_
  refine wpList_nil ?_
  refine fr_at (l' := [.pointer (some ⟨G, 0, none⟩), .int .i64 i, .int .i64 p, .int .u8 (bv m), undef, undef, undef, undef, .int .i64 191, .pointer (some ⟨G, 0, none⟩), .pointer (some ⟨G, 0, none⟩), .pointer (some ⟨G, 0, none⟩), .int .i64 i, .bool false, .bool true, undef, undef, undef, undef, undef, undef, undef, undef, undef, undef, undef, undef, undef, undef, undef, undef, undef, undef, undef, undef]) rfl ?_
  refine hK12 _ _ ?_
  refine wp_ret ?_
  try simp only [Exit.inBlock, Exit.then]
  refine c_ret (.int .i64 191) (r_tmp rfl rfl) ?_
  exact ⟨rfl, rfl⟩

set_option maxRecDepth 10000 in
theorem nClear_any (HS : St w0 F W (net G v fs L)) : Calls Try.prog 26 #[.pointer (some ⟨G, 0, none⟩)] W fun e w' => e = .returned (.int .i64 (fs.length : Int)) ∧ St w0 F w' (net G (.slice none 0 0) [] L) := by
  by_cases hnil : fs.length = 0
  · skip
    refine c_enter Try.func26 rfl 16 rfl [.pointer (some ⟨G, 0, none⟩), undef, undef, undef, undef, undef, undef, undef, undef, undef, undef, undef, undef, undef, undef, undef] rfl ?_
    refine wp_seq_k (fun K1 hK2 => ?_)
    refine c_region (fun ops4 hops3 => ?_)
    clear hops3
    refine p_run (l' := _) _ (x_assign (.int .i64 0) rfl rfl) rfl ?_
    refine wpList_nil ?_
    refine fr_at (l' := [.pointer (some ⟨G, 0, none⟩), undef, .int .i64 0, undef, undef, undef, undef, undef, undef, undef, undef, undef, undef, undef, undef, undef]) rfl ?_
    refine hK2 _ _ ?_
    refine wp_seq_k (fun K5 hK6 => ?_)
    refine c_region (fun ops8 hops7 => ?_)
    clear hops7
    refine p_run (l' := _) _ (x_move (.pointer (some ⟨G, 0, none⟩)) rfl rfl) rfl ?_
    refine w_call [.pointer (some ⟨G, 0, none⟩)] Try.func25 (by kernel_rfl) (by rfl) rfl ?_
    replace HS := (((HS.front 2 rfl).front 2 rfl).front 2 rfl)
    refine (nLen_any HS).mono ?_
    rintro e w' ⟨rfl, rfl⟩
    obtain ⟨A, c, hv, hcap, hrd⟩ := row_reads (HS.get (.tail _ (.head _)))
    rw [pk_length] at hv hcap
    subst hv
    rw [hnil] at HS
    refine ⟨_, rfl, ?_⟩
    refine p_run (l' := _) _ (x_assign (.int .i64 (fs.length : Int)) rfl rfl) rfl ?_
    refine wpList_nil ?_
    refine fr_at (l' := [.pointer (some ⟨G, 0, none⟩), undef, .int .i64 0, .int .i64 (fs.length : Int), .pointer (some ⟨G, 0, none⟩), .int .i64 (fs.length : Int), undef, undef, undef, undef, undef, undef, undef, undef, undef, undef]) rfl ?_
    refine hK6 _ _ ?_
    refine wp_seq_k (fun K9 hK10 => ?_)
    refine c_region (fun ops12 hops11 => ?_)
    clear hops11
    refine p_run (l' := _) _ (x_move (.pointer (some ⟨G, 0, none⟩)) rfl rfl) rfl ?_
    refine p_run (l' := _) _ (x_nil rfl rfl) rfl ?_
    refine p_run (l' := _) _ (x_field (j := 0) _ _ rfl rfl Try.underlying72 rfl (by rfl) rfl) rfl ?_
    refine p_run (l' := [.pointer (some ⟨G, 0, none⟩), undef, .int .i64 0, .int .i64 (fs.length : Int), .pointer (some ⟨G, 0, none⟩), .int .i64 (fs.length : Int), .pointer (some ⟨G, 0, none⟩), .pointer (some ⟨G, 0, none⟩), .pointer (some ⟨G, 0, none⟩), .pointer (some ⟨G, 0, none⟩), undef, undef, undef, undef, undef, undef]) _ (x_field (j := 0) _ _ rfl rfl Try.underlying70 rfl (by rfl) rfl) rfl ?_
    refine p_run (l' := _) _ (x_load (.slice A 0 c) rfl rfl (bkCell (HS.get (.head _)) 0 _ rfl) (by rfl)) rfl ?_
    refine wClear0 Try.underlying68 rfl ?_
    show wpList _ _ _ _ (fr _) _
    refine wpList_nil ?_
    refine fr_at (l' := [.pointer (some ⟨G, 0, none⟩), undef, .int .i64 0, .int .i64 (fs.length : Int), .pointer (some ⟨G, 0, none⟩), .int .i64 (fs.length : Int), .pointer (some ⟨G, 0, none⟩), .pointer (some ⟨G, 0, none⟩), .pointer (some ⟨G, 0, none⟩), .pointer (some ⟨G, 0, none⟩), .slice A 0 c, undef, undef, undef, undef, undef]) rfl ?_
    refine hK10 _ _ ?_
    refine wp_seq_k (fun K13 hK14 => ?_)
    refine c_region (fun ops16 hops15 => ?_)
    clear hops15
    refine p_run (l' := _) _ (x_move (.pointer (some ⟨G, 0, none⟩)) rfl rfl) rfl ?_
    refine p_run (l' := _) _ (x_nil rfl rfl) rfl ?_
    refine p_run (l' := _) _ (x_field (j := 0) _ _ rfl rfl Try.underlying72 rfl (by rfl) rfl) rfl ?_
    refine p_run (l' := [.pointer (some ⟨G, 0, none⟩), undef, .int .i64 0, .int .i64 (fs.length : Int), .pointer (some ⟨G, 0, none⟩), .int .i64 (fs.length : Int), .pointer (some ⟨G, 0, none⟩), .pointer (some ⟨G, 0, none⟩), .pointer (some ⟨G, 0, none⟩), .pointer (some ⟨G, 0, none⟩), .slice A 0 c, .pointer (some ⟨G, 0, none⟩), .pointer (some ⟨G, 0, none⟩), .pointer (some ⟨G, 0, none⟩), .pointer (some ⟨G, 0, none⟩), undef]) _ (x_field (j := 0) _ _ rfl rfl Try.underlying70 rfl (by rfl) rfl) rfl ?_
    refine St.store (cs' := [.slice none 0 0]) HS (.slice none 0 0) rfl rfl rfl (by kernel_rfl) (by rfl) rfl ?_
    clear HS
    intro w17 HS
    refine wpList_nil ?_
    refine hK14 _ _ ?_
    refine wp_seq_k (fun K18 hK19 => ?_)
    refine c_region (fun ops21 hops20 => ?_)
    clear hops20
    refine p_run (l' := _) _ (x_move (.int .i64 (fs.length : Int)) rfl rfl) rfl ?_
    refine p_run (l' := _) _ (x_assign (.int .i64 (fs.length : Int)) rfl rfl) rfl ?_
    refine wpList_nil ?_
    refine fr_at (l' := [.pointer (some ⟨G, 0, none⟩), undef, .int .i64 (fs.length : Int), .int .i64 (fs.length : Int), .pointer (some ⟨G, 0, none⟩), .int .i64 (fs.length : Int), .pointer (some ⟨G, 0, none⟩), .pointer (some ⟨G, 0, none⟩), .pointer (some ⟨G, 0, none⟩), .pointer (some ⟨G, 0, none⟩), .slice A 0 c, .pointer (some ⟨G, 0, none⟩), .pointer (some ⟨G, 0, none⟩), .pointer (some ⟨G, 0, none⟩), .pointer (some ⟨G, 0, none⟩), .int .i64 (fs.length : Int)]) rfl ?_
    refine hK19 _ _ ?_
    refine wp_ret ?_
    try simp only [Exit.inBlock, Exit.then]
    refine c_ret (.int .i64 (fs.length : Int)) (r_tmp rfl rfl) ?_
    have H1 := ((((HS.front 1 rfl).drop.front 1 rfl).drop).nil kPk rfl 75).pushNil
    exact ⟨rfl, (H1.front 1 rfl).front 2 rfl⟩
  · skip
    have hne : pk fs ≠ [] := fun e => hnil (by rw [← pk_length, e]; rfl)
    refine c_enter Try.func26 rfl 16 rfl [.pointer (some ⟨G, 0, none⟩), undef, undef, undef, undef, undef, undef, undef, undef, undef, undef, undef, undef, undef, undef, undef] rfl ?_
    refine wp_seq_k (fun K1 hK2 => ?_)
    refine c_region (fun ops4 hops3 => ?_)
    clear hops3
    refine p_run (l' := _) _ (x_assign (.int .i64 0) rfl rfl) rfl ?_
    refine wpList_nil ?_
    refine fr_at (l' := [.pointer (some ⟨G, 0, none⟩), undef, .int .i64 0, undef, undef, undef, undef, undef, undef, undef, undef, undef, undef, undef, undef, undef]) rfl ?_
    refine hK2 _ _ ?_
    refine wp_seq_k (fun K5 hK6 => ?_)
    refine c_region (fun ops8 hops7 => ?_)
    clear hops7
    refine p_run (l' := _) _ (x_move (.pointer (some ⟨G, 0, none⟩)) rfl rfl) rfl ?_
    refine w_call [.pointer (some ⟨G, 0, none⟩)] Try.func25 (by kernel_rfl) (by rfl) rfl ?_
    replace HS := (((HS.front 2 rfl).front 2 rfl).front 2 rfl)
    refine (nLen_any HS).mono ?_
    rintro e w' ⟨rfl, rfl⟩
    obtain ⟨g, c, sp, hv, hb, hc1, hc2, hc3, hone⟩ := row_pk (HS.get (.tail _ (.head _))) hne
    rw [pk_length] at hv hc1
    subst hv
    replace HS := (HS.front 1 rfl).alter hb (fun b h => (congrArg some (show b = g from h)).symm)
    refine ⟨_, rfl, ?_⟩
    refine p_run (l' := _) _ (x_assign (.int .i64 (fs.length : Int)) rfl rfl) rfl ?_
    refine wpList_nil ?_
    refine fr_at (l' := [.pointer (some ⟨G, 0, none⟩), undef, .int .i64 0, .int .i64 (fs.length : Int), .pointer (some ⟨G, 0, none⟩), .int .i64 (fs.length : Int), undef, undef, undef, undef, undef, undef, undef, undef, undef, undef]) rfl ?_
    refine hK6 _ _ ?_
    refine wp_seq_k (fun K9 hK10 => ?_)
    refine c_region (fun ops12 hops11 => ?_)
    clear hops11
    refine p_run (l' := _) _ (x_move (.pointer (some ⟨G, 0, none⟩)) rfl rfl) rfl ?_
    refine p_run (l' := _) _ (x_nil rfl rfl) rfl ?_
    refine p_run (l' := _) _ (x_field (j := 0) _ _ rfl rfl Try.underlying72 rfl (by rfl) rfl) rfl ?_
    refine p_run (l' := [.pointer (some ⟨G, 0, none⟩), undef, .int .i64 0, .int .i64 (fs.length : Int), .pointer (some ⟨G, 0, none⟩), .int .i64 (fs.length : Int), .pointer (some ⟨G, 0, none⟩), .pointer (some ⟨G, 0, none⟩), .pointer (some ⟨G, 0, none⟩), .pointer (some ⟨G, 0, none⟩), undef, undef, undef, undef, undef, undef]) _ (x_field (j := 0) _ _ rfl rfl Try.underlying70 rfl (by rfl) rfl) rfl ?_
    refine p_run (l' := _) _ (x_load (.slice (some ⟨g, 0, none⟩) fs.length c) rfl rfl (bkCell (HS.get (.tail _ (.head _))) 0 _ rfl) (by rfl)) rfl ?_
    refine St.wClear HS (z := .agg #[.int .i64 0, .slice none 0 0]) 2 Try.underlying68 (by kernel_rfl) rfl (by decide) (n := fs.length) (k := 0) rfl (by omega) (by rw [hc3]; omega) ?_
    clear HS
    intro w13 HS
    show wpList _ _ _ _ (fr _) _
    refine wpList_nil ?_
    refine fr_at (l' := [.pointer (some ⟨G, 0, none⟩), undef, .int .i64 0, .int .i64 (fs.length : Int), .pointer (some ⟨G, 0, none⟩), .int .i64 (fs.length : Int), .pointer (some ⟨G, 0, none⟩), .pointer (some ⟨G, 0, none⟩), .pointer (some ⟨G, 0, none⟩), .pointer (some ⟨G, 0, none⟩), .slice (some ⟨g, 0, none⟩) fs.length c, undef, undef, undef, undef, undef]) rfl ?_
    refine hK10 _ _ ?_
    refine wp_seq_k (fun K14 hK15 => ?_)
    refine c_region (fun ops17 hops16 => ?_)
    clear hops16
    refine p_run (l' := _) _ (x_move (.pointer (some ⟨G, 0, none⟩)) rfl rfl) rfl ?_
    refine p_run (l' := _) _ (x_nil rfl rfl) rfl ?_
    refine p_run (l' := _) _ (x_field (j := 0) _ _ rfl rfl Try.underlying72 rfl (by rfl) rfl) rfl ?_
    refine p_run (l' := [.pointer (some ⟨G, 0, none⟩), undef, .int .i64 0, .int .i64 (fs.length : Int), .pointer (some ⟨G, 0, none⟩), .int .i64 (fs.length : Int), .pointer (some ⟨G, 0, none⟩), .pointer (some ⟨G, 0, none⟩), .pointer (some ⟨G, 0, none⟩), .pointer (some ⟨G, 0, none⟩), .slice (some ⟨g, 0, none⟩) fs.length c, .pointer (some ⟨G, 0, none⟩), .pointer (some ⟨G, 0, none⟩), .pointer (some ⟨G, 0, none⟩), .pointer (some ⟨G, 0, none⟩), undef]) _ (x_field (j := 0) _ _ rfl rfl Try.underlying70 rfl (by rfl) rfl) rfl ?_
    refine St.store (cs' := [.slice none 0 0]) (HS.front 1 rfl) (.slice none 0 0) rfl rfl rfl (by kernel_rfl) (by rfl) rfl ?_
    clear HS
    intro w18 HS
    refine wpList_nil ?_
    refine hK15 _ _ ?_
    refine wp_seq_k (fun K19 hK20 => ?_)
    refine c_region (fun ops22 hops21 => ?_)
    clear hops21
    refine p_run (l' := _) _ (x_move (.int .i64 (fs.length : Int)) rfl rfl) rfl ?_
    refine p_run (l' := _) _ (x_assign (.int .i64 (fs.length : Int)) rfl rfl) rfl ?_
    refine wpList_nil ?_
    refine fr_at (l' := [.pointer (some ⟨G, 0, none⟩), undef, .int .i64 (fs.length : Int), .int .i64 (fs.length : Int), .pointer (some ⟨G, 0, none⟩), .int .i64 (fs.length : Int), .pointer (some ⟨G, 0, none⟩), .pointer (some ⟨G, 0, none⟩), .pointer (some ⟨G, 0, none⟩), .pointer (some ⟨G, 0, none⟩), .slice (some ⟨g, 0, none⟩) fs.length c, .pointer (some ⟨G, 0, none⟩), .pointer (some ⟨G, 0, none⟩), .pointer (some ⟨G, 0, none⟩), .pointer (some ⟨G, 0, none⟩), .int .i64 (fs.length : Int)]) rfl ?_
    refine hK20 _ _ ?_
    refine wp_ret ?_
    try simp only [Exit.inBlock, Exit.then]
    refine c_ret (.int .i64 (fs.length : Int)) (r_tmp rfl rfl) ?_
    have H1 := ((((HS.front 1 rfl).drop.front 1 rfl).drop).nil kPk rfl 75).pushNil
    exact ⟨rfl, (H1.front 1 rfl).front 2 rfl⟩
end
end Go.Proofs.Ytckfcnclekjjdaa
