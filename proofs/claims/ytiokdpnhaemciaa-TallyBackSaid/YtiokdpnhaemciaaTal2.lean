/- Package tally: Open, Area, Used. -/
import Derived.Test.YtiokdpnhaemciaaTal1
set_option linter.unusedVariables false
set_option linter.unusedSimpArgs false
namespace Go.Proofs.Ytiokdpnhaemciaa
open Go.RowKit Go.Proofs.YtiokdpnhaemciaaW.PrintWords Go.Proofs.YtiokdpnhaemciaaW.PrintLast Crc
section
variable {w0 W : World} {F : Nat → Prop} {L : List Res}
theorem wr64 {x : Int} (h : -9223372036854775808 ≤ x ∧ x < 9223372036854775808) : IntKind.i64.wrap x = x := by rw [IntKind.wrap_i64]; omega
def zB : List UInt8 := List.replicate 240 0
theorem zB_len : zB.length = 240 := List.length_replicate
theorem zct_eq : zct = zB.map bv := by unfold zct zB; rw [List.map_replicate]; rfl
/-- The counts that a page seems to have. -/
def bdB (q : List UInt8) : List UInt8 := (q.drop 8).take 240
theorem bdB_len {q : List UInt8} (h : q.length = 256) : (bdB q).length = 240 := by unfold bdB; rw [List.length_take, List.length_drop]; omega
theorem bd_src {q : List UInt8} (h : q.length = 256) : ((nums .u8 (q.map bv)).drop 8).take (nums .u8 ((bdB q).map bv)).length = nums .u8 ((bdB q).map bv) := by
  rw [nums_length, List.length_map, bdB_len h]
  unfold bdB
  simp only [nums, List.map_take, List.map_drop]
theorem map_bv_inj {a b : List UInt8} : (a.map bv = b.map bv) ↔ a = b := List.map_inj_right (fun x y h => bv_inj h)
/-- Is it a page of this generation? -/
def tlOk (g : UInt64) (q : List UInt8) : Bool := decide (tlB g (bdB q) = q)
def tlC (g : UInt64) (q : List UInt8) : List UInt8 := if tlOk g q then bdB q else zB
def tlE (g : UInt64) (q : List UInt8) : Int := if tlOk g q then 0 else 61
theorem tlC_len (g : UInt64) {q : List UInt8} (h : q.length = 256) : (tlC g q).length = 240 := by unfold tlC; split; exact bdB_len h; exact zB_len
theorem tl_eq (g : UInt64) (q : List UInt8) (b : Bool) (h : tlOk g q = b) : (!decide (tlP g (bdB q) = q.map bv)) = !b := by
  unfold tlP
  rw [← h]
  unfold tlOk
  congr 1
  rw [decide_eq_decide, map_bv_inj]

set_option maxRecDepth 10000 in
set_option maxHeartbeats 1000000 in
theorem topen_any (HS : St w0 F W L) (g : UInt64) (q : List UInt8) (hq : q.length = 256) : Calls Try.prog 14 #[.agg ((nums .u8 (q.map bv))).toArray, .int .u64 (uv g)] W fun e w' => e = .returned (.tuple #[.agg (nums .u8 ((tlC g q).map bv)).toArray, .int .i64 (tlE g q)]) ∧ St w0 F w' L := by
  rcases h : tlOk g q with _ | _
  · skip
    refine c_enter Try.func14 rfl 17 rfl [.agg ((nums .u8 (q.map bv))).toArray, .int .u64 (uv g), undef, undef, undef, undef, undef, undef, undef, undef, undef, undef, undef, undef, undef, undef, undef] rfl ?_
    refine wp_seq_k (fun K1 hK2 => ?_)
    refine c_region (fun ops4 hops3 => ?_)
    clear hops3
    refine St.wBox HS (cs := ((nums .u8 (q.map bv)))) (.agg ((nums .u8 (q.map bv))).toArray) rfl rfl ?_
    clear HS
    intro g5 w6 hg7 HS
    refine St.wAlloc HS (cs := ((nums .u8 zct))) (.agg ((nums .u8 zct)).toArray) (by kernel_rfl) rfl ?_
    clear HS
    intro g8 w9 hg10 HS
    refine p_run (l' := _) _ (x_assign (.int .i64 0) rfl rfl) rfl ?_
    refine wpList_nil ?_
    refine fr_at (l' := [.agg ((nums .u8 (q.map bv))).toArray, .int .u64 (uv g), .pointer (some ⟨g5, 0, none⟩), undef, .pointer (some ⟨g8, 0, none⟩), .int .i64 0, undef, undef, undef, undef, undef, undef, undef, undef, undef, undef, undef]) rfl ?_
    refine hK2 _ _ ?_
    refine wp_seq_k (fun K11 hK12 => ?_)
    refine c_region (fun ops14 hops13 => ?_)
    clear hops13
    refine St.wAlloc HS (cs := ((nums .u8 zct))) (.agg ((nums .u8 zct)).toArray) (by kernel_rfl) rfl ?_
    clear HS
    intro g15 w16 hg17 HS
    refine wpList_nil ?_
    refine fr_at (l' := [.agg ((nums .u8 (q.map bv))).toArray, .int .u64 (uv g), .pointer (some ⟨g5, 0, none⟩), undef, .pointer (some ⟨g8, 0, none⟩), .int .i64 0, .pointer (some ⟨g15, 0, none⟩), undef, undef, undef, undef, undef, undef, undef, undef, undef, undef]) rfl ?_
    refine hK12 _ _ ?_
    refine wp_seq_k (fun K18 hK19 => ?_)
    refine free_frame (n := 3) (T := _) [0, 0, 3] [(0, 7), (1, 8), (2, 9)] (fun bq_ vq_ w_ => qv ((fun i_ => match i_ with | 0 => some (.slice (some ⟨g15, 0, none⟩) 240 240) | 1 => some (.slice (some ⟨g5, 8, none⟩) 248 248) | _ => none) : Nat → Option Value) bq_ vq_ ∧ cond (bq_ 2) (vq_ 2 = .int .i64 ((nums .u8 ((bdB q).map bv)).length : Int) ∧ St w0 F w_ (blk g15 ((nums .u8 ((bdB q).map bv))) 29 :: blk g8 ((nums .u8 zct)) 29 :: blk g5 ((nums .u8 (q.map bv))) 27 :: L)) ((St w0 F w_ (blk g15 ((nums .u8 zct)) 29 :: blk g8 ((nums .u8 zct)) 29 :: blk g5 ((nums .u8 (q.map bv))) 27 :: L)))) (by kernel_rfl) rfl rfl (by kernel_rfl) (by kernel_rfl) rfl (by kernel_rfl) (by kernel_rfl) ⟨qv_none, HS.draw⟩ ?_ ?_
    · clear HS
      intro i_ hi_ bq_ vq_ a_ w_ hG hb_ hon hoff hfr hel hval
      obtain ⟨hV, hE⟩ := hG
      have hi_ := List.mem_range.1 hi_
      have hcs : i_ = 0 ∨ i_ = 1 ∨ i_ = 2 := by omega
      rcases hcs with rfl | rfl | rfl
      · have h6 : a_.tmps[6]? = some (.pointer (some ⟨g15, 0, none⟩)) := (hel 6 (by decide)).trans rfl
        obtain ⟨l_, rfl⟩ := hfr
        have e6 : evl l_ (.tmp 6) = .pointer (some ⟨g15, 0, none⟩) := evl_of h6
        refine ⟨_, rfl, fun K_ hK_ => wp_of_list rfl ?_⟩
        intro ops_
        refine p_run (l' := _) (.slice (some ⟨g15, 0, none⟩) 240 240) ((x_sliceArr (sz := 1) (L := none) (H := none) (lo := 0) (hi := 240) ⟨g15, 0, none⟩ rfl e6 Try.underlying29 (by kernel_rfl) rfl rfl (by omega) (by omega) (by first | rfl | (rw [if_neg (by omega), add_mk]; rfl))).trans rfl) rfl ?_
        refine wpList_nil ?_
        exact norm_put (hK_ (.slice (some ⟨g15, 0, none⟩) 240 240) _ ⟨qv_up hV (fun _ h => Option.some.inj h), hE⟩)
      · have h2 : a_.tmps[2]? = some (.pointer (some ⟨g5, 0, none⟩)) := (hel 2 (by decide)).trans rfl
        obtain ⟨l_, rfl⟩ := hfr
        have e2 : evl l_ (.tmp 2) = .pointer (some ⟨g5, 0, none⟩) := evl_of h2
        refine ⟨_, rfl, fun K_ hK_ => wp_of_list rfl ?_⟩
        intro ops_
        refine p_run (l' := _) (.slice (some ⟨g5, 8, none⟩) 248 248) ((x_sliceArr (sz := 1) (L := (some (.const (.int .i64 8)))) (H := none) (lo := 8) (hi := 256) ⟨g5, 8, none⟩ rfl e2 Try.underlying27 (by kernel_rfl) ⟨_, _, rfl, (by decide), rfl⟩ rfl (by omega) (by omega) (by rw [if_neg (by omega), add_mk, Nat.mul_one])).trans (by first | rfl | (rw [show 256 - 8 = 248 from (by omega), show 256 - 8 = 248 from (by omega)]))) rfl ?_
        refine wpList_nil ?_
        exact norm_put (hK_ (.slice (some ⟨g5, 8, none⟩) 248 248) _ ⟨qv_up hV (fun _ h => Option.some.inj h), hE⟩)
      · have h7 : a_.tmps[7]? = some (.slice (some ⟨g15, 0, none⟩) 240 240) := (hval (0, 7) (by decide) (hon 0 (by decide))).trans (congrArg some (hV 0 _ rfl (hon 0 (by decide))))
        have h8 : a_.tmps[8]? = some (.slice (some ⟨g5, 8, none⟩) 248 248) := (hval (1, 8) (by decide) (hon 1 (by decide))).trans (congrArg some (hV 1 _ rfl (hon 1 (by decide))))
        obtain ⟨l_, rfl⟩ := hfr
        have hE0 := hE
        rw [show bq_ 2 = false from hb_] at hE0
        simp only [cond_true, cond_false] at hE0
        have HS := hE0
        have e7 : evl l_ (.tmp 7) = .slice (some ⟨g15, 0, none⟩) 240 240 := evl_of h7
        have e8 : evl l_ (.tmp 8) = .slice (some ⟨g5, 8, none⟩) 248 248 := evl_of h8
        refine ⟨_, rfl, fun K_ hK_ => wp_of_list rfl ?_⟩
        intro ops_
        refine St.wCopy HS Try.underlying65 (by kernel_rfl) e7 e8 (nums .u8 ((bdB q).map bv)) (by rw [nums_length, List.length_map, bdB_len hq]; rfl) (fun _ => ⟨_, rfl, bkCells (HS.get (.tail _ (.tail _ (.head _)))) 8 _ (bd_src hq)⟩) (by rw [nums_length, List.length_map, bdB_len hq, nums_length, zlen240]; omega) (nums_one _ _) (lay_all _ _ (by simp [nums_length, bdB_len hq, zlen240])) ?_
        clear HS
        intro w9201 HS
        rw [fr_put]
        refine wpList_nil ?_
        refine norm_put (hK_ (.int .i64 ((nums .u8 ((bdB q).map bv)).length : Int)) _ ⟨qv_up hV (by intro _ h; cases h), ?_⟩)
        show cond true _ _
        rw [cond_true]
        exact ⟨rfl, (((HS.front 2 rfl).front 2 rfl).front 2 rfl)⟩
    intro bq_ vq_ w_ hall hG
    obtain ⟨hV, hE⟩ := hG
    clear HS
    rw [show bq_ 2 = true from hall 2 (by decide)] at hE
    simp only [cond_true] at hE
    obtain ⟨hv2, HS⟩ := hE
    have hv0 := hV 0 _ rfl (hall 0 (by decide))
    have hv1 := hV 1 _ rfl (hall 1 (by decide))
    clear hV hall
    rw [putSel_fr]
    simp only [tells, List.map_cons, List.map_nil, setAll, List.set_cons_succ, List.set_cons_zero, hv0, hv1, hv2]
    clear hv0 hv1 hv2
    generalize w_ = w9202 at HS ⊢
    refine fr_at (l' := [.agg ((nums .u8 (q.map bv))).toArray, .int .u64 (uv g), .pointer (some ⟨g5, 0, none⟩), undef, .pointer (some ⟨g8, 0, none⟩), .int .i64 0, .pointer (some ⟨g15, 0, none⟩), .slice (some ⟨g15, 0, none⟩) 240 240, .slice (some ⟨g5, 8, none⟩) 248 248, .int .i64 ((nums .u8 ((bdB q).map bv)).length : Int), undef, undef, undef, undef, undef, undef, undef]) rfl ?_
    refine hK19 _ _ ?_
    refine wp_seq_k (fun K9203 hK9204 => ?_)
    refine wp_seq_k (fun K9205 hK9206 => ?_)
    refine free_frame (n := 5) (T := _) [0, 0, 3, 0, 15] [(0, 10), (1, 11), (2, 12), (3, 13), (4, 14)] (fun bq_ vq_ w_ => qv ((fun i_ => match i_ with | 0 => some (.int .u64 (uv g)) | 1 => some (.agg ((nums .u8 ((bdB q).map bv))).toArray) | 3 => some (.agg ((nums .u8 (q.map bv))).toArray) | 4 => some (.bool true) | _ => none) : Nat → Option Value) bq_ vq_ ∧ cond (bq_ 2) (vq_ 2 = .agg ((nums .u8 (tlP g (bdB q)))).toArray ∧ St w0 F w_ (blk g15 ((nums .u8 ((bdB q).map bv))) 29 :: blk g8 ((nums .u8 zct)) 29 :: blk g5 ((nums .u8 (q.map bv))) 27 :: L)) ((St w0 F w_ (blk g15 ((nums .u8 ((bdB q).map bv))) 29 :: blk g8 ((nums .u8 zct)) 29 :: blk g5 ((nums .u8 (q.map bv))) 27 :: L)))) (by kernel_rfl) rfl rfl (by kernel_rfl) (by kernel_rfl) rfl (by kernel_rfl) (by kernel_rfl) ⟨qv_none, HS.draw⟩ ?_ ?_
    · clear HS
      intro i_ hi_ bq_ vq_ a_ w_ hG hb_ hon hoff hfr hel hval
      obtain ⟨hV, hE⟩ := hG
      have hi_ := List.mem_range.1 hi_
      have hcs : i_ = 0 ∨ i_ = 1 ∨ i_ = 2 ∨ i_ = 3 ∨ i_ = 4 := by omega
      rcases hcs with rfl | rfl | rfl | rfl | rfl
      · have h1 : a_.tmps[1]? = some (.int .u64 (uv g)) := (hel 1 (by decide)).trans rfl
        obtain ⟨l_, rfl⟩ := hfr
        have e1 : evl l_ (.tmp 1) = .int .u64 (uv g) := evl_of h1
        refine ⟨_, rfl, fun K_ hK_ => wp_of_list rfl ?_⟩
        intro ops_
        refine p_run (l' := _) _ (x_move (.int .u64 (uv g)) rfl e1) rfl ?_
        refine wpList_nil ?_
        exact norm_put (hK_ (.int .u64 (uv g)) _ ⟨qv_up hV (fun _ h => Option.some.inj h), hE⟩)
      · have h6 : a_.tmps[6]? = some (.pointer (some ⟨g15, 0, none⟩)) := (hel 6 (by decide)).trans rfl
        obtain ⟨l_, rfl⟩ := hfr
        have hE0 := hE
        rw [show bq_ 2 = false from (hoff 2 (by decide))] at hE0
        simp only [cond_true, cond_false] at hE0
        have HS := hE0
        have e6 : evl l_ (.tmp 6) = .pointer (some ⟨g15, 0, none⟩) := evl_of h6
        refine ⟨_, rfl, fun K_ hK_ => wp_of_list rfl ?_⟩
        intro ops_
        refine p_run (l' := _) _ (x_loads ((nums .u8 ((bdB q).map bv))) 240 rfl e6 (bkCells (HS.get (.head _)) 0 _ (whole _)) (by rfl) (by kernel_rfl) (by simp [List.length_map, bdB_len hq, nums_length])) rfl ?_
        refine wpList_nil ?_
        exact norm_put (hK_ (.agg ((nums .u8 ((bdB q).map bv))).toArray) _ ⟨qv_up hV (fun _ h => Option.some.inj h), hE⟩)
      · have h10 : a_.tmps[10]? = some (.int .u64 (uv g)) := (hval (0, 10) (by decide) (hon 0 (by decide))).trans (congrArg some (hV 0 _ rfl (hon 0 (by decide))))
        have h11 : a_.tmps[11]? = some (.agg ((nums .u8 ((bdB q).map bv))).toArray) := (hval (1, 11) (by decide) (hon 1 (by decide))).trans (congrArg some (hV 1 _ rfl (hon 1 (by decide))))
        obtain ⟨l_, rfl⟩ := hfr
        have hE0 := hE
        rw [show bq_ 2 = false from hb_] at hE0
        simp only [cond_true, cond_false] at hE0
        have HS := hE0
        have e10 : evl l_ (.tmp 10) = .int .u64 (uv g) := evl_of h10
        have e11 : evl l_ (.tmp 11) = .agg ((nums .u8 ((bdB q).map bv))).toArray := evl_of h11
        refine ⟨_, rfl, fun K_ hK_ => wp_of_list rfl ?_⟩
        intro ops_
        refine w_call [.int .u64 (uv g), .agg ((nums .u8 ((bdB q).map bv))).toArray] Try.func13 (by kernel_rfl) (by rfl) (by simp [e10, e11]) ?_
        refine (tpage_any HS g (bdB q) (bdB_len hq)).mono ?_
        clear HS
        rintro e w9201 ⟨rfl, HS⟩
        refine ⟨_, rfl, ?_⟩
        refine wpList_nil ?_
        refine norm_put (hK_ (.agg ((nums .u8 (tlP g (bdB q)))).toArray) _ ⟨qv_up hV (by intro _ h; cases h), ?_⟩)
        show cond true _ _
        rw [cond_true]
        exact ⟨rfl, (((HS.front 2 rfl).front 2 rfl).front 2 rfl)⟩
      · have h2 : a_.tmps[2]? = some (.pointer (some ⟨g5, 0, none⟩)) := (hel 2 (by decide)).trans rfl
        obtain ⟨l_, rfl⟩ := hfr
        rcases hq2 : bq_ 2 with _ | _
        · have hE0 := hE
          rw [show bq_ 2 = false from hq2] at hE0
          simp only [cond_true, cond_false] at hE0
          have HS := hE0
          have e2 : evl l_ (.tmp 2) = .pointer (some ⟨g5, 0, none⟩) := evl_of h2
          refine ⟨_, rfl, fun K_ hK_ => wp_of_list rfl ?_⟩
          intro ops_
          refine p_run (l' := _) _ (x_loads ((nums .u8 (q.map bv))) 256 rfl e2 (bkCells (HS.get (.tail _ (.tail _ (.head _)))) 0 _ (whole _)) (by rfl) (by kernel_rfl) (by simp [List.length_map, hq, nums_length])) rfl ?_
          refine wpList_nil ?_
          exact norm_put (hK_ (.agg ((nums .u8 (q.map bv))).toArray) _ ⟨qv_up hV (fun _ h => Option.some.inj h), hE⟩)
        · skip
          have hE0 := hE
          rw [show bq_ 2 = true from hq2] at hE0
          simp only [cond_true, cond_false] at hE0
          obtain ⟨hv2, HS⟩ := hE0
          have e2 : evl l_ (.tmp 2) = .pointer (some ⟨g5, 0, none⟩) := evl_of h2
          refine ⟨_, rfl, fun K_ hK_ => wp_of_list rfl ?_⟩
          intro ops_
          refine p_run (l' := _) _ (x_loads ((nums .u8 (q.map bv))) 256 rfl e2 (bkCells (HS.get (.tail _ (.tail _ (.head _)))) 0 _ (whole _)) (by rfl) (by kernel_rfl) (by simp [List.length_map, hq, nums_length])) rfl ?_
          refine wpList_nil ?_
          exact norm_put (hK_ (.agg ((nums .u8 (q.map bv))).toArray) _ ⟨qv_up hV (fun _ h => Option.some.inj h), hE⟩)
      · have h12 := hval (2, 12) (by decide) (hon 2 (by decide))
        have h13 : a_.tmps[13]? = some (.agg ((nums .u8 (q.map bv))).toArray) := (hval (3, 13) (by decide) (hon 3 (by decide))).trans (congrArg some (hV 3 _ rfl (hon 3 (by decide))))
        obtain ⟨l_, rfl⟩ := hfr
        have hE0 := hE
        rw [show bq_ 2 = true from (hon 2 (by decide))] at hE0
        simp only [cond_true, cond_false] at hE0
        obtain ⟨hv2, HS⟩ := hE0
        rw [hv2] at h12
        have e12 : evl l_ (.tmp 12) = .agg ((nums .u8 (tlP g (bdB q)))).toArray := evl_of h12
        have e13 : evl l_ (.tmp 13) = .agg ((nums .u8 (q.map bv))).toArray := evl_of h13
        refine ⟨_, rfl, fun K_ hK_ => wp_of_list rfl ?_⟩
        intro ops_
        refine p_run (l' := _) _ (x_eq .neq (.agg ((nums .u8 (tlP g (bdB q)))).toArray) (.agg ((nums .u8 (q.map bv))).toArray) (decide ((tlP g (bdB q)) = (q.map bv))) true rfl e12 e13 (equal_nums Try.underlying27 Try.underlying5 (by kernel_rfl) (by kernel_rfl) _ _ (by simp [tlP_len g (bdB_len hq)]) (by simp [List.length_map, hq])) (tl_eq g q false h) rfl (guard_agg (by kernel_rfl)) (guard_agg (by kernel_rfl))) rfl ?_
        refine wpList_nil ?_
        exact norm_put (hK_ (.bool true) _ ⟨qv_up hV (fun _ h => Option.some.inj h), hE⟩)
    intro bq_ vq_ w_ hall hG
    obtain ⟨hV, hE⟩ := hG
    clear HS
    rw [show bq_ 2 = true from hall 2 (by decide)] at hE
    simp only [cond_true] at hE
    obtain ⟨hv2, HS⟩ := hE
    have hv0 := hV 0 _ rfl (hall 0 (by decide))
    have hv1 := hV 1 _ rfl (hall 1 (by decide))
    have hv3 := hV 3 _ rfl (hall 3 (by decide))
    have hv4 := hV 4 _ rfl (hall 4 (by decide))
    clear hV hall
    rw [putSel_fr]
    simp only [tells, List.map_cons, List.map_nil, setAll, List.set_cons_succ, List.set_cons_zero, hv0, hv1, hv2, hv3, hv4]
    clear hv0 hv1 hv2 hv3 hv4
    generalize w_ = w9401 at HS ⊢
    refine fr_at (l' := [.agg ((nums .u8 (q.map bv))).toArray, .int .u64 (uv g), .pointer (some ⟨g5, 0, none⟩), undef, .pointer (some ⟨g8, 0, none⟩), .int .i64 0, .pointer (some ⟨g15, 0, none⟩), .slice (some ⟨g15, 0, none⟩) 240 240, .slice (some ⟨g5, 8, none⟩) 248 248, .int .i64 ((nums .u8 ((bdB q).map bv)).length : Int), .int .u64 (uv g), .agg ((nums .u8 ((bdB q).map bv))).toArray, .agg ((nums .u8 (tlP g (bdB q)))).toArray, .agg ((nums .u8 (q.map bv))).toArray, .bool true, undef, undef]) rfl ?_
    refine hK9206 _ _ ?_
    refine c_true rfl ?_
    refine wp_seq_k (fun K9402 hK9403 => ?_)
    refine c_region (fun ops9405 hops9404 => ?_)
    clear hops9404
    refine p_run (l' := _) _ (x_build ((nums .u8 zct)) rfl (by kernel_rfl)) rfl ?_
    refine St.stores (cs' := ((nums .u8 zct))) (HS.front 1 rfl) ((nums .u8 zct)) 240 rfl rfl (nums_one _ _) (by kernel_rfl) (by simp [nums_length, zlen240]) (by simp [nums_length, zlen240]) (lay_all _ _ (by simp [nums_length, zlen240])) ?_
    clear HS
    intro w9406 HS
    refine p_run (l' := _) _ (x_assign (.int .i64 61) rfl rfl) rfl ?_
    refine wpList_nil ?_
    refine fr_at (l' := [.agg ((nums .u8 (q.map bv))).toArray, .int .u64 (uv g), .pointer (some ⟨g5, 0, none⟩), undef, .pointer (some ⟨g8, 0, none⟩), .int .i64 61, .pointer (some ⟨g15, 0, none⟩), .slice (some ⟨g15, 0, none⟩) 240 240, .slice (some ⟨g5, 8, none⟩) 248 248, .int .i64 ((nums .u8 ((bdB q).map bv)).length : Int), .int .u64 (uv g), .agg ((nums .u8 ((bdB q).map bv))).toArray, .agg ((nums .u8 (tlP g (bdB q)))).toArray, .agg ((nums .u8 (q.map bv))).toArray, .bool true, .agg ((nums .u8 zct)).toArray, undef]) rfl ?_
    refine hK9403 _ _ ?_
    refine wp_ret ?_
    try simp only [Exit.inBlock, Exit.then]
    refine c_ret (.tuple [.agg ((nums .u8 zct)).toArray, .int .i64 61].toArray) (r_ct rfl rfl (run_loadVar_aggn (by rfl) ((nums .u8 zct)) 240 (by kernel_rfl) (by simp [nums_length, zlen240]) (bkCells (HS.get (.head _)) 0 _ (whole _))) rfl) ?_
    have e1 : tlC g q = zB := by unfold tlC; rw [h]; rfl
    have e2 : tlE g q = 61 := by unfold tlE; rw [h]; rfl
    rw [e1, e2, ← zct_eq]
    exact ⟨rfl, HS.drop.drop.drop⟩
  · skip
    refine c_enter Try.func14 rfl 17 rfl [.agg ((nums .u8 (q.map bv))).toArray, .int .u64 (uv g), undef, undef, undef, undef, undef, undef, undef, undef, undef, undef, undef, undef, undef, undef, undef] rfl ?_
    refine wp_seq_k (fun K1 hK2 => ?_)
    refine c_region (fun ops4 hops3 => ?_)
    clear hops3
    refine St.wBox HS (cs := ((nums .u8 (q.map bv)))) (.agg ((nums .u8 (q.map bv))).toArray) rfl rfl ?_
    clear HS
    intro g5 w6 hg7 HS
    refine St.wAlloc HS (cs := ((nums .u8 zct))) (.agg ((nums .u8 zct)).toArray) (by kernel_rfl) rfl ?_
    clear HS
    intro g8 w9 hg10 HS
    refine p_run (l' := _) _ (x_assign (.int .i64 0) rfl rfl) rfl ?_
    refine wpList_nil ?_
    refine fr_at (l' := [.agg ((nums .u8 (q.map bv))).toArray, .int .u64 (uv g), .pointer (some ⟨g5, 0, none⟩), undef, .pointer (some ⟨g8, 0, none⟩), .int .i64 0, undef, undef, undef, undef, undef, undef, undef, undef, undef, undef, undef]) rfl ?_
    refine hK2 _ _ ?_
    refine wp_seq_k (fun K11 hK12 => ?_)
    refine c_region (fun ops14 hops13 => ?_)
    clear hops13
    refine St.wAlloc HS (cs := ((nums .u8 zct))) (.agg ((nums .u8 zct)).toArray) (by kernel_rfl) rfl ?_
    clear HS
    intro g15 w16 hg17 HS
    refine wpList_nil ?_
    refine fr_at (l' := [.agg ((nums .u8 (q.map bv))).toArray, .int .u64 (uv g), .pointer (some ⟨g5, 0, none⟩), undef, .pointer (some ⟨g8, 0, none⟩), .int .i64 0, .pointer (some ⟨g15, 0, none⟩), undef, undef, undef, undef, undef, undef, undef, undef, undef, undef]) rfl ?_
    refine hK12 _ _ ?_
    refine wp_seq_k (fun K18 hK19 => ?_)
    refine free_frame (n := 3) (T := _) [0, 0, 3] [(0, 7), (1, 8), (2, 9)] (fun bq_ vq_ w_ => qv ((fun i_ => match i_ with | 0 => some (.slice (some ⟨g15, 0, none⟩) 240 240) | 1 => some (.slice (some ⟨g5, 8, none⟩) 248 248) | _ => none) : Nat → Option Value) bq_ vq_ ∧ cond (bq_ 2) (vq_ 2 = .int .i64 ((nums .u8 ((bdB q).map bv)).length : Int) ∧ St w0 F w_ (blk g15 ((nums .u8 ((bdB q).map bv))) 29 :: blk g8 ((nums .u8 zct)) 29 :: blk g5 ((nums .u8 (q.map bv))) 27 :: L)) ((St w0 F w_ (blk g15 ((nums .u8 zct)) 29 :: blk g8 ((nums .u8 zct)) 29 :: blk g5 ((nums .u8 (q.map bv))) 27 :: L)))) (by kernel_rfl) rfl rfl (by kernel_rfl) (by kernel_rfl) rfl (by kernel_rfl) (by kernel_rfl) ⟨qv_none, HS.draw⟩ ?_ ?_
    · clear HS
      intro i_ hi_ bq_ vq_ a_ w_ hG hb_ hon hoff hfr hel hval
      obtain ⟨hV, hE⟩ := hG
      have hi_ := List.mem_range.1 hi_
      have hcs : i_ = 0 ∨ i_ = 1 ∨ i_ = 2 := by omega
      rcases hcs with rfl | rfl | rfl
      · have h6 : a_.tmps[6]? = some (.pointer (some ⟨g15, 0, none⟩)) := (hel 6 (by decide)).trans rfl
        obtain ⟨l_, rfl⟩ := hfr
        have e6 : evl l_ (.tmp 6) = .pointer (some ⟨g15, 0, none⟩) := evl_of h6
        refine ⟨_, rfl, fun K_ hK_ => wp_of_list rfl ?_⟩
        intro ops_
        refine p_run (l' := _) (.slice (some ⟨g15, 0, none⟩) 240 240) ((x_sliceArr (sz := 1) (L := none) (H := none) (lo := 0) (hi := 240) ⟨g15, 0, none⟩ rfl e6 Try.underlying29 (by kernel_rfl) rfl rfl (by omega) (by omega) (by first | rfl | (rw [if_neg (by omega), add_mk]; rfl))).trans rfl) rfl ?_
        refine wpList_nil ?_
        exact norm_put (hK_ (.slice (some ⟨g15, 0, none⟩) 240 240) _ ⟨qv_up hV (fun _ h => Option.some.inj h), hE⟩)
      · have h2 : a_.tmps[2]? = some (.pointer (some ⟨g5, 0, none⟩)) := (hel 2 (by decide)).trans rfl
        obtain ⟨l_, rfl⟩ := hfr
        have e2 : evl l_ (.tmp 2) = .pointer (some ⟨g5, 0, none⟩) := evl_of h2
        refine ⟨_, rfl, fun K_ hK_ => wp_of_list rfl ?_⟩
        intro ops_
        refine p_run (l' := _) (.slice (some ⟨g5, 8, none⟩) 248 248) ((x_sliceArr (sz := 1) (L := (some (.const (.int .i64 8)))) (H := none) (lo := 8) (hi := 256) ⟨g5, 8, none⟩ rfl e2 Try.underlying27 (by kernel_rfl) ⟨_, _, rfl, (by decide), rfl⟩ rfl (by omega) (by omega) (by rw [if_neg (by omega), add_mk, Nat.mul_one])).trans (by first | rfl | (rw [show 256 - 8 = 248 from (by omega), show 256 - 8 = 248 from (by omega)]))) rfl ?_
        refine wpList_nil ?_
        exact norm_put (hK_ (.slice (some ⟨g5, 8, none⟩) 248 248) _ ⟨qv_up hV (fun _ h => Option.some.inj h), hE⟩)
      · have h7 : a_.tmps[7]? = some (.slice (some ⟨g15, 0, none⟩) 240 240) := (hval (0, 7) (by decide) (hon 0 (by decide))).trans (congrArg some (hV 0 _ rfl (hon 0 (by decide))))
        have h8 : a_.tmps[8]? = some (.slice (some ⟨g5, 8, none⟩) 248 248) := (hval (1, 8) (by decide) (hon 1 (by decide))).trans (congrArg some (hV 1 _ rfl (hon 1 (by decide))))
        obtain ⟨l_, rfl⟩ := hfr
        have hE0 := hE
        rw [show bq_ 2 = false from hb_] at hE0
        simp only [cond_true, cond_false] at hE0
        have HS := hE0
        have e7 : evl l_ (.tmp 7) = .slice (some ⟨g15, 0, none⟩) 240 240 := evl_of h7
        have e8 : evl l_ (.tmp 8) = .slice (some ⟨g5, 8, none⟩) 248 248 := evl_of h8
        refine ⟨_, rfl, fun K_ hK_ => wp_of_list rfl ?_⟩
        intro ops_
        refine St.wCopy HS Try.underlying65 (by kernel_rfl) e7 e8 (nums .u8 ((bdB q).map bv)) (by rw [nums_length, List.length_map, bdB_len hq]; rfl) (fun _ => ⟨_, rfl, bkCells (HS.get (.tail _ (.tail _ (.head _)))) 8 _ (bd_src hq)⟩) (by rw [nums_length, List.length_map, bdB_len hq, nums_length, zlen240]; omega) (nums_one _ _) (lay_all _ _ (by simp [nums_length, bdB_len hq, zlen240])) ?_
        clear HS
        intro w9201 HS
        rw [fr_put]
        refine wpList_nil ?_
        refine norm_put (hK_ (.int .i64 ((nums .u8 ((bdB q).map bv)).length : Int)) _ ⟨qv_up hV (by intro _ h; cases h), ?_⟩)
        show cond true _ _
        rw [cond_true]
        exact ⟨rfl, (((HS.front 2 rfl).front 2 rfl).front 2 rfl)⟩
    intro bq_ vq_ w_ hall hG
    obtain ⟨hV, hE⟩ := hG
    clear HS
    rw [show bq_ 2 = true from hall 2 (by decide)] at hE
    simp only [cond_true] at hE
    obtain ⟨hv2, HS⟩ := hE
    have hv0 := hV 0 _ rfl (hall 0 (by decide))
    have hv1 := hV 1 _ rfl (hall 1 (by decide))
    clear hV hall
    rw [putSel_fr]
    simp only [tells, List.map_cons, List.map_nil, setAll, List.set_cons_succ, List.set_cons_zero, hv0, hv1, hv2]
    clear hv0 hv1 hv2
    generalize w_ = w9202 at HS ⊢
    refine fr_at (l' := [.agg ((nums .u8 (q.map bv))).toArray, .int .u64 (uv g), .pointer (some ⟨g5, 0, none⟩), undef, .pointer (some ⟨g8, 0, none⟩), .int .i64 0, .pointer (some ⟨g15, 0, none⟩), .slice (some ⟨g15, 0, none⟩) 240 240, .slice (some ⟨g5, 8, none⟩) 248 248, .int .i64 ((nums .u8 ((bdB q).map bv)).length : Int), undef, undef, undef, undef, undef, undef, undef]) rfl ?_
    refine hK19 _ _ ?_
    refine wp_seq_k (fun K9203 hK9204 => ?_)
    refine wp_seq_k (fun K9205 hK9206 => ?_)
    refine free_frame (n := 5) (T := _) [0, 0, 3, 0, 15] [(0, 10), (1, 11), (2, 12), (3, 13), (4, 14)] (fun bq_ vq_ w_ => qv ((fun i_ => match i_ with | 0 => some (.int .u64 (uv g)) | 1 => some (.agg ((nums .u8 ((bdB q).map bv))).toArray) | 3 => some (.agg ((nums .u8 (q.map bv))).toArray) | 4 => some (.bool false) | _ => none) : Nat → Option Value) bq_ vq_ ∧ cond (bq_ 2) (vq_ 2 = .agg ((nums .u8 (tlP g (bdB q)))).toArray ∧ St w0 F w_ (blk g15 ((nums .u8 ((bdB q).map bv))) 29 :: blk g8 ((nums .u8 zct)) 29 :: blk g5 ((nums .u8 (q.map bv))) 27 :: L)) ((St w0 F w_ (blk g15 ((nums .u8 ((bdB q).map bv))) 29 :: blk g8 ((nums .u8 zct)) 29 :: blk g5 ((nums .u8 (q.map bv))) 27 :: L)))) (by kernel_rfl) rfl rfl (by kernel_rfl) (by kernel_rfl) rfl (by kernel_rfl) (by kernel_rfl) ⟨qv_none, HS.draw⟩ ?_ ?_
    · clear HS
      intro i_ hi_ bq_ vq_ a_ w_ hG hb_ hon hoff hfr hel hval
      obtain ⟨hV, hE⟩ := hG
      have hi_ := List.mem_range.1 hi_
      have hcs : i_ = 0 ∨ i_ = 1 ∨ i_ = 2 ∨ i_ = 3 ∨ i_ = 4 := by omega
      rcases hcs with rfl | rfl | rfl | rfl | rfl
      · have h1 : a_.tmps[1]? = some (.int .u64 (uv g)) := (hel 1 (by decide)).trans rfl
        obtain ⟨l_, rfl⟩ := hfr
        have e1 : evl l_ (.tmp 1) = .int .u64 (uv g) := evl_of h1
        refine ⟨_, rfl, fun K_ hK_ => wp_of_list rfl ?_⟩
        intro ops_
        refine p_run (l' := _) _ (x_move (.int .u64 (uv g)) rfl e1) rfl ?_
        refine wpList_nil ?_
        exact norm_put (hK_ (.int .u64 (uv g)) _ ⟨qv_up hV (fun _ h => Option.some.inj h), hE⟩)
      · have h6 : a_.tmps[6]? = some (.pointer (some ⟨g15, 0, none⟩)) := (hel 6 (by decide)).trans rfl
        obtain ⟨l_, rfl⟩ := hfr
        have hE0 := hE
        rw [show bq_ 2 = false from (hoff 2 (by decide))] at hE0
        simp only [cond_true, cond_false] at hE0
        have HS := hE0
        have e6 : evl l_ (.tmp 6) = .pointer (some ⟨g15, 0, none⟩) := evl_of h6
        refine ⟨_, rfl, fun K_ hK_ => wp_of_list rfl ?_⟩
        intro ops_
        refine p_run (l' := _) _ (x_loads ((nums .u8 ((bdB q).map bv))) 240 rfl e6 (bkCells (HS.get (.head _)) 0 _ (whole _)) (by rfl) (by kernel_rfl) (by simp [List.length_map, bdB_len hq, nums_length])) rfl ?_
        refine wpList_nil ?_
        exact norm_put (hK_ (.agg ((nums .u8 ((bdB q).map bv))).toArray) _ ⟨qv_up hV (fun _ h => Option.some.inj h), hE⟩)
      · have h10 : a_.tmps[10]? = some (.int .u64 (uv g)) := (hval (0, 10) (by decide) (hon 0 (by decide))).trans (congrArg some (hV 0 _ rfl (hon 0 (by decide))))
        have h11 : a_.tmps[11]? = some (.agg ((nums .u8 ((bdB q).map bv))).toArray) := (hval (1, 11) (by decide) (hon 1 (by decide))).trans (congrArg some (hV 1 _ rfl (hon 1 (by decide))))
        obtain ⟨l_, rfl⟩ := hfr
        have hE0 := hE
        rw [show bq_ 2 = false from hb_] at hE0
        simp only [cond_true, cond_false] at hE0
        have HS := hE0
        have e10 : evl l_ (.tmp 10) = .int .u64 (uv g) := evl_of h10
        have e11 : evl l_ (.tmp 11) = .agg ((nums .u8 ((bdB q).map bv))).toArray := evl_of h11
        refine ⟨_, rfl, fun K_ hK_ => wp_of_list rfl ?_⟩
        intro ops_
        refine w_call [.int .u64 (uv g), .agg ((nums .u8 ((bdB q).map bv))).toArray] Try.func13 (by kernel_rfl) (by rfl) (by simp [e10, e11]) ?_
        refine (tpage_any HS g (bdB q) (bdB_len hq)).mono ?_
        clear HS
        rintro e w9201 ⟨rfl, HS⟩
        refine ⟨_, rfl, ?_⟩
        refine wpList_nil ?_
        refine norm_put (hK_ (.agg ((nums .u8 (tlP g (bdB q)))).toArray) _ ⟨qv_up hV (by intro _ h; cases h), ?_⟩)
        show cond true _ _
        rw [cond_true]
        exact ⟨rfl, (((HS.front 2 rfl).front 2 rfl).front 2 rfl)⟩
      · have h2 : a_.tmps[2]? = some (.pointer (some ⟨g5, 0, none⟩)) := (hel 2 (by decide)).trans rfl
        obtain ⟨l_, rfl⟩ := hfr
        rcases hq2 : bq_ 2 with _ | _
        · have hE0 := hE
          rw [show bq_ 2 = false from hq2] at hE0
          simp only [cond_true, cond_false] at hE0
          have HS := hE0
          have e2 : evl l_ (.tmp 2) = .pointer (some ⟨g5, 0, none⟩) := evl_of h2
          refine ⟨_, rfl, fun K_ hK_ => wp_of_list rfl ?_⟩
          intro ops_
          refine p_run (l' := _) _ (x_loads ((nums .u8 (q.map bv))) 256 rfl e2 (bkCells (HS.get (.tail _ (.tail _ (.head _)))) 0 _ (whole _)) (by rfl) (by kernel_rfl) (by simp [List.length_map, hq, nums_length])) rfl ?_
          refine wpList_nil ?_
          exact norm_put (hK_ (.agg ((nums .u8 (q.map bv))).toArray) _ ⟨qv_up hV (fun _ h => Option.some.inj h), hE⟩)
        · skip
          have hE0 := hE
          rw [show bq_ 2 = true from hq2] at hE0
          simp only [cond_true, cond_false] at hE0
          obtain ⟨hv2, HS⟩ := hE0
          have e2 : evl l_ (.tmp 2) = .pointer (some ⟨g5, 0, none⟩) := evl_of h2
          refine ⟨_, rfl, fun K_ hK_ => wp_of_list rfl ?_⟩
          intro ops_
          refine p_run (l' := _) _ (x_loads ((nums .u8 (q.map bv))) 256 rfl e2 (bkCells (HS.get (.tail _ (.tail _ (.head _)))) 0 _ (whole _)) (by rfl) (by kernel_rfl) (by simp [List.length_map, hq, nums_length])) rfl ?_
          refine wpList_nil ?_
          exact norm_put (hK_ (.agg ((nums .u8 (q.map bv))).toArray) _ ⟨qv_up hV (fun _ h => Option.some.inj h), hE⟩)
      · have h12 := hval (2, 12) (by decide) (hon 2 (by decide))
        have h13 : a_.tmps[13]? = some (.agg ((nums .u8 (q.map bv))).toArray) := (hval (3, 13) (by decide) (hon 3 (by decide))).trans (congrArg some (hV 3 _ rfl (hon 3 (by decide))))
        obtain ⟨l_, rfl⟩ := hfr
        have hE0 := hE
        rw [show bq_ 2 = true from (hon 2 (by decide))] at hE0
        simp only [cond_true, cond_false] at hE0
        obtain ⟨hv2, HS⟩ := hE0
        rw [hv2] at h12
        have e12 : evl l_ (.tmp 12) = .agg ((nums .u8 (tlP g (bdB q)))).toArray := evl_of h12
        have e13 : evl l_ (.tmp 13) = .agg ((nums .u8 (q.map bv))).toArray := evl_of h13
        refine ⟨_, rfl, fun K_ hK_ => wp_of_list rfl ?_⟩
        intro ops_
        refine p_run (l' := _) _ (x_eq .neq (.agg ((nums .u8 (tlP g (bdB q)))).toArray) (.agg ((nums .u8 (q.map bv))).toArray) (decide ((tlP g (bdB q)) = (q.map bv))) false rfl e12 e13 (equal_nums Try.underlying27 Try.underlying5 (by kernel_rfl) (by kernel_rfl) _ _ (by simp [tlP_len g (bdB_len hq)]) (by simp [List.length_map, hq])) (tl_eq g q true h) rfl (guard_agg (by kernel_rfl)) (guard_agg (by kernel_rfl))) rfl ?_
        refine wpList_nil ?_
        exact norm_put (hK_ (.bool false) _ ⟨qv_up hV (fun _ h => Option.some.inj h), hE⟩)
    intro bq_ vq_ w_ hall hG
    obtain ⟨hV, hE⟩ := hG
    clear HS
    rw [show bq_ 2 = true from hall 2 (by decide)] at hE
    simp only [cond_true] at hE
    obtain ⟨hv2, HS⟩ := hE
    have hv0 := hV 0 _ rfl (hall 0 (by decide))
    have hv1 := hV 1 _ rfl (hall 1 (by decide))
    have hv3 := hV 3 _ rfl (hall 3 (by decide))
    have hv4 := hV 4 _ rfl (hall 4 (by decide))
    clear hV hall
    rw [putSel_fr]
    simp only [tells, List.map_cons, List.map_nil, setAll, List.set_cons_succ, List.set_cons_zero, hv0, hv1, hv2, hv3, hv4]
    clear hv0 hv1 hv2 hv3 hv4
    generalize w_ = w9401 at HS ⊢
    refine fr_at (l' := [.agg ((nums .u8 (q.map bv))).toArray, .int .u64 (uv g), .pointer (some ⟨g5, 0, none⟩), undef, .pointer (some ⟨g8, 0, none⟩), .int .i64 0, .pointer (some ⟨g15, 0, none⟩), .slice (some ⟨g15, 0, none⟩) 240 240, .slice (some ⟨g5, 8, none⟩) 248 248, .int .i64 ((nums .u8 ((bdB q).map bv)).length : Int), .int .u64 (uv g), .agg ((nums .u8 ((bdB q).map bv))).toArray, .agg ((nums .u8 (tlP g (bdB q)))).toArray, .agg ((nums .u8 (q.map bv))).toArray, .bool false, undef, undef]) rfl ?_
    refine hK9206 _ _ ?_
    refine c_false rfl ?_
    refine wp_skip ?_
    refine hK9204 _ _ ?_
    refine wp_seq_k (fun K9402 hK9403 => ?_)
    refine c_region (fun ops9405 hops9404 => ?_)
    clear hops9404
    refine p_run (l' := _) _ (x_loads ((nums .u8 ((bdB q).map bv))) 240 rfl rfl (bkCells (HS.get (.head _)) 0 _ (whole _)) (by rfl) (by kernel_rfl) (by simp [List.length_map, bdB_len hq, nums_length])) rfl ?_
    refine St.stores (cs' := ((nums .u8 ((bdB q).map bv)))) (HS.front 1 rfl) ((nums .u8 ((bdB q).map bv))) 240 rfl rfl (nums_one _ _) (by kernel_rfl) (by simp [List.length_map, bdB_len hq, nums_length]) (by simp [List.length_map, bdB_len hq, nums_length, zlen240]) (lay_all _ _ (by simp [List.length_map, bdB_len hq, nums_length, zlen240])) ?_
    clear HS
    intro w9406 HS
    refine p_run (l' := _) _ (x_assign (.int .i64 0) rfl rfl) rfl ?_
    refine wpList_nil ?_
    refine fr_at (l' := [.agg ((nums .u8 (q.map bv))).toArray, .int .u64 (uv g), .pointer (some ⟨g5, 0, none⟩), undef, .pointer (some ⟨g8, 0, none⟩), .int .i64 0, .pointer (some ⟨g15, 0, none⟩), .slice (some ⟨g15, 0, none⟩) 240 240, .slice (some ⟨g5, 8, none⟩) 248 248, .int .i64 ((nums .u8 ((bdB q).map bv)).length : Int), .int .u64 (uv g), .agg ((nums .u8 ((bdB q).map bv))).toArray, .agg ((nums .u8 (tlP g (bdB q)))).toArray, .agg ((nums .u8 (q.map bv))).toArray, .bool false, undef, .agg ((nums .u8 ((bdB q).map bv))).toArray]) rfl ?_
    refine hK9403 _ _ ?_
    refine wp_ret ?_
    try simp only [Exit.inBlock, Exit.then]
    refine c_ret (.tuple [.agg ((nums .u8 ((bdB q).map bv))).toArray, .int .i64 0].toArray) (r_ct rfl rfl (run_loadVar_aggn (by rfl) ((nums .u8 ((bdB q).map bv))) 240 (by kernel_rfl) (by simp [List.length_map, bdB_len hq, nums_length]) (bkCells (HS.get (.head _)) 0 _ (whole _))) rfl) ?_
    have e1 : tlC g q = bdB q := by unfold tlC; rw [h]; rfl
    have e2 : tlE g q = 0 := by unfold tlE; rw [h]; rfl
    rw [e1, e2]
    exact ⟨rfl, HS.drop.drop.drop⟩

def tlA (g : UInt64) : Int := 2 + uv g % 2
theorem mod2 (g : UInt64) : (uv g).tmod 2 = uv g % 2 := Int.tmod_eq_emod_of_nonneg (uv_lo g)

set_option maxRecDepth 10000 in
theorem tarea_any (g : UInt64) (W : World) : Calls Try.prog 18 #[.int .u64 (uv g)] W fun e w' => e = .returned (.int .i64 (tlA g)) ∧ w' = W := by
  have HS : St W (fun _ => False) W [] := St.empty W
  · skip
    refine c_enter Try.func18 rfl 7 rfl [.int .u64 (uv g), undef, undef, undef, undef, undef, undef] rfl ?_
    refine wp_seq_k (fun K1 hK2 => ?_)
    refine c_region (fun ops4 hops3 => ?_)
    clear hops3
    refine p_run (l' := _) _ (x_assign (.int .i64 0) rfl rfl) rfl ?_
    refine wpList_nil ?_
    refine fr_at (l' := [.int .u64 (uv g), undef, .int .i64 0, undef, undef, undef, undef]) rfl ?_
    refine hK2 _ _ ?_
    refine wp_seq_k (fun K5 hK6 => ?_)
    refine c_region (fun ops8 hops7 => ?_)
    clear hops7
    refine p_run (l' := _) _ (x_move (.int .u64 (uv g)) rfl rfl) rfl ?_
    refine p_run (l' := _) _ (x_rem (k := .u64) (m := (uv g)) (n := 2) ((uv g % 2)) rfl rfl rfl (by decide) (mod2 g)) rfl ?_
    refine p_run (l' := _) _ (x_conv (k := .u64) (m := (uv g % 2)) .i64 ((uv g % 2)) rfl (by rw [Try.underlying22]; rfl) Try.underlying3 rfl (wr64 (by have := uv_lo g; omega))) rfl ?_
    refine p_run (l' := [.int .u64 (uv g), undef, .int .i64 0, .int .u64 (uv g), .int .u64 (uv g % 2), .int .i64 (uv g % 2), .int .i64 (2 + uv g % 2)]) _ (x_arith (k := .i64) (m := 2) (n := (uv g % 2)) .add ((2 + uv g % 2)) rfl rfl rfl (show IntKind.i64.wrap (2 + (uv g % 2)) = (2 + uv g % 2) from (wr64 (by have := uv_lo g; omega))) rfl) rfl ?_
    refine p_run (l' := _) _ (x_assign (.int .i64 (2 + uv g % 2)) rfl rfl) rfl ?_
    refine wpList_nil ?_
    refine fr_at (l' := [.int .u64 (uv g), undef, .int .i64 (2 + uv g % 2), .int .u64 (uv g), .int .u64 (uv g % 2), .int .i64 (uv g % 2), .int .i64 (2 + uv g % 2)]) rfl ?_
    refine hK6 _ _ ?_
    refine wp_ret ?_
    try simp only [Exit.inBlock, Exit.then]
    refine c_ret (.int .i64 (2 + uv g % 2)) (r_tmp rfl rfl) ?_
    exact ⟨rfl, rfl⟩

/-- How many are held. -/
def usN (c : List UInt8) : Nat := (c.filter (· ≠ 0)).length
theorem us_snoc (c : List UInt8) (j : Nat) (h : j < c.length) : usN (c.take (j + 1)) = usN (c.take j) + (if c[j] = 0 then 0 else 1) := by
  unfold usN
  rw [List.take_succ_eq_append_getElem h, List.filter_append, List.length_append]
  congr 1
  by_cases h0 : c[j] = 0 <;> simp [h0]
theorem us_le (c : List UInt8) : usN c ≤ c.length := List.length_filter_le _ _
theorem bv_at (c : List UInt8) (j : Nat) (h : j < c.length) : (c.map bv).getD j 0 = bv c[j] := by simp [List.getD_eq_getElem?_getD, h]
theorem bv_zero (x : UInt8) : (bv x = 0) ↔ x = 0 := ⟨fun h => bv_inj (by rw [h]; rfl), fun h => by rw [h]; rfl⟩
theorem bv_pos (x : UInt8) : (0 < bv x) ↔ ¬ x = 0 := by
  have := bv_lo x
  rw [← bv_zero]
  omega

set_option maxRecDepth 10000 in
set_option maxHeartbeats 1000000 in
theorem tused_any (HS : St w0 F W L) (c : List UInt8) (hc : c.length = 240) : Calls Try.prog 15 #[.agg ((nums .u8 (c.map bv))).toArray] W fun e w' => e = .returned (.int .i64 (usN c : Int)) ∧ St w0 F w' L := by
  refine c_enter Try.func15 rfl 16 rfl [.agg ((nums .u8 (c.map bv))).toArray, undef, undef, undef, undef, undef, undef, undef, undef, undef, undef, undef, undef, undef, undef, undef] rfl ?_
  refine wp_seq_k (fun K1 hK2 => ?_)
  refine c_region (fun ops4 hops3 => ?_)
  clear hops3
  refine St.wBox HS (cs := ((nums .u8 (c.map bv)))) (.agg ((nums .u8 (c.map bv))).toArray) rfl rfl ?_
  clear HS
  intro g5 w6 hg7 HS
  refine p_run (l' := _) _ (x_assign (.int .i64 0) rfl rfl) rfl ?_
  refine wpList_nil ?_
  refine fr_at (l' := [.agg ((nums .u8 (c.map bv))).toArray, .pointer (some ⟨g5, 0, none⟩), .int .i64 0, undef, undef, undef, undef, undef, undef, undef, undef, undef, undef, undef, undef, undef]) rfl ?_
  refine hK2 _ _ ?_
  refine wp_seq_k (fun K8 hK9 => ?_)
  refine c_region (fun ops11 hops10 => ?_)
  clear hops10
  refine p_run (l' := _) _ (x_assign (.int .i64 0) rfl rfl) rfl ?_
  refine wpList_nil ?_
  refine fr_at (l' := [.agg ((nums .u8 (c.map bv))).toArray, .pointer (some ⟨g5, 0, none⟩), .int .i64 0, .int .i64 0, undef, undef, undef, undef, undef, undef, undef, undef, undef, undef, undef, undef]) rfl ?_
  refine hK9 _ _ ?_
  refine wp_seq_k (fun K12 hK13 => ?_)
  refine wp_seq_k (fun K14 hK15 => ?_)
  refine c_region (fun ops17 hops16 => ?_)
  clear hops16
  refine p_run (l' := _) _ (x_loads ((nums .u8 (c.map bv))) 240 rfl rfl (bkCells (HS.get (.head _)) 0 _ (whole _)) (by rfl) (by kernel_rfl) (by simp [List.length_map, hc, nums_length])) rfl ?_
  refine p_run (l' := _) _ (x_move (.int .i64 0) rfl rfl) rfl ?_
  refine wpList_nil ?_
  refine fr_at (l' := [.agg ((nums .u8 (c.map bv))).toArray, .pointer (some ⟨g5, 0, none⟩), .int .i64 0, .int .i64 0, undef, undef, .agg ((nums .u8 (c.map bv))).toArray, .int .i64 0, undef, undef, undef, undef, undef, undef, undef, undef]) rfl ?_
  refine hK15 _ _ ?_
  refine wp_block ?_
  refine c_loop (ι := Nat) (fun i_ a_ w_ => match i_ with | j => ∃ (u5 : Value) (u8 : Value) (u9 : Value) (u10 : Value) (u11 : Value) (u12 : Value) (u13 : Value) (u14 : Value), a_ = fr [.agg ((nums .u8 (c.map bv))).toArray, .pointer (some ⟨g5, 0, none⟩), .int .i64 0, .int .i64 ((usN (c.take j) : Nat) : Int), undef, u5, .agg ((nums .u8 (c.map bv))).toArray, .int .i64 (j : Int), u8, u9, u10, u11, u12, u13, u14, undef] ∧ St w0 F w_ (blk g5 ((nums .u8 (c.map bv))) 29 :: L) ∧ (j ≤ 240)) (fun i_ => match i_ with | j => 240 - j) 0 ?_ ?_
  · exact ⟨_, _, _, _, _, _, _, _, rfl, HS, (by omega)⟩
  · clear HS
    rintro j a_ w20 ⟨u5, u8, u9, u10, u11, u12, u13, u14, rfl, HS, hI⟩ J18 hJ19
    refine wp_seq_k (fun K21 hK22 => ?_)
    refine c_region (fun ops24 hops23 => ?_)
    clear hops23
    refine p_run (l' := _) _ (x_cmp (k := .i64) (m := (j : Int)) (n := 240) .lss (decide ((j : Int) < 240)) rfl rfl rfl rfl rfl) rfl ?_
    refine wpList_nil ?_
    refine fr_at (l' := [.agg ((nums .u8 (c.map bv))).toArray, .pointer (some ⟨g5, 0, none⟩), .int .i64 0, .int .i64 ((usN (c.take j) : Nat) : Int), undef, u5, .agg ((nums .u8 (c.map bv))).toArray, .int .i64 (j : Int), .bool (decide ((j : Int) < 240)), u9, u10, u11, u12, u13, u14, undef]) rfl ?_
    refine hK22 _ _ ?_
    refine wp_seq_k (fun K25 hK26 => ?_)
    refine c_cond (t := decide ((j : Int) < 240)) rfl (fun hc27 => ?_) (fun hc27 => ?_)
    · have hlt : j < 240 := by have := of_decide_eq_true hc27; omega
      have hb := bv_at c j (by omega)
      have hu := us_snoc c j (by omega)
      have hv := us_le (c.take (j + 1))
      have hl2 : (c.take (j + 1)).length ≤ 240 := by rw [List.length_take]; omega
      refine wp_skip ?_
      refine hK26 _ _ ?_
      refine wp_seq_k (fun K28 hK29 => ?_)
      refine wp_block ?_
      refine wp_seq_k (fun K30 hK31 => ?_)
      refine c_region (fun ops33 hops32 => ?_)
      clear hops32
      refine p_run (l' := _) _ (x_idx (xs := (c.map bv)) (i := (j : Int)) j rfl rfl rfl Try.underlying29 (by kernel_rfl) (by rfl) (by first | rfl | omega) (by omega) (by simp [List.length_map, hc])) rfl ?_
      refine p_run (l' := _) _ (x_assign (.int .u8 ((c.map bv).getD j 0)) rfl rfl) rfl ?_
      refine wpList_nil ?_
      refine fr_at (l' := [.agg ((nums .u8 (c.map bv))).toArray, .pointer (some ⟨g5, 0, none⟩), .int .i64 0, .int .i64 ((usN (c.take j) : Nat) : Int), undef, .int .u8 ((c.map bv).getD j 0), .agg ((nums .u8 (c.map bv))).toArray, .int .i64 (j : Int), .bool (decide ((j : Int) < 240)), .int .u8 ((c.map bv).getD j 0), u10, u11, u12, u13, u14, undef]) rfl ?_
      refine hK31 _ _ ?_
      refine wp_seq_k (fun K34 hK35 => ?_)
      refine c_region (fun ops37 hops36 => ?_)
      clear hops36
      refine p_run (l' := _) _ (x_move (.int .u8 ((c.map bv).getD j 0)) rfl rfl) rfl ?_
      refine p_run (l' := _) _ (x_cmp (k := .u8) (m := ((c.map bv).getD j 0)) (n := 0) .gtr (decide (((c.map bv).getD j 0) > 0)) rfl rfl rfl rfl rfl) rfl ?_
      refine wpList_nil ?_
      refine fr_at (l' := [.agg ((nums .u8 (c.map bv))).toArray, .pointer (some ⟨g5, 0, none⟩), .int .i64 0, .int .i64 ((usN (c.take j) : Nat) : Int), undef, .int .u8 ((c.map bv).getD j 0), .agg ((nums .u8 (c.map bv))).toArray, .int .i64 (j : Int), .bool (decide ((j : Int) < 240)), .int .u8 ((c.map bv).getD j 0), .int .u8 ((c.map bv).getD j 0), .bool (decide (((c.map bv).getD j 0) > 0)), u12, u13, u14, undef]) rfl ?_
      refine hK35 _ _ ?_
      refine c_cond (t := decide (((c.map bv).getD j 0) > 0)) rfl (fun hc38 => ?_) (fun hc38 => ?_)
      · have hz := bv_pos (c[j]'(by omega))
        rw [hb] at hc38
        rw [if_neg (hz.1 (of_decide_eq_true hc38))] at hu
        refine c_region (fun ops40 hops39 => ?_)
        clear hops39
        refine p_run (l' := _) _ (x_move (.int .i64 ((usN (c.take j) : Nat) : Int)) rfl rfl) rfl ?_
        refine p_run (l' := _) _ (x_arith (k := .i64) (m := ((usN (c.take j) : Nat) : Int)) (n := 1) .add (((usN (c.take (j + 1)) : Nat) : Int)) rfl rfl rfl (show IntKind.i64.wrap (((usN (c.take j) : Nat) : Int) + 1) = ((usN (c.take (j + 1)) : Nat) : Int) from ((wr64 (by omega)).trans (by omega))) rfl) rfl ?_
        refine p_run (l' := _) _ (x_assign (.int .i64 ((usN (c.take (j + 1)) : Nat) : Int)) rfl rfl) rfl ?_
        refine wpList_nil ?_
        refine fr_at (l' := [.agg ((nums .u8 (c.map bv))).toArray, .pointer (some ⟨g5, 0, none⟩), .int .i64 0, .int .i64 ((usN (c.take (j + 1)) : Nat) : Int), undef, .int .u8 ((c.map bv).getD j 0), .agg ((nums .u8 (c.map bv))).toArray, .int .i64 (j : Int), .bool (decide ((j : Int) < 240)), .int .u8 ((c.map bv).getD j 0), .int .u8 ((c.map bv).getD j 0), .bool (decide (((c.map bv).getD j 0) > 0)), .int .i64 ((usN (c.take j) : Nat) : Int), .int .i64 ((usN (c.take (j + 1)) : Nat) : Int), u14, undef]) rfl ?_
        refine hK29 _ _ ?_
        refine c_region (fun ops42 hops41 => ?_)
        clear hops41
        refine p_run (l' := _) _ (x_arith (k := .i64) (m := (j : Int)) (n := 1) .add (((j + 1 : Nat) : Int)) rfl rfl rfl (show IntKind.i64.wrap ((j : Int) + 1) = ((j + 1 : Nat) : Int) from ((wr64 (by omega)).trans (by omega))) rfl) rfl ?_
        refine p_run (l' := _) _ (x_move (.int .i64 ((j + 1 : Nat) : Int)) rfl rfl) rfl ?_
        refine wpList_nil ?_
        refine fr_at (l' := [.agg ((nums .u8 (c.map bv))).toArray, .pointer (some ⟨g5, 0, none⟩), .int .i64 0, .int .i64 ((usN (c.take (j + 1)) : Nat) : Int), undef, .int .u8 ((c.map bv).getD j 0), .agg ((nums .u8 (c.map bv))).toArray, .int .i64 ((j + 1 : Nat) : Int), .bool (decide ((j : Int) < 240)), .int .u8 ((c.map bv).getD j 0), .int .u8 ((c.map bv).getD j 0), .bool (decide (((c.map bv).getD j 0) > 0)), .int .i64 ((usN (c.take j) : Nat) : Int), .int .i64 ((usN (c.take (j + 1)) : Nat) : Int), .int .i64 ((j + 1 : Nat) : Int), undef]) rfl ?_
        refine hJ19 (j + 1) _ _ ?_ ?_
        · show 240 - (j + 1) < 240 - j; omega
        · exact ⟨_, _, _, _, _, _, _, _, rfl, HS, (by omega)⟩
      · have hz := bv_pos (c[j]'(by omega))
        rw [hb] at hc38
        rw [if_pos (Decidable.not_not.1 (fun h => of_decide_eq_false hc38 (hz.2 h)))] at hu
        refine wp_skip ?_
        refine hK29 _ _ ?_
        refine c_region (fun ops44 hops43 => ?_)
        clear hops43
        refine p_run (l' := _) _ (x_arith (k := .i64) (m := (j : Int)) (n := 1) .add (((j + 1 : Nat) : Int)) rfl rfl rfl (show IntKind.i64.wrap ((j : Int) + 1) = ((j + 1 : Nat) : Int) from ((wr64 (by omega)).trans (by omega))) rfl) rfl ?_
        refine p_run (l' := _) _ (x_move (.int .i64 ((j + 1 : Nat) : Int)) rfl rfl) rfl ?_
        refine wpList_nil ?_
        refine fr_at (l' := [.agg ((nums .u8 (c.map bv))).toArray, .pointer (some ⟨g5, 0, none⟩), .int .i64 0, .int .i64 ((usN (c.take j) : Nat) : Int), undef, .int .u8 ((c.map bv).getD j 0), .agg ((nums .u8 (c.map bv))).toArray, .int .i64 ((j + 1 : Nat) : Int), .bool (decide ((j : Int) < 240)), .int .u8 ((c.map bv).getD j 0), .int .u8 ((c.map bv).getD j 0), .bool (decide (((c.map bv).getD j 0) > 0)), u12, u13, .int .i64 ((j + 1 : Nat) : Int), undef]) rfl ?_
        have hu2 : usN (c.take (j + 1)) = usN (c.take j) := hu
        rw [← hu2]
        refine hJ19 (j + 1) _ _ ?_ ?_
        · show 240 - (j + 1) < 240 - j; omega
        · exact ⟨_, _, _, _, _, _, _, _, rfl, HS, (by omega)⟩
    · have hlt : j = 240 := by have := of_decide_eq_false hc27; omega
      subst hlt
      refine wp_exit ?_
      refine hK13 _ _ ?_
      refine wp_seq_k (fun K45 hK46 => ?_)
      refine c_region (fun ops48 hops47 => ?_)
      clear hops47
      refine p_run (l' := _) _ (x_move (.int .i64 ((usN (c.take 240) : Nat) : Int)) rfl rfl) rfl ?_
      refine p_run (l' := _) _ (x_assign (.int .i64 ((usN (c.take 240) : Nat) : Int)) rfl rfl) rfl ?_
      refine wpList_nil ?_
      refine fr_at (l' := [.agg ((nums .u8 (c.map bv))).toArray, .pointer (some ⟨g5, 0, none⟩), .int .i64 ((usN (c.take 240) : Nat) : Int), .int .i64 ((usN (c.take 240) : Nat) : Int), undef, u5, .agg ((nums .u8 (c.map bv))).toArray, .int .i64 (240 : Int), .bool (decide ((240 : Int) < 240)), u9, u10, u11, u12, u13, u14, .int .i64 ((usN (c.take 240) : Nat) : Int)]) rfl ?_
      refine hK46 _ _ ?_
      refine wp_ret ?_
      try simp only [Exit.inBlock, Exit.then]
      refine c_ret (.int .i64 ((usN (c.take 240) : Nat) : Int)) (r_tmp rfl rfl) ?_
      rw [show usN (c.take 240) = usN c from by rw [← hc, List.take_length]]
      exact ⟨rfl, HS.drop⟩
end
end Go.Proofs.Ytiokdpnhaemciaa
