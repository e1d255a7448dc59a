/- TallyTorn. -/
import Derived.Test.YtiokdpnhaemciaaL6a
set_option linter.unusedVariables false
set_option linter.unusedSimpArgs false
namespace Go.Proofs.Ytiokdpnhaemciaa
open Go.RowKit Go.Proofs.YtiokdpnhaemciaaW.PrintWords Go.Proofs.YtiokdpnhaemciaaW.PrintLast Crc
theorem torn_set (g : UInt64) (c : List UInt8) (i m : UInt8) : ((tlB g c).map bv).set (bv i).toNat (bv ((tlB g c).getD i.toNat 0 ^^^ m)) = ((tlB g c).set i.toNat ((tlB g c).getD i.toNat 0 ^^^ m)).map bv := by
  rw [bv_nat, List.map_set]
theorem torn_len (g : UInt64) {c : List UInt8} (hc : c.length = 240) (i y) : ((tlB g c).set i y).length = 256 := by rw [List.length_set, tlB_length g hc]
theorem torn_same (g : UInt64) {c : List UInt8} (hc : c.length = 240) (i : UInt8) : (tlB g c).set i.toNat ((tlB g c).getD i.toNat 0 ^^^ 0) = tlB g c := by
  have hl := tlB_length g hc
  have := i.toNat_lt
  rw [UInt8.xor_zero, List.getD_eq_getElem?_getD, List.getElem?_eq_getElem (by omega)]
  exact List.set_getElem_self (by omega)

set_option maxRecDepth 10000 in
set_option maxHeartbeats 2000000 in
theorem torn_law (w : World) (g : UInt64) (c : List UInt8) (hc : c.length = 240) (i m : UInt8) : Calls Try.prog 3 #[.int .u64 (uv g), .agg ((nums .u8 (c.map bv))).toArray, .agg [.int .u8 (bv i), .int .u8 (bv m)].toArray] w fun e w' => e = .returned (.bool true) ∧ Below w.heap.size w w' := by
  have HS := St.empty w
  have hbi : (bv i).toNat < 256 := by have := bv_lo i; have := bv_hi i; omega
  by_cases h0 : m = 0
  · skip
    have hm : bv m = 0 := (bv_zero m).2 h0
    have hsame : (tlB g c).set i.toNat ((tlB g c).getD i.toNat 0 ^^^ m) = tlB g c := by rw [h0]; exact torn_same g hc i
    have hok : tlOk g ((tlB g c).set i.toNat ((tlB g c).getD i.toNat 0 ^^^ m)) = true := by rw [hsame]; exact ok_page hc
    have hbd : bdB ((tlB g c).set i.toNat ((tlB g c).getD i.toNat 0 ^^^ m)) = c := by rw [hsame]; exact bd_page hc
    refine c_enter Try.func3 rfl 46 rfl [.int .u64 (uv g), .agg ((nums .u8 (c.map bv))).toArray, .agg [.int .u8 (bv i), .int .u8 (bv m)].toArray, undef, undef, undef, undef, undef, undef, undef, undef, undef, undef, undef, undef, undef, undef, undef, undef, undef, undef, undef, undef, undef, undef, undef, undef, undef, undef, undef, undef, undef, undef, undef, undef, undef, undef, undef, undef, undef, undef, undef, undef, undef, undef, undef] rfl ?_
    refine wp_seq_k (fun K1 hK2 => ?_)
    refine c_region (fun ops4 hops3 => ?_)
    clear hops3
    refine St.wBox HS (cs := ((nums .u8 (c.map bv)))) (.agg ((nums .u8 (c.map bv))).toArray) rfl rfl ?_
    clear HS
    intro g5 w6 hg7 HS
    refine St.wBox HS (cs := [.int .u8 (bv i), .int .u8 (bv m)]) (.agg [.int .u8 (bv i), .int .u8 (bv m)].toArray) rfl rfl ?_
    clear HS
    intro g8 w9 hg10 HS
    refine p_run (l' := _) _ (x_assign (.bool false) rfl rfl) rfl ?_
    refine wpList_nil ?_
    refine fr_at (l' := [.int .u64 (uv g), .agg ((nums .u8 (c.map bv))).toArray, .agg [.int .u8 (bv i), .int .u8 (bv m)].toArray, undef, .pointer (some ⟨g5, 0, none⟩), .pointer (some ⟨g8, 0, none⟩), .bool false, undef, undef, undef, undef, undef, undef, undef, undef, undef, undef, undef, undef, undef, undef, undef, undef, undef, undef, undef, undef, undef, undef, undef, undef, undef, undef, undef, undef, undef, undef, undef, undef, undef, undef, undef, undef, undef, undef, undef]) rfl ?_
    refine hK2 _ _ ?_
    refine wp_seq_k (fun K11 hK12 => ?_)
    refine wp_seq_k (fun K13 hK14 => ?_)
    refine c_region (fun ops16 hops15 => ?_)
    clear hops15
    refine w_call [] Try.func12 (by kernel_rfl) (by rfl) rfl ?_
    refine (talive_any HS).mono ?_
    clear HS
    rintro e w17 ⟨rfl, HS⟩
    refine ⟨_, rfl, ?_⟩
    refine p_run (l' := _) _ (x_not true rfl rfl) rfl ?_
    refine wpList_nil ?_
    refine fr_at (l' := [.int .u64 (uv g), .agg ((nums .u8 (c.map bv))).toArray, .agg [.int .u8 (bv i), .int .u8 (bv m)].toArray, undef, .pointer (some ⟨g5, 0, none⟩), .pointer (some ⟨g8, 0, none⟩), .bool false, undef, undef, undef, .bool true, .bool false, undef, undef, undef, undef, undef, undef, undef, undef, undef, undef, undef, undef, undef, undef, undef, undef, undef, undef, undef, undef, undef, undef, undef, undef, undef, undef, undef, undef, undef, undef, undef, undef, undef, undef]) rfl ?_
    refine hK14 _ _ ?_
    refine c_false rfl ?_
    refine wp_skip ?_
    refine hK12 _ _ ?_
    refine wp_seq_k (fun K18 hK19 => ?_)
    refine c_region (fun ops21 hops20 => ?_)
    clear hops20
    refine p_run (l' := _) _ (x_move (.int .u64 (uv g)) rfl rfl) rfl ?_
    refine p_run (l' := _) _ (x_loads ((nums .u8 (c.map bv))) 240 rfl rfl (bkCells (HS.get (.tail _ (.head _))) 0 _ (whole _)) (by rfl) (by kernel_rfl) (by simp [List.length_map, hc, nums_length])) rfl ?_
    refine w_call [.int .u64 (uv g), .agg ((nums .u8 (c.map bv))).toArray] Try.func13 (by kernel_rfl) (by rfl) rfl ?_
    refine (tpage_any HS g c hc).mono ?_
    clear HS
    rintro e w22 ⟨rfl, HS⟩
    refine ⟨_, rfl, ?_⟩
    refine St.wAlloc HS (cs := ((nums .u8 zpg))) (.agg ((nums .u8 zpg)).toArray) (by kernel_rfl) rfl ?_
    clear HS
    intro g23 w24 hg25 HS
    refine fr_to (l' := [.int .u64 (uv g), .agg ((nums .u8 (c.map bv))).toArray, .agg [.int .u8 (bv i), .int .u8 (bv m)].toArray, undef, .pointer (some ⟨g5, 0, none⟩), .pointer (some ⟨g8, 0, none⟩), .bool false, .pointer (some ⟨g23, 0, none⟩), undef, undef, .bool true, .bool false, .int .u64 (uv g), .agg ((nums .u8 (c.map bv))).toArray, .agg ((nums .u8 ((tlB g c).map bv))).toArray, undef, undef, undef, undef, undef, undef, undef, undef, undef, undef, undef, undef, undef, undef, undef, undef, undef, undef, undef, undef, undef, undef, undef, undef, undef, undef, undef, undef, undef, undef, undef]) rfl ?_
    refine St.stores (cs' := ((nums .u8 ((tlB g c).map bv)))) HS ((nums .u8 ((tlB g c).map bv))) 256 rfl rfl (nums_one _ _) (by kernel_rfl) (by simp [(tlB_length g hc), List.length_map, nums_length]) (by simp [(tlB_length g hc), List.length_map, nums_length, zlen]) (lay_all _ _ (by simp [(tlB_length g hc), List.length_map, nums_length, zlen])) ?_
    clear HS
    intro w26 HS
    refine wpList_nil ?_
    refine hK19 _ _ ?_
    refine wp_seq_k (fun K27 hK28 => ?_)
    refine free_frame (n := 9) (T := _) [0, 1, 3, 7, 0, 16, 63, 127, 255] [(0, 15), (1, 16), (2, 17), (3, 18), (4, 19), (5, 20), (6, 21), (7, 22)] (fun bq_ vq_ w_ => qv ((fun i_ => match i_ with | 0 => some (.pointer (some ⟨g8, 0, none⟩)) | 1 => some (.int .u8 (bv i)) | 2 => some (.pointer (some ⟨g23, (bv i).toNat, none⟩)) | 3 => some (.int .u8 (((tlB g c).map bv).getD ((bv i).toNat) 0)) | 4 => some (.pointer (some ⟨g8, 1, none⟩)) | 5 => some (.int .u8 (bv m)) | 6 => some (.int .u8 (bv ((tlB g c).getD i.toNat 0 ^^^ m))) | 7 => some (.pointer (some ⟨g23, (bv i).toNat, none⟩)) | _ => none) : Nat → Option Value) bq_ vq_ ∧ cond (bq_ 8) (St w (fun _ => False) w_ ([blk g23 ((nums .u8 (((tlB g c).map bv).set ((bv i).toNat) (bv ((tlB g c).getD i.toNat 0 ^^^ m))))) 27, blk g8 [.int .u8 (bv i), .int .u8 (bv m)] 24, blk g5 ((nums .u8 (c.map bv))) 23])) ((St w (fun _ => False) w_ ([blk g23 ((nums .u8 ((tlB g c).map bv))) 27, blk g8 [.int .u8 (bv i), .int .u8 (bv m)] 24, blk g5 ((nums .u8 (c.map bv))) 23])))) (by kernel_rfl) rfl rfl (by kernel_rfl) (by kernel_rfl) rfl (by kernel_rfl) (by kernel_rfl) ⟨qv_none, HS.draw⟩ ?_ ?_
    · clear HS
      intro i_ hi_ bq_ vq_ a_ w_ hG hb_ hon hoff hfr hel hval
      obtain ⟨hV, hE⟩ := hG
      have hi_ := List.mem_range.1 hi_
      have hcs : i_ = 0 ∨ i_ = 1 ∨ i_ = 2 ∨ i_ = 3 ∨ i_ = 4 ∨ i_ = 5 ∨ i_ = 6 ∨ i_ = 7 ∨ i_ = 8 := by omega
      rcases hcs with rfl | rfl | rfl | rfl | rfl | rfl | rfl | rfl | rfl
      · have h5 : a_.tmps[5]? = some (.pointer (some ⟨g8, 0, none⟩)) := (hel 5 (by decide)).trans rfl
        obtain ⟨l_, rfl⟩ := hfr
        have e5 : evl l_ (.tmp 5) = .pointer (some ⟨g8, 0, none⟩) := evl_of h5
        refine ⟨_, rfl, fun K_ hK_ => wp_of_list rfl ?_⟩
        intro ops_
        refine p_run (l' := _) _ (x_indexArr (sz := 1) (j := 0) rfl e5 rfl Try.underlying24 (by kernel_rfl) (by omega) rfl) rfl ?_
        refine wpList_nil ?_
        exact norm_put (hK_ (.pointer (some ⟨g8, 0, none⟩)) _ ⟨qv_up hV (fun _ h => Option.some.inj h), hE⟩)
      · have h15 : a_.tmps[15]? = some (.pointer (some ⟨g8, 0, none⟩)) := (hval (0, 15) (by decide) (hon 0 (by decide))).trans (congrArg some (hV 0 _ rfl (hon 0 (by decide))))
        obtain ⟨l_, rfl⟩ := hfr
        have hE0 := hE
        rw [show bq_ 8 = false from (hoff 8 (by decide))] at hE0
        simp only [cond_true, cond_false] at hE0
        have HS := hE0
        have e15 : evl l_ (.tmp 15) = .pointer (some ⟨g8, 0, none⟩) := evl_of h15
        refine ⟨_, rfl, fun K_ hK_ => wp_of_list rfl ?_⟩
        intro ops_
        refine p_run (l' := _) _ (x_load (.int .u8 (bv i)) rfl e15 (bkCell (HS.get (.tail _ (.head _))) 0 _ rfl) (by rfl)) rfl ?_
        refine wpList_nil ?_
        exact norm_put (hK_ (.int .u8 (bv i)) _ ⟨qv_up hV (fun _ h => Option.some.inj h), hE⟩)
      · have h7 : a_.tmps[7]? = some (.pointer (some ⟨g23, 0, none⟩)) := (hel 7 (by decide)).trans rfl
        have h16 : a_.tmps[16]? = some (.int .u8 (bv i)) := (hval (1, 16) (by decide) (hon 1 (by decide))).trans (congrArg some (hV 1 _ rfl (hon 1 (by decide))))
        obtain ⟨l_, rfl⟩ := hfr
        have e7 : evl l_ (.tmp 7) = .pointer (some ⟨g23, 0, none⟩) := evl_of h7
        have e16 : evl l_ (.tmp 16) = .int .u8 (bv i) := evl_of h16
        refine ⟨_, rfl, fun K_ hK_ => wp_of_list rfl ?_⟩
        intro ops_
        refine p_run (l' := _) _ (x_indexArr (sz := 1) (j := (bv i).toNat) rfl e7 e16 Try.underlying27 (by kernel_rfl) (by have := bv_lo i; have := bv_hi i; omega) (by first | rfl | simp)) rfl ?_
        refine wpList_nil ?_
        exact norm_put (hK_ (.pointer (some ⟨g23, (bv i).toNat, none⟩)) _ ⟨qv_up hV (fun _ h => Option.some.inj h), hE⟩)
      · have h17 : a_.tmps[17]? = some (.pointer (some ⟨g23, (bv i).toNat, none⟩)) := (hval (2, 17) (by decide) (hon 2 (by decide))).trans (congrArg some (hV 2 _ rfl (hon 2 (by decide))))
        obtain ⟨l_, rfl⟩ := hfr
        have hE0 := hE
        rw [show bq_ 8 = false from (hoff 8 (by decide))] at hE0
        simp only [cond_true, cond_false] at hE0
        have HS := hE0
        have e17 : evl l_ (.tmp 17) = .pointer (some ⟨g23, (bv i).toNat, none⟩) := evl_of h17
        refine ⟨_, rfl, fun K_ hK_ => wp_of_list rfl ?_⟩
        intro ops_
        refine p_run (l' := _) _ (x_load (.int .u8 (((tlB g c).map bv).getD ((bv i).toNat) 0)) rfl e17 (bkCell (HS.get (.head _)) ((bv i).toNat) _ (nums_getD (by simp only [List.length_map, (tlB_length g hc)]; omega))) (by rfl)) rfl ?_
        refine wpList_nil ?_
        exact norm_put (hK_ (.int .u8 (((tlB g c).map bv).getD ((bv i).toNat) 0)) _ ⟨qv_up hV (fun _ h => Option.some.inj h), hE⟩)
      · have h5 : a_.tmps[5]? = some (.pointer (some ⟨g8, 0, none⟩)) := (hel 5 (by decide)).trans rfl
        obtain ⟨l_, rfl⟩ := hfr
        have e5 : evl l_ (.tmp 5) = .pointer (some ⟨g8, 0, none⟩) := evl_of h5
        refine ⟨_, rfl, fun K_ hK_ => wp_of_list rfl ?_⟩
        intro ops_
        refine p_run (l' := _) _ (x_indexArr (sz := 1) (j := 1) rfl e5 rfl Try.underlying24 (by kernel_rfl) (by omega) rfl) rfl ?_
        refine wpList_nil ?_
        exact norm_put (hK_ (.pointer (some ⟨g8, 1, none⟩)) _ ⟨qv_up hV (fun _ h => Option.some.inj h), hE⟩)
      · have h19 : a_.tmps[19]? = some (.pointer (some ⟨g8, 1, none⟩)) := (hval (4, 19) (by decide) (hon 4 (by decide))).trans (congrArg some (hV 4 _ rfl (hon 4 (by decide))))
        obtain ⟨l_, rfl⟩ := hfr
        have hE0 := hE
        rw [show bq_ 8 = false from (hoff 8 (by decide))] at hE0
        simp only [cond_true, cond_false] at hE0
        have HS := hE0
        have e19 : evl l_ (.tmp 19) = .pointer (some ⟨g8, 1, none⟩) := evl_of h19
        refine ⟨_, rfl, fun K_ hK_ => wp_of_list rfl ?_⟩
        intro ops_
        refine p_run (l' := _) _ (x_load (.int .u8 (bv m)) rfl e19 (bkCell (HS.get (.tail _ (.head _))) 1 _ rfl) (by rfl)) rfl ?_
        refine wpList_nil ?_
        exact norm_put (hK_ (.int .u8 (bv m)) _ ⟨qv_up hV (fun _ h => Option.some.inj h), hE⟩)
      · have h18 : a_.tmps[18]? = some (.int .u8 (((tlB g c).map bv).getD ((bv i).toNat) 0)) := (hval (3, 18) (by decide) (hon 3 (by decide))).trans (congrArg some (hV 3 _ rfl (hon 3 (by decide))))
        have h20 : a_.tmps[20]? = some (.int .u8 (bv m)) := (hval (5, 20) (by decide) (hon 5 (by decide))).trans (congrArg some (hV 5 _ rfl (hon 5 (by decide))))
        obtain ⟨l_, rfl⟩ := hfr
        have e18 : evl l_ (.tmp 18) = .int .u8 (((tlB g c).map bv).getD ((bv i).toNat) 0) := evl_of h18
        have e20 : evl l_ (.tmp 20) = .int .u8 (bv m) := evl_of h20
        refine ⟨_, rfl, fun K_ hK_ => wp_of_list rfl ?_⟩
        intro ops_
        refine p_run (l' := _) _ (x_xor (k := .u8) (m := (((tlB g c).map bv).getD ((bv i).toNat) 0)) (n := (bv m)) ((bv ((tlB g c).getD i.toNat 0 ^^^ m))) rfl e18 e20 (by rw [bv_nat, bv_getD]; exact xor8 _ _)) rfl ?_
        refine wpList_nil ?_
        exact norm_put (hK_ (.int .u8 (bv ((tlB g c).getD i.toNat 0 ^^^ m))) _ ⟨qv_up hV (fun _ h => Option.some.inj h), hE⟩)
      · have h7 : a_.tmps[7]? = some (.pointer (some ⟨g23, 0, none⟩)) := (hel 7 (by decide)).trans rfl
        have h16 : a_.tmps[16]? = some (.int .u8 (bv i)) := (hval (1, 16) (by decide) (hon 1 (by decide))).trans (congrArg some (hV 1 _ rfl (hon 1 (by decide))))
        obtain ⟨l_, rfl⟩ := hfr
        have e7 : evl l_ (.tmp 7) = .pointer (some ⟨g23, 0, none⟩) := evl_of h7
        have e16 : evl l_ (.tmp 16) = .int .u8 (bv i) := evl_of h16
        refine ⟨_, rfl, fun K_ hK_ => wp_of_list rfl ?_⟩
        intro ops_
        refine p_run (l' := _) _ (x_indexArr (sz := 1) (j := (bv i).toNat) rfl e7 e16 Try.underlying27 (by kernel_rfl) (by have := bv_lo i; have := bv_hi i; omega) (by first | rfl | simp)) rfl ?_
        refine wpList_nil ?_
        exact norm_put (hK_ (.pointer (some ⟨g23, (bv i).toNat, none⟩)) _ ⟨qv_up hV (fun _ h => Option.some.inj h), hE⟩)
      · have h21 : a_.tmps[21]? = some (.int .u8 (bv ((tlB g c).getD i.toNat 0 ^^^ m))) := (hval (6, 21) (by decide) (hon 6 (by decide))).trans (congrArg some (hV 6 _ rfl (hon 6 (by decide))))
        have h22 : a_.tmps[22]? = some (.pointer (some ⟨g23, (bv i).toNat, none⟩)) := (hval (7, 22) (by decide) (hon 7 (by decide))).trans (congrArg some (hV 7 _ rfl (hon 7 (by decide))))
        obtain ⟨l_, rfl⟩ := hfr
        have hE0 := hE
        rw [show bq_ 8 = false from hb_] at hE0
        simp only [cond_true, cond_false] at hE0
        have HS := hE0
        have e21 : evl l_ (.tmp 21) = .int .u8 (bv ((tlB g c).getD i.toNat 0 ^^^ m)) := evl_of h21
        have e22 : evl l_ (.tmp 22) = .pointer (some ⟨g23, (bv i).toNat, none⟩) := evl_of h22
        refine ⟨_, rfl, fun K_ hK_ => wp_of_list rfl ?_⟩
        intro ops_
        refine St.store (cs' := (nums .u8 (((tlB g c).map bv).set ((bv i).toNat) (bv ((tlB g c).getD i.toNat 0 ^^^ m))))) HS (.int .u8 (bv ((tlB g c).getD i.toNat 0 ^^^ m))) e22 e21 rfl (by kernel_rfl) (decide_eq_true (by simp only [nums_length, List.length_map, (tlB_length g hc)]; omega)) (nums_set _ _ _ _) ?_
        clear HS
        intro w9801 HS
        refine wpList_nil ?_
        refine norm_none (hK_ undef _ ⟨qv_up hV (by intro _ h; cases h), ?_⟩)
        show cond true _ _
        rw [cond_true]
        exact (((HS.front 2 rfl).front 2 rfl).front 2 rfl)
    intro bq_ vq_ w_ hall hG
    obtain ⟨hV, hE⟩ := hG
    clear HS
    rw [show bq_ 8 = true from hall 8 (by decide)] at hE
    simp only [cond_true] at hE
    have HS := hE
    have hv0 := hV 0 _ rfl (hall 0 (by decide))
    have hv1 := hV 1 _ rfl (hall 1 (by decide))
    have hv2 := hV 2 _ rfl (hall 2 (by decide))
    have hv3 := hV 3 _ rfl (hall 3 (by decide))
    have hv4 := hV 4 _ rfl (hall 4 (by decide))
    have hv5 := hV 5 _ rfl (hall 5 (by decide))
    have hv6 := hV 6 _ rfl (hall 6 (by decide))
    have hv7 := hV 7 _ rfl (hall 7 (by decide))
    clear hV hall
    rw [putSel_fr]
    simp only [tells, List.map_cons, List.map_nil, setAll, List.set_cons_succ, List.set_cons_zero, hv0, hv1, hv2, hv3, hv4, hv5, hv6, hv7]
    clear hv0 hv1 hv2 hv3 hv4 hv5 hv6 hv7
    generalize w_ = w9802 at HS ⊢
    refine fr_at (l' := [.int .u64 (uv g), .agg ((nums .u8 (c.map bv))).toArray, .agg [.int .u8 (bv i), .int .u8 (bv m)].toArray, undef, .pointer (some ⟨g5, 0, none⟩), .pointer (some ⟨g8, 0, none⟩), .bool false, .pointer (some ⟨g23, 0, none⟩), undef, undef, .bool true, .bool false, .int .u64 (uv g), .agg ((nums .u8 (c.map bv))).toArray, .agg ((nums .u8 ((tlB g c).map bv))).toArray, .pointer (some ⟨g8, 0, none⟩), .int .u8 (bv i), .pointer (some ⟨g23, (bv i).toNat, none⟩), .int .u8 (((tlB g c).map bv).getD ((bv i).toNat) 0), .pointer (some ⟨g8, 1, none⟩), .int .u8 (bv m), .int .u8 (bv ((tlB g c).getD i.toNat 0 ^^^ m)), .pointer (some ⟨g23, (bv i).toNat, none⟩), undef, undef, undef, undef, undef, undef, undef, undef, undef, undef, undef, undef, undef, undef, undef, undef, undef, undef, undef, undef, undef, undef, undef]) rfl ?_
    refine hK28 _ _ ?_
    refine wp_seq_k (fun K9803 hK9804 => ?_)
    rw [torn_set] at HS
    · skip
      refine c_region (fun ops9806 hops9805 => ?_)
      clear hops9805
      refine p_run (l' := _) _ (x_loads ((nums .u8 (((tlB g c).set i.toNat ((tlB g c).getD i.toNat 0 ^^^ m)).map bv))) 256 rfl rfl (bkCells (HS.get (.head _)) 0 _ (whole _)) (by rfl) (by kernel_rfl) (by simp [List.length_map, nums_length, tlB_length g hc])) rfl ?_
      refine p_run (l' := _) _ (x_move (.int .u64 (uv g)) rfl rfl) rfl ?_
      refine w_call [.agg ((nums .u8 (((tlB g c).set i.toNat ((tlB g c).getD i.toNat 0 ^^^ m)).map bv))).toArray, .int .u64 (uv g)] Try.func14 (by kernel_rfl) (by rfl) rfl ?_
      refine (topen_any HS g ((tlB g c).set i.toNat ((tlB g c).getD i.toNat 0 ^^^ m)) (torn_len g hc _ _)).mono ?_
      clear HS
      rintro e w9807 ⟨rfl, HS⟩
      refine ⟨_, rfl, ?_⟩
      refine p_run (l' := [.int .u64 (uv g), .agg ((nums .u8 (c.map bv))).toArray, .agg [.int .u8 (bv i), .int .u8 (bv m)].toArray, undef, .pointer (some ⟨g5, 0, none⟩), .pointer (some ⟨g8, 0, none⟩), .bool false, .pointer (some ⟨g23, 0, none⟩), undef, undef, .bool true, .bool false, .int .u64 (uv g), .agg ((nums .u8 (c.map bv))).toArray, .agg ((nums .u8 ((tlB g c).map bv))).toArray, .pointer (some ⟨g8, 0, none⟩), .int .u8 (bv i), .pointer (some ⟨g23, (bv i).toNat, none⟩), .int .u8 (((tlB g c).map bv).getD ((bv i).toNat) 0), .pointer (some ⟨g8, 1, none⟩), .int .u8 (bv m), .int .u8 (bv ((tlB g c).getD i.toNat 0 ^^^ m)), .pointer (some ⟨g23, (bv i).toNat, none⟩), .tuple [.agg ((nums .u8 ((tlC g ((tlB g c).set i.toNat ((tlB g c).getD i.toNat 0 ^^^ m))).map bv))).toArray, .int .i64 (tlE g ((tlB g c).set i.toNat ((tlB g c).getD i.toNat 0 ^^^ m)))].toArray, .agg ((nums .u8 (((tlB g c).set i.toNat ((tlB g c).getD i.toNat 0 ^^^ m)).map bv))).toArray, .int .u64 (uv g), .tuple [.agg ((nums .u8 ((tlC g ((tlB g c).set i.toNat ((tlB g c).getD i.toNat 0 ^^^ m))).map bv))).toArray, .int .i64 (tlE g ((tlB g c).set i.toNat ((tlB g c).getD i.toNat 0 ^^^ m)))].toArray, undef, undef, undef, undef, undef, undef, undef, undef, undef, undef, undef, undef, undef, undef, undef, undef, undef, undef, undef]) _ (x_move (.tuple [.agg ((nums .u8 ((tlC g ((tlB g c).set i.toNat ((tlB g c).getD i.toNat 0 ^^^ m))).map bv))).toArray, .int .i64 (tlE g ((tlB g c).set i.toNat ((tlB g c).getD i.toNat 0 ^^^ m)))].toArray) rfl rfl) rfl ?_
      refine p_run (l' := _) _ (x_extract (vs := [.agg ((nums .u8 ((tlC g ((tlB g c).set i.toNat ((tlB g c).getD i.toNat 0 ^^^ m))).map bv))).toArray, .int .i64 (tlE g ((tlB g c).set i.toNat ((tlB g c).getD i.toNat 0 ^^^ m)))]) 0 (.agg ((nums .u8 ((tlC g ((tlB g c).set i.toNat ((tlB g c).getD i.toNat 0 ^^^ m))).map bv))).toArray) rfl rfl rfl) rfl ?_
      refine p_run (l' := _) _ (x_extract (vs := [.agg ((nums .u8 ((tlC g ((tlB g c).set i.toNat ((tlB g c).getD i.toNat 0 ^^^ m))).map bv))).toArray, .int .i64 (tlE g ((tlB g c).set i.toNat ((tlB g c).getD i.toNat 0 ^^^ m)))]) 1 (.int .i64 (tlE g ((tlB g c).set i.toNat ((tlB g c).getD i.toNat 0 ^^^ m)))) rfl rfl rfl) rfl ?_
      refine St.wAlloc HS (cs := ((nums .u8 (zB.map bv)))) (.agg ((nums .u8 (zB.map bv))).toArray) (by kernel_rfl) rfl ?_
      clear HS
      intro g9808 w9809 hg9810 HS
      refine St.stores (cs' := ((nums .u8 ((tlC g ((tlB g c).set i.toNat ((tlB g c).getD i.toNat 0 ^^^ m))).map bv)))) HS ((nums .u8 ((tlC g ((tlB g c).set i.toNat ((tlB g c).getD i.toNat 0 ^^^ m))).map bv))) 240 rfl rfl (nums_one _ _) (by kernel_rfl) (by simp [(tlC_len g (torn_len g hc _ _)), List.length_map, nums_length]) (by simp [(tlC_len g (torn_len g hc _ _)), List.length_map, nums_length, zB_len]) (lay_all _ _ (by simp [(tlC_len g (torn_len g hc _ _)), List.length_map, nums_length, zB_len])) ?_
      clear HS
      intro w9811 HS
      refine p_run (l' := [.int .u64 (uv g), .agg ((nums .u8 (c.map bv))).toArray, .agg [.int .u8 (bv i), .int .u8 (bv m)].toArray, undef, .pointer (some ⟨g5, 0, none⟩), .pointer (some ⟨g8, 0, none⟩), .bool false, .pointer (some ⟨g23, 0, none⟩), .pointer (some ⟨g9808, 0, none⟩), .int .i64 (tlE g ((tlB g c).set i.toNat ((tlB g c).getD i.toNat 0 ^^^ m))), .bool true, .bool false, .int .u64 (uv g), .agg ((nums .u8 (c.map bv))).toArray, .agg ((nums .u8 ((tlB g c).map bv))).toArray, .pointer (some ⟨g8, 0, none⟩), .int .u8 (bv i), .pointer (some ⟨g23, (bv i).toNat, none⟩), .int .u8 (((tlB g c).map bv).getD ((bv i).toNat) 0), .pointer (some ⟨g8, 1, none⟩), .int .u8 (bv m), .int .u8 (bv ((tlB g c).getD i.toNat 0 ^^^ m)), .pointer (some ⟨g23, (bv i).toNat, none⟩), .tuple [.agg ((nums .u8 ((tlC g ((tlB g c).set i.toNat ((tlB g c).getD i.toNat 0 ^^^ m))).map bv))).toArray, .int .i64 (tlE g ((tlB g c).set i.toNat ((tlB g c).getD i.toNat 0 ^^^ m)))].toArray, .agg ((nums .u8 (((tlB g c).set i.toNat ((tlB g c).getD i.toNat 0 ^^^ m)).map bv))).toArray, .int .u64 (uv g), .tuple [.agg ((nums .u8 ((tlC g ((tlB g c).set i.toNat ((tlB g c).getD i.toNat 0 ^^^ m))).map bv))).toArray, .int .i64 (tlE g ((tlB g c).set i.toNat ((tlB g c).getD i.toNat 0 ^^^ m)))].toArray, .agg ((nums .u8 ((tlC g ((tlB g c).set i.toNat ((tlB g c).getD i.toNat 0 ^^^ m))).map bv))).toArray, .int .i64 (tlE g ((tlB g c).set i.toNat ((tlB g c).getD i.toNat 0 ^^^ m))), undef, undef, undef, undef, undef, undef, undef, undef, undef, undef, undef, undef, undef, undef, undef, undef, undef]) _ (x_assign (.int .i64 (tlE g ((tlB g c).set i.toNat ((tlB g c).getD i.toNat 0 ^^^ m)))) rfl rfl) rfl ?_
      refine wpList_nil ?_
      refine hK9804 _ _ ?_
      refine wp_seq_k (fun K9812 hK9813 => ?_)
      refine wp_seq_k (fun K9814 hK9815 => ?_)
      refine c_region (fun ops9817 hops9816 => ?_)
      clear hops9816
      refine p_run (l' := _) _ (x_indexArr (sz := 1) (j := 1) rfl rfl rfl Try.underlying24 (by kernel_rfl) (by omega) rfl) rfl ?_
      refine p_run (l' := _) _ (x_load (.int .u8 (bv m)) rfl rfl (bkCell (HS.get (.tail _ (.tail _ (.head _)))) 1 _ rfl) (by rfl)) rfl ?_
      refine p_run (l' := _) _ (x_cmp (k := .u8) (m := (bv m)) (n := 0) .eql true rfl rfl rfl (cmp_yes hm) rfl) rfl ?_
      refine wpList_nil ?_
      refine fr_at (l' := [.int .u64 (uv g), .agg ((nums .u8 (c.map bv))).toArray, .agg [.int .u8 (bv i), .int .u8 (bv m)].toArray, undef, .pointer (some ⟨g5, 0, none⟩), .pointer (some ⟨g8, 0, none⟩), .bool false, .pointer (some ⟨g23, 0, none⟩), .pointer (some ⟨g9808, 0, none⟩), .int .i64 (tlE g ((tlB g c).set i.toNat ((tlB g c).getD i.toNat 0 ^^^ m))), .bool true, .bool false, .int .u64 (uv g), .agg ((nums .u8 (c.map bv))).toArray, .agg ((nums .u8 ((tlB g c).map bv))).toArray, .pointer (some ⟨g8, 0, none⟩), .int .u8 (bv i), .pointer (some ⟨g23, (bv i).toNat, none⟩), .int .u8 (((tlB g c).map bv).getD ((bv i).toNat) 0), .pointer (some ⟨g8, 1, none⟩), .int .u8 (bv m), .int .u8 (bv ((tlB g c).getD i.toNat 0 ^^^ m)), .pointer (some ⟨g23, (bv i).toNat, none⟩), .tuple [.agg ((nums .u8 ((tlC g ((tlB g c).set i.toNat ((tlB g c).getD i.toNat 0 ^^^ m))).map bv))).toArray, .int .i64 (tlE g ((tlB g c).set i.toNat ((tlB g c).getD i.toNat 0 ^^^ m)))].toArray, .agg ((nums .u8 (((tlB g c).set i.toNat ((tlB g c).getD i.toNat 0 ^^^ m)).map bv))).toArray, .int .u64 (uv g), .tuple [.agg ((nums .u8 ((tlC g ((tlB g c).set i.toNat ((tlB g c).getD i.toNat 0 ^^^ m))).map bv))).toArray, .int .i64 (tlE g ((tlB g c).set i.toNat ((tlB g c).getD i.toNat 0 ^^^ m)))].toArray, .agg ((nums .u8 ((tlC g ((tlB g c).set i.toNat ((tlB g c).getD i.toNat 0 ^^^ m))).map bv))).toArray, .int .i64 (tlE g ((tlB g c).set i.toNat ((tlB g c).getD i.toNat 0 ^^^ m))), .pointer (some ⟨g8, 1, none⟩), .int .u8 (bv m), .bool true, undef, undef, undef, undef, undef, undef, undef, undef, undef, undef, undef, undef, undef, undef]) rfl ?_
      refine hK9815 _ _ ?_
      refine c_true rfl ?_
      refine wp_seq_k (fun K9818 hK9819 => ?_)
      refine c_region (fun ops9821 hops9820 => ?_)
      refine p_run (l' := _) _ (x_move (.int .i64 (tlE g ((tlB g c).set i.toNat ((tlB g c).getD i.toNat 0 ^^^ m)))) rfl rfl) rfl ?_
      refine p_run (l' := _) _ (x_cmp (k := .i64) (m := (tlE g ((tlB g c).set i.toNat ((tlB g c).getD i.toNat 0 ^^^ m)))) (n := 0) .eql true rfl rfl rfl (cmp_yes (tE_yes hok)) rfl) rfl ?_
      refine p_run (l' := _) _ (x_move (.bool true) rfl rfl) rfl ?_
      refine p_on rfl (by rw [hops9820]; rfl) ?_
      refine p_run (l' := [.int .u64 (uv g), .agg ((nums .u8 (c.map bv))).toArray, .agg [.int .u8 (bv i), .int .u8 (bv m)].toArray, undef, .pointer (some ⟨g5, 0, none⟩), .pointer (some ⟨g8, 0, none⟩), .bool false, .pointer (some ⟨g23, 0, none⟩), .pointer (some ⟨g9808, 0, none⟩), .int .i64 (tlE g ((tlB g c).set i.toNat ((tlB g c).getD i.toNat 0 ^^^ m))), .bool true, .bool false, .int .u64 (uv g), .agg ((nums .u8 (c.map bv))).toArray, .agg ((nums .u8 ((tlB g c).map bv))).toArray, .pointer (some ⟨g8, 0, none⟩), .int .u8 (bv i), .pointer (some ⟨g23, (bv i).toNat, none⟩), .int .u8 (((tlB g c).map bv).getD ((bv i).toNat) 0), .pointer (some ⟨g8, 1, none⟩), .int .u8 (bv m), .int .u8 (bv ((tlB g c).getD i.toNat 0 ^^^ m)), .pointer (some ⟨g23, (bv i).toNat, none⟩), .tuple [.agg ((nums .u8 ((tlC g ((tlB g c).set i.toNat ((tlB g c).getD i.toNat 0 ^^^ m))).map bv))).toArray, .int .i64 (tlE g ((tlB g c).set i.toNat ((tlB g c).getD i.toNat 0 ^^^ m)))].toArray, .agg ((nums .u8 (((tlB g c).set i.toNat ((tlB g c).getD i.toNat 0 ^^^ m)).map bv))).toArray, .int .u64 (uv g), .tuple [.agg ((nums .u8 ((tlC g ((tlB g c).set i.toNat ((tlB g c).getD i.toNat 0 ^^^ m))).map bv))).toArray, .int .i64 (tlE g ((tlB g c).set i.toNat ((tlB g c).getD i.toNat 0 ^^^ m)))].toArray, .agg ((nums .u8 ((tlC g ((tlB g c).set i.toNat ((tlB g c).getD i.toNat 0 ^^^ m))).map bv))).toArray, .int .i64 (tlE g ((tlB g c).set i.toNat ((tlB g c).getD i.toNat 0 ^^^ m))), .pointer (some ⟨g8, 1, none⟩), .int .u8 (bv m), .bool true, .int .i64 (tlE g ((tlB g c).set i.toNat ((tlB g c).getD i.toNat 0 ^^^ m))), .bool true, .bool true, .agg ((nums .u8 ((tlC g ((tlB g c).set i.toNat ((tlB g c).getD i.toNat 0 ^^^ m))).map bv))).toArray, undef, undef, undef, undef, undef, undef, undef, undef, undef, undef]) _ (x_loads ((nums .u8 ((tlC g ((tlB g c).set i.toNat ((tlB g c).getD i.toNat 0 ^^^ m))).map bv))) 240 rfl rfl (bkCells (HS.get (.head _)) 0 _ (whole _)) (by rfl) (by kernel_rfl) (by simp [(tlC_len g (torn_len g hc _ _)), List.length_map, nums_length])) rfl ?_
      refine p_on rfl (by rw [hops9820]; rfl) ?_
      refine p_run (l' := _) _ (x_loads ((nums .u8 (c.map bv))) 240 rfl rfl (bkCells (HS.get (.tail _ (.tail _ (.tail _ (.head _))))) 0 _ (whole _)) (by rfl) (by kernel_rfl) (by simp [List.length_map, hc, nums_length])) rfl ?_
      refine p_on rfl (by rw [hops9820]; rfl) ?_
      refine p_run (l' := _) _ (x_eq .eql (.agg ((nums .u8 ((tlC g ((tlB g c).set i.toNat ((tlB g c).getD i.toNat 0 ^^^ m))).map bv))).toArray) (.agg ((nums .u8 (c.map bv))).toArray) (decide (((tlC g ((tlB g c).set i.toNat ((tlB g c).getD i.toNat 0 ^^^ m))).map bv) = (c.map bv))) true rfl rfl rfl (equal_nums Try.underlying29 Try.underlying5 (by kernel_rfl) (by kernel_rfl) _ _ (by simp [List.length_map, (tlC_len g (torn_len g hc _ _))]) (by simp [List.length_map, hc])) (eq_yes ((tC_yes hok).trans hbd)) rfl (guard_agg (by kernel_rfl)) (guard_agg (by kernel_rfl))) rfl ?_
      refine p_run (l' := _) _ (x_pick true (.bool true) (.bool false) (.bool true) rfl rfl rfl rfl rfl) rfl ?_
      refine p_run (l' := [.int .u64 (uv g), .agg ((nums .u8 (c.map bv))).toArray, .agg [.int .u8 (bv i), .int .u8 (bv m)].toArray, undef, .pointer (some ⟨g5, 0, none⟩), .pointer (some ⟨g8, 0, none⟩), .bool true, .pointer (some ⟨g23, 0, none⟩), .pointer (some ⟨g9808, 0, none⟩), .int .i64 (tlE g ((tlB g c).set i.toNat ((tlB g c).getD i.toNat 0 ^^^ m))), .bool true, .bool false, .int .u64 (uv g), .agg ((nums .u8 (c.map bv))).toArray, .agg ((nums .u8 ((tlB g c).map bv))).toArray, .pointer (some ⟨g8, 0, none⟩), .int .u8 (bv i), .pointer (some ⟨g23, (bv i).toNat, none⟩), .int .u8 (((tlB g c).map bv).getD ((bv i).toNat) 0), .pointer (some ⟨g8, 1, none⟩), .int .u8 (bv m), .int .u8 (bv ((tlB g c).getD i.toNat 0 ^^^ m)), .pointer (some ⟨g23, (bv i).toNat, none⟩), .tuple [.agg ((nums .u8 ((tlC g ((tlB g c).set i.toNat ((tlB g c).getD i.toNat 0 ^^^ m))).map bv))).toArray, .int .i64 (tlE g ((tlB g c).set i.toNat ((tlB g c).getD i.toNat 0 ^^^ m)))].toArray, .agg ((nums .u8 (((tlB g c).set i.toNat ((tlB g c).getD i.toNat 0 ^^^ m)).map bv))).toArray, .int .u64 (uv g), .tuple [.agg ((nums .u8 ((tlC g ((tlB g c).set i.toNat ((tlB g c).getD i.toNat 0 ^^^ m))).map bv))).toArray, .int .i64 (tlE g ((tlB g c).set i.toNat ((tlB g c).getD i.toNat 0 ^^^ m)))].toArray, .agg ((nums .u8 ((tlC g ((tlB g c).set i.toNat ((tlB g c).getD i.toNat 0 ^^^ m))).map bv))).toArray, .int .i64 (tlE g ((tlB g c).set i.toNat ((tlB g c).getD i.toNat 0 ^^^ m))), .pointer (some ⟨g8, 1, none⟩), .int .u8 (bv m), .bool true, .int .i64 (tlE g ((tlB g c).set i.toNat ((tlB g c).getD i.toNat 0 ^^^ m))), .bool true, .bool true, .agg ((nums .u8 ((tlC g ((tlB g c).set i.toNat ((tlB g c).getD i.toNat 0 ^^^ m))).map bv))).toArray, .agg ((nums .u8 (c.map bv))).toArray, .bool true, .bool true, undef, undef, undef, undef, undef, undef, undef]) _ (x_assign (.bool true) rfl rfl) rfl ?_
      clear hops9820
      refine wpList_nil ?_
      refine hK9819 _ _ ?_
      refine wp_ret ?_
      try simp only [Exit.inBlock, Exit.then]
      refine c_ret (.bool true) (r_tmp rfl rfl) ?_
      exact ⟨rfl, HS.belowOf⟩
  · skip
    have hm : ¬ bv m = 0 := fun h => h0 ((bv_zero m).1 h)
    have hok : tlOk g ((tlB g c).set i.toNat ((tlB g c).getD i.toNat 0 ^^^ m)) = false := ok_torn hc i.toNat_lt (xor_ne h0)
    refine c_enter Try.func3 rfl 46 rfl [.int .u64 (uv g), .agg ((nums .u8 (c.map bv))).toArray, .agg [.int .u8 (bv i), .int .u8 (bv m)].toArray, undef, undef, undef, undef, undef, undef, undef, undef, undef, undef, undef, undef, undef, undef, undef, undef, undef, undef, undef, undef, undef, undef, undef, undef, undef, undef, undef, undef, undef, undef, undef, undef, undef, undef, undef, undef, undef, undef, undef, undef, undef, undef, undef] rfl ?_
    refine wp_seq_k (fun K1 hK2 => ?_)
    refine c_region (fun ops4 hops3 => ?_)
    clear hops3
    refine St.wBox HS (cs := ((nums .u8 (c.map bv)))) (.agg ((nums .u8 (c.map bv))).toArray) rfl rfl ?_
    clear HS
    intro g5 w6 hg7 HS
    refine St.wBox HS (cs := [.int .u8 (bv i), .int .u8 (bv m)]) (.agg [.int .u8 (bv i), .int .u8 (bv m)].toArray) rfl rfl ?_
    clear HS
    intro g8 w9 hg10 HS
    refine p_run (l' := _) _ (x_assign (.bool false) rfl rfl) rfl ?_
    refine wpList_nil ?_
    refine fr_at (l' := [.int .u64 (uv g), .agg ((nums .u8 (c.map bv))).toArray, .agg [.int .u8 (bv i), .int .u8 (bv m)].toArray, undef, .pointer (some ⟨g5, 0, none⟩), .pointer (some ⟨g8, 0, none⟩), .bool false, undef, undef, undef, undef, undef, undef, undef, undef, undef, undef, undef, undef, undef, undef, undef, undef, undef, undef, undef, undef, undef, undef, undef, undef, undef, undef, undef, undef, undef, undef, undef, undef, undef, undef, undef, undef, undef, undef, undef]) rfl ?_
    refine hK2 _ _ ?_
    refine wp_seq_k (fun K11 hK12 => ?_)
    refine wp_seq_k (fun K13 hK14 => ?_)
    refine c_region (fun ops16 hops15 => ?_)
    clear hops15
    refine w_call [] Try.func12 (by kernel_rfl) (by rfl) rfl ?_
    refine (talive_any HS).mono ?_
    clear HS
    rintro e w17 ⟨rfl, HS⟩
    refine ⟨_, rfl, ?_⟩
    refine p_run (l' := _) _ (x_not true rfl rfl) rfl ?_
    refine wpList_nil ?_
    refine fr_at (l' := [.int .u64 (uv g), .agg ((nums .u8 (c.map bv))).toArray, .agg [.int .u8 (bv i), .int .u8 (bv m)].toArray, undef, .pointer (some ⟨g5, 0, none⟩), .pointer (some ⟨g8, 0, none⟩), .bool false, undef, undef, undef, .bool true, .bool false, undef, undef, undef, undef, undef, undef, undef, undef, undef, undef, undef, undef, undef, undef, undef, undef, undef, undef, undef, undef, undef, undef, undef, undef, undef, undef, undef, undef, undef, undef, undef, undef, undef, undef]) rfl ?_
    refine hK14 _ _ ?_
    refine c_false rfl ?_
    refine wp_skip ?_
    refine hK12 _ _ ?_
    refine wp_seq_k (fun K18 hK19 => ?_)
    refine c_region (fun ops21 hops20 => ?_)
    clear hops20
    refine p_run (l' := _) _ (x_move (.int .u64 (uv g)) rfl rfl) rfl ?_
    refine p_run (l' := _) _ (x_loads ((nums .u8 (c.map bv))) 240 rfl rfl (bkCells (HS.get (.tail _ (.head _))) 0 _ (whole _)) (by rfl) (by kernel_rfl) (by simp [List.length_map, hc, nums_length])) rfl ?_
    refine w_call [.int .u64 (uv g), .agg ((nums .u8 (c.map bv))).toArray] Try.func13 (by kernel_rfl) (by rfl) rfl ?_
    refine (tpage_any HS g c hc).mono ?_
    clear HS
    rintro e w22 ⟨rfl, HS⟩
    refine ⟨_, rfl, ?_⟩
    refine St.wAlloc HS (cs := ((nums .u8 zpg))) (.agg ((nums .u8 zpg)).toArray) (by kernel_rfl) rfl ?_
    clear HS
    intro g23 w24 hg25 HS
    refine fr_to (l' := [.int .u64 (uv g), .agg ((nums .u8 (c.map bv))).toArray, .agg [.int .u8 (bv i), .int .u8 (bv m)].toArray, undef, .pointer (some ⟨g5, 0, none⟩), .pointer (some ⟨g8, 0, none⟩), .bool false, .pointer (some ⟨g23, 0, none⟩), undef, undef, .bool true, .bool false, .int .u64 (uv g), .agg ((nums .u8 (c.map bv))).toArray, .agg ((nums .u8 ((tlB g c).map bv))).toArray, undef, undef, undef, undef, undef, undef, undef, undef, undef, undef, undef, undef, undef, undef, undef, undef, undef, undef, undef, undef, undef, undef, undef, undef, undef, undef, undef, undef, undef, undef, undef]) rfl ?_
    refine St.stores (cs' := ((nums .u8 ((tlB g c).map bv)))) HS ((nums .u8 ((tlB g c).map bv))) 256 rfl rfl (nums_one _ _) (by kernel_rfl) (by simp [(tlB_length g hc), List.length_map, nums_length]) (by simp [(tlB_length g hc), List.length_map, nums_length, zlen]) (lay_all _ _ (by simp [(tlB_length g hc), List.length_map, nums_length, zlen])) ?_
    clear HS
    intro w26 HS
    refine wpList_nil ?_
    refine hK19 _ _ ?_
    refine wp_seq_k (fun K27 hK28 => ?_)
    refine free_frame (n := 9) (T := _) [0, 1, 3, 7, 0, 16, 63, 127, 255] [(0, 15), (1, 16), (2, 17), (3, 18), (4, 19), (5, 20), (6, 21), (7, 22)] (fun bq_ vq_ w_ => qv ((fun i_ => match i_ with | 0 => some (.pointer (some ⟨g8, 0, none⟩)) | 1 => some (.int .u8 (bv i)) | 2 => some (.pointer (some ⟨g23, (bv i).toNat, none⟩)) | 3 => some (.int .u8 (((tlB g c).map bv).getD ((bv i).toNat) 0)) | 4 => some (.pointer (some ⟨g8, 1, none⟩)) | 5 => some (.int .u8 (bv m)) | 6 => some (.int .u8 (bv ((tlB g c).getD i.toNat 0 ^^^ m))) | 7 => some (.pointer (some ⟨g23, (bv i).toNat, none⟩)) | _ => none) : Nat → Option Value) bq_ vq_ ∧ cond (bq_ 8) (St w (fun _ => False) w_ ([blk g23 ((nums .u8 (((tlB g c).map bv).set ((bv i).toNat) (bv ((tlB g c).getD i.toNat 0 ^^^ m))))) 27, blk g8 [.int .u8 (bv i), .int .u8 (bv m)] 24, blk g5 ((nums .u8 (c.map bv))) 23])) ((St w (fun _ => False) w_ ([blk g23 ((nums .u8 ((tlB g c).map bv))) 27, blk g8 [.int .u8 (bv i), .int .u8 (bv m)] 24, blk g5 ((nums .u8 (c.map bv))) 23])))) (by kernel_rfl) rfl rfl (by kernel_rfl) (by kernel_rfl) rfl (by kernel_rfl) (by kernel_rfl) ⟨qv_none, HS.draw⟩ ?_ ?_
    · clear HS
      intro i_ hi_ bq_ vq_ a_ w_ hG hb_ hon hoff hfr hel hval
      obtain ⟨hV, hE⟩ := hG
      have hi_ := List.mem_range.1 hi_
      have hcs : i_ = 0 ∨ i_ = 1 ∨ i_ = 2 ∨ i_ = 3 ∨ i_ = 4 ∨ i_ = 5 ∨ i_ = 6 ∨ i_ = 7 ∨ i_ = 8 := by omega
      rcases hcs with rfl | rfl | rfl | rfl | rfl | rfl | rfl | rfl | rfl
      · have h5 : a_.tmps[5]? = some (.pointer (some ⟨g8, 0, none⟩)) := (hel 5 (by decide)).trans rfl
        obtain ⟨l_, rfl⟩ := hfr
        have e5 : evl l_ (.tmp 5) = .pointer (some ⟨g8, 0, none⟩) := evl_of h5
        refine ⟨_, rfl, fun K_ hK_ => wp_of_list rfl ?_⟩
        intro ops_
        refine p_run (l' := _) _ (x_indexArr (sz := 1) (j := 0) rfl e5 rfl Try.underlying24 (by kernel_rfl) (by omega) rfl) rfl ?_
        refine wpList_nil ?_
        exact norm_put (hK_ (.pointer (some ⟨g8, 0, none⟩)) _ ⟨qv_up hV (fun _ h => Option.some.inj h), hE⟩)
      · have h15 : a_.tmps[15]? = some (.pointer (some ⟨g8, 0, none⟩)) := (hval (0, 15) (by decide) (hon 0 (by decide))).trans (congrArg some (hV 0 _ rfl (hon 0 (by decide))))
        obtain ⟨l_, rfl⟩ := hfr
        have hE0 := hE
        rw [show bq_ 8 = false from (hoff 8 (by decide))] at hE0
        simp only [cond_true, cond_false] at hE0
        have HS := hE0
        have e15 : evl l_ (.tmp 15) = .pointer (some ⟨g8, 0, none⟩) := evl_of h15
        refine ⟨_, rfl, fun K_ hK_ => wp_of_list rfl ?_⟩
        intro ops_
        refine p_run (l' := _) _ (x_load (.int .u8 (bv i)) rfl e15 (bkCell (HS.get (.tail _ (.head _))) 0 _ rfl) (by rfl)) rfl ?_
        refine wpList_nil ?_
        exact norm_put (hK_ (.int .u8 (bv i)) _ ⟨qv_up hV (fun _ h => Option.some.inj h), hE⟩)
      · have h7 : a_.tmps[7]? = some (.pointer (some ⟨g23, 0, none⟩)) := (hel 7 (by decide)).trans rfl
        have h16 : a_.tmps[16]? = some (.int .u8 (bv i)) := (hval (1, 16) (by decide) (hon 1 (by decide))).trans (congrArg some (hV 1 _ rfl (hon 1 (by decide))))
        obtain ⟨l_, rfl⟩ := hfr
        have e7 : evl l_ (.tmp 7) = .pointer (some ⟨g23, 0, none⟩) := evl_of h7
        have e16 : evl l_ (.tmp 16) = .int .u8 (bv i) := evl_of h16
        refine ⟨_, rfl, fun K_ hK_ => wp_of_list rfl ?_⟩
        intro ops_
        refine p_run (l' := _) _ (x_indexArr (sz := 1) (j := (bv i).toNat) rfl e7 e16 Try.underlying27 (by kernel_rfl) (by have := bv_lo i; have := bv_hi i; omega) (by first | rfl | simp)) rfl ?_
        refine wpList_nil ?_
        exact norm_put (hK_ (.pointer (some ⟨g23, (bv i).toNat, none⟩)) _ ⟨qv_up hV (fun _ h => Option.some.inj h), hE⟩)
      · have h17 : a_.tmps[17]? = some (.pointer (some ⟨g23, (bv i).toNat, none⟩)) := (hval (2, 17) (by decide) (hon 2 (by decide))).trans (congrArg some (hV 2 _ rfl (hon 2 (by decide))))
        obtain ⟨l_, rfl⟩ := hfr
        have hE0 := hE
        rw [show bq_ 8 = false from (hoff 8 (by decide))] at hE0
        simp only [cond_true, cond_false] at hE0
        have HS := hE0
        have e17 : evl l_ (.tmp 17) = .pointer (some ⟨g23, (bv i).toNat, none⟩) := evl_of h17
        refine ⟨_, rfl, fun K_ hK_ => wp_of_list rfl ?_⟩
        intro ops_
        refine p_run (l' := _) _ (x_load (.int .u8 (((tlB g c).map bv).getD ((bv i).toNat) 0)) rfl e17 (bkCell (HS.get (.head _)) ((bv i).toNat) _ (nums_getD (by simp only [List.length_map, (tlB_length g hc)]; omega))) (by rfl)) rfl ?_
        refine wpList_nil ?_
        exact norm_put (hK_ (.int .u8 (((tlB g c).map bv).getD ((bv i).toNat) 0)) _ ⟨qv_up hV (fun _ h => Option.some.inj h), hE⟩)
      · have h5 : a_.tmps[5]? = some (.pointer (some ⟨g8, 0, none⟩)) := (hel 5 (by decide)).trans rfl
        obtain ⟨l_, rfl⟩ := hfr
        have e5 : evl l_ (.tmp 5) = .pointer (some ⟨g8, 0, none⟩) := evl_of h5
        refine ⟨_, rfl, fun K_ hK_ => wp_of_list rfl ?_⟩
        intro ops_
        refine p_run (l' := _) _ (x_indexArr (sz := 1) (j := 1) rfl e5 rfl Try.underlying24 (by kernel_rfl) (by omega) rfl) rfl ?_
        refine wpList_nil ?_
        exact norm_put (hK_ (.pointer (some ⟨g8, 1, none⟩)) _ ⟨qv_up hV (fun _ h => Option.some.inj h), hE⟩)
      · have h19 : a_.tmps[19]? = some (.pointer (some ⟨g8, 1, none⟩)) := (hval (4, 19) (by decide) (hon 4 (by decide))).trans (congrArg some (hV 4 _ rfl (hon 4 (by decide))))
        obtain ⟨l_, rfl⟩ := hfr
        have hE0 := hE
        rw [show bq_ 8 = false from (hoff 8 (by decide))] at hE0
        simp only [cond_true, cond_false] at hE0
        have HS := hE0
        have e19 : evl l_ (.tmp 19) = .pointer (some ⟨g8, 1, none⟩) := evl_of h19
        refine ⟨_, rfl, fun K_ hK_ => wp_of_list rfl ?_⟩
        intro ops_
        refine p_run (l' := _) _ (x_load (.int .u8 (bv m)) rfl e19 (bkCell (HS.get (.tail _ (.head _))) 1 _ rfl) (by rfl)) rfl ?_
        refine wpList_nil ?_
        exact norm_put (hK_ (.int .u8 (bv m)) _ ⟨qv_up hV (fun _ h => Option.some.inj h), hE⟩)
      · have h18 : a_.tmps[18]? = some (.int .u8 (((tlB g c).map bv).getD ((bv i).toNat) 0)) := (hval (3, 18) (by decide) (hon 3 (by decide))).trans (congrArg some (hV 3 _ rfl (hon 3 (by decide))))
        have h20 : a_.tmps[20]? = some (.int .u8 (bv m)) := (hval (5, 20) (by decide) (hon 5 (by decide))).trans (congrArg some (hV 5 _ rfl (hon 5 (by decide))))
        obtain ⟨l_, rfl⟩ := hfr
        have e18 : evl l_ (.tmp 18) = .int .u8 (((tlB g c).map bv).getD ((bv i).toNat) 0) := evl_of h18
        have e20 : evl l_ (.tmp 20) = .int .u8 (bv m) := evl_of h20
        refine ⟨_, rfl, fun K_ hK_ => wp_of_list rfl ?_⟩
        intro ops_
        refine p_run (l' := _) _ (x_xor (k := .u8) (m := (((tlB g c).map bv).getD ((bv i).toNat) 0)) (n := (bv m)) ((bv ((tlB g c).getD i.toNat 0 ^^^ m))) rfl e18 e20 (by rw [bv_nat, bv_getD]; exact xor8 _ _)) rfl ?_
        refine wpList_nil ?_
        exact norm_put (hK_ (.int .u8 (bv ((tlB g c).getD i.toNat 0 ^^^ m))) _ ⟨qv_up hV (fun _ h => Option.some.inj h), hE⟩)
      · have h7 : a_.tmps[7]? = some (.pointer (some ⟨g23, 0, none⟩)) := (hel 7 (by decide)).trans rfl
        have h16 : a_.tmps[16]? = some (.int .u8 (bv i)) := (hval (1, 16) (by decide) (hon 1 (by decide))).trans (congrArg some (hV 1 _ rfl (hon 1 (by decide))))
        obtain ⟨l_, rfl⟩ := hfr
        have e7 : evl l_ (.tmp 7) = .pointer (some ⟨g23, 0, none⟩) := evl_of h7
        have e16 : evl l_ (.tmp 16) = .int .u8 (bv i) := evl_of h16
        refine ⟨_, rfl, fun K_ hK_ => wp_of_list rfl ?_⟩
        intro ops_
        refine p_run (l' := _) _ (x_indexArr (sz := 1) (j := (bv i).toNat) rfl e7 e16 Try.underlying27 (by kernel_rfl) (by have := bv_lo i; have := bv_hi i; omega) (by first | rfl | simp)) rfl ?_
        refine wpList_nil ?_
        exact norm_put (hK_ (.pointer (some ⟨g23, (bv i).toNat, none⟩)) _ ⟨qv_up hV (fun _ h => Option.some.inj h), hE⟩)
      · have h21 : a_.tmps[21]? = some (.int .u8 (bv ((tlB g c).getD i.toNat 0 ^^^ m))) := (hval (6, 21) (by decide) (hon 6 (by decide))).trans (congrArg some (hV 6 _ rfl (hon 6 (by decide))))
        have h22 : a_.tmps[22]? = some (.pointer (some ⟨g23, (bv i).toNat, none⟩)) := (hval (7, 22) (by decide) (hon 7 (by decide))).trans (congrArg some (hV 7 _ rfl (hon 7 (by decide))))
        obtain ⟨l_, rfl⟩ := hfr
        have hE0 := hE
        rw [show bq_ 8 = false from hb_] at hE0
        simp only [cond_true, cond_false] at hE0
        have HS := hE0
        have e21 : evl l_ (.tmp 21) = .int .u8 (bv ((tlB g c).getD i.toNat 0 ^^^ m)) := evl_of h21
        have e22 : evl l_ (.tmp 22) = .pointer (some ⟨g23, (bv i).toNat, none⟩) := evl_of h22
        refine ⟨_, rfl, fun K_ hK_ => wp_of_list rfl ?_⟩
        intro ops_
        refine St.store (cs' := (nums .u8 (((tlB g c).map bv).set ((bv i).toNat) (bv ((tlB g c).getD i.toNat 0 ^^^ m))))) HS (.int .u8 (bv ((tlB g c).getD i.toNat 0 ^^^ m))) e22 e21 rfl (by kernel_rfl) (decide_eq_true (by simp only [nums_length, List.length_map, (tlB_length g hc)]; omega)) (nums_set _ _ _ _) ?_
        clear HS
        intro w9801 HS
        refine wpList_nil ?_
        refine norm_none (hK_ undef _ ⟨qv_up hV (by intro _ h; cases h), ?_⟩)
        show cond true _ _
        rw [cond_true]
        exact (((HS.front 2 rfl).front 2 rfl).front 2 rfl)
    intro bq_ vq_ w_ hall hG
    obtain ⟨hV, hE⟩ := hG
    clear HS
    rw [show bq_ 8 = true from hall 8 (by decide)] at hE
    simp only [cond_true] at hE
    have HS := hE
    have hv0 := hV 0 _ rfl (hall 0 (by decide))
    have hv1 := hV 1 _ rfl (hall 1 (by decide))
    have hv2 := hV 2 _ rfl (hall 2 (by decide))
    have hv3 := hV 3 _ rfl (hall 3 (by decide))
    have hv4 := hV 4 _ rfl (hall 4 (by decide))
    have hv5 := hV 5 _ rfl (hall 5 (by decide))
    have hv6 := hV 6 _ rfl (hall 6 (by decide))
    have hv7 := hV 7 _ rfl (hall 7 (by decide))
    clear hV hall
    rw [putSel_fr]
    simp only [tells, List.map_cons, List.map_nil, setAll, List.set_cons_succ, List.set_cons_zero, hv0, hv1, hv2, hv3, hv4, hv5, hv6, hv7]
    clear hv0 hv1 hv2 hv3 hv4 hv5 hv6 hv7
    generalize w_ = w9802 at HS ⊢
    refine fr_at (l' := [.int .u64 (uv g), .agg ((nums .u8 (c.map bv))).toArray, .agg [.int .u8 (bv i), .int .u8 (bv m)].toArray, undef, .pointer (some ⟨g5, 0, none⟩), .pointer (some ⟨g8, 0, none⟩), .bool false, .pointer (some ⟨g23, 0, none⟩), undef, undef, .bool true, .bool false, .int .u64 (uv g), .agg ((nums .u8 (c.map bv))).toArray, .agg ((nums .u8 ((tlB g c).map bv))).toArray, .pointer (some ⟨g8, 0, none⟩), .int .u8 (bv i), .pointer (some ⟨g23, (bv i).toNat, none⟩), .int .u8 (((tlB g c).map bv).getD ((bv i).toNat) 0), .pointer (some ⟨g8, 1, none⟩), .int .u8 (bv m), .int .u8 (bv ((tlB g c).getD i.toNat 0 ^^^ m)), .pointer (some ⟨g23, (bv i).toNat, none⟩), undef, undef, undef, undef, undef, undef, undef, undef, undef, undef, undef, undef, undef, undef, undef, undef, undef, undef, undef, undef, undef, undef, undef]) rfl ?_
    refine hK28 _ _ ?_
    refine wp_seq_k (fun K9803 hK9804 => ?_)
    rw [torn_set] at HS
    · skip
      refine c_region (fun ops9806 hops9805 => ?_)
      clear hops9805
      refine p_run (l' := _) _ (x_loads ((nums .u8 (((tlB g c).set i.toNat ((tlB g c).getD i.toNat 0 ^^^ m)).map bv))) 256 rfl rfl (bkCells (HS.get (.head _)) 0 _ (whole _)) (by rfl) (by kernel_rfl) (by simp [List.length_map, nums_length, tlB_length g hc])) rfl ?_
      refine p_run (l' := _) _ (x_move (.int .u64 (uv g)) rfl rfl) rfl ?_
      refine w_call [.agg ((nums .u8 (((tlB g c).set i.toNat ((tlB g c).getD i.toNat 0 ^^^ m)).map bv))).toArray, .int .u64 (uv g)] Try.func14 (by kernel_rfl) (by rfl) rfl ?_
      refine (topen_any HS g ((tlB g c).set i.toNat ((tlB g c).getD i.toNat 0 ^^^ m)) (torn_len g hc _ _)).mono ?_
      clear HS
      rintro e w9807 ⟨rfl, HS⟩
      refine ⟨_, rfl, ?_⟩
      refine p_run (l' := [.int .u64 (uv g), .agg ((nums .u8 (c.map bv))).toArray, .agg [.int .u8 (bv i), .int .u8 (bv m)].toArray, undef, .pointer (some ⟨g5, 0, none⟩), .pointer (some ⟨g8, 0, none⟩), .bool false, .pointer (some ⟨g23, 0, none⟩), undef, undef, .bool true, .bool false, .int .u64 (uv g), .agg ((nums .u8 (c.map bv))).toArray, .agg ((nums .u8 ((tlB g c).map bv))).toArray, .pointer (some ⟨g8, 0, none⟩), .int .u8 (bv i), .pointer (some ⟨g23, (bv i).toNat, none⟩), .int .u8 (((tlB g c).map bv).getD ((bv i).toNat) 0), .pointer (some ⟨g8, 1, none⟩), .int .u8 (bv m), .int .u8 (bv ((tlB g c).getD i.toNat 0 ^^^ m)), .pointer (some ⟨g23, (bv i).toNat, none⟩), .tuple [.agg ((nums .u8 ((tlC g ((tlB g c).set i.toNat ((tlB g c).getD i.toNat 0 ^^^ m))).map bv))).toArray, .int .i64 (tlE g ((tlB g c).set i.toNat ((tlB g c).getD i.toNat 0 ^^^ m)))].toArray, .agg ((nums .u8 (((tlB g c).set i.toNat ((tlB g c).getD i.toNat 0 ^^^ m)).map bv))).toArray, .int .u64 (uv g), .tuple [.agg ((nums .u8 ((tlC g ((tlB g c).set i.toNat ((tlB g c).getD i.toNat 0 ^^^ m))).map bv))).toArray, .int .i64 (tlE g ((tlB g c).set i.toNat ((tlB g c).getD i.toNat 0 ^^^ m)))].toArray, undef, undef, undef, undef, undef, undef, undef, undef, undef, undef, undef, undef, undef, undef, undef, undef, undef, undef, undef]) _ (x_move (.tuple [.agg ((nums .u8 ((tlC g ((tlB g c).set i.toNat ((tlB g c).getD i.toNat 0 ^^^ m))).map bv))).toArray, .int .i64 (tlE g ((tlB g c).set i.toNat ((tlB g c).getD i.toNat 0 ^^^ m)))].toArray) rfl rfl) rfl ?_
      refine p_run (l' := _) _ (x_extract (vs := [.agg ((nums .u8 ((tlC g ((tlB g c).set i.toNat ((tlB g c).getD i.toNat 0 ^^^ m))).map bv))).toArray, .int .i64 (tlE g ((tlB g c).set i.toNat ((tlB g c).getD i.toNat 0 ^^^ m)))]) 0 (.agg ((nums .u8 ((tlC g ((tlB g c).set i.toNat ((tlB g c).getD i.toNat 0 ^^^ m))).map bv))).toArray) rfl rfl rfl) rfl ?_
      refine p_run (l' := _) _ (x_extract (vs := [.agg ((nums .u8 ((tlC g ((tlB g c).set i.toNat ((tlB g c).getD i.toNat 0 ^^^ m))).map bv))).toArray, .int .i64 (tlE g ((tlB g c).set i.toNat ((tlB g c).getD i.toNat 0 ^^^ m)))]) 1 (.int .i64 (tlE g ((tlB g c).set i.toNat ((tlB g c).getD i.toNat 0 ^^^ m)))) rfl rfl rfl) rfl ?_
      refine St.wAlloc HS (cs := ((nums .u8 (zB.map bv)))) (.agg ((nums .u8 (zB.map bv))).toArray) (by kernel_rfl) rfl ?_
      clear HS
      intro g9808 w9809 hg9810 HS
      refine St.stores (cs' := ((nums .u8 ((tlC g ((tlB g c).set i.toNat ((tlB g c).getD i.toNat 0 ^^^ m))).map bv)))) HS ((nums .u8 ((tlC g ((tlB g c).set i.toNat ((tlB g c).getD i.toNat 0 ^^^ m))).map bv))) 240 rfl rfl (nums_one _ _) (by kernel_rfl) (by simp [(tlC_len g (torn_len g hc _ _)), List.length_map, nums_length]) (by simp [(tlC_len g (torn_len g hc _ _)), List.length_map, nums_length, zB_len]) (lay_all _ _ (by simp [(tlC_len g (torn_len g hc _ _)), List.length_map, nums_length, zB_len])) ?_
      clear HS
      intro w9811 HS
      refine p_run (l' := [.int .u64 (uv g), .agg ((nums .u8 (c.map bv))).toArray, .agg [.int .u8 (bv i), .int .u8 (bv m)].toArray, undef, .pointer (some ⟨g5, 0, none⟩), .pointer (some ⟨g8, 0, none⟩), .bool false, .pointer (some ⟨g23, 0, none⟩), .pointer (some ⟨g9808, 0, none⟩), .int .i64 (tlE g ((tlB g c).set i.toNat ((tlB g c).getD i.toNat 0 ^^^ m))), .bool true, .bool false, .int .u64 (uv g), .agg ((nums .u8 (c.map bv))).toArray, .agg ((nums .u8 ((tlB g c).map bv))).toArray, .pointer (some ⟨g8, 0, none⟩), .int .u8 (bv i), .pointer (some ⟨g23, (bv i).toNat, none⟩), .int .u8 (((tlB g c).map bv).getD ((bv i).toNat) 0), .pointer (some ⟨g8, 1, none⟩), .int .u8 (bv m), .int .u8 (bv ((tlB g c).getD i.toNat 0 ^^^ m)), .pointer (some ⟨g23, (bv i).toNat, none⟩), .tuple [.agg ((nums .u8 ((tlC g ((tlB g c).set i.toNat ((tlB g c).getD i.toNat 0 ^^^ m))).map bv))).toArray, .int .i64 (tlE g ((tlB g c).set i.toNat ((tlB g c).getD i.toNat 0 ^^^ m)))].toArray, .agg ((nums .u8 (((tlB g c).set i.toNat ((tlB g c).getD i.toNat 0 ^^^ m)).map bv))).toArray, .int .u64 (uv g), .tuple [.agg ((nums .u8 ((tlC g ((tlB g c).set i.toNat ((tlB g c).getD i.toNat 0 ^^^ m))).map bv))).toArray, .int .i64 (tlE g ((tlB g c).set i.toNat ((tlB g c).getD i.toNat 0 ^^^ m)))].toArray, .agg ((nums .u8 ((tlC g ((tlB g c).set i.toNat ((tlB g c).getD i.toNat 0 ^^^ m))).map bv))).toArray, .int .i64 (tlE g ((tlB g c).set i.toNat ((tlB g c).getD i.toNat 0 ^^^ m))), undef, undef, undef, undef, undef, undef, undef, undef, undef, undef, undef, undef, undef, undef, undef, undef, undef]) _ (x_assign (.int .i64 (tlE g ((tlB g c).set i.toNat ((tlB g c).getD i.toNat 0 ^^^ m)))) rfl rfl) rfl ?_
      refine wpList_nil ?_
      refine hK9804 _ _ ?_
      refine wp_seq_k (fun K9812 hK9813 => ?_)
      refine wp_seq_k (fun K9814 hK9815 => ?_)
      refine c_region (fun ops9817 hops9816 => ?_)
      clear hops9816
      refine p_run (l' := _) _ (x_indexArr (sz := 1) (j := 1) rfl rfl rfl Try.underlying24 (by kernel_rfl) (by omega) rfl) rfl ?_
      refine p_run (l' := _) _ (x_load (.int .u8 (bv m)) rfl rfl (bkCell (HS.get (.tail _ (.tail _ (.head _)))) 1 _ rfl) (by rfl)) rfl ?_
      refine p_run (l' := _) _ (x_cmp (k := .u8) (m := (bv m)) (n := 0) .eql false rfl rfl rfl (cmp_not hm) rfl) rfl ?_
      refine wpList_nil ?_
      refine fr_at (l' := [.int .u64 (uv g), .agg ((nums .u8 (c.map bv))).toArray, .agg [.int .u8 (bv i), .int .u8 (bv m)].toArray, undef, .pointer (some ⟨g5, 0, none⟩), .pointer (some ⟨g8, 0, none⟩), .bool false, .pointer (some ⟨g23, 0, none⟩), .pointer (some ⟨g9808, 0, none⟩), .int .i64 (tlE g ((tlB g c).set i.toNat ((tlB g c).getD i.toNat 0 ^^^ m))), .bool true, .bool false, .int .u64 (uv g), .agg ((nums .u8 (c.map bv))).toArray, .agg ((nums .u8 ((tlB g c).map bv))).toArray, .pointer (some ⟨g8, 0, none⟩), .int .u8 (bv i), .pointer (some ⟨g23, (bv i).toNat, none⟩), .int .u8 (((tlB g c).map bv).getD ((bv i).toNat) 0), .pointer (some ⟨g8, 1, none⟩), .int .u8 (bv m), .int .u8 (bv ((tlB g c).getD i.toNat 0 ^^^ m)), .pointer (some ⟨g23, (bv i).toNat, none⟩), .tuple [.agg ((nums .u8 ((tlC g ((tlB g c).set i.toNat ((tlB g c).getD i.toNat 0 ^^^ m))).map bv))).toArray, .int .i64 (tlE g ((tlB g c).set i.toNat ((tlB g c).getD i.toNat 0 ^^^ m)))].toArray, .agg ((nums .u8 (((tlB g c).set i.toNat ((tlB g c).getD i.toNat 0 ^^^ m)).map bv))).toArray, .int .u64 (uv g), .tuple [.agg ((nums .u8 ((tlC g ((tlB g c).set i.toNat ((tlB g c).getD i.toNat 0 ^^^ m))).map bv))).toArray, .int .i64 (tlE g ((tlB g c).set i.toNat ((tlB g c).getD i.toNat 0 ^^^ m)))].toArray, .agg ((nums .u8 ((tlC g ((tlB g c).set i.toNat ((tlB g c).getD i.toNat 0 ^^^ m))).map bv))).toArray, .int .i64 (tlE g ((tlB g c).set i.toNat ((tlB g c).getD i.toNat 0 ^^^ m))), .pointer (some ⟨g8, 1, none⟩), .int .u8 (bv m), .bool false, undef, undef, undef, undef, undef, undef, undef, undef, undef, undef, undef, undef, undef, undef]) rfl ?_
      refine hK9815 _ _ ?_
      refine c_false rfl ?_
      refine wp_skip ?_
      refine hK9813 _ _ ?_
      refine wp_seq_k (fun K9818 hK9819 => ?_)
      refine c_region (fun ops9821 hops9820 => ?_)
      refine p_run (l' := _) _ (x_move (.int .i64 (tlE g ((tlB g c).set i.toNat ((tlB g c).getD i.toNat 0 ^^^ m)))) rfl rfl) rfl ?_
      refine p_run (l' := _) _ (x_cmp (k := .i64) (m := (tlE g ((tlB g c).set i.toNat ((tlB g c).getD i.toNat 0 ^^^ m)))) (n := 61) .eql true rfl rfl rfl (cmp_yes (tE_no hok)) rfl) rfl ?_
      refine p_run (l' := _) _ (x_move (.bool true) rfl rfl) rfl ?_
      refine p_on rfl (by rw [hops9820]; rfl) ?_
      refine p_run (l' := [.int .u64 (uv g), .agg ((nums .u8 (c.map bv))).toArray, .agg [.int .u8 (bv i), .int .u8 (bv m)].toArray, undef, .pointer (some ⟨g5, 0, none⟩), .pointer (some ⟨g8, 0, none⟩), .bool false, .pointer (some ⟨g23, 0, none⟩), .pointer (some ⟨g9808, 0, none⟩), .int .i64 (tlE g ((tlB g c).set i.toNat ((tlB g c).getD i.toNat 0 ^^^ m))), .bool true, .bool false, .int .u64 (uv g), .agg ((nums .u8 (c.map bv))).toArray, .agg ((nums .u8 ((tlB g c).map bv))).toArray, .pointer (some ⟨g8, 0, none⟩), .int .u8 (bv i), .pointer (some ⟨g23, (bv i).toNat, none⟩), .int .u8 (((tlB g c).map bv).getD ((bv i).toNat) 0), .pointer (some ⟨g8, 1, none⟩), .int .u8 (bv m), .int .u8 (bv ((tlB g c).getD i.toNat 0 ^^^ m)), .pointer (some ⟨g23, (bv i).toNat, none⟩), .tuple [.agg ((nums .u8 ((tlC g ((tlB g c).set i.toNat ((tlB g c).getD i.toNat 0 ^^^ m))).map bv))).toArray, .int .i64 (tlE g ((tlB g c).set i.toNat ((tlB g c).getD i.toNat 0 ^^^ m)))].toArray, .agg ((nums .u8 (((tlB g c).set i.toNat ((tlB g c).getD i.toNat 0 ^^^ m)).map bv))).toArray, .int .u64 (uv g), .tuple [.agg ((nums .u8 ((tlC g ((tlB g c).set i.toNat ((tlB g c).getD i.toNat 0 ^^^ m))).map bv))).toArray, .int .i64 (tlE g ((tlB g c).set i.toNat ((tlB g c).getD i.toNat 0 ^^^ m)))].toArray, .agg ((nums .u8 ((tlC g ((tlB g c).set i.toNat ((tlB g c).getD i.toNat 0 ^^^ m))).map bv))).toArray, .int .i64 (tlE g ((tlB g c).set i.toNat ((tlB g c).getD i.toNat 0 ^^^ m))), .pointer (some ⟨g8, 1, none⟩), .int .u8 (bv m), .bool false, undef, undef, undef, undef, undef, undef, undef, .int .i64 (tlE g ((tlB g c).set i.toNat ((tlB g c).getD i.toNat 0 ^^^ m))), .bool true, .bool true, .agg ((nums .u8 ((tlC g ((tlB g c).set i.toNat ((tlB g c).getD i.toNat 0 ^^^ m))).map bv))).toArray, undef, undef, undef]) _ (x_loads ((nums .u8 ((tlC g ((tlB g c).set i.toNat ((tlB g c).getD i.toNat 0 ^^^ m))).map bv))) 240 rfl rfl (bkCells (HS.get (.head _)) 0 _ (whole _)) (by rfl) (by kernel_rfl) (by simp [(tlC_len g (torn_len g hc _ _)), List.length_map, nums_length])) rfl ?_
      refine p_on rfl (by rw [hops9820]; rfl) ?_
      refine p_run (l' := _) _ (x_build ((nums .u8 (zB.map bv))) rfl (by kernel_rfl)) rfl ?_
      refine p_on rfl (by rw [hops9820]; rfl) ?_
      refine p_run (l' := _) _ (x_eq .eql (.agg ((nums .u8 ((tlC g ((tlB g c).set i.toNat ((tlB g c).getD i.toNat 0 ^^^ m))).map bv))).toArray) (.agg ((nums .u8 (zB.map bv))).toArray) (decide (((tlC g ((tlB g c).set i.toNat ((tlB g c).getD i.toNat 0 ^^^ m))).map bv) = (zB.map bv))) true rfl rfl rfl (equal_nums Try.underlying29 Try.underlying5 (by kernel_rfl) (by kernel_rfl) _ _ (by simp [List.length_map, (tlC_len g (torn_len g hc _ _))]) (by simp [List.length_map, zB_len])) (eq_yes (tC_no hok)) rfl (guard_agg (by kernel_rfl)) (guard_agg (by kernel_rfl))) rfl ?_
      refine p_run (l' := _) _ (x_pick true (.bool true) (.bool false) (.bool true) rfl rfl rfl rfl rfl) rfl ?_
      refine p_run (l' := [.int .u64 (uv g), .agg ((nums .u8 (c.map bv))).toArray, .agg [.int .u8 (bv i), .int .u8 (bv m)].toArray, undef, .pointer (some ⟨g5, 0, none⟩), .pointer (some ⟨g8, 0, none⟩), .bool true, .pointer (some ⟨g23, 0, none⟩), .pointer (some ⟨g9808, 0, none⟩), .int .i64 (tlE g ((tlB g c).set i.toNat ((tlB g c).getD i.toNat 0 ^^^ m))), .bool true, .bool false, .int .u64 (uv g), .agg ((nums .u8 (c.map bv))).toArray, .agg ((nums .u8 ((tlB g c).map bv))).toArray, .pointer (some ⟨g8, 0, none⟩), .int .u8 (bv i), .pointer (some ⟨g23, (bv i).toNat, none⟩), .int .u8 (((tlB g c).map bv).getD ((bv i).toNat) 0), .pointer (some ⟨g8, 1, none⟩), .int .u8 (bv m), .int .u8 (bv ((tlB g c).getD i.toNat 0 ^^^ m)), .pointer (some ⟨g23, (bv i).toNat, none⟩), .tuple [.agg ((nums .u8 ((tlC g ((tlB g c).set i.toNat ((tlB g c).getD i.toNat 0 ^^^ m))).map bv))).toArray, .int .i64 (tlE g ((tlB g c).set i.toNat ((tlB g c).getD i.toNat 0 ^^^ m)))].toArray, .agg ((nums .u8 (((tlB g c).set i.toNat ((tlB g c).getD i.toNat 0 ^^^ m)).map bv))).toArray, .int .u64 (uv g), .tuple [.agg ((nums .u8 ((tlC g ((tlB g c).set i.toNat ((tlB g c).getD i.toNat 0 ^^^ m))).map bv))).toArray, .int .i64 (tlE g ((tlB g c).set i.toNat ((tlB g c).getD i.toNat 0 ^^^ m)))].toArray, .agg ((nums .u8 ((tlC g ((tlB g c).set i.toNat ((tlB g c).getD i.toNat 0 ^^^ m))).map bv))).toArray, .int .i64 (tlE g ((tlB g c).set i.toNat ((tlB g c).getD i.toNat 0 ^^^ m))), .pointer (some ⟨g8, 1, none⟩), .int .u8 (bv m), .bool false, undef, undef, undef, undef, undef, undef, undef, .int .i64 (tlE g ((tlB g c).set i.toNat ((tlB g c).getD i.toNat 0 ^^^ m))), .bool true, .bool true, .agg ((nums .u8 ((tlC g ((tlB g c).set i.toNat ((tlB g c).getD i.toNat 0 ^^^ m))).map bv))).toArray, .agg ((nums .u8 (zB.map bv))).toArray, .bool true, .bool true]) _ (x_assign (.bool true) rfl rfl) rfl ?_
      clear hops9820
      refine wpList_nil ?_
      refine hK9819 _ _ ?_
      refine wp_ret ?_
      try simp only [Exit.inBlock, Exit.then]
      refine c_ret (.bool true) (r_tmp rfl rfl) ?_
      exact ⟨rfl, HS.belowOf⟩

theorem tallyTorn_any (g : UInt64) (c t : List UInt8) (w : World) (hc : c.length = 240) (ht : t.length = 2) : Calls Try.prog 3 #[.int .u64 (uv g), .agg (nums .u8 (c.map bv)).toArray, .agg (nums .u8 (t.map bv)).toArray] w fun e w' => e = .returned (.bool true) ∧ Below w.heap.size w w' := by
  match t, ht with
  | [i, m], _ => exact torn_law w g c hc i m
end Go.Proofs.Ytiokdpnhaemciaa
