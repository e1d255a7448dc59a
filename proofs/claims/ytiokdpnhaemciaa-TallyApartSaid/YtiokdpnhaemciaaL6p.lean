/- TallyApart. -/
import Derived.Test.YtiokdpnhaemciaaL6a
set_option linter.unusedVariables false
set_option linter.unusedSimpArgs false
namespace Go.Proofs.Ytiokdpnhaemciaa
open Go.RowKit Go.Proofs.YtiokdpnhaemciaaW.PrintWords Go.Proofs.YtiokdpnhaemciaaW.PrintLast Crc
theorem uv_eq (g g' : UInt64) : cmpB .eql (uv g) (uv g') = decide (g = g') := by
  by_cases h : g = g'
  · subst h; rw [cmp_yes rfl, decide_eq_true rfl]
  · rw [cmp_not (fun e => h (uv_inj e)), decide_eq_false h]
theorem apart_eq {g g' : UInt64} {a b : List UInt8} (ha : a.length = 240) (hb : b.length = 240) : decide ((tlB g a).map bv = (tlB g' b).map bv) = decide (g = g' ∧ a = b) := by
  rw [eq_map, decide_eq_decide]
  exact tlB_inj ha hb
theorem us_eq {a : List UInt8} (ha : a.length = 240) : cmpB .eql (usN a : Int) 0 = decide (a = zB) := by
  have := us_zero ha
  by_cases h : a = zB
  · rw [cmp_yes (by have := this.2 h; omega), decide_eq_true h]
  · rw [cmp_not (fun e => h (this.1 (by omega))), decide_eq_false h]

set_option maxRecDepth 10000 in
set_option maxHeartbeats 4000000 in
theorem apart_law (w : World) (g g' : UInt64) (a b : List UInt8) (ha : a.length = 240) (hb : b.length = 240) : Calls Try.prog 4 #[.agg [.int .u64 (uv g), .int .u64 (uv g')].toArray, .agg ((nums .u8 (a.map bv))).toArray, .agg ((nums .u8 (b.map bv))).toArray] w fun e w' => e = .returned (.bool true) ∧ Below w.heap.size w w' := by
  have HS := St.empty w
  have hul := us_le a
  by_cases hg : g = g'
  · skip
    by_cases hab : a = b
    · skip
      have hbo : g = g' ∧ a = b := ⟨hg, hab⟩
      refine c_enter Try.func4 rfl 50 rfl [.agg [.int .u64 (uv g), .int .u64 (uv g')].toArray, .agg ((nums .u8 (a.map bv))).toArray, .agg ((nums .u8 (b.map bv))).toArray, undef, undef, undef, undef, undef, undef, undef, undef, undef, undef, undef, undef, undef, undef, undef, undef, undef, undef, undef, undef, undef, undef, undef, undef, undef, undef, undef, undef, undef, undef, undef, undef, undef, undef, undef, undef, undef, undef, undef, undef, undef, undef, undef, undef, undef, undef, undef] rfl ?_
      refine wp_seq_k (fun K1 hK2 => ?_)
      refine c_region (fun ops4 hops3 => ?_)
      clear hops3
      refine St.wBox HS (cs := [.int .u64 (uv g), .int .u64 (uv g')]) (.agg [.int .u64 (uv g), .int .u64 (uv g')].toArray) rfl rfl ?_
      clear HS
      intro g5 w6 hg7 HS
      refine St.wBox HS (cs := ((nums .u8 (a.map bv)))) (.agg ((nums .u8 (a.map bv))).toArray) rfl rfl ?_
      clear HS
      intro g8 w9 hg10 HS
      refine St.wBox HS (cs := ((nums .u8 (b.map bv)))) (.agg ((nums .u8 (b.map bv))).toArray) rfl rfl ?_
      clear HS
      intro g11 w12 hg13 HS
      refine p_run (l' := [.agg [.int .u64 (uv g), .int .u64 (uv g')].toArray, .agg ((nums .u8 (a.map bv))).toArray, .agg ((nums .u8 (b.map bv))).toArray, .pointer (some ⟨g5, 0, none⟩), .pointer (some ⟨g8, 0, none⟩), .pointer (some ⟨g11, 0, none⟩), .bool false, undef, undef, undef, undef, undef, undef, undef, undef, undef, undef, undef, undef, undef, undef, undef, undef, undef, undef, undef, undef, undef, undef, undef, undef, undef, undef, undef, undef, undef, undef, undef, undef, undef, undef, undef, undef, undef, undef, undef, undef, undef, undef, undef]) _ (x_assign (.bool false) rfl rfl) rfl ?_
      refine wpList_nil ?_
      refine hK2 _ _ ?_
      refine wp_seq_k (fun K14 hK15 => ?_)
      refine wp_seq_k (fun K16 hK17 => ?_)
      refine c_region (fun ops19 hops18 => ?_)
      clear hops18
      refine w_call [] Try.func12 (by kernel_rfl) (by rfl) rfl ?_
      refine (talive_any HS).mono ?_
      clear HS
      rintro e w20 ⟨rfl, HS⟩
      refine ⟨_, rfl, ?_⟩
      refine p_run (l' := _) _ (x_not true rfl rfl) rfl ?_
      refine wpList_nil ?_
      refine fr_at (l' := [.agg [.int .u64 (uv g), .int .u64 (uv g')].toArray, .agg ((nums .u8 (a.map bv))).toArray, .agg ((nums .u8 (b.map bv))).toArray, .pointer (some ⟨g5, 0, none⟩), .pointer (some ⟨g8, 0, none⟩), .pointer (some ⟨g11, 0, none⟩), .bool false, undef, undef, .bool true, .bool false, undef, undef, undef, undef, undef, undef, undef, undef, undef, undef, undef, undef, undef, undef, undef, undef, undef, undef, undef, undef, undef, undef, undef, undef, undef, undef, undef, undef, undef, undef, undef, undef, undef, undef, undef, undef, undef, undef, undef]) rfl ?_
      refine hK17 _ _ ?_
      refine c_false rfl ?_
      refine wp_skip ?_
      refine hK15 _ _ ?_
      refine wp_seq_k (fun K21 hK22 => ?_)
      refine c_region (fun ops24 hops23 => ?_)
      refine p_run (l' := _) _ (x_indexArr (sz := 1) (j := 0) rfl rfl rfl Try.underlying34 (by kernel_rfl) (by omega) rfl) rfl ?_
      refine p_run (l' := _) _ (x_load (.int .u64 (uv g)) rfl rfl (bkCell (HS.get (.tail _ (.tail _ (.head _)))) 0 _ rfl) (by rfl)) rfl ?_
      refine p_run (l' := _) _ (x_indexArr (sz := 1) (j := 1) rfl rfl rfl Try.underlying34 (by kernel_rfl) (by omega) rfl) rfl ?_
      refine p_run (l' := [.agg [.int .u64 (uv g), .int .u64 (uv g')].toArray, .agg ((nums .u8 (a.map bv))).toArray, .agg ((nums .u8 (b.map bv))).toArray, .pointer (some ⟨g5, 0, none⟩), .pointer (some ⟨g8, 0, none⟩), .pointer (some ⟨g11, 0, none⟩), .bool false, undef, undef, .bool true, .bool false, .pointer (some ⟨g5, 0, none⟩), .int .u64 (uv g), .pointer (some ⟨g5, 1, none⟩), .int .u64 (uv g'), undef, undef, undef, undef, undef, undef, undef, undef, undef, undef, undef, undef, undef, undef, undef, undef, undef, undef, undef, undef, undef, undef, undef, undef, undef, undef, undef, undef, undef, undef, undef, undef, undef, undef, undef]) _ (x_load (.int .u64 (uv g')) rfl rfl (bkCell (HS.get (.tail _ (.tail _ (.head _)))) 1 _ rfl) (by rfl)) rfl ?_
      refine p_run (l' := _) _ (x_cmp (k := .u64) (m := (uv g)) (n := (uv g')) .eql true rfl rfl rfl ((uv_eq g g').trans (decide_eq_true hg)) rfl) rfl ?_
      refine p_run (l' := _) _ (x_move (.bool true) rfl rfl) rfl ?_
      refine p_on rfl (by rw [hops23]; rfl) ?_
      refine p_run (l' := _) _ (x_loads ((nums .u8 (a.map bv))) 240 rfl rfl (bkCells (HS.get (.tail _ (.head _))) 0 _ (whole _)) (by rfl) (by kernel_rfl) (by simp [List.length_map, ha, nums_length])) rfl ?_
      refine p_on rfl (by rw [hops23]; rfl) ?_
      refine p_run (l' := [.agg [.int .u64 (uv g), .int .u64 (uv g')].toArray, .agg ((nums .u8 (a.map bv))).toArray, .agg ((nums .u8 (b.map bv))).toArray, .pointer (some ⟨g5, 0, none⟩), .pointer (some ⟨g8, 0, none⟩), .pointer (some ⟨g11, 0, none⟩), .bool false, undef, undef, .bool true, .bool false, .pointer (some ⟨g5, 0, none⟩), .int .u64 (uv g), .pointer (some ⟨g5, 1, none⟩), .int .u64 (uv g'), .bool true, .bool true, .agg ((nums .u8 (a.map bv))).toArray, .agg ((nums .u8 (b.map bv))).toArray, undef, undef, undef, undef, undef, undef, undef, undef, undef, undef, undef, undef, undef, undef, undef, undef, undef, undef, undef, undef, undef, undef, undef, undef, undef, undef, undef, undef, undef, undef, undef]) _ (x_loads ((nums .u8 (b.map bv))) 240 rfl rfl (bkCells (HS.get (.head _)) 0 _ (whole _)) (by rfl) (by kernel_rfl) (by simp [List.length_map, hb, nums_length])) rfl ?_
      refine p_on rfl (by rw [hops23]; rfl) ?_
      refine p_run (l' := _) _ (x_eq .eql (.agg ((nums .u8 (a.map bv))).toArray) (.agg ((nums .u8 (b.map bv))).toArray) (decide ((a.map bv) = (b.map bv))) true rfl rfl rfl (equal_nums Try.underlying23 Try.underlying5 (by kernel_rfl) (by kernel_rfl) _ _ (by simp [List.length_map, ha]) (by simp [List.length_map, hb])) ((eq_map a b).trans (decide_eq_true hab)) rfl (guard_agg (by kernel_rfl)) (guard_agg (by kernel_rfl))) rfl ?_
      refine p_run (l' := _) _ (x_pick true (.bool true) (.bool false) (.bool true) rfl rfl rfl rfl rfl) rfl ?_
      refine p_run (l' := _) _ (x_assign (.bool true) rfl rfl) rfl ?_
      clear hops23
      refine wpList_nil ?_
      refine fr_at (l' := [.agg [.int .u64 (uv g), .int .u64 (uv g')].toArray, .agg ((nums .u8 (a.map bv))).toArray, .agg ((nums .u8 (b.map bv))).toArray, .pointer (some ⟨g5, 0, none⟩), .pointer (some ⟨g8, 0, none⟩), .pointer (some ⟨g11, 0, none⟩), .bool false, .bool true, undef, .bool true, .bool false, .pointer (some ⟨g5, 0, none⟩), .int .u64 (uv g), .pointer (some ⟨g5, 1, none⟩), .int .u64 (uv g'), .bool true, .bool true, .agg ((nums .u8 (a.map bv))).toArray, .agg ((nums .u8 (b.map bv))).toArray, .bool true, .bool true, undef, undef, undef, undef, undef, undef, undef, undef, undef, undef, undef, undef, undef, undef, undef, undef, undef, undef, undef, undef, undef, undef, undef, undef, undef, undef, undef, undef, undef]) rfl ?_
      refine hK22 _ _ ?_
      refine wp_seq_k (fun K25 hK26 => ?_)
      refine c_region (fun ops28 hops27 => ?_)
      clear hops27
      refine p_run (l' := _) _ (x_loads ((nums .u8 (a.map bv))) 240 rfl rfl (bkCells (HS.get (.tail _ (.head _))) 0 _ (whole _)) (by rfl) (by kernel_rfl) (by simp [List.length_map, ha, nums_length])) rfl ?_
      refine w_call [.agg ((nums .u8 (a.map bv))).toArray] Try.func15 (by kernel_rfl) (by rfl) rfl ?_
      refine (tused_any HS a ha).mono ?_
      clear HS
      rintro e w29 ⟨rfl, HS⟩
      refine ⟨_, rfl, ?_⟩
      refine p_run (l' := _) _ (x_assign (.int .i64 (usN a : Int)) rfl rfl) rfl ?_
      refine wpList_nil ?_
      refine fr_at (l' := [.agg [.int .u64 (uv g), .int .u64 (uv g')].toArray, .agg ((nums .u8 (a.map bv))).toArray, .agg ((nums .u8 (b.map bv))).toArray, .pointer (some ⟨g5, 0, none⟩), .pointer (some ⟨g8, 0, none⟩), .pointer (some ⟨g11, 0, none⟩), .bool false, .bool true, .int .i64 (usN a : Int), .bool true, .bool false, .pointer (some ⟨g5, 0, none⟩), .int .u64 (uv g), .pointer (some ⟨g5, 1, none⟩), .int .u64 (uv g'), .bool true, .bool true, .agg ((nums .u8 (a.map bv))).toArray, .agg ((nums .u8 (b.map bv))).toArray, .bool true, .bool true, .agg ((nums .u8 (a.map bv))).toArray, .int .i64 (usN a : Int), undef, undef, undef, undef, undef, undef, undef, undef, undef, undef, undef, undef, undef, undef, undef, undef, undef, undef, undef, undef, undef, undef, undef, undef, undef, undef, undef]) rfl ?_
      refine hK26 _ _ ?_
      refine wp_seq_k (fun K30 hK31 => ?_)
      refine free_frame (n := 28) (T := _) [0, 1, 0, 7, 0, 16, 0, 127, 255, 0, 1023, 2047, 4095, 8191, 16383, 32767, 65535, 131071, 262143, 524287, 1048575, 2097151, 1048575, 1048575, 13631487, 33554431, 67108863, 134217727] [(0, 23), (1, 24), (2, 25), (3, 26), (4, 27), (5, 28), (6, 29), (7, 30), (8, 31), (9, 32), (10, 33), (11, 34), (12, 35), (13, 36), (14, 37), (15, 38), (16, 39), (17, 40), (18, 41), (19, 42), (20, 43), (21, 44), (22, 45), (23, 46), (24, 47), (25, 48), (26, 49), (27, 6)] (fun bq_ vq_ w_ => qv ((fun i_ => match i_ with | 0 => some (.pointer (some ⟨g5, 0, none⟩)) | 1 => some (.int .u64 (uv g)) | 2 => some (.agg ((nums .u8 (a.map bv))).toArray) | 4 => some (.pointer (some ⟨g5, 1, none⟩)) | 5 => some (.int .u64 (uv g')) | 6 => some (.agg ((nums .u8 (b.map bv))).toArray) | 8 => some (.bool true) | 9 => some (.bool true) | 10 => some (.bool true) | 11 => some (.bool true) | 12 => some (.int .i64 (usN a : Int)) | 13 => some (.bool true) | 14 => some (.bool true) | 15 => some (.bool true) | 16 => some (.int .i64 (usN a : Int)) | 17 => some (.bool true) | 18 => some (.bool true) | 19 => some (.bool true) | 20 => some (.int .i64 (usN a : Int)) | 21 => some (.bool (decide (a = zB))) | 22 => some (.agg ((nums .u8 (a.map bv))).toArray) | 23 => some (.agg ((nums .u8 (zB.map bv))).toArray) | 24 => some (.bool (decide (a = zB))) | 25 => some (.bool true) | 26 => some (.bool true) | 27 => some (.bool true) | _ => none) : Nat → Option Value) bq_ vq_ ∧ cond (bq_ 7) (vq_ 3 = .agg ((nums .u8 ((tlB g a).map bv))).toArray ∧ vq_ 7 = .agg ((nums .u8 ((tlB g' b).map bv))).toArray ∧ St w (fun _ => False) w_ ([blk g11 ((nums .u8 (b.map bv))) 23, blk g8 ((nums .u8 (a.map bv))) 23, blk g5 [.int .u64 (uv g), .int .u64 (uv g')] 34])) (cond (bq_ 3) (vq_ 3 = .agg ((nums .u8 ((tlB g a).map bv))).toArray ∧ St w (fun _ => False) w_ ([blk g11 ((nums .u8 (b.map bv))) 23, blk g8 ((nums .u8 (a.map bv))) 23, blk g5 [.int .u64 (uv g), .int .u64 (uv g')] 34])) ((St w (fun _ => False) w_ ([blk g11 ((nums .u8 (b.map bv))) 23, blk g8 ((nums .u8 (a.map bv))) 23, blk g5 [.int .u64 (uv g), .int .u64 (uv g')] 34]))))) (by kernel_rfl) rfl rfl (by kernel_rfl) (by kernel_rfl) rfl (by kernel_rfl) (by kernel_rfl) ⟨qv_none, HS.draw⟩ ?_ ?_
      · clear HS
        intro i_ hi_ bq_ vq_ a_ w_ hG hb_ hon hoff hfr hel hval
        obtain ⟨hV, hE⟩ := hG
        have hi_ := List.mem_range.1 hi_
        have hcs : i_ = 0 ∨ i_ = 1 ∨ i_ = 2 ∨ i_ = 3 ∨ i_ = 4 ∨ i_ = 5 ∨ i_ = 6 ∨ i_ = 7 ∨ i_ = 8 ∨ i_ = 9 ∨ i_ = 10 ∨ i_ = 11 ∨ i_ = 12 ∨ i_ = 13 ∨ i_ = 14 ∨ i_ = 15 ∨ i_ = 16 ∨ i_ = 17 ∨ i_ = 18 ∨ i_ = 19 ∨ i_ = 20 ∨ i_ = 21 ∨ i_ = 22 ∨ i_ = 23 ∨ i_ = 24 ∨ i_ = 25 ∨ i_ = 26 ∨ i_ = 27 := by omega
        rcases hcs with rfl | rfl | rfl | rfl | rfl | rfl | rfl | rfl | rfl | rfl | rfl | rfl | rfl | rfl | rfl | rfl | rfl | rfl | rfl | rfl | rfl | rfl | rfl | rfl | rfl | rfl | rfl | rfl
        · have h3 : a_.tmps[3]? = some (.pointer (some ⟨g5, 0, none⟩)) := (hel 3 (by decide)).trans rfl
          obtain ⟨l_, rfl⟩ := hfr
          have e3 : evl l_ (.tmp 3) = .pointer (some ⟨g5, 0, none⟩) := evl_of h3
          refine ⟨_, rfl, fun K_ hK_ => wp_of_list rfl ?_⟩
          intro ops_
          refine p_run (l' := _) _ (x_indexArr (sz := 1) (j := 0) rfl e3 rfl Try.underlying34 (by kernel_rfl) (by omega) rfl) rfl ?_
          refine wpList_nil ?_
          exact norm_put (hK_ (.pointer (some ⟨g5, 0, none⟩)) _ ⟨qv_up hV (fun _ h => Option.some.inj h), hE⟩)
        · have h23 : a_.tmps[23]? = some (.pointer (some ⟨g5, 0, none⟩)) := (hval (0, 23) (by decide) (hon 0 (by decide))).trans (congrArg some (hV 0 _ rfl (hon 0 (by decide))))
          obtain ⟨l_, rfl⟩ := hfr
          have hE0 := hE
          rw [show bq_ 7 = false from (hoff 7 (by decide))] at hE0
          rw [show bq_ 3 = false from (hoff 3 (by decide))] at hE0
          simp only [cond_true, cond_false] at hE0
          have HS := hE0
          have e23 : evl l_ (.tmp 23) = .pointer (some ⟨g5, 0, none⟩) := evl_of h23
          refine ⟨_, rfl, fun K_ hK_ => wp_of_list rfl ?_⟩
          intro ops_
          refine p_run (l' := _) _ (x_load (.int .u64 (uv g)) rfl e23 (bkCell (HS.get (.tail _ (.tail _ (.head _)))) 0 _ rfl) (by rfl)) rfl ?_
          refine wpList_nil ?_
          exact norm_put (hK_ (.int .u64 (uv g)) _ ⟨qv_up hV (fun _ h => Option.some.inj h), hE⟩)
        · have h4 : a_.tmps[4]? = some (.pointer (some ⟨g8, 0, none⟩)) := (hel 4 (by decide)).trans rfl
          obtain ⟨l_, rfl⟩ := hfr
          have hE0 := hE
          rw [show bq_ 7 = false from (hoff 7 (by decide))] at hE0
          rw [show bq_ 3 = false from (hoff 3 (by decide))] at hE0
          simp only [cond_true, cond_false] at hE0
          have HS := hE0
          have e4 : evl l_ (.tmp 4) = .pointer (some ⟨g8, 0, none⟩) := evl_of h4
          refine ⟨_, rfl, fun K_ hK_ => wp_of_list rfl ?_⟩
          intro ops_
          refine p_run (l' := _) _ (x_loads ((nums .u8 (a.map bv))) 240 rfl e4 (bkCells (HS.get (.tail _ (.head _))) 0 _ (whole _)) (by rfl) (by kernel_rfl) (by simp [List.length_map, ha, nums_length])) rfl ?_
          refine wpList_nil ?_
          exact norm_put (hK_ (.agg ((nums .u8 (a.map bv))).toArray) _ ⟨qv_up hV (fun _ h => Option.some.inj h), hE⟩)
        · have h24 : a_.tmps[24]? = some (.int .u64 (uv g)) := (hval (1, 24) (by decide) (hon 1 (by decide))).trans (congrArg some (hV 1 _ rfl (hon 1 (by decide))))
          have h25 : a_.tmps[25]? = some (.agg ((nums .u8 (a.map bv))).toArray) := (hval (2, 25) (by decide) (hon 2 (by decide))).trans (congrArg some (hV 2 _ rfl (hon 2 (by decide))))
          obtain ⟨l_, rfl⟩ := hfr
          have hE0 := hE
          rw [show bq_ 7 = false from (hoff 7 (by decide))] at hE0
          rw [show bq_ 3 = false from hb_] at hE0
          simp only [cond_true, cond_false] at hE0
          have HS := hE0
          have e24 : evl l_ (.tmp 24) = .int .u64 (uv g) := evl_of h24
          have e25 : evl l_ (.tmp 25) = .agg ((nums .u8 (a.map bv))).toArray := evl_of h25
          refine ⟨_, rfl, fun K_ hK_ => wp_of_list rfl ?_⟩
          intro ops_
          refine w_call [.int .u64 (uv g), .agg ((nums .u8 (a.map bv))).toArray] Try.func13 (by kernel_rfl) (by rfl) (by simp [e24, e25]) ?_
          refine (tpage_any HS g a ha).mono ?_
          clear HS
          rintro e w9301 ⟨rfl, HS⟩
          refine ⟨_, rfl, ?_⟩
          refine wpList_nil ?_
          refine norm_put (hK_ (.agg ((nums .u8 ((tlB g a).map bv))).toArray) _ ⟨qv_up hV (by intro _ h; cases h), ?_⟩)
          show cond (bq_ 7) _ _
          rw [show bq_ 7 = false from hoff 7 (by decide), cond_false]
          show cond true _ _
          rw [cond_true]
          exact ⟨rfl, (((HS.front 2 rfl).front 2 rfl).front 2 rfl)⟩
        · have h3 : a_.tmps[3]? = some (.pointer (some ⟨g5, 0, none⟩)) := (hel 3 (by decide)).trans rfl
          obtain ⟨l_, rfl⟩ := hfr
          have e3 : evl l_ (.tmp 3) = .pointer (some ⟨g5, 0, none⟩) := evl_of h3
          refine ⟨_, rfl, fun K_ hK_ => wp_of_list rfl ?_⟩
          intro ops_
          refine p_run (l' := _) _ (x_indexArr (sz := 1) (j := 1) rfl e3 rfl Try.underlying34 (by kernel_rfl) (by omega) rfl) rfl ?_
          refine wpList_nil ?_
          exact norm_put (hK_ (.pointer (some ⟨g5, 1, none⟩)) _ ⟨qv_up hV (fun _ h => Option.some.inj h), hE⟩)
        · have h27 : a_.tmps[27]? = some (.pointer (some ⟨g5, 1, none⟩)) := (hval (4, 27) (by decide) (hon 4 (by decide))).trans (congrArg some (hV 4 _ rfl (hon 4 (by decide))))
          obtain ⟨l_, rfl⟩ := hfr
          rcases hq3 : bq_ 3 with _ | _
          · have hE0 := hE
            rw [show bq_ 7 = false from (hoff 7 (by decide))] at hE0
            rw [show bq_ 3 = false from hq3] at hE0
            simp only [cond_true, cond_false] at hE0
            have HS := hE0
            have e27 : evl l_ (.tmp 27) = .pointer (some ⟨g5, 1, none⟩) := evl_of h27
            refine ⟨_, rfl, fun K_ hK_ => wp_of_list rfl ?_⟩
            intro ops_
            refine p_run (l' := _) _ (x_load (.int .u64 (uv g')) rfl e27 (bkCell (HS.get (.tail _ (.tail _ (.head _)))) 1 _ rfl) (by rfl)) rfl ?_
            refine wpList_nil ?_
            exact norm_put (hK_ (.int .u64 (uv g')) _ ⟨qv_up hV (fun _ h => Option.some.inj h), hE⟩)
          · skip
            have hE0 := hE
            rw [show bq_ 7 = false from (hoff 7 (by decide))] at hE0
            rw [show bq_ 3 = true from hq3] at hE0
            simp only [cond_true, cond_false] at hE0
            obtain ⟨hv3, HS⟩ := hE0
            have e27 : evl l_ (.tmp 27) = .pointer (some ⟨g5, 1, none⟩) := evl_of h27
            refine ⟨_, rfl, fun K_ hK_ => wp_of_list rfl ?_⟩
            intro ops_
            refine p_run (l' := _) _ (x_load (.int .u64 (uv g')) rfl e27 (bkCell (HS.get (.tail _ (.tail _ (.head _)))) 1 _ rfl) (by rfl)) rfl ?_
            refine wpList_nil ?_
            exact norm_put (hK_ (.int .u64 (uv g')) _ ⟨qv_up hV (fun _ h => Option.some.inj h), hE⟩)
        · have h5 : a_.tmps[5]? = some (.pointer (some ⟨g11, 0, none⟩)) := (hel 5 (by decide)).trans rfl
          obtain ⟨l_, rfl⟩ := hfr
          rcases hq3 : bq_ 3 with _ | _
          · have hE0 := hE
            rw [show bq_ 7 = false from (hoff 7 (by decide))] at hE0
            rw [show bq_ 3 = false from hq3] at hE0
            simp only [cond_true, cond_false] at hE0
            have HS := hE0
            have e5 : evl l_ (.tmp 5) = .pointer (some ⟨g11, 0, none⟩) := evl_of h5
            refine ⟨_, rfl, fun K_ hK_ => wp_of_list rfl ?_⟩
            intro ops_
            refine p_run (l' := _) _ (x_loads ((nums .u8 (b.map bv))) 240 rfl e5 (bkCells (HS.get (.head _)) 0 _ (whole _)) (by rfl) (by kernel_rfl) (by simp [List.length_map, hb, nums_length])) rfl ?_
            refine wpList_nil ?_
            exact norm_put (hK_ (.agg ((nums .u8 (b.map bv))).toArray) _ ⟨qv_up hV (fun _ h => Option.some.inj h), hE⟩)
          · skip
            have hE0 := hE
            rw [show bq_ 7 = false from (hoff 7 (by decide))] at hE0
            rw [show bq_ 3 = true from hq3] at hE0
            simp only [cond_true, cond_false] at hE0
            obtain ⟨hv3, HS⟩ := hE0
            have e5 : evl l_ (.tmp 5) = .pointer (some ⟨g11, 0, none⟩) := evl_of h5
            refine ⟨_, rfl, fun K_ hK_ => wp_of_list rfl ?_⟩
            intro ops_
            refine p_run (l' := _) _ (x_loads ((nums .u8 (b.map bv))) 240 rfl e5 (bkCells (HS.get (.head _)) 0 _ (whole _)) (by rfl) (by kernel_rfl) (by simp [List.length_map, hb, nums_length])) rfl ?_
            refine wpList_nil ?_
            exact norm_put (hK_ (.agg ((nums .u8 (b.map bv))).toArray) _ ⟨qv_up hV (fun _ h => Option.some.inj h), hE⟩)
        · have h28 : a_.tmps[28]? = some (.int .u64 (uv g')) := (hval (5, 28) (by decide) (hon 5 (by decide))).trans (congrArg some (hV 5 _ rfl (hon 5 (by decide))))
          have h29 : a_.tmps[29]? = some (.agg ((nums .u8 (b.map bv))).toArray) := (hval (6, 29) (by decide) (hon 6 (by decide))).trans (congrArg some (hV 6 _ rfl (hon 6 (by decide))))
          obtain ⟨l_, rfl⟩ := hfr
          have hE0 := hE
          rw [show bq_ 7 = false from hb_] at hE0
          rw [show bq_ 3 = true from (hon 3 (by decide))] at hE0
          simp only [cond_true, cond_false] at hE0
          obtain ⟨hv3, HS⟩ := hE0
          have e28 : evl l_ (.tmp 28) = .int .u64 (uv g') := evl_of h28
          have e29 : evl l_ (.tmp 29) = .agg ((nums .u8 (b.map bv))).toArray := evl_of h29
          refine ⟨_, rfl, fun K_ hK_ => wp_of_list rfl ?_⟩
          intro ops_
          refine w_call [.int .u64 (uv g'), .agg ((nums .u8 (b.map bv))).toArray] Try.func13 (by kernel_rfl) (by rfl) (by simp [e28, e29]) ?_
          refine (tpage_any HS g' b hb).mono ?_
          clear HS
          rintro e w9701 ⟨rfl, HS⟩
          refine ⟨_, rfl, ?_⟩
          refine wpList_nil ?_
          refine norm_put (hK_ (.agg ((nums .u8 ((tlB g' b).map bv))).toArray) _ ⟨qv_up hV (by intro _ h; cases h), ?_⟩)
          show cond true _ _
          rw [cond_true]
          exact ⟨hv3, rfl, (((HS.front 2 rfl).front 2 rfl).front 2 rfl)⟩
        · have h26 := hval (3, 26) (by decide) (hon 3 (by decide))
          have h30 := hval (7, 30) (by decide) (hon 7 (by decide))
          obtain ⟨l_, rfl⟩ := hfr
          have hE0 := hE
          rw [show bq_ 7 = true from (hon 7 (by decide))] at hE0
          simp only [cond_true, cond_false] at hE0
          obtain ⟨hv3, hv7, HS⟩ := hE0
          rw [hv3] at h26
          rw [hv7] at h30
          have e26 : evl l_ (.tmp 26) = .agg ((nums .u8 ((tlB g a).map bv))).toArray := evl_of h26
          have e30 : evl l_ (.tmp 30) = .agg ((nums .u8 ((tlB g' b).map bv))).toArray := evl_of h30
          refine ⟨_, rfl, fun K_ hK_ => wp_of_list rfl ?_⟩
          intro ops_
          refine p_run (l' := _) _ (x_eq .eql (.agg ((nums .u8 ((tlB g a).map bv))).toArray) (.agg ((nums .u8 ((tlB g' b).map bv))).toArray) (decide (((tlB g a).map bv) = ((tlB g' b).map bv))) true rfl e26 e30 (equal_nums Try.underlying27 Try.underlying5 (by kernel_rfl) (by kernel_rfl) _ _ (by simp [List.length_map, (tlB_length g ha)]) (by simp [List.length_map, (tlB_length g' hb)])) ((apart_eq ha hb).trans (decide_eq_true hbo)) rfl (guard_agg (by kernel_rfl)) (guard_agg (by kernel_rfl))) rfl ?_
          refine wpList_nil ?_
          exact norm_put (hK_ (.bool true) _ ⟨qv_up hV (fun _ h => Option.some.inj h), hE⟩)
        · have h7 : a_.tmps[7]? = some (.bool true) := (hel 7 (by decide)).trans rfl
          obtain ⟨l_, rfl⟩ := hfr
          have e7 : evl l_ (.tmp 7) = .bool true := evl_of h7
          refine ⟨_, rfl, fun K_ hK_ => wp_of_list rfl ?_⟩
          intro ops_
          refine p_run (l' := _) _ (x_move (.bool true) rfl e7) rfl ?_
          refine wpList_nil ?_
          exact norm_put (hK_ (.bool true) _ ⟨qv_up hV (fun _ h => Option.some.inj h), hE⟩)
        · have h31 : a_.tmps[31]? = some (.bool true) := (hval (8, 31) (by decide) (hon 8 (by decide))).trans (congrArg some (hV 8 _ rfl (hon 8 (by decide))))
          have h32 : a_.tmps[32]? = some (.bool true) := (hval (9, 32) (by decide) (hon 9 (by decide))).trans (congrArg some (hV 9 _ rfl (hon 9 (by decide))))
          obtain ⟨l_, rfl⟩ := hfr
          have e31 : evl l_ (.tmp 31) = .bool true := evl_of h31
          have e32 : evl l_ (.tmp 32) = .bool true := evl_of h32
          refine ⟨_, rfl, fun K_ hK_ => wp_of_list rfl ?_⟩
          intro ops_
          refine p_run (l' := _) _ (x_boolcmp .eql true true true rfl e31 e32 Try.underlying4 rfl rfl) rfl ?_
          refine wpList_nil ?_
          exact norm_put (hK_ (.bool true) _ ⟨qv_up hV (fun _ h => Option.some.inj h), hE⟩)
        · have h33 : a_.tmps[33]? = some (.bool true) := (hval (10, 33) (by decide) (hon 10 (by decide))).trans (congrArg some (hV 10 _ rfl (hon 10 (by decide))))
          obtain ⟨l_, rfl⟩ := hfr
          have e33 : evl l_ (.tmp 33) = .bool true := evl_of h33
          refine ⟨_, rfl, fun K_ hK_ => wp_of_list rfl ?_⟩
          intro ops_
          refine p_run (l' := _) _ (x_move (.bool true) rfl e33) rfl ?_
          refine wpList_nil ?_
          exact norm_put (hK_ (.bool true) _ ⟨qv_up hV (fun _ h => Option.some.inj h), hE⟩)
        · have h8 : a_.tmps[8]? = some (.int .i64 (usN a : Int)) := (hel 8 (by decide)).trans rfl
          have h34 : a_.tmps[34]? = some (.bool true) := (hval (11, 34) (by decide) (hon 11 (by decide))).trans (congrArg some (hV 11 _ rfl (hon 11 (by decide))))
          obtain ⟨l_, rfl⟩ := hfr
          have e8 : evl l_ (.tmp 8) = .int .i64 (usN a : Int) := evl_of h8
          have e34 : evl l_ (.tmp 34) = .bool true := evl_of h34
          refine ⟨_, rfl, fun K_ hK_ => wp_of_listG rfl (wanted_on (t := 34) rfl rfl rfl h34) ?_⟩
          intro ops_
          refine p_run (l' := _) _ (x_move (.int .i64 (usN a : Int)) rfl e8) rfl ?_
          refine wpList_nil ?_
          exact norm_put (hK_ (.int .i64 (usN a : Int)) _ ⟨qv_up hV (fun _ h => Option.some.inj h), hE⟩)
        · have h34 : a_.tmps[34]? = some (.bool true) := (hval (11, 34) (by decide) (hon 11 (by decide))).trans (congrArg some (hV 11 _ rfl (hon 11 (by decide))))
          have h35 : a_.tmps[35]? = some (.int .i64 (usN a : Int)) := (hval (12, 35) (by decide) (hon 12 (by decide))).trans (congrArg some (hV 12 _ rfl (hon 12 (by decide))))
          obtain ⟨l_, rfl⟩ := hfr
          have e34 : evl l_ (.tmp 34) = .bool true := evl_of h34
          have e35 : evl l_ (.tmp 35) = .int .i64 (usN a : Int) := evl_of h35
          refine ⟨_, rfl, fun K_ hK_ => wp_of_listG rfl (wanted_on (t := 34) rfl rfl rfl h34) ?_⟩
          intro ops_
          refine p_run (l' := _) _ (x_cmp (k := .i64) (m := (usN a : Int)) (n := 0) .geq true rfl e35 rfl (show decide ((usN a : Int) ≥ 0) = true from decide_eq_true (by omega)) rfl) rfl ?_
          refine wpList_nil ?_
          exact norm_put (hK_ (.bool true) _ ⟨qv_up hV (fun _ h => Option.some.inj h), hE⟩)
        · have h34 : a_.tmps[34]? = some (.bool true) := (hval (11, 34) (by decide) (hon 11 (by decide))).trans (congrArg some (hV 11 _ rfl (hon 11 (by decide))))
          have h36 : a_.tmps[36]? = some (.bool true) := (hval (13, 36) (by decide) (hon 13 (by decide))).trans (congrArg some (hV 13 _ rfl (hon 13 (by decide))))
          obtain ⟨l_, rfl⟩ := hfr
          have e34 : evl l_ (.tmp 34) = .bool true := evl_of h34
          have e36 : evl l_ (.tmp 36) = .bool true := evl_of h36
          refine ⟨_, rfl, fun K_ hK_ => wp_of_list rfl ?_⟩
          intro ops_
          refine p_run (l' := _) _ (x_pick true (.bool true) (.bool false) (.bool true) rfl e34 e36 rfl rfl) rfl ?_
          refine wpList_nil ?_
          exact norm_put (hK_ (.bool true) _ ⟨qv_up hV (fun _ h => Option.some.inj h), hE⟩)
        · have h37 : a_.tmps[37]? = some (.bool true) := (hval (14, 37) (by decide) (hon 14 (by decide))).trans (congrArg some (hV 14 _ rfl (hon 14 (by decide))))
          obtain ⟨l_, rfl⟩ := hfr
          have e37 : evl l_ (.tmp 37) = .bool true := evl_of h37
          refine ⟨_, rfl, fun K_ hK_ => wp_of_list rfl ?_⟩
          intro ops_
          refine p_run (l' := _) _ (x_move (.bool true) rfl e37) rfl ?_
          refine wpList_nil ?_
          exact norm_put (hK_ (.bool true) _ ⟨qv_up hV (fun _ h => Option.some.inj h), hE⟩)
        · have h8 : a_.tmps[8]? = some (.int .i64 (usN a : Int)) := (hel 8 (by decide)).trans rfl
          have h38 : a_.tmps[38]? = some (.bool true) := (hval (15, 38) (by decide) (hon 15 (by decide))).trans (congrArg some (hV 15 _ rfl (hon 15 (by decide))))
          obtain ⟨l_, rfl⟩ := hfr
          have e8 : evl l_ (.tmp 8) = .int .i64 (usN a : Int) := evl_of h8
          have e38 : evl l_ (.tmp 38) = .bool true := evl_of h38
          refine ⟨_, rfl, fun K_ hK_ => wp_of_listG rfl (wanted_on (t := 38) rfl rfl rfl h38) ?_⟩
          intro ops_
          refine p_run (l' := _) _ (x_move (.int .i64 (usN a : Int)) rfl e8) rfl ?_
          refine wpList_nil ?_
          exact norm_put (hK_ (.int .i64 (usN a : Int)) _ ⟨qv_up hV (fun _ h => Option.some.inj h), hE⟩)
        · have h38 : a_.tmps[38]? = some (.bool true) := (hval (15, 38) (by decide) (hon 15 (by decide))).trans (congrArg some (hV 15 _ rfl (hon 15 (by decide))))
          have h39 : a_.tmps[39]? = some (.int .i64 (usN a : Int)) := (hval (16, 39) (by decide) (hon 16 (by decide))).trans (congrArg some (hV 16 _ rfl (hon 16 (by decide))))
          obtain ⟨l_, rfl⟩ := hfr
          have e38 : evl l_ (.tmp 38) = .bool true := evl_of h38
          have e39 : evl l_ (.tmp 39) = .int .i64 (usN a : Int) := evl_of h39
          refine ⟨_, rfl, fun K_ hK_ => wp_of_listG rfl (wanted_on (t := 38) rfl rfl rfl h38) ?_⟩
          intro ops_
          refine p_run (l' := _) _ (x_cmp (k := .i64) (m := (usN a : Int)) (n := 240) .leq true rfl e39 rfl (show decide ((usN a : Int) ≤ 240) = true from decide_eq_true (by omega)) rfl) rfl ?_
          refine wpList_nil ?_
          exact norm_put (hK_ (.bool true) _ ⟨qv_up hV (fun _ h => Option.some.inj h), hE⟩)
        · have h38 : a_.tmps[38]? = some (.bool true) := (hval (15, 38) (by decide) (hon 15 (by decide))).trans (congrArg some (hV 15 _ rfl (hon 15 (by decide))))
          have h40 : a_.tmps[40]? = some (.bool true) := (hval (17, 40) (by decide) (hon 17 (by decide))).trans (congrArg some (hV 17 _ rfl (hon 17 (by decide))))
          obtain ⟨l_, rfl⟩ := hfr
          have e38 : evl l_ (.tmp 38) = .bool true := evl_of h38
          have e40 : evl l_ (.tmp 40) = .bool true := evl_of h40
          refine ⟨_, rfl, fun K_ hK_ => wp_of_list rfl ?_⟩
          intro ops_
          refine p_run (l' := _) _ (x_pick true (.bool true) (.bool false) (.bool true) rfl e38 e40 rfl rfl) rfl ?_
          refine wpList_nil ?_
          exact norm_put (hK_ (.bool true) _ ⟨qv_up hV (fun _ h => Option.some.inj h), hE⟩)
        · have h41 : a_.tmps[41]? = some (.bool true) := (hval (18, 41) (by decide) (hon 18 (by decide))).trans (congrArg some (hV 18 _ rfl (hon 18 (by decide))))
          obtain ⟨l_, rfl⟩ := hfr
          have e41 : evl l_ (.tmp 41) = .bool true := evl_of h41
          refine ⟨_, rfl, fun K_ hK_ => wp_of_list rfl ?_⟩
          intro ops_
          refine p_run (l' := _) _ (x_move (.bool true) rfl e41) rfl ?_
          refine wpList_nil ?_
          exact norm_put (hK_ (.bool true) _ ⟨qv_up hV (fun _ h => Option.some.inj h), hE⟩)
        · have h8 : a_.tmps[8]? = some (.int .i64 (usN a : Int)) := (hel 8 (by decide)).trans rfl
          have h42 : a_.tmps[42]? = some (.bool true) := (hval (19, 42) (by decide) (hon 19 (by decide))).trans (congrArg some (hV 19 _ rfl (hon 19 (by decide))))
          obtain ⟨l_, rfl⟩ := hfr
          have e8 : evl l_ (.tmp 8) = .int .i64 (usN a : Int) := evl_of h8
          have e42 : evl l_ (.tmp 42) = .bool true := evl_of h42
          refine ⟨_, rfl, fun K_ hK_ => wp_of_listG rfl (wanted_on (t := 42) rfl rfl rfl h42) ?_⟩
          intro ops_
          refine p_run (l' := _) _ (x_move (.int .i64 (usN a : Int)) rfl e8) rfl ?_
          refine wpList_nil ?_
          exact norm_put (hK_ (.int .i64 (usN a : Int)) _ ⟨qv_up hV (fun _ h => Option.some.inj h), hE⟩)
        · have h42 : a_.tmps[42]? = some (.bool true) := (hval (19, 42) (by decide) (hon 19 (by decide))).trans (congrArg some (hV 19 _ rfl (hon 19 (by decide))))
          have h43 : a_.tmps[43]? = some (.int .i64 (usN a : Int)) := (hval (20, 43) (by decide) (hon 20 (by decide))).trans (congrArg some (hV 20 _ rfl (hon 20 (by decide))))
          obtain ⟨l_, rfl⟩ := hfr
          have e42 : evl l_ (.tmp 42) = .bool true := evl_of h42
          have e43 : evl l_ (.tmp 43) = .int .i64 (usN a : Int) := evl_of h43
          refine ⟨_, rfl, fun K_ hK_ => wp_of_listG rfl (wanted_on (t := 42) rfl rfl rfl h42) ?_⟩
          intro ops_
          refine p_run (l' := _) _ (x_cmp (k := .i64) (m := (usN a : Int)) (n := 0) .eql (decide (a = zB)) rfl e43 rfl (us_eq ha) rfl) rfl ?_
          refine wpList_nil ?_
          exact norm_put (hK_ (.bool (decide (a = zB))) _ ⟨qv_up hV (fun _ h => Option.some.inj h), hE⟩)
        · have h4 : a_.tmps[4]? = some (.pointer (some ⟨g8, 0, none⟩)) := (hel 4 (by decide)).trans rfl
          have h42 : a_.tmps[42]? = some (.bool true) := (hval (19, 42) (by decide) (hon 19 (by decide))).trans (congrArg some (hV 19 _ rfl (hon 19 (by decide))))
          obtain ⟨l_, rfl⟩ := hfr
          have hE0 := hE
          rw [show bq_ 7 = true from (hon 7 (by decide))] at hE0
          simp only [cond_true, cond_false] at hE0
          obtain ⟨hv3, hv7, HS⟩ := hE0
          have e4 : evl l_ (.tmp 4) = .pointer (some ⟨g8, 0, none⟩) := evl_of h4
          have e42 : evl l_ (.tmp 42) = .bool true := evl_of h42
          refine ⟨_, rfl, fun K_ hK_ => wp_of_listG rfl (wanted_on (t := 42) rfl rfl rfl h42) ?_⟩
          intro ops_
          refine p_run (l' := _) _ (x_loads ((nums .u8 (a.map bv))) 240 rfl e4 (bkCells (HS.get (.tail _ (.head _))) 0 _ (whole _)) (by rfl) (by kernel_rfl) (by simp [List.length_map, ha, nums_length])) rfl ?_
          refine wpList_nil ?_
          exact norm_put (hK_ (.agg ((nums .u8 (a.map bv))).toArray) _ ⟨qv_up hV (fun _ h => Option.some.inj h), hE⟩)
        · have h42 : a_.tmps[42]? = some (.bool true) := (hval (19, 42) (by decide) (hon 19 (by decide))).trans (congrArg some (hV 19 _ rfl (hon 19 (by decide))))
          obtain ⟨l_, rfl⟩ := hfr
          have e42 : evl l_ (.tmp 42) = .bool true := evl_of h42
          refine ⟨_, rfl, fun K_ hK_ => wp_of_listG rfl (wanted_on (t := 42) rfl rfl rfl h42) ?_⟩
          intro ops_
          refine p_run (l' := _) _ (x_build ((nums .u8 (zB.map bv))) rfl (by kernel_rfl)) rfl ?_
          refine wpList_nil ?_
          exact norm_put (hK_ (.agg ((nums .u8 (zB.map bv))).toArray) _ ⟨qv_up hV (fun _ h => Option.some.inj h), hE⟩)
        · have h42 : a_.tmps[42]? = some (.bool true) := (hval (19, 42) (by decide) (hon 19 (by decide))).trans (congrArg some (hV 19 _ rfl (hon 19 (by decide))))
          have h45 : a_.tmps[45]? = some (.agg ((nums .u8 (a.map bv))).toArray) := (hval (22, 45) (by decide) (hon 22 (by decide))).trans (congrArg some (hV 22 _ rfl (hon 22 (by decide))))
          have h46 : a_.tmps[46]? = some (.agg ((nums .u8 (zB.map bv))).toArray) := (hval (23, 46) (by decide) (hon 23 (by decide))).trans (congrArg some (hV 23 _ rfl (hon 23 (by decide))))
          obtain ⟨l_, rfl⟩ := hfr
          have e42 : evl l_ (.tmp 42) = .bool true := evl_of h42
          have e45 : evl l_ (.tmp 45) = .agg ((nums .u8 (a.map bv))).toArray := evl_of h45
          have e46 : evl l_ (.tmp 46) = .agg ((nums .u8 (zB.map bv))).toArray := evl_of h46
          refine ⟨_, rfl, fun K_ hK_ => wp_of_listG rfl (wanted_on (t := 42) rfl rfl rfl h42) ?_⟩
          intro ops_
          refine p_run (l' := _) _ (x_eq .eql (.agg ((nums .u8 (a.map bv))).toArray) (.agg ((nums .u8 (zB.map bv))).toArray) (decide ((a.map bv) = (zB.map bv))) (decide (a = zB)) rfl e45 e46 (equal_nums Try.underlying23 Try.underlying5 (by kernel_rfl) (by kernel_rfl) _ _ (by simp [List.length_map, ha]) (by simp [List.length_map, zB_len])) (eq_map a zB) rfl (guard_agg (by kernel_rfl)) (guard_agg (by kernel_rfl))) rfl ?_
          refine wpList_nil ?_
          exact norm_put (hK_ (.bool (decide (a = zB))) _ ⟨qv_up hV (fun _ h => Option.some.inj h), hE⟩)
        · have h42 : a_.tmps[42]? = some (.bool true) := (hval (19, 42) (by decide) (hon 19 (by decide))).trans (congrArg some (hV 19 _ rfl (hon 19 (by decide))))
          have h44 : a_.tmps[44]? = some (.bool (decide (a = zB))) := (hval (21, 44) (by decide) (hon 21 (by decide))).trans (congrArg some (hV 21 _ rfl (hon 21 (by decide))))
          have h47 : a_.tmps[47]? = some (.bool (decide (a = zB))) := (hval (24, 47) (by decide) (hon 24 (by decide))).trans (congrArg some (hV 24 _ rfl (hon 24 (by decide))))
          obtain ⟨l_, rfl⟩ := hfr
          have e42 : evl l_ (.tmp 42) = .bool true := evl_of h42
          have e44 : evl l_ (.tmp 44) = .bool (decide (a = zB)) := evl_of h44
          have e47 : evl l_ (.tmp 47) = .bool (decide (a = zB)) := evl_of h47
          refine ⟨_, rfl, fun K_ hK_ => wp_of_listG rfl (wanted_on (t := 42) rfl rfl rfl h42) ?_⟩
          intro ops_
          refine p_run (l' := _) _ (x_boolcmp .eql (decide (a = zB)) (decide (a = zB)) true rfl e44 e47 Try.underlying4 (beq_self_eq_true _) rfl) rfl ?_
          refine wpList_nil ?_
          exact norm_put (hK_ (.bool true) _ ⟨qv_up hV (fun _ h => Option.some.inj h), hE⟩)
        · have h42 : a_.tmps[42]? = some (.bool true) := (hval (19, 42) (by decide) (hon 19 (by decide))).trans (congrArg some (hV 19 _ rfl (hon 19 (by decide))))
          have h48 : a_.tmps[48]? = some (.bool true) := (hval (25, 48) (by decide) (hon 25 (by decide))).trans (congrArg some (hV 25 _ rfl (hon 25 (by decide))))
          obtain ⟨l_, rfl⟩ := hfr
          have e42 : evl l_ (.tmp 42) = .bool true := evl_of h42
          have e48 : evl l_ (.tmp 48) = .bool true := evl_of h48
          refine ⟨_, rfl, fun K_ hK_ => wp_of_list rfl ?_⟩
          intro ops_
          refine p_run (l' := _) _ (x_pick true (.bool true) (.bool false) (.bool true) rfl e42 e48 rfl rfl) rfl ?_
          refine wpList_nil ?_
          exact norm_put (hK_ (.bool true) _ ⟨qv_up hV (fun _ h => Option.some.inj h), hE⟩)
        · have h49 : a_.tmps[49]? = some (.bool true) := (hval (26, 49) (by decide) (hon 26 (by decide))).trans (congrArg some (hV 26 _ rfl (hon 26 (by decide))))
          obtain ⟨l_, rfl⟩ := hfr
          have e49 : evl l_ (.tmp 49) = .bool true := evl_of h49
          refine ⟨_, rfl, fun K_ hK_ => wp_of_list rfl ?_⟩
          intro ops_
          refine p_run (l' := _) _ (x_assign (.bool true) rfl e49) rfl ?_
          refine wpList_nil ?_
          exact norm_put (hK_ (.bool true) _ ⟨qv_up hV (fun _ h => Option.some.inj h), hE⟩)
      intro bq_ vq_ w_ hall hG
      obtain ⟨hV, hE⟩ := hG
      clear HS
      rw [show bq_ 7 = true from hall 7 (by decide)] at hE
      simp only [cond_true] at hE
      obtain ⟨hv3, hv7, HS⟩ := hE
      have hv0 := hV 0 _ rfl (hall 0 (by decide))
      have hv1 := hV 1 _ rfl (hall 1 (by decide))
      have hv2 := hV 2 _ rfl (hall 2 (by decide))
      have hv4 := hV 4 _ rfl (hall 4 (by decide))
      have hv5 := hV 5 _ rfl (hall 5 (by decide))
      have hv6 := hV 6 _ rfl (hall 6 (by decide))
      have hv8 := hV 8 _ rfl (hall 8 (by decide))
      have hv9 := hV 9 _ rfl (hall 9 (by decide))
      have hv10 := hV 10 _ rfl (hall 10 (by decide))
      have hv11 := hV 11 _ rfl (hall 11 (by decide))
      have hv12 := hV 12 _ rfl (hall 12 (by decide))
      have hv13 := hV 13 _ rfl (hall 13 (by decide))
      have hv14 := hV 14 _ rfl (hall 14 (by decide))
      have hv15 := hV 15 _ rfl (hall 15 (by decide))
      have hv16 := hV 16 _ rfl (hall 16 (by decide))
      have hv17 := hV 17 _ rfl (hall 17 (by decide))
      have hv18 := hV 18 _ rfl (hall 18 (by decide))
      have hv19 := hV 19 _ rfl (hall 19 (by decide))
      have hv20 := hV 20 _ rfl (hall 20 (by decide))
      have hv21 := hV 21 _ rfl (hall 21 (by decide))
      have hv22 := hV 22 _ rfl (hall 22 (by decide))
      have hv23 := hV 23 _ rfl (hall 23 (by decide))
      have hv24 := hV 24 _ rfl (hall 24 (by decide))
      have hv25 := hV 25 _ rfl (hall 25 (by decide))
      have hv26 := hV 26 _ rfl (hall 26 (by decide))
      have hv27 := hV 27 _ rfl (hall 27 (by decide))
      clear hV hall
      rw [putSel_fr]
      simp only [tells, List.map_cons, List.map_nil, setAll, List.set_cons_succ, List.set_cons_zero, hv0, hv1, hv2, hv3, hv4, hv5, hv6, hv7, hv8, hv9, hv10, hv11, hv12, hv13, hv14, hv15, hv16, hv17, hv18, hv19, hv20, hv21, hv22, hv23, hv24, hv25, hv26, hv27]
      clear hv0 hv1 hv2 hv3 hv4 hv5 hv6 hv7 hv8 hv9 hv10 hv11 hv12 hv13 hv14 hv15 hv16 hv17 hv18 hv19 hv20 hv21 hv22 hv23 hv24 hv25 hv26 hv27
      generalize w_ = w11201 at HS ⊢
      refine fr_at (l' := [.agg [.int .u64 (uv g), .int .u64 (uv g')].toArray, .agg ((nums .u8 (a.map bv))).toArray, .agg ((nums .u8 (b.map bv))).toArray, .pointer (some ⟨g5, 0, none⟩), .pointer (some ⟨g8, 0, none⟩), .pointer (some ⟨g11, 0, none⟩), .bool true, .bool true, .int .i64 (usN a : Int), .bool true, .bool false, .pointer (some ⟨g5, 0, none⟩), .int .u64 (uv g), .pointer (some ⟨g5, 1, none⟩), .int .u64 (uv g'), .bool true, .bool true, .agg ((nums .u8 (a.map bv))).toArray, .agg ((nums .u8 (b.map bv))).toArray, .bool true, .bool true, .agg ((nums .u8 (a.map bv))).toArray, .int .i64 (usN a : Int), .pointer (some ⟨g5, 0, none⟩), .int .u64 (uv g), .agg ((nums .u8 (a.map bv))).toArray, .agg ((nums .u8 ((tlB g a).map bv))).toArray, .pointer (some ⟨g5, 1, none⟩), .int .u64 (uv g'), .agg ((nums .u8 (b.map bv))).toArray, .agg ((nums .u8 ((tlB g' b).map bv))).toArray, .bool true, .bool true, .bool true, .bool true, .int .i64 (usN a : Int), .bool true, .bool true, .bool true, .int .i64 (usN a : Int), .bool true, .bool true, .bool true, .int .i64 (usN a : Int), .bool (decide (a = zB)), .agg ((nums .u8 (a.map bv))).toArray, .agg ((nums .u8 (zB.map bv))).toArray, .bool (decide (a = zB)), .bool true, .bool true]) rfl ?_
      refine hK31 _ _ ?_
      refine wp_ret ?_
      try simp only [Exit.inBlock, Exit.then]
      refine c_ret (.bool true) (r_tmp rfl rfl) ?_
      exact ⟨rfl, HS.belowOf⟩
    · skip
      have hbo : ¬ (g = g' ∧ a = b) := fun h => hab h.2
      refine c_enter Try.func4 rfl 50 rfl [.agg [.int .u64 (uv g), .int .u64 (uv g')].toArray, .agg ((nums .u8 (a.map bv))).toArray, .agg ((nums .u8 (b.map bv))).toArray, undef, undef, undef, undef, undef, undef, undef, undef, undef, undef, undef, undef, undef, undef, undef, undef, undef, undef, undef, undef, undef, undef, undef, undef, undef, undef, undef, undef, undef, undef, undef, undef, undef, undef, undef, undef, undef, undef, undef, undef, undef, undef, undef, undef, undef, undef, undef] rfl ?_
      refine wp_seq_k (fun K1 hK2 => ?_)
      refine c_region (fun ops4 hops3 => ?_)
      clear hops3
      refine St.wBox HS (cs := [.int .u64 (uv g), .int .u64 (uv g')]) (.agg [.int .u64 (uv g), .int .u64 (uv g')].toArray) rfl rfl ?_
      clear HS
      intro g5 w6 hg7 HS
      refine St.wBox HS (cs := ((nums .u8 (a.map bv)))) (.agg ((nums .u8 (a.map bv))).toArray) rfl rfl ?_
      clear HS
      intro g8 w9 hg10 HS
      refine St.wBox HS (cs := ((nums .u8 (b.map bv)))) (.agg ((nums .u8 (b.map bv))).toArray) rfl rfl ?_
      clear HS
      intro g11 w12 hg13 HS
      refine p_run (l' := [.agg [.int .u64 (uv g), .int .u64 (uv g')].toArray, .agg ((nums .u8 (a.map bv))).toArray, .agg ((nums .u8 (b.map bv))).toArray, .pointer (some ⟨g5, 0, none⟩), .pointer (some ⟨g8, 0, none⟩), .pointer (some ⟨g11, 0, none⟩), .bool false, undef, undef, undef, undef, undef, undef, undef, undef, undef, undef, undef, undef, undef, undef, undef, undef, undef, undef, undef, undef, undef, undef, undef, undef, undef, undef, undef, undef, undef, undef, undef, undef, undef, undef, undef, undef, undef, undef, undef, undef, undef, undef, undef]) _ (x_assign (.bool false) rfl rfl) rfl ?_
      refine wpList_nil ?_
      refine hK2 _ _ ?_
      refine wp_seq_k (fun K14 hK15 => ?_)
      refine wp_seq_k (fun K16 hK17 => ?_)
      refine c_region (fun ops19 hops18 => ?_)
      clear hops18
      refine w_call [] Try.func12 (by kernel_rfl) (by rfl) rfl ?_
      refine (talive_any HS).mono ?_
      clear HS
      rintro e w20 ⟨rfl, HS⟩
      refine ⟨_, rfl, ?_⟩
      refine p_run (l' := _) _ (x_not true rfl rfl) rfl ?_
      refine wpList_nil ?_
      refine fr_at (l' := [.agg [.int .u64 (uv g), .int .u64 (uv g')].toArray, .agg ((nums .u8 (a.map bv))).toArray, .agg ((nums .u8 (b.map bv))).toArray, .pointer (some ⟨g5, 0, none⟩), .pointer (some ⟨g8, 0, none⟩), .pointer (some ⟨g11, 0, none⟩), .bool false, undef, undef, .bool true, .bool false, undef, undef, undef, undef, undef, undef, undef, undef, undef, undef, undef, undef, undef, undef, undef, undef, undef, undef, undef, undef, undef, undef, undef, undef, undef, undef, undef, undef, undef, undef, undef, undef, undef, undef, undef, undef, undef, undef, undef]) rfl ?_
      refine hK17 _ _ ?_
      refine c_false rfl ?_
      refine wp_skip ?_
      refine hK15 _ _ ?_
      refine wp_seq_k (fun K21 hK22 => ?_)
      refine c_region (fun ops24 hops23 => ?_)
      refine p_run (l' := _) _ (x_indexArr (sz := 1) (j := 0) rfl rfl rfl Try.underlying34 (by kernel_rfl) (by omega) rfl) rfl ?_
      refine p_run (l' := _) _ (x_load (.int .u64 (uv g)) rfl rfl (bkCell (HS.get (.tail _ (.tail _ (.head _)))) 0 _ rfl) (by rfl)) rfl ?_
      refine p_run (l' := _) _ (x_indexArr (sz := 1) (j := 1) rfl rfl rfl Try.underlying34 (by kernel_rfl) (by omega) rfl) rfl ?_
      refine p_run (l' := [.agg [.int .u64 (uv g), .int .u64 (uv g')].toArray, .agg ((nums .u8 (a.map bv))).toArray, .agg ((nums .u8 (b.map bv))).toArray, .pointer (some ⟨g5, 0, none⟩), .pointer (some ⟨g8, 0, none⟩), .pointer (some ⟨g11, 0, none⟩), .bool false, undef, undef, .bool true, .bool false, .pointer (some ⟨g5, 0, none⟩), .int .u64 (uv g), .pointer (some ⟨g5, 1, none⟩), .int .u64 (uv g'), undef, undef, undef, undef, undef, undef, undef, undef, undef, undef, undef, undef, undef, undef, undef, undef, undef, undef, undef, undef, undef, undef, undef, undef, undef, undef, undef, undef, undef, undef, undef, undef, undef, undef, undef]) _ (x_load (.int .u64 (uv g')) rfl rfl (bkCell (HS.get (.tail _ (.tail _ (.head _)))) 1 _ rfl) (by rfl)) rfl ?_
      refine p_run (l' := _) _ (x_cmp (k := .u64) (m := (uv g)) (n := (uv g')) .eql true rfl rfl rfl ((uv_eq g g').trans (decide_eq_true hg)) rfl) rfl ?_
      refine p_run (l' := _) _ (x_move (.bool true) rfl rfl) rfl ?_
      refine p_on rfl (by rw [hops23]; rfl) ?_
      refine p_run (l' := _) _ (x_loads ((nums .u8 (a.map bv))) 240 rfl rfl (bkCells (HS.get (.tail _ (.head _))) 0 _ (whole _)) (by rfl) (by kernel_rfl) (by simp [List.length_map, ha, nums_length])) rfl ?_
      refine p_on rfl (by rw [hops23]; rfl) ?_
      refine p_run (l' := [.agg [.int .u64 (uv g), .int .u64 (uv g')].toArray, .agg ((nums .u8 (a.map bv))).toArray, .agg ((nums .u8 (b.map bv))).toArray, .pointer (some ⟨g5, 0, none⟩), .pointer (some ⟨g8, 0, none⟩), .pointer (some ⟨g11, 0, none⟩), .bool false, undef, undef, .bool true, .bool false, .pointer (some ⟨g5, 0, none⟩), .int .u64 (uv g), .pointer (some ⟨g5, 1, none⟩), .int .u64 (uv g'), .bool true, .bool true, .agg ((nums .u8 (a.map bv))).toArray, .agg ((nums .u8 (b.map bv))).toArray, undef, undef, undef, undef, undef, undef, undef, undef, undef, undef, undef, undef, undef, undef, undef, undef, undef, undef, undef, undef, undef, undef, undef, undef, undef, undef, undef, undef, undef, undef, undef]) _ (x_loads ((nums .u8 (b.map bv))) 240 rfl rfl (bkCells (HS.get (.head _)) 0 _ (whole _)) (by rfl) (by kernel_rfl) (by simp [List.length_map, hb, nums_length])) rfl ?_
      refine p_on rfl (by rw [hops23]; rfl) ?_
      refine p_run (l' := _) _ (x_eq .eql (.agg ((nums .u8 (a.map bv))).toArray) (.agg ((nums .u8 (b.map bv))).toArray) (decide ((a.map bv) = (b.map bv))) false rfl rfl rfl (equal_nums Try.underlying23 Try.underlying5 (by kernel_rfl) (by kernel_rfl) _ _ (by simp [List.length_map, ha]) (by simp [List.length_map, hb])) ((eq_map a b).trans (decide_eq_false hab)) rfl (guard_agg (by kernel_rfl)) (guard_agg (by kernel_rfl))) rfl ?_
      refine p_run (l' := _) _ (x_pick true (.bool false) (.bool false) (.bool false) rfl rfl rfl rfl rfl) rfl ?_
      refine p_run (l' := _) _ (x_assign (.bool false) rfl rfl) rfl ?_
      clear hops23
      refine wpList_nil ?_
      refine fr_at (l' := [.agg [.int .u64 (uv g), .int .u64 (uv g')].toArray, .agg ((nums .u8 (a.map bv))).toArray, .agg ((nums .u8 (b.map bv))).toArray, .pointer (some ⟨g5, 0, none⟩), .pointer (some ⟨g8, 0, none⟩), .pointer (some ⟨g11, 0, none⟩), .bool false, .bool false, undef, .bool true, .bool false, .pointer (some ⟨g5, 0, none⟩), .int .u64 (uv g), .pointer (some ⟨g5, 1, none⟩), .int .u64 (uv g'), .bool true, .bool true, .agg ((nums .u8 (a.map bv))).toArray, .agg ((nums .u8 (b.map bv))).toArray, .bool false, .bool false, undef, undef, undef, undef, undef, undef, undef, undef, undef, undef, undef, undef, undef, undef, undef, undef, undef, undef, undef, undef, undef, undef, undef, undef, undef, undef, undef, undef, undef]) rfl ?_
      refine hK22 _ _ ?_
      refine wp_seq_k (fun K25 hK26 => ?_)
      refine c_region (fun ops28 hops27 => ?_)
      clear hops27
      refine p_run (l' := _) _ (x_loads ((nums .u8 (a.map bv))) 240 rfl rfl (bkCells (HS.get (.tail _ (.head _))) 0 _ (whole _)) (by rfl) (by kernel_rfl) (by simp [List.length_map, ha, nums_length])) rfl ?_
      refine w_call [.agg ((nums .u8 (a.map bv))).toArray] Try.func15 (by kernel_rfl) (by rfl) rfl ?_
      refine (tused_any HS a ha).mono ?_
      clear HS
      rintro e w29 ⟨rfl, HS⟩
      refine ⟨_, rfl, ?_⟩
      refine p_run (l' := _) _ (x_assign (.int .i64 (usN a : Int)) rfl rfl) rfl ?_
      refine wpList_nil ?_
      refine fr_at (l' := [.agg [.int .u64 (uv g), .int .u64 (uv g')].toArray, .agg ((nums .u8 (a.map bv))).toArray, .agg ((nums .u8 (b.map bv))).toArray, .pointer (some ⟨g5, 0, none⟩), .pointer (some ⟨g8, 0, none⟩), .pointer (some ⟨g11, 0, none⟩), .bool false, .bool false, .int .i64 (usN a : Int), .bool true, .bool false, .pointer (some ⟨g5, 0, none⟩), .int .u64 (uv g), .pointer (some ⟨g5, 1, none⟩), .int .u64 (uv g'), .bool true, .bool true, .agg ((nums .u8 (a.map bv))).toArray, .agg ((nums .u8 (b.map bv))).toArray, .bool false, .bool false, .agg ((nums .u8 (a.map bv))).toArray, .int .i64 (usN a : Int), undef, undef, undef, undef, undef, undef, undef, undef, undef, undef, undef, undef, undef, undef, undef, undef, undef, undef, undef, undef, undef, undef, undef, undef, undef, undef, undef]) rfl ?_
      refine hK26 _ _ ?_
      refine wp_seq_k (fun K30 hK31 => ?_)
      refine free_frame (n := 28) (T := _) [0, 1, 0, 7, 0, 16, 0, 127, 255, 0, 1023, 2047, 4095, 8191, 16383, 32767, 65535, 131071, 262143, 524287, 1048575, 2097151, 1048575, 1048575, 13631487, 33554431, 67108863, 134217727] [(0, 23), (1, 24), (2, 25), (3, 26), (4, 27), (5, 28), (6, 29), (7, 30), (8, 31), (9, 32), (10, 33), (11, 34), (12, 35), (13, 36), (14, 37), (15, 38), (16, 39), (17, 40), (18, 41), (19, 42), (20, 43), (21, 44), (22, 45), (23, 46), (24, 47), (25, 48), (26, 49), (27, 6)] (fun bq_ vq_ w_ => qv ((fun i_ => match i_ with | 0 => some (.pointer (some ⟨g5, 0, none⟩)) | 1 => some (.int .u64 (uv g)) | 2 => some (.agg ((nums .u8 (a.map bv))).toArray) | 4 => some (.pointer (some ⟨g5, 1, none⟩)) | 5 => some (.int .u64 (uv g')) | 6 => some (.agg ((nums .u8 (b.map bv))).toArray) | 8 => some (.bool false) | 9 => some (.bool false) | 10 => some (.bool true) | 11 => some (.bool true) | 12 => some (.int .i64 (usN a : Int)) | 13 => some (.bool true) | 14 => some (.bool true) | 15 => some (.bool true) | 16 => some (.int .i64 (usN a : Int)) | 17 => some (.bool true) | 18 => some (.bool true) | 19 => some (.bool true) | 20 => some (.int .i64 (usN a : Int)) | 21 => some (.bool (decide (a = zB))) | 22 => some (.agg ((nums .u8 (a.map bv))).toArray) | 23 => some (.agg ((nums .u8 (zB.map bv))).toArray) | 24 => some (.bool (decide (a = zB))) | 25 => some (.bool true) | 26 => some (.bool true) | 27 => some (.bool true) | _ => none) : Nat → Option Value) bq_ vq_ ∧ cond (bq_ 7) (vq_ 3 = .agg ((nums .u8 ((tlB g a).map bv))).toArray ∧ vq_ 7 = .agg ((nums .u8 ((tlB g' b).map bv))).toArray ∧ St w (fun _ => False) w_ ([blk g11 ((nums .u8 (b.map bv))) 23, blk g8 ((nums .u8 (a.map bv))) 23, blk g5 [.int .u64 (uv g), .int .u64 (uv g')] 34])) (cond (bq_ 3) (vq_ 3 = .agg ((nums .u8 ((tlB g a).map bv))).toArray ∧ St w (fun _ => False) w_ ([blk g11 ((nums .u8 (b.map bv))) 23, blk g8 ((nums .u8 (a.map bv))) 23, blk g5 [.int .u64 (uv g), .int .u64 (uv g')] 34])) ((St w (fun _ => False) w_ ([blk g11 ((nums .u8 (b.map bv))) 23, blk g8 ((nums .u8 (a.map bv))) 23, blk g5 [.int .u64 (uv g), .int .u64 (uv g')] 34]))))) (by kernel_rfl) rfl rfl (by kernel_rfl) (by kernel_rfl) rfl (by kernel_rfl) (by kernel_rfl) ⟨qv_none, HS.draw⟩ ?_ ?_
      · clear HS
        intro i_ hi_ bq_ vq_ a_ w_ hG hb_ hon hoff hfr hel hval
        obtain ⟨hV, hE⟩ := hG
        have hi_ := List.mem_range.1 hi_
        have hcs : i_ = 0 ∨ i_ = 1 ∨ i_ = 2 ∨ i_ = 3 ∨ i_ = 4 ∨ i_ = 5 ∨ i_ = 6 ∨ i_ = 7 ∨ i_ = 8 ∨ i_ = 9 ∨ i_ = 10 ∨ i_ = 11 ∨ i_ = 12 ∨ i_ = 13 ∨ i_ = 14 ∨ i_ = 15 ∨ i_ = 16 ∨ i_ = 17 ∨ i_ = 18 ∨ i_ = 19 ∨ i_ = 20 ∨ i_ = 21 ∨ i_ = 22 ∨ i_ = 23 ∨ i_ = 24 ∨ i_ = 25 ∨ i_ = 26 ∨ i_ = 27 := by omega
        rcases hcs with rfl | rfl | rfl | rfl | rfl | rfl | rfl | rfl | rfl | rfl | rfl | rfl | rfl | rfl | rfl | rfl | rfl | rfl | rfl | rfl | rfl | rfl | rfl | rfl | rfl | rfl | rfl | rfl
        · have h3 : a_.tmps[3]? = some (.pointer (some ⟨g5, 0, none⟩)) := (hel 3 (by decide)).trans rfl
          obtain ⟨l_, rfl⟩ := hfr
          have e3 : evl l_ (.tmp 3) = .pointer (some ⟨g5, 0, none⟩) := evl_of h3
          refine ⟨_, rfl, fun K_ hK_ => wp_of_list rfl ?_⟩
          intro ops_
          refine p_run (l' := _) _ (x_indexArr (sz := 1) (j := 0) rfl e3 rfl Try.underlying34 (by kernel_rfl) (by omega) rfl) rfl ?_
          refine wpList_nil ?_
          exact norm_put (hK_ (.pointer (some ⟨g5, 0, none⟩)) _ ⟨qv_up hV (fun _ h => Option.some.inj h), hE⟩)
        · have h23 : a_.tmps[23]? = some (.pointer (some ⟨g5, 0, none⟩)) := (hval (0, 23) (by decide) (hon 0 (by decide))).trans (congrArg some (hV 0 _ rfl (hon 0 (by decide))))
          obtain ⟨l_, rfl⟩ := hfr
          have hE0 := hE
          rw [show bq_ 7 = false from (hoff 7 (by decide))] at hE0
          rw [show bq_ 3 = false from (hoff 3 (by decide))] at hE0
          simp only [cond_true, cond_false] at hE0
          have HS := hE0
          have e23 : evl l_ (.tmp 23) = .pointer (some ⟨g5, 0, none⟩) := evl_of h23
          refine ⟨_, rfl, fun K_ hK_ => wp_of_list rfl ?_⟩
          intro ops_
          refine p_run (l' := _) _ (x_load (.int .u64 (uv g)) rfl e23 (bkCell (HS.get (.tail _ (.tail _ (.head _)))) 0 _ rfl) (by rfl)) rfl ?_
          refine wpList_nil ?_
          exact norm_put (hK_ (.int .u64 (uv g)) _ ⟨qv_up hV (fun _ h => Option.some.inj h), hE⟩)
        · have h4 : a_.tmps[4]? = some (.pointer (some ⟨g8, 0, none⟩)) := (hel 4 (by decide)).trans rfl
          obtain ⟨l_, rfl⟩ := hfr
          have hE0 := hE
          rw [show bq_ 7 = false from (hoff 7 (by decide))] at hE0
          rw [show bq_ 3 = false from (hoff 3 (by decide))] at hE0
          simp only [cond_true, cond_false] at hE0
          have HS := hE0
          have e4 : evl l_ (.tmp 4) = .pointer (some ⟨g8, 0, none⟩) := evl_of h4
          refine ⟨_, rfl, fun K_ hK_ => wp_of_list rfl ?_⟩
          intro ops_
          refine p_run (l' := _) _ (x_loads ((nums .u8 (a.map bv))) 240 rfl e4 (bkCells (HS.get (.tail _ (.head _))) 0 _ (whole _)) (by rfl) (by kernel_rfl) (by simp [List.length_map, ha, nums_length])) rfl ?_
          refine wpList_nil ?_
          exact norm_put (hK_ (.agg ((nums .u8 (a.map bv))).toArray) _ ⟨qv_up hV (fun _ h => Option.some.inj h), hE⟩)
        · have h24 : a_.tmps[24]? = some (.int .u64 (uv g)) := (hval (1, 24) (by decide) (hon 1 (by decide))).trans (congrArg some (hV 1 _ rfl (hon 1 (by decide))))
          have h25 : a_.tmps[25]? = some (.agg ((nums .u8 (a.map bv))).toArray) := (hval (2, 25) (by decide) (hon 2 (by decide))).trans (congrArg some (hV 2 _ rfl (hon 2 (by decide))))
          obtain ⟨l_, rfl⟩ := hfr
          have hE0 := hE
          rw [show bq_ 7 = false from (hoff 7 (by decide))] at hE0
          rw [show bq_ 3 = false from hb_] at hE0
          simp only [cond_true, cond_false] at hE0
          have HS := hE0
          have e24 : evl l_ (.tmp 24) = .int .u64 (uv g) := evl_of h24
          have e25 : evl l_ (.tmp 25) = .agg ((nums .u8 (a.map bv))).toArray := evl_of h25
          refine ⟨_, rfl, fun K_ hK_ => wp_of_list rfl ?_⟩
          intro ops_
          refine w_call [.int .u64 (uv g), .agg ((nums .u8 (a.map bv))).toArray] Try.func13 (by kernel_rfl) (by rfl) (by simp [e24, e25]) ?_
          refine (tpage_any HS g a ha).mono ?_
          clear HS
          rintro e w9301 ⟨rfl, HS⟩
          refine ⟨_, rfl, ?_⟩
          refine wpList_nil ?_
          refine norm_put (hK_ (.agg ((nums .u8 ((tlB g a).map bv))).toArray) _ ⟨qv_up hV (by intro _ h; cases h), ?_⟩)
          show cond (bq_ 7) _ _
          rw [show bq_ 7 = false from hoff 7 (by decide), cond_false]
          show cond true _ _
          rw [cond_true]
          exact ⟨rfl, (((HS.front 2 rfl).front 2 rfl).front 2 rfl)⟩
        · have h3 : a_.tmps[3]? = some (.pointer (some ⟨g5, 0, none⟩)) := (hel 3 (by decide)).trans rfl
          obtain ⟨l_, rfl⟩ := hfr
          have e3 : evl l_ (.tmp 3) = .pointer (some ⟨g5, 0, none⟩) := evl_of h3
          refine ⟨_, rfl, fun K_ hK_ => wp_of_list rfl ?_⟩
          intro ops_
          refine p_run (l' := _) _ (x_indexArr (sz := 1) (j := 1) rfl e3 rfl Try.underlying34 (by kernel_rfl) (by omega) rfl) rfl ?_
          refine wpList_nil ?_
          exact norm_put (hK_ (.pointer (some ⟨g5, 1, none⟩)) _ ⟨qv_up hV (fun _ h => Option.some.inj h), hE⟩)
        · have h27 : a_.tmps[27]? = some (.pointer (some ⟨g5, 1, none⟩)) := (hval (4, 27) (by decide) (hon 4 (by decide))).trans (congrArg some (hV 4 _ rfl (hon 4 (by decide))))
          obtain ⟨l_, rfl⟩ := hfr
          rcases hq3 : bq_ 3 with _ | _
          · have hE0 := hE
            rw [show bq_ 7 = false from (hoff 7 (by decide))] at hE0
            rw [show bq_ 3 = false from hq3] at hE0
            simp only [cond_true, cond_false] at hE0
            have HS := hE0
            have e27 : evl l_ (.tmp 27) = .pointer (some ⟨g5, 1, none⟩) := evl_of h27
            refine ⟨_, rfl, fun K_ hK_ => wp_of_list rfl ?_⟩
            intro ops_
            refine p_run (l' := _) _ (x_load (.int .u64 (uv g')) rfl e27 (bkCell (HS.get (.tail _ (.tail _ (.head _)))) 1 _ rfl) (by rfl)) rfl ?_
            refine wpList_nil ?_
            exact norm_put (hK_ (.int .u64 (uv g')) _ ⟨qv_up hV (fun _ h => Option.some.inj h), hE⟩)
          · skip
            have hE0 := hE
            rw [show bq_ 7 = false from (hoff 7 (by decide))] at hE0
            rw [show bq_ 3 = true from hq3] at hE0
            simp only [cond_true, cond_false] at hE0
            obtain ⟨hv3, HS⟩ := hE0
            have e27 : evl l_ (.tmp 27) = .pointer (some ⟨g5, 1, none⟩) := evl_of h27
            refine ⟨_, rfl, fun K_ hK_ => wp_of_list rfl ?_⟩
            intro ops_
            refine p_run (l' := _) _ (x_load (.int .u64 (uv g')) rfl e27 (bkCell (HS.get (.tail _ (.tail _ (.head _)))) 1 _ rfl) (by rfl)) rfl ?_
            refine wpList_nil ?_
            exact norm_put (hK_ (.int .u64 (uv g')) _ ⟨qv_up hV (fun _ h => Option.some.inj h), hE⟩)
        · have h5 : a_.tmps[5]? = some (.pointer (some ⟨g11, 0, none⟩)) := (hel 5 (by decide)).trans rfl
          obtain ⟨l_, rfl⟩ := hfr
          rcases hq3 : bq_ 3 with _ | _
          · have hE0 := hE
            rw [show bq_ 7 = false from (hoff 7 (by decide))] at hE0
            rw [show bq_ 3 = false from hq3] at hE0
            simp only [cond_true, cond_false] at hE0
            have HS := hE0
            have e5 : evl l_ (.tmp 5) = .pointer (some ⟨g11, 0, none⟩) := evl_of h5
            refine ⟨_, rfl, fun K_ hK_ => wp_of_list rfl ?_⟩
            intro ops_
            refine p_run (l' := _) _ (x_loads ((nums .u8 (b.map bv))) 240 rfl e5 (bkCells (HS.get (.head _)) 0 _ (whole _)) (by rfl) (by kernel_rfl) (by simp [List.length_map, hb, nums_length])) rfl ?_
            refine wpList_nil ?_
            exact norm_put (hK_ (.agg ((nums .u8 (b.map bv))).toArray) _ ⟨qv_up hV (fun _ h => Option.some.inj h), hE⟩)
          · skip
            have hE0 := hE
            rw [show bq_ 7 = false from (hoff 7 (by decide))] at hE0
            rw [show bq_ 3 = true from hq3] at hE0
            simp only [cond_true, cond_false] at hE0
            obtain ⟨hv3, HS⟩ := hE0
            have e5 : evl l_ (.tmp 5) = .pointer (some ⟨g11, 0, none⟩) := evl_of h5
            refine ⟨_, rfl, fun K_ hK_ => wp_of_list rfl ?_⟩
            intro ops_
            refine p_run (l' := _) _ (x_loads ((nums .u8 (b.map bv))) 240 rfl e5 (bkCells (HS.get (.head _)) 0 _ (whole _)) (by rfl) (by kernel_rfl) (by simp [List.length_map, hb, nums_length])) rfl ?_
            refine wpList_nil ?_
            exact norm_put (hK_ (.agg ((nums .u8 (b.map bv))).toArray) _ ⟨qv_up hV (fun _ h => Option.some.inj h), hE⟩)
        · have h28 : a_.tmps[28]? = some (.int .u64 (uv g')) := (hval (5, 28) (by decide) (hon 5 (by decide))).trans (congrArg some (hV 5 _ rfl (hon 5 (by decide))))
          have h29 : a_.tmps[29]? = some (.agg ((nums .u8 (b.map bv))).toArray) := (hval (6, 29) (by decide) (hon 6 (by decide))).trans (congrArg some (hV 6 _ rfl (hon 6 (by decide))))
          obtain ⟨l_, rfl⟩ := hfr
          have hE0 := hE
          rw [show bq_ 7 = false from hb_] at hE0
          rw [show bq_ 3 = true from (hon 3 (by decide))] at hE0
          simp only [cond_true, cond_false] at hE0
          obtain ⟨hv3, HS⟩ := hE0
          have e28 : evl l_ (.tmp 28) = .int .u64 (uv g') := evl_of h28
          have e29 : evl l_ (.tmp 29) = .agg ((nums .u8 (b.map bv))).toArray := evl_of h29
          refine ⟨_, rfl, fun K_ hK_ => wp_of_list rfl ?_⟩
          intro ops_
          refine w_call [.int .u64 (uv g'), .agg ((nums .u8 (b.map bv))).toArray] Try.func13 (by kernel_rfl) (by rfl) (by simp [e28, e29]) ?_
          refine (tpage_any HS g' b hb).mono ?_
          clear HS
          rintro e w9701 ⟨rfl, HS⟩
          refine ⟨_, rfl, ?_⟩
          refine wpList_nil ?_
          refine norm_put (hK_ (.agg ((nums .u8 ((tlB g' b).map bv))).toArray) _ ⟨qv_up hV (by intro _ h; cases h), ?_⟩)
          show cond true _ _
          rw [cond_true]
          exact ⟨hv3, rfl, (((HS.front 2 rfl).front 2 rfl).front 2 rfl)⟩
        · have h26 := hval (3, 26) (by decide) (hon 3 (by decide))
          have h30 := hval (7, 30) (by decide) (hon 7 (by decide))
          obtain ⟨l_, rfl⟩ := hfr
          have hE0 := hE
          rw [show bq_ 7 = true from (hon 7 (by decide))] at hE0
          simp only [cond_true, cond_false] at hE0
          obtain ⟨hv3, hv7, HS⟩ := hE0
          rw [hv3] at h26
          rw [hv7] at h30
          have e26 : evl l_ (.tmp 26) = .agg ((nums .u8 ((tlB g a).map bv))).toArray := evl_of h26
          have e30 : evl l_ (.tmp 30) = .agg ((nums .u8 ((tlB g' b).map bv))).toArray := evl_of h30
          refine ⟨_, rfl, fun K_ hK_ => wp_of_list rfl ?_⟩
          intro ops_
          refine p_run (l' := _) _ (x_eq .eql (.agg ((nums .u8 ((tlB g a).map bv))).toArray) (.agg ((nums .u8 ((tlB g' b).map bv))).toArray) (decide (((tlB g a).map bv) = ((tlB g' b).map bv))) false rfl e26 e30 (equal_nums Try.underlying27 Try.underlying5 (by kernel_rfl) (by kernel_rfl) _ _ (by simp [List.length_map, (tlB_length g ha)]) (by simp [List.length_map, (tlB_length g' hb)])) ((apart_eq ha hb).trans (decide_eq_false hbo)) rfl (guard_agg (by kernel_rfl)) (guard_agg (by kernel_rfl))) rfl ?_
          refine wpList_nil ?_
          exact norm_put (hK_ (.bool false) _ ⟨qv_up hV (fun _ h => Option.some.inj h), hE⟩)
        · have h7 : a_.tmps[7]? = some (.bool false) := (hel 7 (by decide)).trans rfl
          obtain ⟨l_, rfl⟩ := hfr
          have e7 : evl l_ (.tmp 7) = .bool false := evl_of h7
          refine ⟨_, rfl, fun K_ hK_ => wp_of_list rfl ?_⟩
          intro ops_
          refine p_run (l' := _) _ (x_move (.bool false) rfl e7) rfl ?_
          refine wpList_nil ?_
          exact norm_put (hK_ (.bool false) _ ⟨qv_up hV (fun _ h => Option.some.inj h), hE⟩)
        · have h31 : a_.tmps[31]? = some (.bool false) := (hval (8, 31) (by decide) (hon 8 (by decide))).trans (congrArg some (hV 8 _ rfl (hon 8 (by decide))))
          have h32 : a_.tmps[32]? = some (.bool false) := (hval (9, 32) (by decide) (hon 9 (by decide))).trans (congrArg some (hV 9 _ rfl (hon 9 (by decide))))
          obtain ⟨l_, rfl⟩ := hfr
          have e31 : evl l_ (.tmp 31) = .bool false := evl_of h31
          have e32 : evl l_ (.tmp 32) = .bool false := evl_of h32
          refine ⟨_, rfl, fun K_ hK_ => wp_of_list rfl ?_⟩
          intro ops_
          refine p_run (l' := _) _ (x_boolcmp .eql false false true rfl e31 e32 Try.underlying4 rfl rfl) rfl ?_
          refine wpList_nil ?_
          exact norm_put (hK_ (.bool true) _ ⟨qv_up hV (fun _ h => Option.some.inj h), hE⟩)
        · have h33 : a_.tmps[33]? = some (.bool true) := (hval (10, 33) (by decide) (hon 10 (by decide))).trans (congrArg some (hV 10 _ rfl (hon 10 (by decide))))
          obtain ⟨l_, rfl⟩ := hfr
          have e33 : evl l_ (.tmp 33) = .bool true := evl_of h33
          refine ⟨_, rfl, fun K_ hK_ => wp_of_list rfl ?_⟩
          intro ops_
          refine p_run (l' := _) _ (x_move (.bool true) rfl e33) rfl ?_
          refine wpList_nil ?_
          exact norm_put (hK_ (.bool true) _ ⟨qv_up hV (fun _ h => Option.some.inj h), hE⟩)
        · have h8 : a_.tmps[8]? = some (.int .i64 (usN a : Int)) := (hel 8 (by decide)).trans rfl
          have h34 : a_.tmps[34]? = some (.bool true) := (hval (11, 34) (by decide) (hon 11 (by decide))).trans (congrArg some (hV 11 _ rfl (hon 11 (by decide))))
          obtain ⟨l_, rfl⟩ := hfr
          have e8 : evl l_ (.tmp 8) = .int .i64 (usN a : Int) := evl_of h8
          have e34 : evl l_ (.tmp 34) = .bool true := evl_of h34
          refine ⟨_, rfl, fun K_ hK_ => wp_of_listG rfl (wanted_on (t := 34) rfl rfl rfl h34) ?_⟩
          intro ops_
          refine p_run (l' := _) _ (x_move (.int .i64 (usN a : Int)) rfl e8) rfl ?_
          refine wpList_nil ?_
          exact norm_put (hK_ (.int .i64 (usN a : Int)) _ ⟨qv_up hV (fun _ h => Option.some.inj h), hE⟩)
        · have h34 : a_.tmps[34]? = some (.bool true) := (hval (11, 34) (by decide) (hon 11 (by decide))).trans (congrArg some (hV 11 _ rfl (hon 11 (by decide))))
          have h35 : a_.tmps[35]? = some (.int .i64 (usN a : Int)) := (hval (12, 35) (by decide) (hon 12 (by decide))).trans (congrArg some (hV 12 _ rfl (hon 12 (by decide))))
          obtain ⟨l_, rfl⟩ := hfr
          have e34 : evl l_ (.tmp 34) = .bool true := evl_of h34
          have e35 : evl l_ (.tmp 35) = .int .i64 (usN a : Int) := evl_of h35
          refine ⟨_, rfl, fun K_ hK_ => wp_of_listG rfl (wanted_on (t := 34) rfl rfl rfl h34) ?_⟩
          intro ops_
          refine p_run (l' := _) _ (x_cmp (k := .i64) (m := (usN a : Int)) (n := 0) .geq true rfl e35 rfl (show decide ((usN a : Int) ≥ 0) = true from decide_eq_true (by omega)) rfl) rfl ?_
          refine wpList_nil ?_
          exact norm_put (hK_ (.bool true) _ ⟨qv_up hV (fun _ h => Option.some.inj h), hE⟩)
        · have h34 : a_.tmps[34]? = some (.bool true) := (hval (11, 34) (by decide) (hon 11 (by decide))).trans (congrArg some (hV 11 _ rfl (hon 11 (by decide))))
          have h36 : a_.tmps[36]? = some (.bool true) := (hval (13, 36) (by decide) (hon 13 (by decide))).trans (congrArg some (hV 13 _ rfl (hon 13 (by decide))))
          obtain ⟨l_, rfl⟩ := hfr
          have e34 : evl l_ (.tmp 34) = .bool true := evl_of h34
          have e36 : evl l_ (.tmp 36) = .bool true := evl_of h36
          refine ⟨_, rfl, fun K_ hK_ => wp_of_list rfl ?_⟩
          intro ops_
          refine p_run (l' := _) _ (x_pick true (.bool true) (.bool false) (.bool true) rfl e34 e36 rfl rfl) rfl ?_
          refine wpList_nil ?_
          exact norm_put (hK_ (.bool true) _ ⟨qv_up hV (fun _ h => Option.some.inj h), hE⟩)
        · have h37 : a_.tmps[37]? = some (.bool true) := (hval (14, 37) (by decide) (hon 14 (by decide))).trans (congrArg some (hV 14 _ rfl (hon 14 (by decide))))
          obtain ⟨l_, rfl⟩ := hfr
          have e37 : evl l_ (.tmp 37) = .bool true := evl_of h37
          refine ⟨_, rfl, fun K_ hK_ => wp_of_list rfl ?_⟩
          intro ops_
          refine p_run (l' := _) _ (x_move (.bool true) rfl e37) rfl ?_
          refine wpList_nil ?_
          exact norm_put (hK_ (.bool true) _ ⟨qv_up hV (fun _ h => Option.some.inj h), hE⟩)
        · have h8 : a_.tmps[8]? = some (.int .i64 (usN a : Int)) := (hel 8 (by decide)).trans rfl
          have h38 : a_.tmps[38]? = some (.bool true) := (hval (15, 38) (by decide) (hon 15 (by decide))).trans (congrArg some (hV 15 _ rfl (hon 15 (by decide))))
          obtain ⟨l_, rfl⟩ := hfr
          have e8 : evl l_ (.tmp 8) = .int .i64 (usN a : Int) := evl_of h8
          have e38 : evl l_ (.tmp 38) = .bool true := evl_of h38
          refine ⟨_, rfl, fun K_ hK_ => wp_of_listG rfl (wanted_on (t := 38) rfl rfl rfl h38) ?_⟩
          intro ops_
          refine p_run (l' := _) _ (x_move (.int .i64 (usN a : Int)) rfl e8) rfl ?_
          refine wpList_nil ?_
          exact norm_put (hK_ (.int .i64 (usN a : Int)) _ ⟨qv_up hV (fun _ h => Option.some.inj h), hE⟩)
        · have h38 : a_.tmps[38]? = some (.bool true) := (hval (15, 38) (by decide) (hon 15 (by decide))).trans (congrArg some (hV 15 _ rfl (hon 15 (by decide))))
          have h39 : a_.tmps[39]? = some (.int .i64 (usN a : Int)) := (hval (16, 39) (by decide) (hon 16 (by decide))).trans (congrArg some (hV 16 _ rfl (hon 16 (by decide))))
          obtain ⟨l_, rfl⟩ := hfr
          have e38 : evl l_ (.tmp 38) = .bool true := evl_of h38
          have e39 : evl l_ (.tmp 39) = .int .i64 (usN a : Int) := evl_of h39
          refine ⟨_, rfl, fun K_ hK_ => wp_of_listG rfl (wanted_on (t := 38) rfl rfl rfl h38) ?_⟩
          intro ops_
          refine p_run (l' := _) _ (x_cmp (k := .i64) (m := (usN a : Int)) (n := 240) .leq true rfl e39 rfl (show decide ((usN a : Int) ≤ 240) = true from decide_eq_true (by omega)) rfl) rfl ?_
          refine wpList_nil ?_
          exact norm_put (hK_ (.bool true) _ ⟨qv_up hV (fun _ h => Option.some.inj h), hE⟩)
        · have h38 : a_.tmps[38]? = some (.bool true) := (hval (15, 38) (by decide) (hon 15 (by decide))).trans (congrArg some (hV 15 _ rfl (hon 15 (by decide))))
          have h40 : a_.tmps[40]? = some (.bool true) := (hval (17, 40) (by decide) (hon 17 (by decide))).trans (congrArg some (hV 17 _ rfl (hon 17 (by decide))))
          obtain ⟨l_, rfl⟩ := hfr
          have e38 : evl l_ (.tmp 38) = .bool true := evl_of h38
          have e40 : evl l_ (.tmp 40) = .bool true := evl_of h40
          refine ⟨_, rfl, fun K_ hK_ => wp_of_list rfl ?_⟩
          intro ops_
          refine p_run (l' := _) _ (x_pick true (.bool true) (.bool false) (.bool true) rfl e38 e40 rfl rfl) rfl ?_
          refine wpList_nil ?_
          exact norm_put (hK_ (.bool true) _ ⟨qv_up hV (fun _ h => Option.some.inj h), hE⟩)
        · have h41 : a_.tmps[41]? = some (.bool true) := (hval (18, 41) (by decide) (hon 18 (by decide))).trans (congrArg some (hV 18 _ rfl (hon 18 (by decide))))
          obtain ⟨l_, rfl⟩ := hfr
          have e41 : evl l_ (.tmp 41) = .bool true := evl_of h41
          refine ⟨_, rfl, fun K_ hK_ => wp_of_list rfl ?_⟩
          intro ops_
          refine p_run (l' := _) _ (x_move (.bool true) rfl e41) rfl ?_
          refine wpList_nil ?_
          exact norm_put (hK_ (.bool true) _ ⟨qv_up hV (fun _ h => Option.some.inj h), hE⟩)
        · have h8 : a_.tmps[8]? = some (.int .i64 (usN a : Int)) := (hel 8 (by decide)).trans rfl
          have h42 : a_.tmps[42]? = some (.bool true) := (hval (19, 42) (by decide) (hon 19 (by decide))).trans (congrArg some (hV 19 _ rfl (hon 19 (by decide))))
          obtain ⟨l_, rfl⟩ := hfr
          have e8 : evl l_ (.tmp 8) = .int .i64 (usN a : Int) := evl_of h8
          have e42 : evl l_ (.tmp 42) = .bool true := evl_of h42
          refine ⟨_, rfl, fun K_ hK_ => wp_of_listG rfl (wanted_on (t := 42) rfl rfl rfl h42) ?_⟩
          intro ops_
          refine p_run (l' := _) _ (x_move (.int .i64 (usN a : Int)) rfl e8) rfl ?_
          refine wpList_nil ?_
          exact norm_put (hK_ (.int .i64 (usN a : Int)) _ ⟨qv_up hV (fun _ h => Option.some.inj h), hE⟩)
        · have h42 : a_.tmps[42]? = some (.bool true) := (hval (19, 42) (by decide) (hon 19 (by decide))).trans (congrArg some (hV 19 _ rfl (hon 19 (by decide))))
          have h43 : a_.tmps[43]? = some (.int .i64 (usN a : Int)) := (hval (20, 43) (by decide) (hon 20 (by decide))).trans (congrArg some (hV 20 _ rfl (hon 20 (by decide))))
          obtain ⟨l_, rfl⟩ := hfr
          have e42 : evl l_ (.tmp 42) = .bool true := evl_of h42
          have e43 : evl l_ (.tmp 43) = .int .i64 (usN a : Int) := evl_of h43
          refine ⟨_, rfl, fun K_ hK_ => wp_of_listG rfl (wanted_on (t := 42) rfl rfl rfl h42) ?_⟩
          intro ops_
          refine p_run (l' := _) _ (x_cmp (k := .i64) (m := (usN a : Int)) (n := 0) .eql (decide (a = zB)) rfl e43 rfl (us_eq ha) rfl) rfl ?_
          refine wpList_nil ?_
          exact norm_put (hK_ (.bool (decide (a = zB))) _ ⟨qv_up hV (fun _ h => Option.some.inj h), hE⟩)
        · have h4 : a_.tmps[4]? = some (.pointer (some ⟨g8, 0, none⟩)) := (hel 4 (by decide)).trans rfl
          have h42 : a_.tmps[42]? = some (.bool true) := (hval (19, 42) (by decide) (hon 19 (by decide))).trans (congrArg some (hV 19 _ rfl (hon 19 (by decide))))
          obtain ⟨l_, rfl⟩ := hfr
          have hE0 := hE
          rw [show bq_ 7 = true from (hon 7 (by decide))] at hE0
          simp only [cond_true, cond_false] at hE0
          obtain ⟨hv3, hv7, HS⟩ := hE0
          have e4 : evl l_ (.tmp 4) = .pointer (some ⟨g8, 0, none⟩) := evl_of h4
          have e42 : evl l_ (.tmp 42) = .bool true := evl_of h42
          refine ⟨_, rfl, fun K_ hK_ => wp_of_listG rfl (wanted_on (t := 42) rfl rfl rfl h42) ?_⟩
          intro ops_
          refine p_run (l' := _) _ (x_loads ((nums .u8 (a.map bv))) 240 rfl e4 (bkCells (HS.get (.tail _ (.head _))) 0 _ (whole _)) (by rfl) (by kernel_rfl) (by simp [List.length_map, ha, nums_length])) rfl ?_
          refine wpList_nil ?_
          exact norm_put (hK_ (.agg ((nums .u8 (a.map bv))).toArray) _ ⟨qv_up hV (fun _ h => Option.some.inj h), hE⟩)
        · have h42 : a_.tmps[42]? = some (.bool true) := (hval (19, 42) (by decide) (hon 19 (by decide))).trans (congrArg some (hV 19 _ rfl (hon 19 (by decide))))
          obtain ⟨l_, rfl⟩ := hfr
          have e42 : evl l_ (.tmp 42) = .bool true := evl_of h42
          refine ⟨_, rfl, fun K_ hK_ => wp_of_listG rfl (wanted_on (t := 42) rfl rfl rfl h42) ?_⟩
          intro ops_
          refine p_run (l' := _) _ (x_build ((nums .u8 (zB.map bv))) rfl (by kernel_rfl)) rfl ?_
          refine wpList_nil ?_
          exact norm_put (hK_ (.agg ((nums .u8 (zB.map bv))).toArray) _ ⟨qv_up hV (fun _ h => Option.some.inj h), hE⟩)
        · have h42 : a_.tmps[42]? = some (.bool true) := (hval (19, 42) (by decide) (hon 19 (by decide))).trans (congrArg some (hV 19 _ rfl (hon 19 (by decide))))
          have h45 : a_.tmps[45]? = some (.agg ((nums .u8 (a.map bv))).toArray) := (hval (22, 45) (by decide) (hon 22 (by decide))).trans (congrArg some (hV 22 _ rfl (hon 22 (by decide))))
          have h46 : a_.tmps[46]? = some (.agg ((nums .u8 (zB.map bv))).toArray) := (hval (23, 46) (by decide) (hon 23 (by decide))).trans (congrArg some (hV 23 _ rfl (hon 23 (by decide))))
          obtain ⟨l_, rfl⟩ := hfr
          have e42 : evl l_ (.tmp 42) = .bool true := evl_of h42
          have e45 : evl l_ (.tmp 45) = .agg ((nums .u8 (a.map bv))).toArray := evl_of h45
          have e46 : evl l_ (.tmp 46) = .agg ((nums .u8 (zB.map bv))).toArray := evl_of h46
          refine ⟨_, rfl, fun K_ hK_ => wp_of_listG rfl (wanted_on (t := 42) rfl rfl rfl h42) ?_⟩
          intro ops_
          refine p_run (l' := _) _ (x_eq .eql (.agg ((nums .u8 (a.map bv))).toArray) (.agg ((nums .u8 (zB.map bv))).toArray) (decide ((a.map bv) = (zB.map bv))) (decide (a = zB)) rfl e45 e46 (equal_nums Try.underlying23 Try.underlying5 (by kernel_rfl) (by kernel_rfl) _ _ (by simp [List.length_map, ha]) (by simp [List.length_map, zB_len])) (eq_map a zB) rfl (guard_agg (by kernel_rfl)) (guard_agg (by kernel_rfl))) rfl ?_
          refine wpList_nil ?_
          exact norm_put (hK_ (.bool (decide (a = zB))) _ ⟨qv_up hV (fun _ h => Option.some.inj h), hE⟩)
        · have h42 : a_.tmps[42]? = some (.bool true) := (hval (19, 42) (by decide) (hon 19 (by decide))).trans (congrArg some (hV 19 _ rfl (hon 19 (by decide))))
          have h44 : a_.tmps[44]? = some (.bool (decide (a = zB))) := (hval (21, 44) (by decide) (hon 21 (by decide))).trans (congrArg some (hV 21 _ rfl (hon 21 (by decide))))
          have h47 : a_.tmps[47]? = some (.bool (decide (a = zB))) := (hval (24, 47) (by decide) (hon 24 (by decide))).trans (congrArg some (hV 24 _ rfl (hon 24 (by decide))))
          obtain ⟨l_, rfl⟩ := hfr
          have e42 : evl l_ (.tmp 42) = .bool true := evl_of h42
          have e44 : evl l_ (.tmp 44) = .bool (decide (a = zB)) := evl_of h44
          have e47 : evl l_ (.tmp 47) = .bool (decide (a = zB)) := evl_of h47
          refine ⟨_, rfl, fun K_ hK_ => wp_of_listG rfl (wanted_on (t := 42) rfl rfl rfl h42) ?_⟩
          intro ops_
          refine p_run (l' := _) _ (x_boolcmp .eql (decide (a = zB)) (decide (a = zB)) true rfl e44 e47 Try.underlying4 (beq_self_eq_true _) rfl) rfl ?_
          refine wpList_nil ?_
          exact norm_put (hK_ (.bool true) _ ⟨qv_up hV (fun _ h => Option.some.inj h), hE⟩)
        · have h42 : a_.tmps[42]? = some (.bool true) := (hval (19, 42) (by decide) (hon 19 (by decide))).trans (congrArg some (hV 19 _ rfl (hon 19 (by decide))))
          have h48 : a_.tmps[48]? = some (.bool true) := (hval (25, 48) (by decide) (hon 25 (by decide))).trans (congrArg some (hV 25 _ rfl (hon 25 (by decide))))
          obtain ⟨l_, rfl⟩ := hfr
          have e42 : evl l_ (.tmp 42) = .bool true := evl_of h42
          have e48 : evl l_ (.tmp 48) = .bool true := evl_of h48
          refine ⟨_, rfl, fun K_ hK_ => wp_of_list rfl ?_⟩
          intro ops_
          refine p_run (l' := _) _ (x_pick true (.bool true) (.bool false) (.bool true) rfl e42 e48 rfl rfl) rfl ?_
          refine wpList_nil ?_
          exact norm_put (hK_ (.bool true) _ ⟨qv_up hV (fun _ h => Option.some.inj h), hE⟩)
        · have h49 : a_.tmps[49]? = some (.bool true) := (hval (26, 49) (by decide) (hon 26 (by decide))).trans (congrArg some (hV 26 _ rfl (hon 26 (by decide))))
          obtain ⟨l_, rfl⟩ := hfr
          have e49 : evl l_ (.tmp 49) = .bool true := evl_of h49
          refine ⟨_, rfl, fun K_ hK_ => wp_of_list rfl ?_⟩
          intro ops_
          refine p_run (l' := _) _ (x_assign (.bool true) rfl e49) rfl ?_
          refine wpList_nil ?_
          exact norm_put (hK_ (.bool true) _ ⟨qv_up hV (fun _ h => Option.some.inj h), hE⟩)
      intro bq_ vq_ w_ hall hG
      obtain ⟨hV, hE⟩ := hG
      clear HS
      rw [show bq_ 7 = true from hall 7 (by decide)] at hE
      simp only [cond_true] at hE
      obtain ⟨hv3, hv7, HS⟩ := hE
      have hv0 := hV 0 _ rfl (hall 0 (by decide))
      have hv1 := hV 1 _ rfl (hall 1 (by decide))
      have hv2 := hV 2 _ rfl (hall 2 (by decide))
      have hv4 := hV 4 _ rfl (hall 4 (by decide))
      have hv5 := hV 5 _ rfl (hall 5 (by decide))
      have hv6 := hV 6 _ rfl (hall 6 (by decide))
      have hv8 := hV 8 _ rfl (hall 8 (by decide))
      have hv9 := hV 9 _ rfl (hall 9 (by decide))
      have hv10 := hV 10 _ rfl (hall 10 (by decide))
      have hv11 := hV 11 _ rfl (hall 11 (by decide))
      have hv12 := hV 12 _ rfl (hall 12 (by decide))
      have hv13 := hV 13 _ rfl (hall 13 (by decide))
      have hv14 := hV 14 _ rfl (hall 14 (by decide))
      have hv15 := hV 15 _ rfl (hall 15 (by decide))
      have hv16 := hV 16 _ rfl (hall 16 (by decide))
      have hv17 := hV 17 _ rfl (hall 17 (by decide))
      have hv18 := hV 18 _ rfl (hall 18 (by decide))
      have hv19 := hV 19 _ rfl (hall 19 (by decide))
      have hv20 := hV 20 _ rfl (hall 20 (by decide))
      have hv21 := hV 21 _ rfl (hall 21 (by decide))
      have hv22 := hV 22 _ rfl (hall 22 (by decide))
      have hv23 := hV 23 _ rfl (hall 23 (by decide))
      have hv24 := hV 24 _ rfl (hall 24 (by decide))
      have hv25 := hV 25 _ rfl (hall 25 (by decide))
      have hv26 := hV 26 _ rfl (hall 26 (by decide))
      have hv27 := hV 27 _ rfl (hall 27 (by decide))
      clear hV hall
      rw [putSel_fr]
      simp only [tells, List.map_cons, List.map_nil, setAll, List.set_cons_succ, List.set_cons_zero, hv0, hv1, hv2, hv3, hv4, hv5, hv6, hv7, hv8, hv9, hv10, hv11, hv12, hv13, hv14, hv15, hv16, hv17, hv18, hv19, hv20, hv21, hv22, hv23, hv24, hv25, hv26, hv27]
      clear hv0 hv1 hv2 hv3 hv4 hv5 hv6 hv7 hv8 hv9 hv10 hv11 hv12 hv13 hv14 hv15 hv16 hv17 hv18 hv19 hv20 hv21 hv22 hv23 hv24 hv25 hv26 hv27
      generalize w_ = w11201 at HS ⊢
      refine fr_at (l' := [.agg [.int .u64 (uv g), .int .u64 (uv g')].toArray, .agg ((nums .u8 (a.map bv))).toArray, .agg ((nums .u8 (b.map bv))).toArray, .pointer (some ⟨g5, 0, none⟩), .pointer (some ⟨g8, 0, none⟩), .pointer (some ⟨g11, 0, none⟩), .bool true, .bool false, .int .i64 (usN a : Int), .bool true, .bool false, .pointer (some ⟨g5, 0, none⟩), .int .u64 (uv g), .pointer (some ⟨g5, 1, none⟩), .int .u64 (uv g'), .bool true, .bool true, .agg ((nums .u8 (a.map bv))).toArray, .agg ((nums .u8 (b.map bv))).toArray, .bool false, .bool false, .agg ((nums .u8 (a.map bv))).toArray, .int .i64 (usN a : Int), .pointer (some ⟨g5, 0, none⟩), .int .u64 (uv g), .agg ((nums .u8 (a.map bv))).toArray, .agg ((nums .u8 ((tlB g a).map bv))).toArray, .pointer (some ⟨g5, 1, none⟩), .int .u64 (uv g'), .agg ((nums .u8 (b.map bv))).toArray, .agg ((nums .u8 ((tlB g' b).map bv))).toArray, .bool false, .bool false, .bool true, .bool true, .int .i64 (usN a : Int), .bool true, .bool true, .bool true, .int .i64 (usN a : Int), .bool true, .bool true, .bool true, .int .i64 (usN a : Int), .bool (decide (a = zB)), .agg ((nums .u8 (a.map bv))).toArray, .agg ((nums .u8 (zB.map bv))).toArray, .bool (decide (a = zB)), .bool true, .bool true]) rfl ?_
      refine hK31 _ _ ?_
      refine wp_ret ?_
      try simp only [Exit.inBlock, Exit.then]
      refine c_ret (.bool true) (r_tmp rfl rfl) ?_
      exact ⟨rfl, HS.belowOf⟩
  · skip
    have hbo : ¬ (g = g' ∧ a = b) := fun h => hg h.1
    refine c_enter Try.func4 rfl 50 rfl [.agg [.int .u64 (uv g), .int .u64 (uv g')].toArray, .agg ((nums .u8 (a.map bv))).toArray, .agg ((nums .u8 (b.map bv))).toArray, undef, undef, undef, undef, undef, undef, undef, undef, undef, undef, undef, undef, undef, undef, undef, undef, undef, undef, undef, undef, undef, undef, undef, undef, undef, undef, undef, undef, undef, undef, undef, undef, undef, undef, undef, undef, undef, undef, undef, undef, undef, undef, undef, undef, undef, undef, undef] rfl ?_
    refine wp_seq_k (fun K1 hK2 => ?_)
    refine c_region (fun ops4 hops3 => ?_)
    clear hops3
    refine St.wBox HS (cs := [.int .u64 (uv g), .int .u64 (uv g')]) (.agg [.int .u64 (uv g), .int .u64 (uv g')].toArray) rfl rfl ?_
    clear HS
    intro g5 w6 hg7 HS
    refine St.wBox HS (cs := ((nums .u8 (a.map bv)))) (.agg ((nums .u8 (a.map bv))).toArray) rfl rfl ?_
    clear HS
    intro g8 w9 hg10 HS
    refine St.wBox HS (cs := ((nums .u8 (b.map bv)))) (.agg ((nums .u8 (b.map bv))).toArray) rfl rfl ?_
    clear HS
    intro g11 w12 hg13 HS
    refine p_run (l' := [.agg [.int .u64 (uv g), .int .u64 (uv g')].toArray, .agg ((nums .u8 (a.map bv))).toArray, .agg ((nums .u8 (b.map bv))).toArray, .pointer (some ⟨g5, 0, none⟩), .pointer (some ⟨g8, 0, none⟩), .pointer (some ⟨g11, 0, none⟩), .bool false, undef, undef, undef, undef, undef, undef, undef, undef, undef, undef, undef, undef, undef, undef, undef, undef, undef, undef, undef, undef, undef, undef, undef, undef, undef, undef, undef, undef, undef, undef, undef, undef, undef, undef, undef, undef, undef, undef, undef, undef, undef, undef, undef]) _ (x_assign (.bool false) rfl rfl) rfl ?_
    refine wpList_nil ?_
    refine hK2 _ _ ?_
    refine wp_seq_k (fun K14 hK15 => ?_)
    refine wp_seq_k (fun K16 hK17 => ?_)
    refine c_region (fun ops19 hops18 => ?_)
    clear hops18
    refine w_call [] Try.func12 (by kernel_rfl) (by rfl) rfl ?_
    refine (talive_any HS).mono ?_
    clear HS
    rintro e w20 ⟨rfl, HS⟩
    refine ⟨_, rfl, ?_⟩
    refine p_run (l' := _) _ (x_not true rfl rfl) rfl ?_
    refine wpList_nil ?_
    refine fr_at (l' := [.agg [.int .u64 (uv g), .int .u64 (uv g')].toArray, .agg ((nums .u8 (a.map bv))).toArray, .agg ((nums .u8 (b.map bv))).toArray, .pointer (some ⟨g5, 0, none⟩), .pointer (some ⟨g8, 0, none⟩), .pointer (some ⟨g11, 0, none⟩), .bool false, undef, undef, .bool true, .bool false, undef, undef, undef, undef, undef, undef, undef, undef, undef, undef, undef, undef, undef, undef, undef, undef, undef, undef, undef, undef, undef, undef, undef, undef, undef, undef, undef, undef, undef, undef, undef, undef, undef, undef, undef, undef, undef, undef, undef]) rfl ?_
    refine hK17 _ _ ?_
    refine c_false rfl ?_
    refine wp_skip ?_
    refine hK15 _ _ ?_
    refine wp_seq_k (fun K21 hK22 => ?_)
    refine c_region (fun ops24 hops23 => ?_)
    refine p_run (l' := _) _ (x_indexArr (sz := 1) (j := 0) rfl rfl rfl Try.underlying34 (by kernel_rfl) (by omega) rfl) rfl ?_
    refine p_run (l' := _) _ (x_load (.int .u64 (uv g)) rfl rfl (bkCell (HS.get (.tail _ (.tail _ (.head _)))) 0 _ rfl) (by rfl)) rfl ?_
    refine p_run (l' := _) _ (x_indexArr (sz := 1) (j := 1) rfl rfl rfl Try.underlying34 (by kernel_rfl) (by omega) rfl) rfl ?_
    refine p_run (l' := [.agg [.int .u64 (uv g), .int .u64 (uv g')].toArray, .agg ((nums .u8 (a.map bv))).toArray, .agg ((nums .u8 (b.map bv))).toArray, .pointer (some ⟨g5, 0, none⟩), .pointer (some ⟨g8, 0, none⟩), .pointer (some ⟨g11, 0, none⟩), .bool false, undef, undef, .bool true, .bool false, .pointer (some ⟨g5, 0, none⟩), .int .u64 (uv g), .pointer (some ⟨g5, 1, none⟩), .int .u64 (uv g'), undef, undef, undef, undef, undef, undef, undef, undef, undef, undef, undef, undef, undef, undef, undef, undef, undef, undef, undef, undef, undef, undef, undef, undef, undef, undef, undef, undef, undef, undef, undef, undef, undef, undef, undef]) _ (x_load (.int .u64 (uv g')) rfl rfl (bkCell (HS.get (.tail _ (.tail _ (.head _)))) 1 _ rfl) (by rfl)) rfl ?_
    refine p_run (l' := _) _ (x_cmp (k := .u64) (m := (uv g)) (n := (uv g')) .eql false rfl rfl rfl ((uv_eq g g').trans (decide_eq_false hg)) rfl) rfl ?_
    refine p_run (l' := _) _ (x_move (.bool false) rfl rfl) rfl ?_
    refine p_off (l' := _) (by rw [hops23]; rfl) rfl ?_
    refine p_off (l' := [.agg [.int .u64 (uv g), .int .u64 (uv g')].toArray, .agg ((nums .u8 (a.map bv))).toArray, .agg ((nums .u8 (b.map bv))).toArray, .pointer (some ⟨g5, 0, none⟩), .pointer (some ⟨g8, 0, none⟩), .pointer (some ⟨g11, 0, none⟩), .bool false, undef, undef, .bool true, .bool false, .pointer (some ⟨g5, 0, none⟩), .int .u64 (uv g), .pointer (some ⟨g5, 1, none⟩), .int .u64 (uv g'), .bool false, .bool false, undef, undef, undef, undef, undef, undef, undef, undef, undef, undef, undef, undef, undef, undef, undef, undef, undef, undef, undef, undef, undef, undef, undef, undef, undef, undef, undef, undef, undef, undef, undef, undef, undef]) (by rw [hops23]; rfl) rfl ?_
    refine p_off (l' := _) (by rw [hops23]; rfl) rfl ?_
    refine p_run (l' := _) _ (x_pick false (undef) (.bool false) (.bool false) rfl rfl rfl rfl rfl) rfl ?_
    refine p_run (l' := _) _ (x_assign (.bool false) rfl rfl) rfl ?_
    clear hops23
    refine wpList_nil ?_
    refine fr_at (l' := [.agg [.int .u64 (uv g), .int .u64 (uv g')].toArray, .agg ((nums .u8 (a.map bv))).toArray, .agg ((nums .u8 (b.map bv))).toArray, .pointer (some ⟨g5, 0, none⟩), .pointer (some ⟨g8, 0, none⟩), .pointer (some ⟨g11, 0, none⟩), .bool false, .bool false, undef, .bool true, .bool false, .pointer (some ⟨g5, 0, none⟩), .int .u64 (uv g), .pointer (some ⟨g5, 1, none⟩), .int .u64 (uv g'), .bool false, .bool false, undef, undef, undef, .bool false, undef, undef, undef, undef, undef, undef, undef, undef, undef, undef, undef, undef, undef, undef, undef, undef, undef, undef, undef, undef, undef, undef, undef, undef, undef, undef, undef, undef, undef]) rfl ?_
    refine hK22 _ _ ?_
    refine wp_seq_k (fun K25 hK26 => ?_)
    refine c_region (fun ops28 hops27 => ?_)
    clear hops27
    refine p_run (l' := _) _ (x_loads ((nums .u8 (a.map bv))) 240 rfl rfl (bkCells (HS.get (.tail _ (.head _))) 0 _ (whole _)) (by rfl) (by kernel_rfl) (by simp [List.length_map, ha, nums_length])) rfl ?_
    refine w_call [.agg ((nums .u8 (a.map bv))).toArray] Try.func15 (by kernel_rfl) (by rfl) rfl ?_
    refine (tused_any HS a ha).mono ?_
    clear HS
    rintro e w29 ⟨rfl, HS⟩
    refine ⟨_, rfl, ?_⟩
    refine p_run (l' := _) _ (x_assign (.int .i64 (usN a : Int)) rfl rfl) rfl ?_
    refine wpList_nil ?_
    refine fr_at (l' := [.agg [.int .u64 (uv g), .int .u64 (uv g')].toArray, .agg ((nums .u8 (a.map bv))).toArray, .agg ((nums .u8 (b.map bv))).toArray, .pointer (some ⟨g5, 0, none⟩), .pointer (some ⟨g8, 0, none⟩), .pointer (some ⟨g11, 0, none⟩), .bool false, .bool false, .int .i64 (usN a : Int), .bool true, .bool false, .pointer (some ⟨g5, 0, none⟩), .int .u64 (uv g), .pointer (some ⟨g5, 1, none⟩), .int .u64 (uv g'), .bool false, .bool false, undef, undef, undef, .bool false, .agg ((nums .u8 (a.map bv))).toArray, .int .i64 (usN a : Int), undef, undef, undef, undef, undef, undef, undef, undef, undef, undef, undef, undef, undef, undef, undef, undef, undef, undef, undef, undef, undef, undef, undef, undef, undef, undef, undef]) rfl ?_
    refine hK26 _ _ ?_
    refine wp_seq_k (fun K30 hK31 => ?_)
    refine free_frame (n := 28) (T := _) [0, 1, 0, 7, 0, 16, 0, 127, 255, 0, 1023, 2047, 4095, 8191, 16383, 32767, 65535, 131071, 262143, 524287, 1048575, 2097151, 1048575, 1048575, 13631487, 33554431, 67108863, 134217727] [(0, 23), (1, 24), (2, 25), (3, 26), (4, 27), (5, 28), (6, 29), (7, 30), (8, 31), (9, 32), (10, 33), (11, 34), (12, 35), (13, 36), (14, 37), (15, 38), (16, 39), (17, 40), (18, 41), (19, 42), (20, 43), (21, 44), (22, 45), (23, 46), (24, 47), (25, 48), (26, 49), (27, 6)] (fun bq_ vq_ w_ => qv ((fun i_ => match i_ with | 0 => some (.pointer (some ⟨g5, 0, none⟩)) | 1 => some (.int .u64 (uv g)) | 2 => some (.agg ((nums .u8 (a.map bv))).toArray) | 4 => some (.pointer (some ⟨g5, 1, none⟩)) | 5 => some (.int .u64 (uv g')) | 6 => some (.agg ((nums .u8 (b.map bv))).toArray) | 8 => some (.bool false) | 9 => some (.bool false) | 10 => some (.bool true) | 11 => some (.bool true) | 12 => some (.int .i64 (usN a : Int)) | 13 => some (.bool true) | 14 => some (.bool true) | 15 => some (.bool true) | 16 => some (.int .i64 (usN a : Int)) | 17 => some (.bool true) | 18 => some (.bool true) | 19 => some (.bool true) | 20 => some (.int .i64 (usN a : Int)) | 21 => some (.bool (decide (a = zB))) | 22 => some (.agg ((nums .u8 (a.map bv))).toArray) | 23 => some (.agg ((nums .u8 (zB.map bv))).toArray) | 24 => some (.bool (decide (a = zB))) | 25 => some (.bool true) | 26 => some (.bool true) | 27 => some (.bool true) | _ => none) : Nat → Option Value) bq_ vq_ ∧ cond (bq_ 7) (vq_ 3 = .agg ((nums .u8 ((tlB g a).map bv))).toArray ∧ vq_ 7 = .agg ((nums .u8 ((tlB g' b).map bv))).toArray ∧ St w (fun _ => False) w_ ([blk g11 ((nums .u8 (b.map bv))) 23, blk g8 ((nums .u8 (a.map bv))) 23, blk g5 [.int .u64 (uv g), .int .u64 (uv g')] 34])) (cond (bq_ 3) (vq_ 3 = .agg ((nums .u8 ((tlB g a).map bv))).toArray ∧ St w (fun _ => False) w_ ([blk g11 ((nums .u8 (b.map bv))) 23, blk g8 ((nums .u8 (a.map bv))) 23, blk g5 [.int .u64 (uv g), .int .u64 (uv g')] 34])) ((St w (fun _ => False) w_ ([blk g11 ((nums .u8 (b.map bv))) 23, blk g8 ((nums .u8 (a.map bv))) 23, blk g5 [.int .u64 (uv g), .int .u64 (uv g')] 34]))))) (by kernel_rfl) rfl rfl (by kernel_rfl) (by kernel_rfl) rfl (by kernel_rfl) (by kernel_rfl) ⟨qv_none, HS.draw⟩ ?_ ?_
    · clear HS
      intro i_ hi_ bq_ vq_ a_ w_ hG hb_ hon hoff hfr hel hval
      obtain ⟨hV, hE⟩ := hG
      have hi_ := List.mem_range.1 hi_
      have hcs : i_ = 0 ∨ i_ = 1 ∨ i_ = 2 ∨ i_ = 3 ∨ i_ = 4 ∨ i_ = 5 ∨ i_ = 6 ∨ i_ = 7 ∨ i_ = 8 ∨ i_ = 9 ∨ i_ = 10 ∨ i_ = 11 ∨ i_ = 12 ∨ i_ = 13 ∨ i_ = 14 ∨ i_ = 15 ∨ i_ = 16 ∨ i_ = 17 ∨ i_ = 18 ∨ i_ = 19 ∨ i_ = 20 ∨ i_ = 21 ∨ i_ = 22 ∨ i_ = 23 ∨ i_ = 24 ∨ i_ = 25 ∨ i_ = 26 ∨ i_ = 27 := by omega
      rcases hcs with rfl | rfl | rfl | rfl | rfl | rfl | rfl | rfl | rfl | rfl | rfl | rfl | rfl | rfl | rfl | rfl | rfl | rfl | rfl | rfl | rfl | rfl | rfl | rfl | rfl | rfl | rfl | rfl
      · have h3 : a_.tmps[3]? = some (.pointer (some ⟨g5, 0, none⟩)) := (hel 3 (by decide)).trans rfl
        obtain ⟨l_, rfl⟩ := hfr
        have e3 : evl l_ (.tmp 3) = .pointer (some ⟨g5, 0, none⟩) := evl_of h3
        refine ⟨_, rfl, fun K_ hK_ => wp_of_list rfl ?_⟩
        intro ops_
        refine p_run (l' := _) _ (x_indexArr (sz := 1) (j := 0) rfl e3 rfl Try.underlying34 (by kernel_rfl) (by omega) rfl) rfl ?_
        refine wpList_nil ?_
        exact norm_put (hK_ (.pointer (some ⟨g5, 0, none⟩)) _ ⟨qv_up hV (fun _ h => Option.some.inj h), hE⟩)
      · have h23 : a_.tmps[23]? = some (.pointer (some ⟨g5, 0, none⟩)) := (hval (0, 23) (by decide) (hon 0 (by decide))).trans (congrArg some (hV 0 _ rfl (hon 0 (by decide))))
        obtain ⟨l_, rfl⟩ := hfr
        have hE0 := hE
        rw [show bq_ 7 = false from (hoff 7 (by decide))] at hE0
        rw [show bq_ 3 = false from (hoff 3 (by decide))] at hE0
        simp only [cond_true, cond_false] at hE0
        have HS := hE0
        have e23 : evl l_ (.tmp 23) = .pointer (some ⟨g5, 0, none⟩) := evl_of h23
        refine ⟨_, rfl, fun K_ hK_ => wp_of_list rfl ?_⟩
        intro ops_
        refine p_run (l' := _) _ (x_load (.int .u64 (uv g)) rfl e23 (bkCell (HS.get (.tail _ (.tail _ (.head _)))) 0 _ rfl) (by rfl)) rfl ?_
        refine wpList_nil ?_
        exact norm_put (hK_ (.int .u64 (uv g)) _ ⟨qv_up hV (fun _ h => Option.some.inj h), hE⟩)
      · have h4 : a_.tmps[4]? = some (.pointer (some ⟨g8, 0, none⟩)) := (hel 4 (by decide)).trans rfl
        obtain ⟨l_, rfl⟩ := hfr
        have hE0 := hE
        rw [show bq_ 7 = false from (hoff 7 (by decide))] at hE0
        rw [show bq_ 3 = false from (hoff 3 (by decide))] at hE0
        simp only [cond_true, cond_false] at hE0
        have HS := hE0
        have e4 : evl l_ (.tmp 4) = .pointer (some ⟨g8, 0, none⟩) := evl_of h4
        refine ⟨_, rfl, fun K_ hK_ => wp_of_list rfl ?_⟩
        intro ops_
        refine p_run (l' := _) _ (x_loads ((nums .u8 (a.map bv))) 240 rfl e4 (bkCells (HS.get (.tail _ (.head _))) 0 _ (whole _)) (by rfl) (by kernel_rfl) (by simp [List.length_map, ha, nums_length])) rfl ?_
        refine wpList_nil ?_
        exact norm_put (hK_ (.agg ((nums .u8 (a.map bv))).toArray) _ ⟨qv_up hV (fun _ h => Option.some.inj h), hE⟩)
      · have h24 : a_.tmps[24]? = some (.int .u64 (uv g)) := (hval (1, 24) (by decide) (hon 1 (by decide))).trans (congrArg some (hV 1 _ rfl (hon 1 (by decide))))
        have h25 : a_.tmps[25]? = some (.agg ((nums .u8 (a.map bv))).toArray) := (hval (2, 25) (by decide) (hon 2 (by decide))).trans (congrArg some (hV 2 _ rfl (hon 2 (by decide))))
        obtain ⟨l_, rfl⟩ := hfr
        have hE0 := hE
        rw [show bq_ 7 = false from (hoff 7 (by decide))] at hE0
        rw [show bq_ 3 = false from hb_] at hE0
        simp only [cond_true, cond_false] at hE0
        have HS := hE0
        have e24 : evl l_ (.tmp 24) = .int .u64 (uv g) := evl_of h24
        have e25 : evl l_ (.tmp 25) = .agg ((nums .u8 (a.map bv))).toArray := evl_of h25
        refine ⟨_, rfl, fun K_ hK_ => wp_of_list rfl ?_⟩
        intro ops_
        refine w_call [.int .u64 (uv g), .agg ((nums .u8 (a.map bv))).toArray] Try.func13 (by kernel_rfl) (by rfl) (by simp [e24, e25]) ?_
        refine (tpage_any HS g a ha).mono ?_
        clear HS
        rintro e w9301 ⟨rfl, HS⟩
        refine ⟨_, rfl, ?_⟩
        refine wpList_nil ?_
        refine norm_put (hK_ (.agg ((nums .u8 ((tlB g a).map bv))).toArray) _ ⟨qv_up hV (by intro _ h; cases h), ?_⟩)
        show cond (bq_ 7) _ _
        rw [show bq_ 7 = false from hoff 7 (by decide), cond_false]
        show cond true _ _
        rw [cond_true]
        exact ⟨rfl, (((HS.front 2 rfl).front 2 rfl).front 2 rfl)⟩
      · have h3 : a_.tmps[3]? = some (.pointer (some ⟨g5, 0, none⟩)) := (hel 3 (by decide)).trans rfl
        obtain ⟨l_, rfl⟩ := hfr
        have e3 : evl l_ (.tmp 3) = .pointer (some ⟨g5, 0, none⟩) := evl_of h3
        refine ⟨_, rfl, fun K_ hK_ => wp_of_list rfl ?_⟩
        intro ops_
        refine p_run (l' := _) _ (x_indexArr (sz := 1) (j := 1) rfl e3 rfl Try.underlying34 (by kernel_rfl) (by omega) rfl) rfl ?_
        refine wpList_nil ?_
        exact norm_put (hK_ (.pointer (some ⟨g5, 1, none⟩)) _ ⟨qv_up hV (fun _ h => Option.some.inj h), hE⟩)
      · have h27 : a_.tmps[27]? = some (.pointer (some ⟨g5, 1, none⟩)) := (hval (4, 27) (by decide) (hon 4 (by decide))).trans (congrArg some (hV 4 _ rfl (hon 4 (by decide))))
        obtain ⟨l_, rfl⟩ := hfr
        rcases hq3 : bq_ 3 with _ | _
        · have hE0 := hE
          rw [show bq_ 7 = false from (hoff 7 (by decide))] at hE0
          rw [show bq_ 3 = false from hq3] at hE0
          simp only [cond_true, cond_false] at hE0
          have HS := hE0
          have e27 : evl l_ (.tmp 27) = .pointer (some ⟨g5, 1, none⟩) := evl_of h27
          refine ⟨_, rfl, fun K_ hK_ => wp_of_list rfl ?_⟩
          intro ops_
          refine p_run (l' := _) _ (x_load (.int .u64 (uv g')) rfl e27 (bkCell (HS.get (.tail _ (.tail _ (.head _)))) 1 _ rfl) (by rfl)) rfl ?_
          refine wpList_nil ?_
          exact norm_put (hK_ (.int .u64 (uv g')) _ ⟨qv_up hV (fun _ h => Option.some.inj h), hE⟩)
        · skip
          have hE0 := hE
          rw [show bq_ 7 = false from (hoff 7 (by decide))] at hE0
          rw [show bq_ 3 = true from hq3] at hE0
          simp only [cond_true, cond_false] at hE0
          obtain ⟨hv3, HS⟩ := hE0
          have e27 : evl l_ (.tmp 27) = .pointer (some ⟨g5, 1, none⟩) := evl_of h27
          refine ⟨_, rfl, fun K_ hK_ => wp_of_list rfl ?_⟩
          intro ops_
          refine p_run (l' := _) _ (x_load (.int .u64 (uv g')) rfl e27 (bkCell (HS.get (.tail _ (.tail _ (.head _)))) 1 _ rfl) (by rfl)) rfl ?_
          refine wpList_nil ?_
          exact norm_put (hK_ (.int .u64 (uv g')) _ ⟨qv_up hV (fun _ h => Option.some.inj h), hE⟩)
      · have h5 : a_.tmps[5]? = some (.pointer (some ⟨g11, 0, none⟩)) := (hel 5 (by decide)).trans rfl
        obtain ⟨l_, rfl⟩ := hfr
        rcases hq3 : bq_ 3 with _ | _
        · have hE0 := hE
          rw [show bq_ 7 = false from (hoff 7 (by decide))] at hE0
          rw [show bq_ 3 = false from hq3] at hE0
          simp only [cond_true, cond_false] at hE0
          have HS := hE0
          have e5 : evl l_ (.tmp 5) = .pointer (some ⟨g11, 0, none⟩) := evl_of h5
          refine ⟨_, rfl, fun K_ hK_ => wp_of_list rfl ?_⟩
          intro ops_
          refine p_run (l' := _) _ (x_loads ((nums .u8 (b.map bv))) 240 rfl e5 (bkCells (HS.get (.head _)) 0 _ (whole _)) (by rfl) (by kernel_rfl) (by simp [List.length_map, hb, nums_length])) rfl ?_
          refine wpList_nil ?_
          exact norm_put (hK_ (.agg ((nums .u8 (b.map bv))).toArray) _ ⟨qv_up hV (fun _ h => Option.some.inj h), hE⟩)
        · skip
          have hE0 := hE
          rw [show bq_ 7 = false from (hoff 7 (by decide))] at hE0
          rw [show bq_ 3 = true from hq3] at hE0
          simp only [cond_true, cond_false] at hE0
          obtain ⟨hv3, HS⟩ := hE0
          have e5 : evl l_ (.tmp 5) = .pointer (some ⟨g11, 0, none⟩) := evl_of h5
          refine ⟨_, rfl, fun K_ hK_ => wp_of_list rfl ?_⟩
          intro ops_
          refine p_run (l' := _) _ (x_loads ((nums .u8 (b.map bv))) 240 rfl e5 (bkCells (HS.get (.head _)) 0 _ (whole _)) (by rfl) (by kernel_rfl) (by simp [List.length_map, hb, nums_length])) rfl ?_
          refine wpList_nil ?_
          exact norm_put (hK_ (.agg ((nums .u8 (b.map bv))).toArray) _ ⟨qv_up hV (fun _ h => Option.some.inj h), hE⟩)
      · have h28 : a_.tmps[28]? = some (.int .u64 (uv g')) := (hval (5, 28) (by decide) (hon 5 (by decide))).trans (congrArg some (hV 5 _ rfl (hon 5 (by decide))))
        have h29 : a_.tmps[29]? = some (.agg ((nums .u8 (b.map bv))).toArray) := (hval (6, 29) (by decide) (hon 6 (by decide))).trans (congrArg some (hV 6 _ rfl (hon 6 (by decide))))
        obtain ⟨l_, rfl⟩ := hfr
        have hE0 := hE
        rw [show bq_ 7 = false from hb_] at hE0
        rw [show bq_ 3 = true from (hon 3 (by decide))] at hE0
        simp only [cond_true, cond_false] at hE0
        obtain ⟨hv3, HS⟩ := hE0
        have e28 : evl l_ (.tmp 28) = .int .u64 (uv g') := evl_of h28
        have e29 : evl l_ (.tmp 29) = .agg ((nums .u8 (b.map bv))).toArray := evl_of h29
        refine ⟨_, rfl, fun K_ hK_ => wp_of_list rfl ?_⟩
        intro ops_
        refine w_call [.int .u64 (uv g'), .agg ((nums .u8 (b.map bv))).toArray] Try.func13 (by kernel_rfl) (by rfl) (by simp [e28, e29]) ?_
        refine (tpage_any HS g' b hb).mono ?_
        clear HS
        rintro e w9701 ⟨rfl, HS⟩
        refine ⟨_, rfl, ?_⟩
        refine wpList_nil ?_
        refine norm_put (hK_ (.agg ((nums .u8 ((tlB g' b).map bv))).toArray) _ ⟨qv_up hV (by intro _ h; cases h), ?_⟩)
        show cond true _ _
        rw [cond_true]
        exact ⟨hv3, rfl, (((HS.front 2 rfl).front 2 rfl).front 2 rfl)⟩
      · have h26 := hval (3, 26) (by decide) (hon 3 (by decide))
        have h30 := hval (7, 30) (by decide) (hon 7 (by decide))
        obtain ⟨l_, rfl⟩ := hfr
        have hE0 := hE
        rw [show bq_ 7 = true from (hon 7 (by decide))] at hE0
        simp only [cond_true, cond_false] at hE0
        obtain ⟨hv3, hv7, HS⟩ := hE0
        rw [hv3] at h26
        rw [hv7] at h30
        have e26 : evl l_ (.tmp 26) = .agg ((nums .u8 ((tlB g a).map bv))).toArray := evl_of h26
        have e30 : evl l_ (.tmp 30) = .agg ((nums .u8 ((tlB g' b).map bv))).toArray := evl_of h30
        refine ⟨_, rfl, fun K_ hK_ => wp_of_list rfl ?_⟩
        intro ops_
        refine p_run (l' := _) _ (x_eq .eql (.agg ((nums .u8 ((tlB g a).map bv))).toArray) (.agg ((nums .u8 ((tlB g' b).map bv))).toArray) (decide (((tlB g a).map bv) = ((tlB g' b).map bv))) false rfl e26 e30 (equal_nums Try.underlying27 Try.underlying5 (by kernel_rfl) (by kernel_rfl) _ _ (by simp [List.length_map, (tlB_length g ha)]) (by simp [List.length_map, (tlB_length g' hb)])) ((apart_eq ha hb).trans (decide_eq_false hbo)) rfl (guard_agg (by kernel_rfl)) (guard_agg (by kernel_rfl))) rfl ?_
        refine wpList_nil ?_
        exact norm_put (hK_ (.bool false) _ ⟨qv_up hV (fun _ h => Option.some.inj h), hE⟩)
      · have h7 : a_.tmps[7]? = some (.bool false) := (hel 7 (by decide)).trans rfl
        obtain ⟨l_, rfl⟩ := hfr
        have e7 : evl l_ (.tmp 7) = .bool false := evl_of h7
        refine ⟨_, rfl, fun K_ hK_ => wp_of_list rfl ?_⟩
        intro ops_
        refine p_run (l' := _) _ (x_move (.bool false) rfl e7) rfl ?_
        refine wpList_nil ?_
        exact norm_put (hK_ (.bool false) _ ⟨qv_up hV (fun _ h => Option.some.inj h), hE⟩)
      · have h31 : a_.tmps[31]? = some (.bool false) := (hval (8, 31) (by decide) (hon 8 (by decide))).trans (congrArg some (hV 8 _ rfl (hon 8 (by decide))))
        have h32 : a_.tmps[32]? = some (.bool false) := (hval (9, 32) (by decide) (hon 9 (by decide))).trans (congrArg some (hV 9 _ rfl (hon 9 (by decide))))
        obtain ⟨l_, rfl⟩ := hfr
        have e31 : evl l_ (.tmp 31) = .bool false := evl_of h31
        have e32 : evl l_ (.tmp 32) = .bool false := evl_of h32
        refine ⟨_, rfl, fun K_ hK_ => wp_of_list rfl ?_⟩
        intro ops_
        refine p_run (l' := _) _ (x_boolcmp .eql false false true rfl e31 e32 Try.underlying4 rfl rfl) rfl ?_
        refine wpList_nil ?_
        exact norm_put (hK_ (.bool true) _ ⟨qv_up hV (fun _ h => Option.some.inj h), hE⟩)
      · have h33 : a_.tmps[33]? = some (.bool true) := (hval (10, 33) (by decide) (hon 10 (by decide))).trans (congrArg some (hV 10 _ rfl (hon 10 (by decide))))
        obtain ⟨l_, rfl⟩ := hfr
        have e33 : evl l_ (.tmp 33) = .bool true := evl_of h33
        refine ⟨_, rfl, fun K_ hK_ => wp_of_list rfl ?_⟩
        intro ops_
        refine p_run (l' := _) _ (x_move (.bool true) rfl e33) rfl ?_
        refine wpList_nil ?_
        exact norm_put (hK_ (.bool true) _ ⟨qv_up hV (fun _ h => Option.some.inj h), hE⟩)
      · have h8 : a_.tmps[8]? = some (.int .i64 (usN a : Int)) := (hel 8 (by decide)).trans rfl
        have h34 : a_.tmps[34]? = some (.bool true) := (hval (11, 34) (by decide) (hon 11 (by decide))).trans (congrArg some (hV 11 _ rfl (hon 11 (by decide))))
        obtain ⟨l_, rfl⟩ := hfr
        have e8 : evl l_ (.tmp 8) = .int .i64 (usN a : Int) := evl_of h8
        have e34 : evl l_ (.tmp 34) = .bool true := evl_of h34
        refine ⟨_, rfl, fun K_ hK_ => wp_of_listG rfl (wanted_on (t := 34) rfl rfl rfl h34) ?_⟩
        intro ops_
        refine p_run (l' := _) _ (x_move (.int .i64 (usN a : Int)) rfl e8) rfl ?_
        refine wpList_nil ?_
        exact norm_put (hK_ (.int .i64 (usN a : Int)) _ ⟨qv_up hV (fun _ h => Option.some.inj h), hE⟩)
      · have h34 : a_.tmps[34]? = some (.bool true) := (hval (11, 34) (by decide) (hon 11 (by decide))).trans (congrArg some (hV 11 _ rfl (hon 11 (by decide))))
        have h35 : a_.tmps[35]? = some (.int .i64 (usN a : Int)) := (hval (12, 35) (by decide) (hon 12 (by decide))).trans (congrArg some (hV 12 _ rfl (hon 12 (by decide))))
        obtain ⟨l_, rfl⟩ := hfr
        have e34 : evl l_ (.tmp 34) = .bool true := evl_of h34
        have e35 : evl l_ (.tmp 35) = .int .i64 (usN a : Int) := evl_of h35
        refine ⟨_, rfl, fun K_ hK_ => wp_of_listG rfl (wanted_on (t := 34) rfl rfl rfl h34) ?_⟩
        intro ops_
        refine p_run (l' := _) _ (x_cmp (k := .i64) (m := (usN a : Int)) (n := 0) .geq true rfl e35 rfl (show decide ((usN a : Int) ≥ 0) = true from decide_eq_true (by omega)) rfl) rfl ?_
        refine wpList_nil ?_
        exact norm_put (hK_ (.bool true) _ ⟨qv_up hV (fun _ h => Option.some.inj h), hE⟩)
      · have h34 : a_.tmps[34]? = some (.bool true) := (hval (11, 34) (by decide) (hon 11 (by decide))).trans (congrArg some (hV 11 _ rfl (hon 11 (by decide))))
        have h36 : a_.tmps[36]? = some (.bool true) := (hval (13, 36) (by decide) (hon 13 (by decide))).trans (congrArg some (hV 13 _ rfl (hon 13 (by decide))))
        obtain ⟨l_, rfl⟩ := hfr
        have e34 : evl l_ (.tmp 34) = .bool true := evl_of h34
        have e36 : evl l_ (.tmp 36) = .bool true := evl_of h36
        refine ⟨_, rfl, fun K_ hK_ => wp_of_list rfl ?_⟩
        intro ops_
        refine p_run (l' := _) _ (x_pick true (.bool true) (.bool false) (.bool true) rfl e34 e36 rfl rfl) rfl ?_
        refine wpList_nil ?_
        exact norm_put (hK_ (.bool true) _ ⟨qv_up hV (fun _ h => Option.some.inj h), hE⟩)
      · have h37 : a_.tmps[37]? = some (.bool true) := (hval (14, 37) (by decide) (hon 14 (by decide))).trans (congrArg some (hV 14 _ rfl (hon 14 (by decide))))
        obtain ⟨l_, rfl⟩ := hfr
        have e37 : evl l_ (.tmp 37) = .bool true := evl_of h37
        refine ⟨_, rfl, fun K_ hK_ => wp_of_list rfl ?_⟩
        intro ops_
        refine p_run (l' := _) _ (x_move (.bool true) rfl e37) rfl ?_
        refine wpList_nil ?_
        exact norm_put (hK_ (.bool true) _ ⟨qv_up hV (fun _ h => Option.some.inj h), hE⟩)
      · have h8 : a_.tmps[8]? = some (.int .i64 (usN a : Int)) := (hel 8 (by decide)).trans rfl
        have h38 : a_.tmps[38]? = some (.bool true) := (hval (15, 38) (by decide) (hon 15 (by decide))).trans (congrArg some (hV 15 _ rfl (hon 15 (by decide))))
        obtain ⟨l_, rfl⟩ := hfr
        have e8 : evl l_ (.tmp 8) = .int .i64 (usN a : Int) := evl_of h8
        have e38 : evl l_ (.tmp 38) = .bool true := evl_of h38
        refine ⟨_, rfl, fun K_ hK_ => wp_of_listG rfl (wanted_on (t := 38) rfl rfl rfl h38) ?_⟩
        intro ops_
        refine p_run (l' := _) _ (x_move (.int .i64 (usN a : Int)) rfl e8) rfl ?_
        refine wpList_nil ?_
        exact norm_put (hK_ (.int .i64 (usN a : Int)) _ ⟨qv_up hV (fun _ h => Option.some.inj h), hE⟩)
      · have h38 : a_.tmps[38]? = some (.bool true) := (hval (15, 38) (by decide) (hon 15 (by decide))).trans (congrArg some (hV 15 _ rfl (hon 15 (by decide))))
        have h39 : a_.tmps[39]? = some (.int .i64 (usN a : Int)) := (hval (16, 39) (by decide) (hon 16 (by decide))).trans (congrArg some (hV 16 _ rfl (hon 16 (by decide))))
        obtain ⟨l_, rfl⟩ := hfr
        have e38 : evl l_ (.tmp 38) = .bool true := evl_of h38
        have e39 : evl l_ (.tmp 39) = .int .i64 (usN a : Int) := evl_of h39
        refine ⟨_, rfl, fun K_ hK_ => wp_of_listG rfl (wanted_on (t := 38) rfl rfl rfl h38) ?_⟩
        intro ops_
        refine p_run (l' := _) _ (x_cmp (k := .i64) (m := (usN a : Int)) (n := 240) .leq true rfl e39 rfl (show decide ((usN a : Int) ≤ 240) = true from decide_eq_true (by omega)) rfl) rfl ?_
        refine wpList_nil ?_
        exact norm_put (hK_ (.bool true) _ ⟨qv_up hV (fun _ h => Option.some.inj h), hE⟩)
      · have h38 : a_.tmps[38]? = some (.bool true) := (hval (15, 38) (by decide) (hon 15 (by decide))).trans (congrArg some (hV 15 _ rfl (hon 15 (by decide))))
        have h40 : a_.tmps[40]? = some (.bool true) := (hval (17, 40) (by decide) (hon 17 (by decide))).trans (congrArg some (hV 17 _ rfl (hon 17 (by decide))))
        obtain ⟨l_, rfl⟩ := hfr
        have e38 : evl l_ (.tmp 38) = .bool true := evl_of h38
        have e40 : evl l_ (.tmp 40) = .bool true := evl_of h40
        refine ⟨_, rfl, fun K_ hK_ => wp_of_list rfl ?_⟩
        intro ops_
        refine p_run (l' := _) _ (x_pick true (.bool true) (.bool false) (.bool true) rfl e38 e40 rfl rfl) rfl ?_
        refine wpList_nil ?_
        exact norm_put (hK_ (.bool true) _ ⟨qv_up hV (fun _ h => Option.some.inj h), hE⟩)
      · have h41 : a_.tmps[41]? = some (.bool true) := (hval (18, 41) (by decide) (hon 18 (by decide))).trans (congrArg some (hV 18 _ rfl (hon 18 (by decide))))
        obtain ⟨l_, rfl⟩ := hfr
        have e41 : evl l_ (.tmp 41) = .bool true := evl_of h41
        refine ⟨_, rfl, fun K_ hK_ => wp_of_list rfl ?_⟩
        intro ops_
        refine p_run (l' := _) _ (x_move (.bool true) rfl e41) rfl ?_
        refine wpList_nil ?_
        exact norm_put (hK_ (.bool true) _ ⟨qv_up hV (fun _ h => Option.some.inj h), hE⟩)
      · have h8 : a_.tmps[8]? = some (.int .i64 (usN a : Int)) := (hel 8 (by decide)).trans rfl
        have h42 : a_.tmps[42]? = some (.bool true) := (hval (19, 42) (by decide) (hon 19 (by decide))).trans (congrArg some (hV 19 _ rfl (hon 19 (by decide))))
        obtain ⟨l_, rfl⟩ := hfr
        have e8 : evl l_ (.tmp 8) = .int .i64 (usN a : Int) := evl_of h8
        have e42 : evl l_ (.tmp 42) = .bool true := evl_of h42
        refine ⟨_, rfl, fun K_ hK_ => wp_of_listG rfl (wanted_on (t := 42) rfl rfl rfl h42) ?_⟩
        intro ops_
        refine p_run (l' := _) _ (x_move (.int .i64 (usN a : Int)) rfl e8) rfl ?_
        refine wpList_nil ?_
        exact norm_put (hK_ (.int .i64 (usN a : Int)) _ ⟨qv_up hV (fun _ h => Option.some.inj h), hE⟩)
      · have h42 : a_.tmps[42]? = some (.bool true) := (hval (19, 42) (by decide) (hon 19 (by decide))).trans (congrArg some (hV 19 _ rfl (hon 19 (by decide))))
        have h43 : a_.tmps[43]? = some (.int .i64 (usN a : Int)) := (hval (20, 43) (by decide) (hon 20 (by decide))).trans (congrArg some (hV 20 _ rfl (hon 20 (by decide))))
        obtain ⟨l_, rfl⟩ := hfr
        have e42 : evl l_ (.tmp 42) = .bool true := evl_of h42
        have e43 : evl l_ (.tmp 43) = .int .i64 (usN a : Int) := evl_of h43
        refine ⟨_, rfl, fun K_ hK_ => wp_of_listG rfl (wanted_on (t := 42) rfl rfl rfl h42) ?_⟩
        intro ops_
        refine p_run (l' := _) _ (x_cmp (k := .i64) (m := (usN a : Int)) (n := 0) .eql (decide (a = zB)) rfl e43 rfl (us_eq ha) rfl) rfl ?_
        refine wpList_nil ?_
        exact norm_put (hK_ (.bool (decide (a = zB))) _ ⟨qv_up hV (fun _ h => Option.some.inj h), hE⟩)
      · have h4 : a_.tmps[4]? = some (.pointer (some ⟨g8, 0, none⟩)) := (hel 4 (by decide)).trans rfl
        have h42 : a_.tmps[42]? = some (.bool true) := (hval (19, 42) (by decide) (hon 19 (by decide))).trans (congrArg some (hV 19 _ rfl (hon 19 (by decide))))
        obtain ⟨l_, rfl⟩ := hfr
        have hE0 := hE
        rw [show bq_ 7 = true from (hon 7 (by decide))] at hE0
        simp only [cond_true, cond_false] at hE0
        obtain ⟨hv3, hv7, HS⟩ := hE0
        have e4 : evl l_ (.tmp 4) = .pointer (some ⟨g8, 0, none⟩) := evl_of h4
        have e42 : evl l_ (.tmp 42) = .bool true := evl_of h42
        refine ⟨_, rfl, fun K_ hK_ => wp_of_listG rfl (wanted_on (t := 42) rfl rfl rfl h42) ?_⟩
        intro ops_
        refine p_run (l' := _) _ (x_loads ((nums .u8 (a.map bv))) 240 rfl e4 (bkCells (HS.get (.tail _ (.head _))) 0 _ (whole _)) (by rfl) (by kernel_rfl) (by simp [List.length_map, ha, nums_length])) rfl ?_
        refine wpList_nil ?_
        exact norm_put (hK_ (.agg ((nums .u8 (a.map bv))).toArray) _ ⟨qv_up hV (fun _ h => Option.some.inj h), hE⟩)
      · have h42 : a_.tmps[42]? = some (.bool true) := (hval (19, 42) (by decide) (hon 19 (by decide))).trans (congrArg some (hV 19 _ rfl (hon 19 (by decide))))
        obtain ⟨l_, rfl⟩ := hfr
        have e42 : evl l_ (.tmp 42) = .bool true := evl_of h42
        refine ⟨_, rfl, fun K_ hK_ => wp_of_listG rfl (wanted_on (t := 42) rfl rfl rfl h42) ?_⟩
        intro ops_
        refine p_run (l' := _) _ (x_build ((nums .u8 (zB.map bv))) rfl (by kernel_rfl)) rfl ?_
        refine wpList_nil ?_
        exact norm_put (hK_ (.agg ((nums .u8 (zB.map bv))).toArray) _ ⟨qv_up hV (fun _ h => Option.some.inj h), hE⟩)
      · have h42 : a_.tmps[42]? = some (.bool true) := (hval (19, 42) (by decide) (hon 19 (by decide))).trans (congrArg some (hV 19 _ rfl (hon 19 (by decide))))
        have h45 : a_.tmps[45]? = some (.agg ((nums .u8 (a.map bv))).toArray) := (hval (22, 45) (by decide) (hon 22 (by decide))).trans (congrArg some (hV 22 _ rfl (hon 22 (by decide))))
        have h46 : a_.tmps[46]? = some (.agg ((nums .u8 (zB.map bv))).toArray) := (hval (23, 46) (by decide) (hon 23 (by decide))).trans (congrArg some (hV 23 _ rfl (hon 23 (by decide))))
        obtain ⟨l_, rfl⟩ := hfr
        have e42 : evl l_ (.tmp 42) = .bool true := evl_of h42
        have e45 : evl l_ (.tmp 45) = .agg ((nums .u8 (a.map bv))).toArray := evl_of h45
        have e46 : evl l_ (.tmp 46) = .agg ((nums .u8 (zB.map bv))).toArray := evl_of h46
        refine ⟨_, rfl, fun K_ hK_ => wp_of_listG rfl (wanted_on (t := 42) rfl rfl rfl h42) ?_⟩
        intro ops_
        refine p_run (l' := _) _ (x_eq .eql (.agg ((nums .u8 (a.map bv))).toArray) (.agg ((nums .u8 (zB.map bv))).toArray) (decide ((a.map bv) = (zB.map bv))) (decide (a = zB)) rfl e45 e46 (equal_nums Try.underlying23 Try.underlying5 (by kernel_rfl) (by kernel_rfl) _ _ (by simp [List.length_map, ha]) (by simp [List.length_map, zB_len])) (eq_map a zB) rfl (guard_agg (by kernel_rfl)) (guard_agg (by kernel_rfl))) rfl ?_
        refine wpList_nil ?_
        exact norm_put (hK_ (.bool (decide (a = zB))) _ ⟨qv_up hV (fun _ h => Option.some.inj h), hE⟩)
      · have h42 : a_.tmps[42]? = some (.bool true) := (hval (19, 42) (by decide) (hon 19 (by decide))).trans (congrArg some (hV 19 _ rfl (hon 19 (by decide))))
        have h44 : a_.tmps[44]? = some (.bool (decide (a = zB))) := (hval (21, 44) (by decide) (hon 21 (by decide))).trans (congrArg some (hV 21 _ rfl (hon 21 (by decide))))
        have h47 : a_.tmps[47]? = some (.bool (decide (a = zB))) := (hval (24, 47) (by decide) (hon 24 (by decide))).trans (congrArg some (hV 24 _ rfl (hon 24 (by decide))))
        obtain ⟨l_, rfl⟩ := hfr
        have e42 : evl l_ (.tmp 42) = .bool true := evl_of h42
        have e44 : evl l_ (.tmp 44) = .bool (decide (a = zB)) := evl_of h44
        have e47 : evl l_ (.tmp 47) = .bool (decide (a = zB)) := evl_of h47
        refine ⟨_, rfl, fun K_ hK_ => wp_of_listG rfl (wanted_on (t := 42) rfl rfl rfl h42) ?_⟩
        intro ops_
        refine p_run (l' := _) _ (x_boolcmp .eql (decide (a = zB)) (decide (a = zB)) true rfl e44 e47 Try.underlying4 (beq_self_eq_true _) rfl) rfl ?_
        refine wpList_nil ?_
        exact norm_put (hK_ (.bool true) _ ⟨qv_up hV (fun _ h => Option.some.inj h), hE⟩)
      · have h42 : a_.tmps[42]? = some (.bool true) := (hval (19, 42) (by decide) (hon 19 (by decide))).trans (congrArg some (hV 19 _ rfl (hon 19 (by decide))))
        have h48 : a_.tmps[48]? = some (.bool true) := (hval (25, 48) (by decide) (hon 25 (by decide))).trans (congrArg some (hV 25 _ rfl (hon 25 (by decide))))
        obtain ⟨l_, rfl⟩ := hfr
        have e42 : evl l_ (.tmp 42) = .bool true := evl_of h42
        have e48 : evl l_ (.tmp 48) = .bool true := evl_of h48
        refine ⟨_, rfl, fun K_ hK_ => wp_of_list rfl ?_⟩
        intro ops_
        refine p_run (l' := _) _ (x_pick true (.bool true) (.bool false) (.bool true) rfl e42 e48 rfl rfl) rfl ?_
        refine wpList_nil ?_
        exact norm_put (hK_ (.bool true) _ ⟨qv_up hV (fun _ h => Option.some.inj h), hE⟩)
      · have h49 : a_.tmps[49]? = some (.bool true) := (hval (26, 49) (by decide) (hon 26 (by decide))).trans (congrArg some (hV 26 _ rfl (hon 26 (by decide))))
        obtain ⟨l_, rfl⟩ := hfr
        have e49 : evl l_ (.tmp 49) = .bool true := evl_of h49
        refine ⟨_, rfl, fun K_ hK_ => wp_of_list rfl ?_⟩
        intro ops_
        refine p_run (l' := _) _ (x_assign (.bool true) rfl e49) rfl ?_
        refine wpList_nil ?_
        exact norm_put (hK_ (.bool true) _ ⟨qv_up hV (fun _ h => Option.some.inj h), hE⟩)
    intro bq_ vq_ w_ hall hG
    obtain ⟨hV, hE⟩ := hG
    clear HS
    rw [show bq_ 7 = true from hall 7 (by decide)] at hE
    simp only [cond_true] at hE
    obtain ⟨hv3, hv7, HS⟩ := hE
    have hv0 := hV 0 _ rfl (hall 0 (by decide))
    have hv1 := hV 1 _ rfl (hall 1 (by decide))
    have hv2 := hV 2 _ rfl (hall 2 (by decide))
    have hv4 := hV 4 _ rfl (hall 4 (by decide))
    have hv5 := hV 5 _ rfl (hall 5 (by decide))
    have hv6 := hV 6 _ rfl (hall 6 (by decide))
    have hv8 := hV 8 _ rfl (hall 8 (by decide))
    have hv9 := hV 9 _ rfl (hall 9 (by decide))
    have hv10 := hV 10 _ rfl (hall 10 (by decide))
    have hv11 := hV 11 _ rfl (hall 11 (by decide))
    have hv12 := hV 12 _ rfl (hall 12 (by decide))
    have hv13 := hV 13 _ rfl (hall 13 (by decide))
    have hv14 := hV 14 _ rfl (hall 14 (by decide))
    have hv15 := hV 15 _ rfl (hall 15 (by decide))
    have hv16 := hV 16 _ rfl (hall 16 (by decide))
    have hv17 := hV 17 _ rfl (hall 17 (by decide))
    have hv18 := hV 18 _ rfl (hall 18 (by decide))
    have hv19 := hV 19 _ rfl (hall 19 (by decide))
    have hv20 := hV 20 _ rfl (hall 20 (by decide))
    have hv21 := hV 21 _ rfl (hall 21 (by decide))
    have hv22 := hV 22 _ rfl (hall 22 (by decide))
    have hv23 := hV 23 _ rfl (hall 23 (by decide))
    have hv24 := hV 24 _ rfl (hall 24 (by decide))
    have hv25 := hV 25 _ rfl (hall 25 (by decide))
    have hv26 := hV 26 _ rfl (hall 26 (by decide))
    have hv27 := hV 27 _ rfl (hall 27 (by decide))
    clear hV hall
    rw [putSel_fr]
    simp only [tells, List.map_cons, List.map_nil, setAll, List.set_cons_succ, List.set_cons_zero, hv0, hv1, hv2, hv3, hv4, hv5, hv6, hv7, hv8, hv9, hv10, hv11, hv12, hv13, hv14, hv15, hv16, hv17, hv18, hv19, hv20, hv21, hv22, hv23, hv24, hv25, hv26, hv27]
    clear hv0 hv1 hv2 hv3 hv4 hv5 hv6 hv7 hv8 hv9 hv10 hv11 hv12 hv13 hv14 hv15 hv16 hv17 hv18 hv19 hv20 hv21 hv22 hv23 hv24 hv25 hv26 hv27
    generalize w_ = w11201 at HS ⊢
    refine fr_at (l' := [.agg [.int .u64 (uv g), .int .u64 (uv g')].toArray, .agg ((nums .u8 (a.map bv))).toArray, .agg ((nums .u8 (b.map bv))).toArray, .pointer (some ⟨g5, 0, none⟩), .pointer (some ⟨g8, 0, none⟩), .pointer (some ⟨g11, 0, none⟩), .bool true, .bool false, .int .i64 (usN a : Int), .bool true, .bool false, .pointer (some ⟨g5, 0, none⟩), .int .u64 (uv g), .pointer (some ⟨g5, 1, none⟩), .int .u64 (uv g'), .bool false, .bool false, undef, undef, undef, .bool false, .agg ((nums .u8 (a.map bv))).toArray, .int .i64 (usN a : Int), .pointer (some ⟨g5, 0, none⟩), .int .u64 (uv g), .agg ((nums .u8 (a.map bv))).toArray, .agg ((nums .u8 ((tlB g a).map bv))).toArray, .pointer (some ⟨g5, 1, none⟩), .int .u64 (uv g'), .agg ((nums .u8 (b.map bv))).toArray, .agg ((nums .u8 ((tlB g' b).map bv))).toArray, .bool false, .bool false, .bool true, .bool true, .int .i64 (usN a : Int), .bool true, .bool true, .bool true, .int .i64 (usN a : Int), .bool true, .bool true, .bool true, .int .i64 (usN a : Int), .bool (decide (a = zB)), .agg ((nums .u8 (a.map bv))).toArray, .agg ((nums .u8 (zB.map bv))).toArray, .bool (decide (a = zB)), .bool true, .bool true]) rfl ?_
    refine hK31 _ _ ?_
    refine wp_ret ?_
    try simp only [Exit.inBlock, Exit.then]
    refine c_ret (.bool true) (r_tmp rfl rfl) ?_
    exact ⟨rfl, HS.belowOf⟩

theorem tallyApart_any (gs : List UInt64) (a b : List UInt8) (w : World) (hg : gs.length = 2) (ha : a.length = 240) (hb : b.length = 240) : Calls Try.prog 4 #[.agg (nums .u64 (gs.map uv)).toArray, .agg (nums .u8 (a.map bv)).toArray, .agg (nums .u8 (b.map bv)).toArray] w fun e w' => e = .returned (.bool true) ∧ Below w.heap.size w w' := by
  match gs, hg with
  | [g, g'], _ => exact apart_law w g g' a b ha hb
end Go.Proofs.Ytiokdpnhaemciaa
