/- LeafBack, of a node that can be. -/
import Derived.Test.YtiokdpnhaemciaaL8b
set_option linter.unusedVariables false
set_option linter.unusedSimpArgs false
namespace Go.Proofs.Ytiokdpnhaemciaa
open Go.RowKit Go.Proofs.YtiokdpnhaemciaaW.PrintWords Go.Proofs.YtiokdpnhaemciaaW.PrintLast Crc
set_option maxRecDepth 10000 in
set_option maxHeartbeats 4000000 in
theorem back_one (w : World) (k : Int) (b : List UInt8) (hb : b.length = 16) (A : Option Addr) (c : Nat) (es : List (Int × Int)) (hr : kEn.C w A es.length es) (k2 : Int) (b2 : List UInt8) (hb2 : b2.length = 16) (B : Option Addr) (d : Nat) (fs : List (Int × Int)) (hr2 : kEn.C w B fs.length fs) (q : List UInt8) (hq : q.length = 256) (hl : es.length ≤ 1000) (hl2 : fs.length ≤ 1000) (h50 : ¬ 50 < es.length) (h51 : ¬ 50 < fs.length) (hA : ndOk k b es = true) (hB : ndOk k2 b2 fs = false) : Calls Try.prog 11 #[.agg (Value.int .i64 k :: ((nums .u8 (b.map bv)) ++ ([Value.slice A es.length c]))).toArray, .agg (Value.int .i64 k2 :: ((nums .u8 (b2.map bv)) ++ ([Value.slice B fs.length d]))).toArray, .agg ((nums .u8 (q.map bv))).toArray] w fun e w' => e = .returned (.bool true) ∧ Below w.heap.size w w' := by
  have HS := St.empty w
  · skip
    rcases hQ : okN q with _ | _
    · skip
      refine c_enter Try.func11 rfl 89 rfl [.agg (Value.int .i64 k :: ((nums .u8 (b.map bv)) ++ ([Value.slice A es.length c]))).toArray, .agg (Value.int .i64 k2 :: ((nums .u8 (b2.map bv)) ++ ([Value.slice B fs.length d]))).toArray, .agg ((nums .u8 (q.map bv))).toArray, undef, undef, undef, undef, undef, undef, undef, undef, undef, undef, undef, undef, undef, undef, undef, undef, undef, undef, undef, undef, undef, undef, undef, undef, undef, undef, undef, undef, undef, undef, undef, undef, undef, undef, undef, undef, undef, undef, undef, undef, undef, undef, undef, undef, undef, undef, undef, undef, undef, undef, undef, undef, undef, undef, undef, undef, undef, undef, undef, undef, undef, undef, undef, undef, undef, undef, undef, undef, undef, undef, undef, undef, undef, undef, undef, undef, undef, undef, undef, undef, undef, undef, undef, undef, undef, undef] rfl ?_
      refine wp_seq_k (fun K1 hK2 => ?_)
      refine c_region (fun ops4 hops3 => ?_)
      clear hops3
      refine St.wBox HS (cs := (Value.int .i64 k :: ((nums .u8 (b.map bv)) ++ ([Value.slice A es.length c])))) (.agg (Value.int .i64 k :: ((nums .u8 (b.map bv)) ++ ([Value.slice A es.length c]))).toArray) rfl rfl ?_
      clear HS
      intro g5 w6 hg7 HS
      refine St.wBox HS (cs := (Value.int .i64 k2 :: ((nums .u8 (b2.map bv)) ++ ([Value.slice B fs.length d])))) (.agg (Value.int .i64 k2 :: ((nums .u8 (b2.map bv)) ++ ([Value.slice B fs.length d]))).toArray) rfl rfl ?_
      clear HS
      intro g8 w9 hg10 HS
      refine St.wBox HS (cs := ((nums .u8 (q.map bv)))) (.agg ((nums .u8 (q.map bv))).toArray) rfl rfl ?_
      clear HS
      intro g11 w12 hg13 HS
      refine p_run (l' := _) _ (x_assign (.bool false) rfl rfl) rfl ?_
      refine wpList_nil ?_
      refine hK2 _ _ ?_
      refine wp_seq_k (fun K14 hK15 => ?_)
      refine wp_seq_k (fun K16 hK17 => ?_)
      refine c_region (fun ops19 hops18 => ?_)
      clear hops18
      refine w_call [] Try.func25 (by kernel_rfl) (by rfl) rfl ?_
      refine (lalive_any _).mono ?_
      rintro e w20 ⟨rfl, hb_⟩
      replace HS := HS.here hb_
      clear hb_
      refine ⟨_, rfl, ?_⟩
      refine p_run (l' := _) _ (x_not true rfl rfl) rfl ?_
      refine wpList_nil ?_
      refine hK17 _ _ ?_
      refine c_false rfl ?_
      refine wp_skip ?_
      refine hK15 _ _ ?_
      refine wp_seq_k (fun K21 hK22 => ?_)
      refine wp_seq_k (fun K23 hK24 => ?_)
      refine c_region (fun ops26 hops25 => ?_)
      refine p_run (l' := _) _ (x_field (j := 17) _ _ rfl rfl Try.underlying52 rfl (by rfl) rfl) rfl ?_
      refine p_run (l' := _) _ (x_load (.slice A es.length c) rfl rfl (bkCell (HS.get (.tail _ (.tail _ (.head _)))) 17 _ (by simp [List.getElem?_append, List.length_map, hb, nums_length])) (by rfl)) rfl ?_
      refine p_run (l' := _) _ (x_len rfl rfl Try.underlying50) rfl ?_
      refine p_run (l' := _) _ (x_cmp (k := .i64) (m := (es.length : Int)) (n := 50) .gtr false rfl rfl rfl (show decide ((es.length : Int) > 50) = false from decide_eq_false (by omega)) rfl) rfl ?_
      refine p_run (l' := _) _ (x_move (.bool false) rfl rfl) rfl ?_
      refine p_on rfl (by rw [hops25]; rfl) ?_
      refine p_run (l' := [.agg (Value.int .i64 k :: ((nums .u8 (b.map bv)) ++ ([Value.slice A es.length c]))).toArray, .agg (Value.int .i64 k2 :: ((nums .u8 (b2.map bv)) ++ ([Value.slice B fs.length d]))).toArray, .agg ((nums .u8 (q.map bv))).toArray, .pointer (some ⟨g5, 0, none⟩), .pointer (some ⟨g8, 0, none⟩), .pointer (some ⟨g11, 0, none⟩), .bool false, undef, undef, undef, undef, undef, undef, undef, undef, undef, undef, .bool true, .bool false, .pointer (some ⟨g5, 17, none⟩), .slice A es.length c, .int .i64 (es.length : Int), .bool false, .bool false, .pointer (some ⟨g8, 17, none⟩), undef, undef, undef, undef, undef, undef, undef, undef, undef, undef, undef, undef, undef, undef, undef, undef, undef, undef, undef, undef, undef, undef, undef, undef, undef, undef, undef, undef, undef, undef, undef, undef, undef, undef, undef, undef, undef, undef, undef, undef, undef, undef, undef, undef, undef, undef, undef, undef, undef, undef, undef, undef, undef, undef, undef, undef, undef, undef, undef, undef, undef, undef, undef, undef]) _ (x_field (j := 17) _ _ rfl rfl Try.underlying52 rfl (by rfl) rfl) rfl ?_
      refine p_on rfl (by rw [hops25]; rfl) ?_
      refine p_run (l' := _) _ (x_load (.slice B fs.length d) rfl rfl (bkCell (HS.get (.tail _ (.head _))) 17 _ (by simp [List.getElem?_append, List.length_map, hb2, nums_length])) (by rfl)) rfl ?_
      refine p_on rfl (by rw [hops25]; rfl) ?_
      refine p_run (l' := _) _ (x_len rfl rfl Try.underlying50) rfl ?_
      refine p_on rfl (by rw [hops25]; rfl) ?_
      refine p_run (l' := _) _ (x_cmp (k := .i64) (m := (fs.length : Int)) (n := 50) .gtr false rfl rfl rfl (show decide ((fs.length : Int) > 50) = false from decide_eq_false (by omega)) rfl) rfl ?_
      refine p_run (l' := _) _ (x_pick false (.bool true) (.bool false) (.bool false) rfl rfl rfl rfl rfl) rfl ?_
      clear hops25
      refine wpList_nil ?_
      refine hK24 _ _ ?_
      refine c_false rfl ?_
      refine wp_skip ?_
      refine hK22 _ _ ?_
      refine wp_seq_k (fun K27 hK28 => ?_)
      refine c_region (fun ops30 hops29 => ?_)
      clear hops29
      refine p_run (l' := _) _ (x_loads (Value.int .i64 k :: ((nums .u8 (b.map bv)) ++ ([Value.slice A es.length c]))) 18 rfl rfl (bkCells (HS.get (.tail _ (.tail _ (.head _)))) 0 _ (whole _)) (by rfl) (by kernel_rfl) (by simp [List.length_map, hb, nums_length])) rfl ?_
      refine w_call [.agg (Value.int .i64 k :: ((nums .u8 (b.map bv)) ++ ([Value.slice A es.length c]))).toArray] Try.func23 (by kernel_rfl) (by rfl) rfl ?_
      refine (lpage_any _ k b hb A c es (Kd.C_below hr HS.belowOf) hl).mono ?_
      rintro e w31 ⟨rfl, hb_⟩
      replace HS := HS.here hb_
      clear hb_
      refine ⟨_, rfl, ?_⟩
      refine p_run (l' := _) _ (x_move (.tuple [.agg ((nums .u8 ((lfP k b es).map bv))).toArray, .int .i64 (lfE k b es)].toArray) rfl rfl) rfl ?_
      refine p_run (l' := _) _ (x_extract (vs := [.agg ((nums .u8 ((lfP k b es).map bv))).toArray, .int .i64 (lfE k b es)]) 0 (.agg ((nums .u8 ((lfP k b es).map bv))).toArray) rfl rfl rfl) rfl ?_
      refine p_run (l' := _) _ (x_extract (vs := [.agg ((nums .u8 ((lfP k b es).map bv))).toArray, .int .i64 (lfE k b es)]) 1 (.int .i64 (lfE k b es)) rfl rfl rfl) rfl ?_
      refine St.wAlloc HS (cs := ((nums .u8 (zQ.map bv)))) (.agg ((nums .u8 (zQ.map bv))).toArray) (by kernel_rfl) rfl ?_
      clear HS
      intro g32 w33 hg34 HS
      refine St.stores (cs' := ((nums .u8 ((lfP k b es).map bv)))) HS ((nums .u8 ((lfP k b es).map bv))) 256 rfl rfl (nums_one _ _) (by kernel_rfl) (by simp [(lfP_len k hb es), List.length_map, nums_length]) (by simp [(lfP_len k hb es), List.length_map, nums_length, zQ_len]) (lay_all _ _ (by simp [(lfP_len k hb es), List.length_map, nums_length, zQ_len])) ?_
      clear HS
      intro w35 HS
      refine p_run (l' := _) _ (x_assign (.int .i64 (lfE k b es)) rfl rfl) rfl ?_
      refine wpList_nil ?_
      refine fr_at (l' := [.agg (Value.int .i64 k :: ((nums .u8 (b.map bv)) ++ ([Value.slice A es.length c]))).toArray, .agg (Value.int .i64 k2 :: ((nums .u8 (b2.map bv)) ++ ([Value.slice B fs.length d]))).toArray, .agg ((nums .u8 (q.map bv))).toArray, .pointer (some ⟨g5, 0, none⟩), .pointer (some ⟨g8, 0, none⟩), .pointer (some ⟨g11, 0, none⟩), .bool false, .pointer (some ⟨g32, 0, none⟩), .int .i64 (lfE k b es), undef, undef, undef, undef, undef, undef, undef, undef, .bool true, .bool false, .pointer (some ⟨g5, 17, none⟩), .slice A es.length c, .int .i64 (es.length : Int), .bool false, .bool false, .pointer (some ⟨g8, 17, none⟩), .slice B fs.length d, .int .i64 (fs.length : Int), .bool false, .bool false, .tuple [.agg ((nums .u8 ((lfP k b es).map bv))).toArray, .int .i64 (lfE k b es)].toArray, .agg (Value.int .i64 k :: ((nums .u8 (b.map bv)) ++ ([Value.slice A es.length c]))).toArray, .tuple [.agg ((nums .u8 ((lfP k b es).map bv))).toArray, .int .i64 (lfE k b es)].toArray, .agg ((nums .u8 ((lfP k b es).map bv))).toArray, .int .i64 (lfE k b es), undef, undef, undef, undef, undef, undef, undef, undef, undef, undef, undef, undef, undef, undef, undef, undef, undef, undef, undef, undef, undef, undef, undef, undef, undef, undef, undef, undef, undef, undef, undef, undef, undef, undef, undef, undef, undef, undef, undef, undef, undef, undef, undef, undef, undef, undef, undef, undef, undef, undef, undef, undef, undef, undef, undef]) rfl ?_
      refine hK28 _ _ ?_
      refine wp_seq_k (fun K36 hK37 => ?_)
      refine c_region (fun ops39 hops38 => ?_)
      clear hops38
      refine p_run (l' := _) _ (x_loads (Value.int .i64 k2 :: ((nums .u8 (b2.map bv)) ++ ([Value.slice B fs.length d]))) 18 rfl rfl (bkCells (HS.get (.tail _ (.tail _ (.head _)))) 0 _ (whole _)) (by rfl) (by kernel_rfl) (by simp [List.length_map, hb2, nums_length])) rfl ?_
      refine w_call [.agg (Value.int .i64 k2 :: ((nums .u8 (b2.map bv)) ++ ([Value.slice B fs.length d]))).toArray] Try.func23 (by kernel_rfl) (by rfl) rfl ?_
      refine (lpage_any _ k2 b2 hb2 B d fs (Kd.C_below hr2 HS.belowOf) hl2).mono ?_
      rintro e w40 ⟨rfl, hb_⟩
      replace HS := HS.here hb_
      clear hb_
      refine ⟨_, rfl, ?_⟩
      refine p_run (l' := _) _ (x_move (.tuple [.agg ((nums .u8 ((lfP k2 b2 fs).map bv))).toArray, .int .i64 (lfE k2 b2 fs)].toArray) rfl rfl) rfl ?_
      refine p_run (l' := _) _ (x_extract (vs := [.agg ((nums .u8 ((lfP k2 b2 fs).map bv))).toArray, .int .i64 (lfE k2 b2 fs)]) 0 (.agg ((nums .u8 ((lfP k2 b2 fs).map bv))).toArray) rfl rfl rfl) rfl ?_
      refine p_run (l' := _) _ (x_extract (vs := [.agg ((nums .u8 ((lfP k2 b2 fs).map bv))).toArray, .int .i64 (lfE k2 b2 fs)]) 1 (.int .i64 (lfE k2 b2 fs)) rfl rfl rfl) rfl ?_
      refine St.wAlloc HS (cs := ((nums .u8 (zQ.map bv)))) (.agg ((nums .u8 (zQ.map bv))).toArray) (by kernel_rfl) rfl ?_
      clear HS
      intro g41 w42 hg43 HS
      refine St.stores (cs' := ((nums .u8 ((lfP k2 b2 fs).map bv)))) HS ((nums .u8 ((lfP k2 b2 fs).map bv))) 256 rfl rfl (nums_one _ _) (by kernel_rfl) (by simp [(lfP_len k2 hb2 fs), List.length_map, nums_length]) (by simp [(lfP_len k2 hb2 fs), List.length_map, nums_length, zQ_len]) (lay_all _ _ (by simp [(lfP_len k2 hb2 fs), List.length_map, nums_length, zQ_len])) ?_
      clear HS
      intro w44 HS
      refine p_run (l' := _) _ (x_assign (.int .i64 (lfE k2 b2 fs)) rfl rfl) rfl ?_
      refine wpList_nil ?_
      refine hK37 _ _ ?_
      refine wp_seq_k (fun K45 hK46 => ?_)
      refine wp_seq_k (fun K47 hK48 => ?_)
      refine c_region (fun ops50 hops49 => ?_)
      clear hops49
      refine p_run (l' := _) _ (x_move (.int .i64 (lfE k b es)) rfl rfl) rfl ?_
      refine p_run (l' := _) _ (x_cmp (k := .i64) (m := (lfE k b es)) (n := 0) .eql true rfl rfl rfl (cmp_yes (lf_yes hA).2) rfl) rfl ?_
      refine wpList_nil ?_
      refine fr_at (l' := [.agg (Value.int .i64 k :: ((nums .u8 (b.map bv)) ++ ([Value.slice A es.length c]))).toArray, .agg (Value.int .i64 k2 :: ((nums .u8 (b2.map bv)) ++ ([Value.slice B fs.length d]))).toArray, .agg ((nums .u8 (q.map bv))).toArray, .pointer (some ⟨g5, 0, none⟩), .pointer (some ⟨g8, 0, none⟩), .pointer (some ⟨g11, 0, none⟩), .bool false, .pointer (some ⟨g32, 0, none⟩), .int .i64 (lfE k b es), .pointer (some ⟨g41, 0, none⟩), .int .i64 (lfE k2 b2 fs), undef, undef, undef, undef, undef, undef, .bool true, .bool false, .pointer (some ⟨g5, 17, none⟩), .slice A es.length c, .int .i64 (es.length : Int), .bool false, .bool false, .pointer (some ⟨g8, 17, none⟩), .slice B fs.length d, .int .i64 (fs.length : Int), .bool false, .bool false, .tuple [.agg ((nums .u8 ((lfP k b es).map bv))).toArray, .int .i64 (lfE k b es)].toArray, .agg (Value.int .i64 k :: ((nums .u8 (b.map bv)) ++ ([Value.slice A es.length c]))).toArray, .tuple [.agg ((nums .u8 ((lfP k b es).map bv))).toArray, .int .i64 (lfE k b es)].toArray, .agg ((nums .u8 ((lfP k b es).map bv))).toArray, .int .i64 (lfE k b es), .tuple [.agg ((nums .u8 ((lfP k2 b2 fs).map bv))).toArray, .int .i64 (lfE k2 b2 fs)].toArray, .agg (Value.int .i64 k2 :: ((nums .u8 (b2.map bv)) ++ ([Value.slice B fs.length d]))).toArray, .tuple [.agg ((nums .u8 ((lfP k2 b2 fs).map bv))).toArray, .int .i64 (lfE k2 b2 fs)].toArray, .agg ((nums .u8 ((lfP k2 b2 fs).map bv))).toArray, .int .i64 (lfE k2 b2 fs), .int .i64 (lfE k b es), .bool true, undef, undef, undef, undef, undef, undef, undef, undef, undef, undef, undef, undef, undef, undef, undef, undef, undef, undef, undef, undef, undef, undef, undef, undef, undef, undef, undef, undef, undef, undef, undef, undef, undef, undef, undef, undef, undef, undef, undef, undef, undef, undef, undef, undef, undef, undef, undef, undef]) rfl ?_
      refine hK48 _ _ ?_
      refine c_true rfl ?_
      refine wp_seq_k (fun K51 hK52 => ?_)
      refine c_region (fun ops54 hops53 => ?_)
      clear hops53
      refine p_run (l' := _) _ (x_loads ((nums .u8 ((lfP k b es).map bv))) 256 rfl rfl (bkCells (HS.get (.tail _ (.head _))) 0 _ (whole _)) (by rfl) (by kernel_rfl) (by simp [(lfP_len k hb es), List.length_map, nums_length])) rfl ?_
      refine w_call [.agg ((nums .u8 ((lfP k b es).map bv))).toArray] Try.func24 (by kernel_rfl) (by rfl) rfl ?_
      refine (lopen_any _ (lfP k b es) (lfP_len k hb es)).mono ?_
      rintro e w57 ⟨oa55, nc56, rfl, hk_⟩
      replace HS := HS.more hk_
      clear hk_
      refine ⟨_, rfl, ?_⟩
      refine p_run (l' := _) _ (x_move (.tuple [.agg (Value.int .i64 (opK (lfP k b es)) :: ((nums .u8 ((opB (lfP k b es)).map bv)) ++ ([Value.slice oa55 ((opS (lfP k b es)).length) nc56]))).toArray, .int .i64 (opE (lfP k b es))].toArray) rfl rfl) rfl ?_
      refine p_run (l' := _) _ (x_extract (vs := [.agg (Value.int .i64 (opK (lfP k b es)) :: ((nums .u8 ((opB (lfP k b es)).map bv)) ++ ([Value.slice oa55 ((opS (lfP k b es)).length) nc56]))).toArray, .int .i64 (opE (lfP k b es))]) 0 (.agg (Value.int .i64 (opK (lfP k b es)) :: ((nums .u8 ((opB (lfP k b es)).map bv)) ++ ([Value.slice oa55 ((opS (lfP k b es)).length) nc56]))).toArray) rfl rfl rfl) rfl ?_
      refine p_run (l' := _) _ (x_extract (vs := [.agg (Value.int .i64 (opK (lfP k b es)) :: ((nums .u8 ((opB (lfP k b es)).map bv)) ++ ([Value.slice oa55 ((opS (lfP k b es)).length) nc56]))).toArray, .int .i64 (opE (lfP k b es))]) 1 (.int .i64 (opE (lfP k b es))) rfl rfl rfl) rfl ?_
      refine St.wAlloc HS (cs := (Value.int .i64 0 :: ((nums .u8 (zK.map bv)) ++ ([Value.slice none 0 0])))) (.agg (Value.int .i64 0 :: ((nums .u8 (zK.map bv)) ++ ([Value.slice none 0 0]))).toArray) (by kernel_rfl) rfl ?_
      clear HS
      intro g58 w59 hg60 HS
      refine St.stores (cs' := (Value.int .i64 (opK (lfP k b es)) :: ((nums .u8 ((opB (lfP k b es)).map bv)) ++ ([Value.slice oa55 ((opS (lfP k b es)).length) nc56])))) HS (Value.int .i64 (opK (lfP k b es)) :: ((nums .u8 ((opB (lfP k b es)).map bv)) ++ ([Value.slice oa55 ((opS (lfP k b es)).length) nc56]))) 18 rfl rfl (all1 rfl (allA (nums_one _ _) (all1 rfl rfl))) (by kernel_rfl) (by simp [(opB_len (lfP_len k hb es)), List.length_map, nums_length]) (by simp [(opB_len (lfP_len k hb es)), List.length_map, nums_length, zK_len]) (lay_all _ _ (by simp [(opB_len (lfP_len k hb es)), List.length_map, nums_length, zK_len])) ?_
      clear HS
      intro w61 HS
      refine p_run (l' := _) _ (x_assign (.int .i64 (opE (lfP k b es))) rfl rfl) rfl ?_
      refine wpList_nil ?_
      refine hK52 _ _ ?_
      refine wp_seq_k (fun K62 hK63 => ?_)
      refine free_frame (n := 21) (T := _) [0, 1, 3, 7, 7, 31, 63, 127, 255, 511, 1023, 2047, 4095, 4095, 16383, 4095, 4095, 102399, 262143, 524287, 1048575] [(0, 46), (1, 47), (2, 48), (3, 49), (4, 50), (5, 51), (6, 52), (7, 53), (8, 54), (9, 55), (10, 56), (11, 57), (12, 58), (13, 59), (14, 60), (15, 61), (16, 62), (17, 63), (18, 64), (19, 65), (20, 66)] (fun bq_ vq_ w_ => qv ((fun i_ => match i_ with | 0 => some (.int .i64 (opE (lfP k b es))) | 1 => some (.bool false) | 2 => some (.bool false) | 3 => some (.agg (Value.int .i64 (opK (lfP k b es)) :: ((nums .u8 ((opB (lfP k b es)).map bv)) ++ ([Value.slice oa55 ((opS (lfP k b es)).length) nc56]))).toArray) | 4 => some (.agg (Value.int .i64 k :: ((nums .u8 (b.map bv)) ++ ([Value.slice A es.length c]))).toArray) | 6 => some (.bool false) | 7 => some (.bool false) | 8 => some (.bool false) | 9 => some (.int .i64 (lfE k2 b2 fs)) | 10 => some (.bool false) | 11 => some (.bool false) | 12 => some (undef) | 13 => some (undef) | 14 => some (undef) | 15 => some (undef) | 16 => some (undef) | 17 => some (undef) | 18 => some (undef) | 19 => some (.bool false) | 20 => some (.bool false) | _ => none) : Nat → Option Value) bq_ vq_ ∧ cond (bq_ 5) (vq_ 5 = .bool true ∧ St w (fun _ => False) w_ ([blk g58 (Value.int .i64 (opK (lfP k b es)) :: ((nums .u8 ((opB (lfP k b es)).map bv)) ++ ([Value.slice oa55 ((opS (lfP k b es)).length) nc56]))) 52, row kEn rfl 62 (.slice oa55 ((opS (lfP k b es)).length) nc56) (opS (lfP k b es)), blk g41 ((nums .u8 ((lfP k2 b2 fs).map bv))) 27, blk g32 ((nums .u8 ((lfP k b es).map bv))) 27, blk g11 ((nums .u8 (q.map bv))) 27, blk g8 (Value.int .i64 k2 :: ((nums .u8 (b2.map bv)) ++ ([Value.slice B fs.length d]))) 52, blk g5 (Value.int .i64 k :: ((nums .u8 (b.map bv)) ++ ([Value.slice A es.length c]))) 52])) ((St w (fun _ => False) w_ ([blk g58 (Value.int .i64 (opK (lfP k b es)) :: ((nums .u8 ((opB (lfP k b es)).map bv)) ++ ([Value.slice oa55 ((opS (lfP k b es)).length) nc56]))) 52, row kEn rfl 62 (.slice oa55 ((opS (lfP k b es)).length) nc56) (opS (lfP k b es)), blk g41 ((nums .u8 ((lfP k2 b2 fs).map bv))) 27, blk g32 ((nums .u8 ((lfP k b es).map bv))) 27, blk g11 ((nums .u8 (q.map bv))) 27, blk g8 (Value.int .i64 k2 :: ((nums .u8 (b2.map bv)) ++ ([Value.slice B fs.length d]))) 52, blk g5 (Value.int .i64 k :: ((nums .u8 (b.map bv)) ++ ([Value.slice A es.length c]))) 52])))) (by kernel_rfl) rfl rfl (by kernel_rfl) (by kernel_rfl) rfl (by kernel_rfl) (by kernel_rfl) ⟨qv_none, HS.draw⟩ ?_ ?_
      · clear HS
        intro i_ hi_ bq_ vq_ a_ w_ hG hb_ hon hoff hfr hel hval
        obtain ⟨hV, hE⟩ := hG
        have hi_ := List.mem_range.1 hi_
        obtain ⟨l_, rfl⟩ := hfr
        have hv_ := fun (j t : Nat) (v : Value) (h1 : (j, t) ∈ [(0, 46), (1, 47), (2, 48), (3, 49), (4, 50), (5, 51), (6, 52), (7, 53), (8, 54), (9, 55), (10, 56), (11, 57), (12, 58), (13, 59), (14, 60), (15, 61), (16, 62), (17, 63), (18, 64), (19, 65), (20, 66)]) h2 h3 => (hval (j, t) h1 h3).trans (congrArg some (hV j v h2 h3))
        have hcs : i_ = 0 ∨ i_ = 1 ∨ i_ = 2 ∨ i_ = 3 ∨ i_ = 4 ∨ i_ = 5 ∨ i_ = 6 ∨ i_ = 7 ∨ i_ = 8 ∨ i_ = 9 ∨ i_ = 10 ∨ i_ = 11 ∨ i_ = 12 ∨ i_ = 13 ∨ i_ = 14 ∨ i_ = 15 ∨ i_ = 16 ∨ i_ = 17 ∨ i_ = 18 ∨ i_ = 19 ∨ i_ = 20 := by omega
        rcases hcs with rfl | rfl | rfl | rfl | rfl | rfl | rfl | rfl | rfl | rfl | rfl | rfl | rfl | rfl | rfl | rfl | rfl | rfl | rfl | rfl | rfl
        · have e12 : evl l_ (.tmp 12) = .int .i64 (opE (lfP k b es)) := evl_of ((hel 12 (by decide)).trans rfl)
          exact ⟨_, rfl, fun K_ hK_ => q_op _ (x_move (.int .i64 (opE (lfP k b es))) rfl e12) (hK_ _ _ ⟨qv_up hV (fun _ h => Option.some.inj h), hE⟩)⟩
        · have e46 : evl l_ (.tmp 46) = .int .i64 (opE (lfP k b es)) := evl_of (hv_ 0 46 _ (by decide) rfl (hon 0 (by decide)))
          exact ⟨_, rfl, fun K_ hK_ => q_op _ (x_cmp (k := .i64) (m := (opE (lfP k b es))) (n := 0) .neq false rfl e46 rfl (neq_yes' (lb_open hb hA).2.2.2) rfl) (hK_ _ _ ⟨qv_up hV (fun _ h => Option.some.inj h), hE⟩)⟩
        · have e47 : evl l_ (.tmp 47) = .bool false := evl_of (hv_ 1 47 _ (by decide) rfl (hon 1 (by decide)))
          exact ⟨_, rfl, fun K_ hK_ => q_op _ (x_move (.bool false) rfl e47) (hK_ _ _ ⟨qv_up hV (fun _ h => Option.some.inj h), hE⟩)⟩
        · have h48 : (fr l_).tmps[48]? = some (.bool false) := hv_ 2 48 _ (by decide) rfl (hon 2 (by decide))
          have hE0 := hE
          rw [show bq_ 5 = false from (hoff 5 (by decide))] at hE0
          simp only [cond_true, cond_false] at hE0
          have HS := hE0
          have e11 : evl l_ (.tmp 11) = .pointer (some ⟨g58, 0, none⟩) := evl_of ((hel 11 (by decide)).trans rfl)
          have e48 : evl l_ (.tmp 48) = .bool false := evl_of h48
          exact ⟨_, rfl, fun K_ hK_ => q_opG (wanted_on (t := 48) rfl rfl rfl h48) _ (x_loads (Value.int .i64 (opK (lfP k b es)) :: ((nums .u8 ((opB (lfP k b es)).map bv)) ++ ([Value.slice oa55 ((opS (lfP k b es)).length) nc56]))) 18 rfl e11 (bkCells (HS.get (.head _)) 0 _ (whole _)) (by rfl) (by kernel_rfl) (by simp [(opB_len (lfP_len k hb es)), List.length_map, nums_length])) (hK_ _ _ ⟨qv_up hV (fun _ h => Option.some.inj h), hE⟩)⟩
        · have h48 : (fr l_).tmps[48]? = some (.bool false) := hv_ 2 48 _ (by decide) rfl (hon 2 (by decide))
          have hE0 := hE
          rw [show bq_ 5 = false from (hoff 5 (by decide))] at hE0
          simp only [cond_true, cond_false] at hE0
          have HS := hE0
          have e3 : evl l_ (.tmp 3) = .pointer (some ⟨g5, 0, none⟩) := evl_of ((hel 3 (by decide)).trans rfl)
          have e48 : evl l_ (.tmp 48) = .bool false := evl_of h48
          exact ⟨_, rfl, fun K_ hK_ => q_opG (wanted_on (t := 48) rfl rfl rfl h48) _ (x_loads (Value.int .i64 k :: ((nums .u8 (b.map bv)) ++ ([Value.slice A es.length c]))) 18 rfl e3 (bkCells (HS.get (.tail _ (.tail _ (.tail _ (.tail _ (.tail _ (.tail _ (.head _)))))))) 0 _ (whole _)) (by rfl) (by kernel_rfl) (by simp [List.length_map, hb, nums_length])) (hK_ _ _ ⟨qv_up hV (fun _ h => Option.some.inj h), hE⟩)⟩
        · have h48 : (fr l_).tmps[48]? = some (.bool false) := hv_ 2 48 _ (by decide) rfl (hon 2 (by decide))
          have h49 : (fr l_).tmps[49]? = some (.agg (Value.int .i64 (opK (lfP k b es)) :: ((nums .u8 ((opB (lfP k b es)).map bv)) ++ ([Value.slice oa55 ((opS (lfP k b es)).length) nc56]))).toArray) := hv_ 3 49 _ (by decide) rfl (hon 3 (by decide))
          have h50 : (fr l_).tmps[50]? = some (.agg (Value.int .i64 k :: ((nums .u8 (b.map bv)) ++ ([Value.slice A es.length c]))).toArray) := hv_ 4 50 _ (by decide) rfl (hon 4 (by decide))
          have hE0 := hE
          rw [show bq_ 5 = false from hb_] at hE0
          simp only [cond_true, cond_false] at hE0
          have HS := hE0
          have e48 : evl l_ (.tmp 48) = .bool false := evl_of h48
          have e49 : evl l_ (.tmp 49) = .agg (Value.int .i64 (opK (lfP k b es)) :: ((nums .u8 ((opB (lfP k b es)).map bv)) ++ ([Value.slice oa55 ((opS (lfP k b es)).length) nc56]))).toArray := evl_of h49
          have e50 : evl l_ (.tmp 50) = .agg (Value.int .i64 k :: ((nums .u8 (b.map bv)) ++ ([Value.slice A es.length c]))).toArray := evl_of h50
          refine ⟨_, rfl, fun K_ hK_ => wp_of_listG rfl (wanted_on (t := 48) rfl rfl rfl h48) ?_⟩
          intro ops_
          refine w_call [.agg (Value.int .i64 (opK (lfP k b es)) :: ((nums .u8 ((opB (lfP k b es)).map bv)) ++ ([Value.slice oa55 ((opS (lfP k b es)).length) nc56]))).toArray, .agg (Value.int .i64 k :: ((nums .u8 (b.map bv)) ++ ([Value.slice A es.length c]))).toArray] Try.func30 (by kernel_rfl) (by rfl) (by simp only [List.map_cons, List.map_nil, e49, e50] <;> rfl) ?_
          refine (same_any _ (opK (lfP k b es)) (opB (lfP k b es)) (opB_len (lfP_len k hb es)) oa55 nc56 (opS (lfP k b es)) (row_C (HS.get (.tail _ (.head _)))).2.2 (opS_le (lfP k b es)) k b hb A c es (Kd.C_below hr HS.belowOf) hl).mono ?_
          rintro e w900501 ⟨he_, hb_⟩
          rw [(lb_same hb hA)] at he_
          subst he_
          replace HS := HS.here hb_
          clear hb_
          refine ⟨_, rfl, ?_⟩
          refine wpList_nil ?_
          refine norm_put (hK_ (.bool true) _ ⟨qv_up hV (by intro _ h; cases h), ?_⟩)
          show cond true _ _
          rw [cond_true]
          exact ⟨rfl, (((((((HS.front 6 rfl).front 6 rfl).front 6 rfl).front 6 rfl).front 6 rfl).front 6 rfl).front 6 rfl)⟩
        · have h48 : (fr l_).tmps[48]? = some (.bool false) := hv_ 2 48 _ (by decide) rfl (hon 2 (by decide))
          have h51 := hval (5, 51) (by decide) (hon 5 (by decide))
          have hE0 := hE
          rw [show bq_ 5 = true from (hon 5 (by decide))] at hE0
          simp only [cond_true, cond_false] at hE0
          obtain ⟨hv5, HS⟩ := hE0
          rw [hv5] at h51
          have e48 : evl l_ (.tmp 48) = .bool false := evl_of h48
          have e51 : evl l_ (.tmp 51) = .bool true := evl_of h51
          exact ⟨_, rfl, fun K_ hK_ => q_opG (wanted_on (t := 48) rfl rfl rfl h48) _ (x_not true rfl e51) (hK_ _ _ ⟨qv_up hV (fun _ h => Option.some.inj h), hE⟩)⟩
        · have e48 : evl l_ (.tmp 48) = .bool false := evl_of (hv_ 2 48 _ (by decide) rfl (hon 2 (by decide)))
          have e52 : evl l_ (.tmp 52) = .bool false := evl_of (hv_ 6 52 _ (by decide) rfl (hon 6 (by decide)))
          exact ⟨_, rfl, fun K_ hK_ => q_op _ (x_pick false (.bool true) (.bool false) (.bool false) rfl e48 rfl e52 rfl) (hK_ _ _ ⟨qv_up hV (fun _ h => Option.some.inj h), hE⟩)⟩
        · have e53 : evl l_ (.tmp 53) = .bool false := evl_of (hv_ 7 53 _ (by decide) rfl (hon 7 (by decide)))
          exact ⟨_, rfl, fun K_ hK_ => q_op _ (x_move (.bool false) rfl e53) (hK_ _ _ ⟨qv_up hV (fun _ h => Option.some.inj h), hE⟩)⟩
        · have h54 : (fr l_).tmps[54]? = some (.bool false) := hv_ 8 54 _ (by decide) rfl (hon 8 (by decide))
          have e10 : evl l_ (.tmp 10) = .int .i64 (lfE k2 b2 fs) := evl_of ((hel 10 (by decide)).trans rfl)
          have e54 : evl l_ (.tmp 54) = .bool false := evl_of h54
          exact ⟨_, rfl, fun K_ hK_ => q_opG (wanted_on (t := 54) rfl rfl rfl h54) _ (x_move (.int .i64 (lfE k2 b2 fs)) rfl e10) (hK_ _ _ ⟨qv_up hV (fun _ h => Option.some.inj h), hE⟩)⟩
        · have h54 : (fr l_).tmps[54]? = some (.bool false) := hv_ 8 54 _ (by decide) rfl (hon 8 (by decide))
          have e54 : evl l_ (.tmp 54) = .bool false := evl_of h54
          have e55 : evl l_ (.tmp 55) = .int .i64 (lfE k2 b2 fs) := evl_of (hv_ 9 55 _ (by decide) rfl (hon 9 (by decide)))
          exact ⟨_, rfl, fun K_ hK_ => q_opG (wanted_on (t := 54) rfl rfl rfl h54) _ (x_cmp (k := .i64) (m := (lfE k2 b2 fs)) (n := 0) .eql false rfl e55 rfl (by rw [(lf_no hB).2]; decide) rfl) (hK_ _ _ ⟨qv_up hV (fun _ h => Option.some.inj h), hE⟩)⟩
        · have h54 : (fr l_).tmps[54]? = some (.bool false) := hv_ 8 54 _ (by decide) rfl (hon 8 (by decide))
          have e54 : evl l_ (.tmp 54) = .bool false := evl_of h54
          have e56 : evl l_ (.tmp 56) = .bool false := evl_of (hv_ 10 56 _ (by decide) rfl (hon 10 (by decide)))
          exact ⟨_, rfl, fun K_ hK_ => q_opG (wanted_on (t := 54) rfl rfl rfl h54) _ (x_move (.bool false) rfl e56) (hK_ _ _ ⟨qv_up hV (fun _ h => Option.some.inj h), hE⟩)⟩
        · have h57 : (fr l_).tmps[57]? = some (.bool false) := hv_ 11 57 _ (by decide) rfl (hon 11 (by decide))
          exact ⟨_, rfl, fun K_ hK_ => wp_offG (wanted_off (t := 57) rfl rfl rfl h57) (hK_ undef _ ⟨qv_up hV (fun _ h => Option.some.inj h), hE⟩)⟩
        · have h57 : (fr l_).tmps[57]? = some (.bool false) := hv_ 11 57 _ (by decide) rfl (hon 11 (by decide))
          exact ⟨_, rfl, fun K_ hK_ => wp_offG (wanted_off (t := 57) rfl rfl rfl h57) (hK_ undef _ ⟨qv_up hV (fun _ h => Option.some.inj h), hE⟩)⟩
        · have h57 : (fr l_).tmps[57]? = some (.bool false) := hv_ 11 57 _ (by decide) rfl (hon 11 (by decide))
          exact ⟨_, rfl, fun K_ hK_ => wp_offG (wanted_off (t := 57) rfl rfl rfl h57) (hK_ undef _ ⟨qv_up hV (fun _ h => Option.some.inj h), hE⟩)⟩
        · have h57 : (fr l_).tmps[57]? = some (.bool false) := hv_ 11 57 _ (by decide) rfl (hon 11 (by decide))
          exact ⟨_, rfl, fun K_ hK_ => wp_offG (wanted_off (t := 57) rfl rfl rfl h57) (hK_ undef _ ⟨qv_up hV (fun _ h => Option.some.inj h), hE⟩)⟩
        · have h57 : (fr l_).tmps[57]? = some (.bool false) := hv_ 11 57 _ (by decide) rfl (hon 11 (by decide))
          exact ⟨_, rfl, fun K_ hK_ => wp_offG (wanted_off (t := 57) rfl rfl rfl h57) (hK_ undef _ ⟨qv_up hV (fun _ h => Option.some.inj h), hE⟩)⟩
        · have h57 : (fr l_).tmps[57]? = some (.bool false) := hv_ 11 57 _ (by decide) rfl (hon 11 (by decide))
          exact ⟨_, rfl, fun K_ hK_ => wp_offG (wanted_off (t := 57) rfl rfl rfl h57) (hK_ undef _ ⟨qv_up hV (fun _ h => Option.some.inj h), hE⟩)⟩
        · have h57 : (fr l_).tmps[57]? = some (.bool false) := hv_ 11 57 _ (by decide) rfl (hon 11 (by decide))
          exact ⟨_, rfl, fun K_ hK_ => wp_offG (wanted_off (t := 57) rfl rfl rfl h57) (hK_ undef _ ⟨qv_up hV (fun _ h => Option.some.inj h), hE⟩)⟩
        · have h54 : (fr l_).tmps[54]? = some (.bool false) := hv_ 8 54 _ (by decide) rfl (hon 8 (by decide))
          have e54 : evl l_ (.tmp 54) = .bool false := evl_of h54
          have e57 : evl l_ (.tmp 57) = .bool false := evl_of (hv_ 11 57 _ (by decide) rfl (hon 11 (by decide)))
          have e64 : evl l_ (.tmp 64) = undef := evl_of (hv_ 18 64 _ (by decide) rfl (hon 18 (by decide)))
          exact ⟨_, rfl, fun K_ hK_ => q_opG (wanted_on (t := 54) rfl rfl rfl h54) _ (x_pick false (undef) (.bool false) (.bool false) rfl e57 e64 rfl rfl) (hK_ _ _ ⟨qv_up hV (fun _ h => Option.some.inj h), hE⟩)⟩
        · have e54 : evl l_ (.tmp 54) = .bool false := evl_of (hv_ 8 54 _ (by decide) rfl (hon 8 (by decide)))
          have e65 : evl l_ (.tmp 65) = .bool false := evl_of (hv_ 19 65 _ (by decide) rfl (hon 19 (by decide)))
          exact ⟨_, rfl, fun K_ hK_ => q_op _ (x_pick false (.bool true) (.bool false) (.bool false) rfl e54 rfl e65 rfl) (hK_ _ _ ⟨qv_up hV (fun _ h => Option.some.inj h), hE⟩)⟩
      intro bq_ vq_ w_ hall hG
      obtain ⟨hV, hE⟩ := hG
      clear HS
      rw [show bq_ 5 = true from hall 5 (by decide)] at hE
      simp only [cond_true] at hE
      obtain ⟨hv5, HS⟩ := hE
      have hv0 := hV 0 _ rfl (hall 0 (by decide))
      have hv1 := hV 1 _ rfl (hall 1 (by decide))
      have hv2 := hV 2 _ rfl (hall 2 (by decide))
      have hv3 := hV 3 _ rfl (hall 3 (by decide))
      have hv4 := hV 4 _ rfl (hall 4 (by decide))
      have hv6 := hV 6 _ rfl (hall 6 (by decide))
      have hv7 := hV 7 _ rfl (hall 7 (by decide))
      have hv8 := hV 8 _ rfl (hall 8 (by decide))
      have hv9 := hV 9 _ rfl (hall 9 (by decide))
      have hv10 := hV 10 _ rfl (hall 10 (by decide))
      have hv11 := hV 11 _ rfl (hall 11 (by decide))
      have hv12 := hV 12 _ rfl (hall 12 (by decide))
      have hv13 := hV 13 _ rfl (hall 13 (by decide))
      have hv14 := hV 14 _ rfl (hall 14 (by decide))
      have hv15 := hV 15 _ rfl (hall 15 (by decide))
      have hv16 := hV 16 _ rfl (hall 16 (by decide))
      have hv17 := hV 17 _ rfl (hall 17 (by decide))
      have hv18 := hV 18 _ rfl (hall 18 (by decide))
      have hv19 := hV 19 _ rfl (hall 19 (by decide))
      have hv20 := hV 20 _ rfl (hall 20 (by decide))
      clear hV hall
      rw [putSel_fr]
      simp only [tells, List.map_cons, List.map_nil, setAll, List.set_cons_succ, List.set_cons_zero, hv0, hv1, hv2, hv3, hv4, hv5, hv6, hv7, hv8, hv9, hv10, hv11, hv12, hv13, hv14, hv15, hv16, hv17, hv18, hv19, hv20]
      clear hv0 hv1 hv2 hv3 hv4 hv5 hv6 hv7 hv8 hv9 hv10 hv11 hv12 hv13 hv14 hv15 hv16 hv17 hv18 hv19 hv20
      generalize w_ = w900601 at HS ⊢
      refine fr_at (l' := [.agg (Value.int .i64 k :: ((nums .u8 (b.map bv)) ++ ([Value.slice A es.length c]))).toArray, .agg (Value.int .i64 k2 :: ((nums .u8 (b2.map bv)) ++ ([Value.slice B fs.length d]))).toArray, .agg ((nums .u8 (q.map bv))).toArray, .pointer (some ⟨g5, 0, none⟩), .pointer (some ⟨g8, 0, none⟩), .pointer (some ⟨g11, 0, none⟩), .bool false, .pointer (some ⟨g32, 0, none⟩), .int .i64 (lfE k b es), .pointer (some ⟨g41, 0, none⟩), .int .i64 (lfE k2 b2 fs), .pointer (some ⟨g58, 0, none⟩), .int .i64 (opE (lfP k b es)), undef, undef, undef, undef, .bool true, .bool false, .pointer (some ⟨g5, 17, none⟩), .slice A es.length c, .int .i64 (es.length : Int), .bool false, .bool false, .pointer (some ⟨g8, 17, none⟩), .slice B fs.length d, .int .i64 (fs.length : Int), .bool false, .bool false, .tuple [.agg ((nums .u8 ((lfP k b es).map bv))).toArray, .int .i64 (lfE k b es)].toArray, .agg (Value.int .i64 k :: ((nums .u8 (b.map bv)) ++ ([Value.slice A es.length c]))).toArray, .tuple [.agg ((nums .u8 ((lfP k b es).map bv))).toArray, .int .i64 (lfE k b es)].toArray, .agg ((nums .u8 ((lfP k b es).map bv))).toArray, .int .i64 (lfE k b es), .tuple [.agg ((nums .u8 ((lfP k2 b2 fs).map bv))).toArray, .int .i64 (lfE k2 b2 fs)].toArray, .agg (Value.int .i64 k2 :: ((nums .u8 (b2.map bv)) ++ ([Value.slice B fs.length d]))).toArray, .tuple [.agg ((nums .u8 ((lfP k2 b2 fs).map bv))).toArray, .int .i64 (lfE k2 b2 fs)].toArray, .agg ((nums .u8 ((lfP k2 b2 fs).map bv))).toArray, .int .i64 (lfE k2 b2 fs), .int .i64 (lfE k b es), .bool true, .tuple [.agg (Value.int .i64 (opK (lfP k b es)) :: ((nums .u8 ((opB (lfP k b es)).map bv)) ++ ([Value.slice oa55 ((opS (lfP k b es)).length) nc56]))).toArray, .int .i64 (opE (lfP k b es))].toArray, .agg ((nums .u8 ((lfP k b es).map bv))).toArray, .tuple [.agg (Value.int .i64 (opK (lfP k b es)) :: ((nums .u8 ((opB (lfP k b es)).map bv)) ++ ([Value.slice oa55 ((opS (lfP k b es)).length) nc56]))).toArray, .int .i64 (opE (lfP k b es))].toArray, .agg (Value.int .i64 (opK (lfP k b es)) :: ((nums .u8 ((opB (lfP k b es)).map bv)) ++ ([Value.slice oa55 ((opS (lfP k b es)).length) nc56]))).toArray, .int .i64 (opE (lfP k b es)), .int .i64 (opE (lfP k b es)), .bool false, .bool false, .agg (Value.int .i64 (opK (lfP k b es)) :: ((nums .u8 ((opB (lfP k b es)).map bv)) ++ ([Value.slice oa55 ((opS (lfP k b es)).length) nc56]))).toArray, .agg (Value.int .i64 k :: ((nums .u8 (b.map bv)) ++ ([Value.slice A es.length c]))).toArray, .bool true, .bool false, .bool false, .bool false, .int .i64 (lfE k2 b2 fs), .bool false, .bool false, undef, undef, undef, undef, undef, undef, undef, .bool false, .bool false, undef, undef, undef, undef, undef, undef, undef, undef, undef, undef, undef, undef, undef, undef, undef, undef, undef, undef, undef, undef, undef, undef]) rfl ?_
      refine hK63 _ _ ?_
      refine c_false rfl ?_
      refine wp_skip ?_
      refine hK46 _ _ ?_
      refine wp_seq_k (fun K900602 hK900603 => ?_)
      refine c_region (fun ops900605 hops900604 => ?_)
      clear hops900604
      refine p_run (l' := _) _ (x_loads ((nums .u8 (q.map bv))) 256 rfl rfl (bkCells (HS.get (.tail _ (.tail _ (.tail _ (.tail _ (.head _)))))) 0 _ (whole _)) (by rfl) (by kernel_rfl) (by simp [List.length_map, hq, nums_length])) rfl ?_
      refine w_call [.agg ((nums .u8 (q.map bv))).toArray] Try.func24 (by kernel_rfl) (by rfl) rfl ?_
      refine (lopen_any _ q hq).mono ?_
      rintro e w900608 ⟨oa900606, nc900607, rfl, hk_⟩
      replace HS := HS.more hk_
      clear hk_
      refine ⟨_, rfl, ?_⟩
      refine p_run (l' := _) _ (x_move (.tuple [.agg (Value.int .i64 (opK q) :: ((nums .u8 ((opB q).map bv)) ++ ([Value.slice oa900606 ((opS q).length) nc900607]))).toArray, .int .i64 (opE q)].toArray) rfl rfl) rfl ?_
      refine p_run (l' := _) _ (x_extract (vs := [.agg (Value.int .i64 (opK q) :: ((nums .u8 ((opB q).map bv)) ++ ([Value.slice oa900606 ((opS q).length) nc900607]))).toArray, .int .i64 (opE q)]) 0 (.agg (Value.int .i64 (opK q) :: ((nums .u8 ((opB q).map bv)) ++ ([Value.slice oa900606 ((opS q).length) nc900607]))).toArray) rfl rfl rfl) rfl ?_
      refine p_run (l' := _) _ (x_extract (vs := [.agg (Value.int .i64 (opK q) :: ((nums .u8 ((opB q).map bv)) ++ ([Value.slice oa900606 ((opS q).length) nc900607]))).toArray, .int .i64 (opE q)]) 1 (.int .i64 (opE q)) rfl rfl rfl) rfl ?_
      refine St.wAlloc HS (cs := (Value.int .i64 0 :: ((nums .u8 (zK.map bv)) ++ ([Value.slice none 0 0])))) (.agg (Value.int .i64 0 :: ((nums .u8 (zK.map bv)) ++ ([Value.slice none 0 0]))).toArray) (by kernel_rfl) rfl ?_
      clear HS
      intro g900609 w900610 hg900611 HS
      refine St.stores (cs' := (Value.int .i64 (opK q) :: ((nums .u8 ((opB q).map bv)) ++ ([Value.slice oa900606 ((opS q).length) nc900607])))) HS (Value.int .i64 (opK q) :: ((nums .u8 ((opB q).map bv)) ++ ([Value.slice oa900606 ((opS q).length) nc900607]))) 18 rfl rfl (all1 rfl (allA (nums_one _ _) (all1 rfl rfl))) (by kernel_rfl) (by simp [(opB_len hq), List.length_map, nums_length]) (by simp [(opB_len hq), List.length_map, nums_length, zK_len]) (lay_all _ _ (by simp [(opB_len hq), List.length_map, nums_length, zK_len])) ?_
      clear HS
      intro w900612 HS
      refine p_run (l' := _) _ (x_assign (.int .i64 (opE q)) rfl rfl) rfl ?_
      refine wpList_nil ?_
      refine hK900603 _ _ ?_
      refine wp_seq_k (fun K900613 hK900614 => ?_)
      refine wp_seq_k (fun K900615 hK900616 => ?_)
      refine c_region (fun ops900618 hops900617 => ?_)
      clear hops900617
      refine p_run (l' := _) _ (x_move (.int .i64 (opE q)) rfl rfl) rfl ?_
      refine p_run (l' := _) _ (x_cmp (k := .i64) (m := (opE q)) (n := 0) .neq true rfl rfl rfl (neq_no' (by rw [(op_no hQ).2.2.2]; decide)) rfl) rfl ?_
      refine wpList_nil ?_
      refine fr_at (l' := [.agg (Value.int .i64 k :: ((nums .u8 (b.map bv)) ++ ([Value.slice A es.length c]))).toArray, .agg (Value.int .i64 k2 :: ((nums .u8 (b2.map bv)) ++ ([Value.slice B fs.length d]))).toArray, .agg ((nums .u8 (q.map bv))).toArray, .pointer (some ⟨g5, 0, none⟩), .pointer (some ⟨g8, 0, none⟩), .pointer (some ⟨g11, 0, none⟩), .bool false, .pointer (some ⟨g32, 0, none⟩), .int .i64 (lfE k b es), .pointer (some ⟨g41, 0, none⟩), .int .i64 (lfE k2 b2 fs), .pointer (some ⟨g58, 0, none⟩), .int .i64 (opE (lfP k b es)), .pointer (some ⟨g900609, 0, none⟩), .int .i64 (opE q), undef, undef, .bool true, .bool false, .pointer (some ⟨g5, 17, none⟩), .slice A es.length c, .int .i64 (es.length : Int), .bool false, .bool false, .pointer (some ⟨g8, 17, none⟩), .slice B fs.length d, .int .i64 (fs.length : Int), .bool false, .bool false, .tuple [.agg ((nums .u8 ((lfP k b es).map bv))).toArray, .int .i64 (lfE k b es)].toArray, .agg (Value.int .i64 k :: ((nums .u8 (b.map bv)) ++ ([Value.slice A es.length c]))).toArray, .tuple [.agg ((nums .u8 ((lfP k b es).map bv))).toArray, .int .i64 (lfE k b es)].toArray, .agg ((nums .u8 ((lfP k b es).map bv))).toArray, .int .i64 (lfE k b es), .tuple [.agg ((nums .u8 ((lfP k2 b2 fs).map bv))).toArray, .int .i64 (lfE k2 b2 fs)].toArray, .agg (Value.int .i64 k2 :: ((nums .u8 (b2.map bv)) ++ ([Value.slice B fs.length d]))).toArray, .tuple [.agg ((nums .u8 ((lfP k2 b2 fs).map bv))).toArray, .int .i64 (lfE k2 b2 fs)].toArray, .agg ((nums .u8 ((lfP k2 b2 fs).map bv))).toArray, .int .i64 (lfE k2 b2 fs), .int .i64 (lfE k b es), .bool true, .tuple [.agg (Value.int .i64 (opK (lfP k b es)) :: ((nums .u8 ((opB (lfP k b es)).map bv)) ++ ([Value.slice oa55 ((opS (lfP k b es)).length) nc56]))).toArray, .int .i64 (opE (lfP k b es))].toArray, .agg ((nums .u8 ((lfP k b es).map bv))).toArray, .tuple [.agg (Value.int .i64 (opK (lfP k b es)) :: ((nums .u8 ((opB (lfP k b es)).map bv)) ++ ([Value.slice oa55 ((opS (lfP k b es)).length) nc56]))).toArray, .int .i64 (opE (lfP k b es))].toArray, .agg (Value.int .i64 (opK (lfP k b es)) :: ((nums .u8 ((opB (lfP k b es)).map bv)) ++ ([Value.slice oa55 ((opS (lfP k b es)).length) nc56]))).toArray, .int .i64 (opE (lfP k b es)), .int .i64 (opE (lfP k b es)), .bool false, .bool false, .agg (Value.int .i64 (opK (lfP k b es)) :: ((nums .u8 ((opB (lfP k b es)).map bv)) ++ ([Value.slice oa55 ((opS (lfP k b es)).length) nc56]))).toArray, .agg (Value.int .i64 k :: ((nums .u8 (b.map bv)) ++ ([Value.slice A es.length c]))).toArray, .bool true, .bool false, .bool false, .bool false, .int .i64 (lfE k2 b2 fs), .bool false, .bool false, undef, undef, undef, undef, undef, undef, undef, .bool false, .bool false, .tuple [.agg (Value.int .i64 (opK q) :: ((nums .u8 ((opB q).map bv)) ++ ([Value.slice oa900606 ((opS q).length) nc900607]))).toArray, .int .i64 (opE q)].toArray, .agg ((nums .u8 (q.map bv))).toArray, .tuple [.agg (Value.int .i64 (opK q) :: ((nums .u8 ((opB q).map bv)) ++ ([Value.slice oa900606 ((opS q).length) nc900607]))).toArray, .int .i64 (opE q)].toArray, .agg (Value.int .i64 (opK q) :: ((nums .u8 ((opB q).map bv)) ++ ([Value.slice oa900606 ((opS q).length) nc900607]))).toArray, .int .i64 (opE q), .int .i64 (opE q), .bool true, undef, undef, undef, undef, undef, undef, undef, undef, undef, undef, undef, undef, undef, undef, undef]) rfl ?_
      refine hK900616 _ _ ?_
      refine c_true rfl ?_
      refine wp_seq_k (fun K900619 hK900620 => ?_)
      refine c_region (fun ops900622 hops900621 => ?_)
      clear hops900621
      refine p_run (l' := _) _ (x_loads (Value.int .i64 (opK q) :: ((nums .u8 ((opB q).map bv)) ++ ([Value.slice oa900606 ((opS q).length) nc900607]))) 18 rfl rfl (bkCells (HS.get (.head _)) 0 _ (whole _)) (by rfl) (by kernel_rfl) (by simp [(opB_len hq), List.length_map, nums_length])) rfl ?_
      refine p_run (l' := _) _ (x_build (Value.int .i64 0 :: ((nums .u8 (zK.map bv)) ++ ([Value.slice none 0 0]))) rfl (by kernel_rfl)) rfl ?_
      refine w_call [.agg (Value.int .i64 (opK q) :: ((nums .u8 ((opB q).map bv)) ++ ([Value.slice oa900606 ((opS q).length) nc900607]))).toArray, .agg (Value.int .i64 0 :: ((nums .u8 (zK.map bv)) ++ ([Value.slice none 0 0]))).toArray] Try.func30 (by kernel_rfl) (by rfl) rfl ?_
      refine (same_any _ (opK q) (opB q) (opB_len hq) oa900606 nc900607 (opS q) (row_C (HS.get (.tail _ (.head _)))).2.2 (opS_le q) 0 zK zK_len none 0 [] (en_nil _) (by decide)).mono ?_
      rintro e w900623 ⟨he_, hb_⟩
      rw [(lb_none hQ)] at he_
      subst he_
      replace HS := HS.here hb_
      clear hb_
      refine ⟨_, rfl, ?_⟩
      refine p_run (l' := _) _ (x_assign (.bool true) rfl rfl) rfl ?_
      refine wpList_nil ?_
      refine hK900620 _ _ ?_
      refine wp_ret ?_
      try simp only [Exit.inBlock, Exit.then]
      refine c_ret (.bool true) (r_tmp rfl rfl) ?_
      exact ⟨rfl, HS.belowOf⟩
    · skip
      refine c_enter Try.func11 rfl 89 rfl [.agg (Value.int .i64 k :: ((nums .u8 (b.map bv)) ++ ([Value.slice A es.length c]))).toArray, .agg (Value.int .i64 k2 :: ((nums .u8 (b2.map bv)) ++ ([Value.slice B fs.length d]))).toArray, .agg ((nums .u8 (q.map bv))).toArray, undef, undef, undef, undef, undef, undef, undef, undef, undef, undef, undef, undef, undef, undef, undef, undef, undef, undef, undef, undef, undef, undef, undef, undef, undef, undef, undef, undef, undef, undef, undef, undef, undef, undef, undef, undef, undef, undef, undef, undef, undef, undef, undef, undef, undef, undef, undef, undef, undef, undef, undef, undef, undef, undef, undef, undef, undef, undef, undef, undef, undef, undef, undef, undef, undef, undef, undef, undef, undef, undef, undef, undef, undef, undef, undef, undef, undef, undef, undef, undef, undef, undef, undef, undef, undef, undef] rfl ?_
      refine wp_seq_k (fun K1 hK2 => ?_)
      refine c_region (fun ops4 hops3 => ?_)
      clear hops3
      refine St.wBox HS (cs := (Value.int .i64 k :: ((nums .u8 (b.map bv)) ++ ([Value.slice A es.length c])))) (.agg (Value.int .i64 k :: ((nums .u8 (b.map bv)) ++ ([Value.slice A es.length c]))).toArray) rfl rfl ?_
      clear HS
      intro g5 w6 hg7 HS
      refine St.wBox HS (cs := (Value.int .i64 k2 :: ((nums .u8 (b2.map bv)) ++ ([Value.slice B fs.length d])))) (.agg (Value.int .i64 k2 :: ((nums .u8 (b2.map bv)) ++ ([Value.slice B fs.length d]))).toArray) rfl rfl ?_
      clear HS
      intro g8 w9 hg10 HS
      refine St.wBox HS (cs := ((nums .u8 (q.map bv)))) (.agg ((nums .u8 (q.map bv))).toArray) rfl rfl ?_
      clear HS
      intro g11 w12 hg13 HS
      refine p_run (l' := _) _ (x_assign (.bool false) rfl rfl) rfl ?_
      refine wpList_nil ?_
      refine hK2 _ _ ?_
      refine wp_seq_k (fun K14 hK15 => ?_)
      refine wp_seq_k (fun K16 hK17 => ?_)
      refine c_region (fun ops19 hops18 => ?_)
      clear hops18
      refine w_call [] Try.func25 (by kernel_rfl) (by rfl) rfl ?_
      refine (lalive_any _).mono ?_
      rintro e w20 ⟨rfl, hb_⟩
      replace HS := HS.here hb_
      clear hb_
      refine ⟨_, rfl, ?_⟩
      refine p_run (l' := _) _ (x_not true rfl rfl) rfl ?_
      refine wpList_nil ?_
      refine hK17 _ _ ?_
      refine c_false rfl ?_
      refine wp_skip ?_
      refine hK15 _ _ ?_
      refine wp_seq_k (fun K21 hK22 => ?_)
      refine wp_seq_k (fun K23 hK24 => ?_)
      refine c_region (fun ops26 hops25 => ?_)
      refine p_run (l' := _) _ (x_field (j := 17) _ _ rfl rfl Try.underlying52 rfl (by rfl) rfl) rfl ?_
      refine p_run (l' := _) _ (x_load (.slice A es.length c) rfl rfl (bkCell (HS.get (.tail _ (.tail _ (.head _)))) 17 _ (by simp [List.getElem?_append, List.length_map, hb, nums_length])) (by rfl)) rfl ?_
      refine p_run (l' := _) _ (x_len rfl rfl Try.underlying50) rfl ?_
      refine p_run (l' := _) _ (x_cmp (k := .i64) (m := (es.length : Int)) (n := 50) .gtr false rfl rfl rfl (show decide ((es.length : Int) > 50) = false from decide_eq_false (by omega)) rfl) rfl ?_
      refine p_run (l' := _) _ (x_move (.bool false) rfl rfl) rfl ?_
      refine p_on rfl (by rw [hops25]; rfl) ?_
      refine p_run (l' := [.agg (Value.int .i64 k :: ((nums .u8 (b.map bv)) ++ ([Value.slice A es.length c]))).toArray, .agg (Value.int .i64 k2 :: ((nums .u8 (b2.map bv)) ++ ([Value.slice B fs.length d]))).toArray, .agg ((nums .u8 (q.map bv))).toArray, .pointer (some ⟨g5, 0, none⟩), .pointer (some ⟨g8, 0, none⟩), .pointer (some ⟨g11, 0, none⟩), .bool false, undef, undef, undef, undef, undef, undef, undef, undef, undef, undef, .bool true, .bool false, .pointer (some ⟨g5, 17, none⟩), .slice A es.length c, .int .i64 (es.length : Int), .bool false, .bool false, .pointer (some ⟨g8, 17, none⟩), undef, undef, undef, undef, undef, undef, undef, undef, undef, undef, undef, undef, undef, undef, undef, undef, undef, undef, undef, undef, undef, undef, undef, undef, undef, undef, undef, undef, undef, undef, undef, undef, undef, undef, undef, undef, undef, undef, undef, undef, undef, undef, undef, undef, undef, undef, undef, undef, undef, undef, undef, undef, undef, undef, undef, undef, undef, undef, undef, undef, undef, undef, undef, undef]) _ (x_field (j := 17) _ _ rfl rfl Try.underlying52 rfl (by rfl) rfl) rfl ?_
      refine p_on rfl (by rw [hops25]; rfl) ?_
      refine p_run (l' := _) _ (x_load (.slice B fs.length d) rfl rfl (bkCell (HS.get (.tail _ (.head _))) 17 _ (by simp [List.getElem?_append, List.length_map, hb2, nums_length])) (by rfl)) rfl ?_
      refine p_on rfl (by rw [hops25]; rfl) ?_
      refine p_run (l' := _) _ (x_len rfl rfl Try.underlying50) rfl ?_
      refine p_on rfl (by rw [hops25]; rfl) ?_
      refine p_run (l' := _) _ (x_cmp (k := .i64) (m := (fs.length : Int)) (n := 50) .gtr false rfl rfl rfl (show decide ((fs.length : Int) > 50) = false from decide_eq_false (by omega)) rfl) rfl ?_
      refine p_run (l' := _) _ (x_pick false (.bool true) (.bool false) (.bool false) rfl rfl rfl rfl rfl) rfl ?_
      clear hops25
      refine wpList_nil ?_
      refine hK24 _ _ ?_
      refine c_false rfl ?_
      refine wp_skip ?_
      refine hK22 _ _ ?_
      refine wp_seq_k (fun K27 hK28 => ?_)
      refine c_region (fun ops30 hops29 => ?_)
      clear hops29
      refine p_run (l' := _) _ (x_loads (Value.int .i64 k :: ((nums .u8 (b.map bv)) ++ ([Value.slice A es.length c]))) 18 rfl rfl (bkCells (HS.get (.tail _ (.tail _ (.head _)))) 0 _ (whole _)) (by rfl) (by kernel_rfl) (by simp [List.length_map, hb, nums_length])) rfl ?_
      refine w_call [.agg (Value.int .i64 k :: ((nums .u8 (b.map bv)) ++ ([Value.slice A es.length c]))).toArray] Try.func23 (by kernel_rfl) (by rfl) rfl ?_
      refine (lpage_any _ k b hb A c es (Kd.C_below hr HS.belowOf) hl).mono ?_
      rintro e w31 ⟨rfl, hb_⟩
      replace HS := HS.here hb_
      clear hb_
      refine ⟨_, rfl, ?_⟩
      refine p_run (l' := _) _ (x_move (.tuple [.agg ((nums .u8 ((lfP k b es).map bv))).toArray, .int .i64 (lfE k b es)].toArray) rfl rfl) rfl ?_
      refine p_run (l' := _) _ (x_extract (vs := [.agg ((nums .u8 ((lfP k b es).map bv))).toArray, .int .i64 (lfE k b es)]) 0 (.agg ((nums .u8 ((lfP k b es).map bv))).toArray) rfl rfl rfl) rfl ?_
      refine p_run (l' := _) _ (x_extract (vs := [.agg ((nums .u8 ((lfP k b es).map bv))).toArray, .int .i64 (lfE k b es)]) 1 (.int .i64 (lfE k b es)) rfl rfl rfl) rfl ?_
      refine St.wAlloc HS (cs := ((nums .u8 (zQ.map bv)))) (.agg ((nums .u8 (zQ.map bv))).toArray) (by kernel_rfl) rfl ?_
      clear HS
      intro g32 w33 hg34 HS
      refine St.stores (cs' := ((nums .u8 ((lfP k b es).map bv)))) HS ((nums .u8 ((lfP k b es).map bv))) 256 rfl rfl (nums_one _ _) (by kernel_rfl) (by simp [(lfP_len k hb es), List.length_map, nums_length]) (by simp [(lfP_len k hb es), List.length_map, nums_length, zQ_len]) (lay_all _ _ (by simp [(lfP_len k hb es), List.length_map, nums_length, zQ_len])) ?_
      clear HS
      intro w35 HS
      refine p_run (l' := _) _ (x_assign (.int .i64 (lfE k b es)) rfl rfl) rfl ?_
      refine wpList_nil ?_
      refine fr_at (l' := [.agg (Value.int .i64 k :: ((nums .u8 (b.map bv)) ++ ([Value.slice A es.length c]))).toArray, .agg (Value.int .i64 k2 :: ((nums .u8 (b2.map bv)) ++ ([Value.slice B fs.length d]))).toArray, .agg ((nums .u8 (q.map bv))).toArray, .pointer (some ⟨g5, 0, none⟩), .pointer (some ⟨g8, 0, none⟩), .pointer (some ⟨g11, 0, none⟩), .bool false, .pointer (some ⟨g32, 0, none⟩), .int .i64 (lfE k b es), undef, undef, undef, undef, undef, undef, undef, undef, .bool true, .bool false, .pointer (some ⟨g5, 17, none⟩), .slice A es.length c, .int .i64 (es.length : Int), .bool false, .bool false, .pointer (some ⟨g8, 17, none⟩), .slice B fs.length d, .int .i64 (fs.length : Int), .bool false, .bool false, .tuple [.agg ((nums .u8 ((lfP k b es).map bv))).toArray, .int .i64 (lfE k b es)].toArray, .agg (Value.int .i64 k :: ((nums .u8 (b.map bv)) ++ ([Value.slice A es.length c]))).toArray, .tuple [.agg ((nums .u8 ((lfP k b es).map bv))).toArray, .int .i64 (lfE k b es)].toArray, .agg ((nums .u8 ((lfP k b es).map bv))).toArray, .int .i64 (lfE k b es), undef, undef, undef, undef, undef, undef, undef, undef, undef, undef, undef, undef, undef, undef, undef, undef, undef, undef, undef, undef, undef, undef, undef, undef, undef, undef, undef, undef, undef, undef, undef, undef, undef, undef, undef, undef, undef, undef, undef, undef, undef, undef, undef, undef, undef, undef, undef, undef, undef, undef, undef, undef, undef, undef, undef]) rfl ?_
      refine hK28 _ _ ?_
      refine wp_seq_k (fun K36 hK37 => ?_)
      refine c_region (fun ops39 hops38 => ?_)
      clear hops38
      refine p_run (l' := _) _ (x_loads (Value.int .i64 k2 :: ((nums .u8 (b2.map bv)) ++ ([Value.slice B fs.length d]))) 18 rfl rfl (bkCells (HS.get (.tail _ (.tail _ (.head _)))) 0 _ (whole _)) (by rfl) (by kernel_rfl) (by simp [List.length_map, hb2, nums_length])) rfl ?_
      refine w_call [.agg (Value.int .i64 k2 :: ((nums .u8 (b2.map bv)) ++ ([Value.slice B fs.length d]))).toArray] Try.func23 (by kernel_rfl) (by rfl) rfl ?_
      refine (lpage_any _ k2 b2 hb2 B d fs (Kd.C_below hr2 HS.belowOf) hl2).mono ?_
      rintro e w40 ⟨rfl, hb_⟩
      replace HS := HS.here hb_
      clear hb_
      refine ⟨_, rfl, ?_⟩
      refine p_run (l' := _) _ (x_move (.tuple [.agg ((nums .u8 ((lfP k2 b2 fs).map bv))).toArray, .int .i64 (lfE k2 b2 fs)].toArray) rfl rfl) rfl ?_
      refine p_run (l' := _) _ (x_extract (vs := [.agg ((nums .u8 ((lfP k2 b2 fs).map bv))).toArray, .int .i64 (lfE k2 b2 fs)]) 0 (.agg ((nums .u8 ((lfP k2 b2 fs).map bv))).toArray) rfl rfl rfl) rfl ?_
      refine p_run (l' := _) _ (x_extract (vs := [.agg ((nums .u8 ((lfP k2 b2 fs).map bv))).toArray, .int .i64 (lfE k2 b2 fs)]) 1 (.int .i64 (lfE k2 b2 fs)) rfl rfl rfl) rfl ?_
      refine St.wAlloc HS (cs := ((nums .u8 (zQ.map bv)))) (.agg ((nums .u8 (zQ.map bv))).toArray) (by kernel_rfl) rfl ?_
      clear HS
      intro g41 w42 hg43 HS
      refine St.stores (cs' := ((nums .u8 ((lfP k2 b2 fs).map bv)))) HS ((nums .u8 ((lfP k2 b2 fs).map bv))) 256 rfl rfl (nums_one _ _) (by kernel_rfl) (by simp [(lfP_len k2 hb2 fs), List.length_map, nums_length]) (by simp [(lfP_len k2 hb2 fs), List.length_map, nums_length, zQ_len]) (lay_all _ _ (by simp [(lfP_len k2 hb2 fs), List.length_map, nums_length, zQ_len])) ?_
      clear HS
      intro w44 HS
      refine p_run (l' := _) _ (x_assign (.int .i64 (lfE k2 b2 fs)) rfl rfl) rfl ?_
      refine wpList_nil ?_
      refine hK37 _ _ ?_
      refine wp_seq_k (fun K45 hK46 => ?_)
      refine wp_seq_k (fun K47 hK48 => ?_)
      refine c_region (fun ops50 hops49 => ?_)
      clear hops49
      refine p_run (l' := _) _ (x_move (.int .i64 (lfE k b es)) rfl rfl) rfl ?_
      refine p_run (l' := _) _ (x_cmp (k := .i64) (m := (lfE k b es)) (n := 0) .eql true rfl rfl rfl (cmp_yes (lf_yes hA).2) rfl) rfl ?_
      refine wpList_nil ?_
      refine fr_at (l' := [.agg (Value.int .i64 k :: ((nums .u8 (b.map bv)) ++ ([Value.slice A es.length c]))).toArray, .agg (Value.int .i64 k2 :: ((nums .u8 (b2.map bv)) ++ ([Value.slice B fs.length d]))).toArray, .agg ((nums .u8 (q.map bv))).toArray, .pointer (some ⟨g5, 0, none⟩), .pointer (some ⟨g8, 0, none⟩), .pointer (some ⟨g11, 0, none⟩), .bool false, .pointer (some ⟨g32, 0, none⟩), .int .i64 (lfE k b es), .pointer (some ⟨g41, 0, none⟩), .int .i64 (lfE k2 b2 fs), undef, undef, undef, undef, undef, undef, .bool true, .bool false, .pointer (some ⟨g5, 17, none⟩), .slice A es.length c, .int .i64 (es.length : Int), .bool false, .bool false, .pointer (some ⟨g8, 17, none⟩), .slice B fs.length d, .int .i64 (fs.length : Int), .bool false, .bool false, .tuple [.agg ((nums .u8 ((lfP k b es).map bv))).toArray, .int .i64 (lfE k b es)].toArray, .agg (Value.int .i64 k :: ((nums .u8 (b.map bv)) ++ ([Value.slice A es.length c]))).toArray, .tuple [.agg ((nums .u8 ((lfP k b es).map bv))).toArray, .int .i64 (lfE k b es)].toArray, .agg ((nums .u8 ((lfP k b es).map bv))).toArray, .int .i64 (lfE k b es), .tuple [.agg ((nums .u8 ((lfP k2 b2 fs).map bv))).toArray, .int .i64 (lfE k2 b2 fs)].toArray, .agg (Value.int .i64 k2 :: ((nums .u8 (b2.map bv)) ++ ([Value.slice B fs.length d]))).toArray, .tuple [.agg ((nums .u8 ((lfP k2 b2 fs).map bv))).toArray, .int .i64 (lfE k2 b2 fs)].toArray, .agg ((nums .u8 ((lfP k2 b2 fs).map bv))).toArray, .int .i64 (lfE k2 b2 fs), .int .i64 (lfE k b es), .bool true, undef, undef, undef, undef, undef, undef, undef, undef, undef, undef, undef, undef, undef, undef, undef, undef, undef, undef, undef, undef, undef, undef, undef, undef, undef, undef, undef, undef, undef, undef, undef, undef, undef, undef, undef, undef, undef, undef, undef, undef, undef, undef, undef, undef, undef, undef, undef, undef]) rfl ?_
      refine hK48 _ _ ?_
      refine c_true rfl ?_
      refine wp_seq_k (fun K51 hK52 => ?_)
      refine c_region (fun ops54 hops53 => ?_)
      clear hops53
      refine p_run (l' := _) _ (x_loads ((nums .u8 ((lfP k b es).map bv))) 256 rfl rfl (bkCells (HS.get (.tail _ (.head _))) 0 _ (whole _)) (by rfl) (by kernel_rfl) (by simp [(lfP_len k hb es), List.length_map, nums_length])) rfl ?_
      refine w_call [.agg ((nums .u8 ((lfP k b es).map bv))).toArray] Try.func24 (by kernel_rfl) (by rfl) rfl ?_
      refine (lopen_any _ (lfP k b es) (lfP_len k hb es)).mono ?_
      rintro e w57 ⟨oa55, nc56, rfl, hk_⟩
      replace HS := HS.more hk_
      clear hk_
      refine ⟨_, rfl, ?_⟩
      refine p_run (l' := _) _ (x_move (.tuple [.agg (Value.int .i64 (opK (lfP k b es)) :: ((nums .u8 ((opB (lfP k b es)).map bv)) ++ ([Value.slice oa55 ((opS (lfP k b es)).length) nc56]))).toArray, .int .i64 (opE (lfP k b es))].toArray) rfl rfl) rfl ?_
      refine p_run (l' := _) _ (x_extract (vs := [.agg (Value.int .i64 (opK (lfP k b es)) :: ((nums .u8 ((opB (lfP k b es)).map bv)) ++ ([Value.slice oa55 ((opS (lfP k b es)).length) nc56]))).toArray, .int .i64 (opE (lfP k b es))]) 0 (.agg (Value.int .i64 (opK (lfP k b es)) :: ((nums .u8 ((opB (lfP k b es)).map bv)) ++ ([Value.slice oa55 ((opS (lfP k b es)).length) nc56]))).toArray) rfl rfl rfl) rfl ?_
      refine p_run (l' := _) _ (x_extract (vs := [.agg (Value.int .i64 (opK (lfP k b es)) :: ((nums .u8 ((opB (lfP k b es)).map bv)) ++ ([Value.slice oa55 ((opS (lfP k b es)).length) nc56]))).toArray, .int .i64 (opE (lfP k b es))]) 1 (.int .i64 (opE (lfP k b es))) rfl rfl rfl) rfl ?_
      refine St.wAlloc HS (cs := (Value.int .i64 0 :: ((nums .u8 (zK.map bv)) ++ ([Value.slice none 0 0])))) (.agg (Value.int .i64 0 :: ((nums .u8 (zK.map bv)) ++ ([Value.slice none 0 0]))).toArray) (by kernel_rfl) rfl ?_
      clear HS
      intro g58 w59 hg60 HS
      refine St.stores (cs' := (Value.int .i64 (opK (lfP k b es)) :: ((nums .u8 ((opB (lfP k b es)).map bv)) ++ ([Value.slice oa55 ((opS (lfP k b es)).length) nc56])))) HS (Value.int .i64 (opK (lfP k b es)) :: ((nums .u8 ((opB (lfP k b es)).map bv)) ++ ([Value.slice oa55 ((opS (lfP k b es)).length) nc56]))) 18 rfl rfl (all1 rfl (allA (nums_one _ _) (all1 rfl rfl))) (by kernel_rfl) (by simp [(opB_len (lfP_len k hb es)), List.length_map, nums_length]) (by simp [(opB_len (lfP_len k hb es)), List.length_map, nums_length, zK_len]) (lay_all _ _ (by simp [(opB_len (lfP_len k hb es)), List.length_map, nums_length, zK_len])) ?_
      clear HS
      intro w61 HS
      refine p_run (l' := _) _ (x_assign (.int .i64 (opE (lfP k b es))) rfl rfl) rfl ?_
      refine wpList_nil ?_
      refine hK52 _ _ ?_
      refine wp_seq_k (fun K62 hK63 => ?_)
      refine free_frame (n := 21) (T := _) [0, 1, 3, 7, 7, 31, 63, 127, 255, 511, 1023, 2047, 4095, 4095, 16383, 4095, 4095, 102399, 262143, 524287, 1048575] [(0, 46), (1, 47), (2, 48), (3, 49), (4, 50), (5, 51), (6, 52), (7, 53), (8, 54), (9, 55), (10, 56), (11, 57), (12, 58), (13, 59), (14, 60), (15, 61), (16, 62), (17, 63), (18, 64), (19, 65), (20, 66)] (fun bq_ vq_ w_ => qv ((fun i_ => match i_ with | 0 => some (.int .i64 (opE (lfP k b es))) | 1 => some (.bool false) | 2 => some (.bool false) | 3 => some (.agg (Value.int .i64 (opK (lfP k b es)) :: ((nums .u8 ((opB (lfP k b es)).map bv)) ++ ([Value.slice oa55 ((opS (lfP k b es)).length) nc56]))).toArray) | 4 => some (.agg (Value.int .i64 k :: ((nums .u8 (b.map bv)) ++ ([Value.slice A es.length c]))).toArray) | 6 => some (.bool false) | 7 => some (.bool false) | 8 => some (.bool false) | 9 => some (.int .i64 (lfE k2 b2 fs)) | 10 => some (.bool false) | 11 => some (.bool false) | 12 => some (undef) | 13 => some (undef) | 14 => some (undef) | 15 => some (undef) | 16 => some (undef) | 17 => some (undef) | 18 => some (undef) | 19 => some (.bool false) | 20 => some (.bool false) | _ => none) : Nat → Option Value) bq_ vq_ ∧ cond (bq_ 5) (vq_ 5 = .bool true ∧ St w (fun _ => False) w_ ([blk g58 (Value.int .i64 (opK (lfP k b es)) :: ((nums .u8 ((opB (lfP k b es)).map bv)) ++ ([Value.slice oa55 ((opS (lfP k b es)).length) nc56]))) 52, row kEn rfl 62 (.slice oa55 ((opS (lfP k b es)).length) nc56) (opS (lfP k b es)), blk g41 ((nums .u8 ((lfP k2 b2 fs).map bv))) 27, blk g32 ((nums .u8 ((lfP k b es).map bv))) 27, blk g11 ((nums .u8 (q.map bv))) 27, blk g8 (Value.int .i64 k2 :: ((nums .u8 (b2.map bv)) ++ ([Value.slice B fs.length d]))) 52, blk g5 (Value.int .i64 k :: ((nums .u8 (b.map bv)) ++ ([Value.slice A es.length c]))) 52])) ((St w (fun _ => False) w_ ([blk g58 (Value.int .i64 (opK (lfP k b es)) :: ((nums .u8 ((opB (lfP k b es)).map bv)) ++ ([Value.slice oa55 ((opS (lfP k b es)).length) nc56]))) 52, row kEn rfl 62 (.slice oa55 ((opS (lfP k b es)).length) nc56) (opS (lfP k b es)), blk g41 ((nums .u8 ((lfP k2 b2 fs).map bv))) 27, blk g32 ((nums .u8 ((lfP k b es).map bv))) 27, blk g11 ((nums .u8 (q.map bv))) 27, blk g8 (Value.int .i64 k2 :: ((nums .u8 (b2.map bv)) ++ ([Value.slice B fs.length d]))) 52, blk g5 (Value.int .i64 k :: ((nums .u8 (b.map bv)) ++ ([Value.slice A es.length c]))) 52])))) (by kernel_rfl) rfl rfl (by kernel_rfl) (by kernel_rfl) rfl (by kernel_rfl) (by kernel_rfl) ⟨qv_none, HS.draw⟩ ?_ ?_
      · clear HS
        intro i_ hi_ bq_ vq_ a_ w_ hG hb_ hon hoff hfr hel hval
        obtain ⟨hV, hE⟩ := hG
        have hi_ := List.mem_range.1 hi_
        obtain ⟨l_, rfl⟩ := hfr
        have hv_ := fun (j t : Nat) (v : Value) (h1 : (j, t) ∈ [(0, 46), (1, 47), (2, 48), (3, 49), (4, 50), (5, 51), (6, 52), (7, 53), (8, 54), (9, 55), (10, 56), (11, 57), (12, 58), (13, 59), (14, 60), (15, 61), (16, 62), (17, 63), (18, 64), (19, 65), (20, 66)]) h2 h3 => (hval (j, t) h1 h3).trans (congrArg some (hV j v h2 h3))
        have hcs : i_ = 0 ∨ i_ = 1 ∨ i_ = 2 ∨ i_ = 3 ∨ i_ = 4 ∨ i_ = 5 ∨ i_ = 6 ∨ i_ = 7 ∨ i_ = 8 ∨ i_ = 9 ∨ i_ = 10 ∨ i_ = 11 ∨ i_ = 12 ∨ i_ = 13 ∨ i_ = 14 ∨ i_ = 15 ∨ i_ = 16 ∨ i_ = 17 ∨ i_ = 18 ∨ i_ = 19 ∨ i_ = 20 := by omega
        rcases hcs with rfl | rfl | rfl | rfl | rfl | rfl | rfl | rfl | rfl | rfl | rfl | rfl | rfl | rfl | rfl | rfl | rfl | rfl | rfl | rfl | rfl
        · have e12 : evl l_ (.tmp 12) = .int .i64 (opE (lfP k b es)) := evl_of ((hel 12 (by decide)).trans rfl)
          exact ⟨_, rfl, fun K_ hK_ => q_op _ (x_move (.int .i64 (opE (lfP k b es))) rfl e12) (hK_ _ _ ⟨qv_up hV (fun _ h => Option.some.inj h), hE⟩)⟩
        · have e46 : evl l_ (.tmp 46) = .int .i64 (opE (lfP k b es)) := evl_of (hv_ 0 46 _ (by decide) rfl (hon 0 (by decide)))
          exact ⟨_, rfl, fun K_ hK_ => q_op _ (x_cmp (k := .i64) (m := (opE (lfP k b es))) (n := 0) .neq false rfl e46 rfl (neq_yes' (lb_open hb hA).2.2.2) rfl) (hK_ _ _ ⟨qv_up hV (fun _ h => Option.some.inj h), hE⟩)⟩
        · have e47 : evl l_ (.tmp 47) = .bool false := evl_of (hv_ 1 47 _ (by decide) rfl (hon 1 (by decide)))
          exact ⟨_, rfl, fun K_ hK_ => q_op _ (x_move (.bool false) rfl e47) (hK_ _ _ ⟨qv_up hV (fun _ h => Option.some.inj h), hE⟩)⟩
        · have h48 : (fr l_).tmps[48]? = some (.bool false) := hv_ 2 48 _ (by decide) rfl (hon 2 (by decide))
          have hE0 := hE
          rw [show bq_ 5 = false from (hoff 5 (by decide))] at hE0
          simp only [cond_true, cond_false] at hE0
          have HS := hE0
          have e11 : evl l_ (.tmp 11) = .pointer (some ⟨g58, 0, none⟩) := evl_of ((hel 11 (by decide)).trans rfl)
          have e48 : evl l_ (.tmp 48) = .bool false := evl_of h48
          exact ⟨_, rfl, fun K_ hK_ => q_opG (wanted_on (t := 48) rfl rfl rfl h48) _ (x_loads (Value.int .i64 (opK (lfP k b es)) :: ((nums .u8 ((opB (lfP k b es)).map bv)) ++ ([Value.slice oa55 ((opS (lfP k b es)).length) nc56]))) 18 rfl e11 (bkCells (HS.get (.head _)) 0 _ (whole _)) (by rfl) (by kernel_rfl) (by simp [(opB_len (lfP_len k hb es)), List.length_map, nums_length])) (hK_ _ _ ⟨qv_up hV (fun _ h => Option.some.inj h), hE⟩)⟩
        · have h48 : (fr l_).tmps[48]? = some (.bool false) := hv_ 2 48 _ (by decide) rfl (hon 2 (by decide))
          have hE0 := hE
          rw [show bq_ 5 = false from (hoff 5 (by decide))] at hE0
          simp only [cond_true, cond_false] at hE0
          have HS := hE0
          have e3 : evl l_ (.tmp 3) = .pointer (some ⟨g5, 0, none⟩) := evl_of ((hel 3 (by decide)).trans rfl)
          have e48 : evl l_ (.tmp 48) = .bool false := evl_of h48
          exact ⟨_, rfl, fun K_ hK_ => q_opG (wanted_on (t := 48) rfl rfl rfl h48) _ (x_loads (Value.int .i64 k :: ((nums .u8 (b.map bv)) ++ ([Value.slice A es.length c]))) 18 rfl e3 (bkCells (HS.get (.tail _ (.tail _ (.tail _ (.tail _ (.tail _ (.tail _ (.head _)))))))) 0 _ (whole _)) (by rfl) (by kernel_rfl) (by simp [List.length_map, hb, nums_length])) (hK_ _ _ ⟨qv_up hV (fun _ h => Option.some.inj h), hE⟩)⟩
        · have h48 : (fr l_).tmps[48]? = some (.bool false) := hv_ 2 48 _ (by decide) rfl (hon 2 (by decide))
          have h49 : (fr l_).tmps[49]? = some (.agg (Value.int .i64 (opK (lfP k b es)) :: ((nums .u8 ((opB (lfP k b es)).map bv)) ++ ([Value.slice oa55 ((opS (lfP k b es)).length) nc56]))).toArray) := hv_ 3 49 _ (by decide) rfl (hon 3 (by decide))
          have h50 : (fr l_).tmps[50]? = some (.agg (Value.int .i64 k :: ((nums .u8 (b.map bv)) ++ ([Value.slice A es.length c]))).toArray) := hv_ 4 50 _ (by decide) rfl (hon 4 (by decide))
          have hE0 := hE
          rw [show bq_ 5 = false from hb_] at hE0
          simp only [cond_true, cond_false] at hE0
          have HS := hE0
          have e48 : evl l_ (.tmp 48) = .bool false := evl_of h48
          have e49 : evl l_ (.tmp 49) = .agg (Value.int .i64 (opK (lfP k b es)) :: ((nums .u8 ((opB (lfP k b es)).map bv)) ++ ([Value.slice oa55 ((opS (lfP k b es)).length) nc56]))).toArray := evl_of h49
          have e50 : evl l_ (.tmp 50) = .agg (Value.int .i64 k :: ((nums .u8 (b.map bv)) ++ ([Value.slice A es.length c]))).toArray := evl_of h50
          refine ⟨_, rfl, fun K_ hK_ => wp_of_listG rfl (wanted_on (t := 48) rfl rfl rfl h48) ?_⟩
          intro ops_
          refine w_call [.agg (Value.int .i64 (opK (lfP k b es)) :: ((nums .u8 ((opB (lfP k b es)).map bv)) ++ ([Value.slice oa55 ((opS (lfP k b es)).length) nc56]))).toArray, .agg (Value.int .i64 k :: ((nums .u8 (b.map bv)) ++ ([Value.slice A es.length c]))).toArray] Try.func30 (by kernel_rfl) (by rfl) (by simp only [List.map_cons, List.map_nil, e49, e50] <;> rfl) ?_
          refine (same_any _ (opK (lfP k b es)) (opB (lfP k b es)) (opB_len (lfP_len k hb es)) oa55 nc56 (opS (lfP k b es)) (row_C (HS.get (.tail _ (.head _)))).2.2 (opS_le (lfP k b es)) k b hb A c es (Kd.C_below hr HS.belowOf) hl).mono ?_
          rintro e w900501 ⟨he_, hb_⟩
          rw [(lb_same hb hA)] at he_
          subst he_
          replace HS := HS.here hb_
          clear hb_
          refine ⟨_, rfl, ?_⟩
          refine wpList_nil ?_
          refine norm_put (hK_ (.bool true) _ ⟨qv_up hV (by intro _ h; cases h), ?_⟩)
          show cond true _ _
          rw [cond_true]
          exact ⟨rfl, (((((((HS.front 6 rfl).front 6 rfl).front 6 rfl).front 6 rfl).front 6 rfl).front 6 rfl).front 6 rfl)⟩
        · have h48 : (fr l_).tmps[48]? = some (.bool false) := hv_ 2 48 _ (by decide) rfl (hon 2 (by decide))
          have h51 := hval (5, 51) (by decide) (hon 5 (by decide))
          have hE0 := hE
          rw [show bq_ 5 = true from (hon 5 (by decide))] at hE0
          simp only [cond_true, cond_false] at hE0
          obtain ⟨hv5, HS⟩ := hE0
          rw [hv5] at h51
          have e48 : evl l_ (.tmp 48) = .bool false := evl_of h48
          have e51 : evl l_ (.tmp 51) = .bool true := evl_of h51
          exact ⟨_, rfl, fun K_ hK_ => q_opG (wanted_on (t := 48) rfl rfl rfl h48) _ (x_not true rfl e51) (hK_ _ _ ⟨qv_up hV (fun _ h => Option.some.inj h), hE⟩)⟩
        · have e48 : evl l_ (.tmp 48) = .bool false := evl_of (hv_ 2 48 _ (by decide) rfl (hon 2 (by decide)))
          have e52 : evl l_ (.tmp 52) = .bool false := evl_of (hv_ 6 52 _ (by decide) rfl (hon 6 (by decide)))
          exact ⟨_, rfl, fun K_ hK_ => q_op _ (x_pick false (.bool true) (.bool false) (.bool false) rfl e48 rfl e52 rfl) (hK_ _ _ ⟨qv_up hV (fun _ h => Option.some.inj h), hE⟩)⟩
        · have e53 : evl l_ (.tmp 53) = .bool false := evl_of (hv_ 7 53 _ (by decide) rfl (hon 7 (by decide)))
          exact ⟨_, rfl, fun K_ hK_ => q_op _ (x_move (.bool false) rfl e53) (hK_ _ _ ⟨qv_up hV (fun _ h => Option.some.inj h), hE⟩)⟩
        · have h54 : (fr l_).tmps[54]? = some (.bool false) := hv_ 8 54 _ (by decide) rfl (hon 8 (by decide))
          have e10 : evl l_ (.tmp 10) = .int .i64 (lfE k2 b2 fs) := evl_of ((hel 10 (by decide)).trans rfl)
          have e54 : evl l_ (.tmp 54) = .bool false := evl_of h54
          exact ⟨_, rfl, fun K_ hK_ => q_opG (wanted_on (t := 54) rfl rfl rfl h54) _ (x_move (.int .i64 (lfE k2 b2 fs)) rfl e10) (hK_ _ _ ⟨qv_up hV (fun _ h => Option.some.inj h), hE⟩)⟩
        · have h54 : (fr l_).tmps[54]? = some (.bool false) := hv_ 8 54 _ (by decide) rfl (hon 8 (by decide))
          have e54 : evl l_ (.tmp 54) = .bool false := evl_of h54
          have e55 : evl l_ (.tmp 55) = .int .i64 (lfE k2 b2 fs) := evl_of (hv_ 9 55 _ (by decide) rfl (hon 9 (by decide)))
          exact ⟨_, rfl, fun K_ hK_ => q_opG (wanted_on (t := 54) rfl rfl rfl h54) _ (x_cmp (k := .i64) (m := (lfE k2 b2 fs)) (n := 0) .eql false rfl e55 rfl (by rw [(lf_no hB).2]; decide) rfl) (hK_ _ _ ⟨qv_up hV (fun _ h => Option.some.inj h), hE⟩)⟩
        · have h54 : (fr l_).tmps[54]? = some (.bool false) := hv_ 8 54 _ (by decide) rfl (hon 8 (by decide))
          have e54 : evl l_ (.tmp 54) = .bool false := evl_of h54
          have e56 : evl l_ (.tmp 56) = .bool false := evl_of (hv_ 10 56 _ (by decide) rfl (hon 10 (by decide)))
          exact ⟨_, rfl, fun K_ hK_ => q_opG (wanted_on (t := 54) rfl rfl rfl h54) _ (x_move (.bool false) rfl e56) (hK_ _ _ ⟨qv_up hV (fun _ h => Option.some.inj h), hE⟩)⟩
        · have h57 : (fr l_).tmps[57]? = some (.bool false) := hv_ 11 57 _ (by decide) rfl (hon 11 (by decide))
          exact ⟨_, rfl, fun K_ hK_ => wp_offG (wanted_off (t := 57) rfl rfl rfl h57) (hK_ undef _ ⟨qv_up hV (fun _ h => Option.some.inj h), hE⟩)⟩
        · have h57 : (fr l_).tmps[57]? = some (.bool false) := hv_ 11 57 _ (by decide) rfl (hon 11 (by decide))
          exact ⟨_, rfl, fun K_ hK_ => wp_offG (wanted_off (t := 57) rfl rfl rfl h57) (hK_ undef _ ⟨qv_up hV (fun _ h => Option.some.inj h), hE⟩)⟩
        · have h57 : (fr l_).tmps[57]? = some (.bool false) := hv_ 11 57 _ (by decide) rfl (hon 11 (by decide))
          exact ⟨_, rfl, fun K_ hK_ => wp_offG (wanted_off (t := 57) rfl rfl rfl h57) (hK_ undef _ ⟨qv_up hV (fun _ h => Option.some.inj h), hE⟩)⟩
        · have h57 : (fr l_).tmps[57]? = some (.bool false) := hv_ 11 57 _ (by decide) rfl (hon 11 (by decide))
          exact ⟨_, rfl, fun K_ hK_ => wp_offG (wanted_off (t := 57) rfl rfl rfl h57) (hK_ undef _ ⟨qv_up hV (fun _ h => Option.some.inj h), hE⟩)⟩
        · have h57 : (fr l_).tmps[57]? = some (.bool false) := hv_ 11 57 _ (by decide) rfl (hon 11 (by decide))
          exact ⟨_, rfl, fun K_ hK_ => wp_offG (wanted_off (t := 57) rfl rfl rfl h57) (hK_ undef _ ⟨qv_up hV (fun _ h => Option.some.inj h), hE⟩)⟩
        · have h57 : (fr l_).tmps[57]? = some (.bool false) := hv_ 11 57 _ (by decide) rfl (hon 11 (by decide))
          exact ⟨_, rfl, fun K_ hK_ => wp_offG (wanted_off (t := 57) rfl rfl rfl h57) (hK_ undef _ ⟨qv_up hV (fun _ h => Option.some.inj h), hE⟩)⟩
        · have h57 : (fr l_).tmps[57]? = some (.bool false) := hv_ 11 57 _ (by decide) rfl (hon 11 (by decide))
          exact ⟨_, rfl, fun K_ hK_ => wp_offG (wanted_off (t := 57) rfl rfl rfl h57) (hK_ undef _ ⟨qv_up hV (fun _ h => Option.some.inj h), hE⟩)⟩
        · have h54 : (fr l_).tmps[54]? = some (.bool false) := hv_ 8 54 _ (by decide) rfl (hon 8 (by decide))
          have e54 : evl l_ (.tmp 54) = .bool false := evl_of h54
          have e57 : evl l_ (.tmp 57) = .bool false := evl_of (hv_ 11 57 _ (by decide) rfl (hon 11 (by decide)))
          have e64 : evl l_ (.tmp 64) = undef := evl_of (hv_ 18 64 _ (by decide) rfl (hon 18 (by decide)))
          exact ⟨_, rfl, fun K_ hK_ => q_opG (wanted_on (t := 54) rfl rfl rfl h54) _ (x_pick false (undef) (.bool false) (.bool false) rfl e57 e64 rfl rfl) (hK_ _ _ ⟨qv_up hV (fun _ h => Option.some.inj h), hE⟩)⟩
        · have e54 : evl l_ (.tmp 54) = .bool false := evl_of (hv_ 8 54 _ (by decide) rfl (hon 8 (by decide)))
          have e65 : evl l_ (.tmp 65) = .bool false := evl_of (hv_ 19 65 _ (by decide) rfl (hon 19 (by decide)))
          exact ⟨_, rfl, fun K_ hK_ => q_op _ (x_pick false (.bool true) (.bool false) (.bool false) rfl e54 rfl e65 rfl) (hK_ _ _ ⟨qv_up hV (fun _ h => Option.some.inj h), hE⟩)⟩
      intro bq_ vq_ w_ hall hG
      obtain ⟨hV, hE⟩ := hG
      clear HS
      rw [show bq_ 5 = true from hall 5 (by decide)] at hE
      simp only [cond_true] at hE
      obtain ⟨hv5, HS⟩ := hE
      have hv0 := hV 0 _ rfl (hall 0 (by decide))
      have hv1 := hV 1 _ rfl (hall 1 (by decide))
      have hv2 := hV 2 _ rfl (hall 2 (by decide))
      have hv3 := hV 3 _ rfl (hall 3 (by decide))
      have hv4 := hV 4 _ rfl (hall 4 (by decide))
      have hv6 := hV 6 _ rfl (hall 6 (by decide))
      have hv7 := hV 7 _ rfl (hall 7 (by decide))
      have hv8 := hV 8 _ rfl (hall 8 (by decide))
      have hv9 := hV 9 _ rfl (hall 9 (by decide))
      have hv10 := hV 10 _ rfl (hall 10 (by decide))
      have hv11 := hV 11 _ rfl (hall 11 (by decide))
      have hv12 := hV 12 _ rfl (hall 12 (by decide))
      have hv13 := hV 13 _ rfl (hall 13 (by decide))
      have hv14 := hV 14 _ rfl (hall 14 (by decide))
      have hv15 := hV 15 _ rfl (hall 15 (by decide))
      have hv16 := hV 16 _ rfl (hall 16 (by decide))
      have hv17 := hV 17 _ rfl (hall 17 (by decide))
      have hv18 := hV 18 _ rfl (hall 18 (by decide))
      have hv19 := hV 19 _ rfl (hall 19 (by decide))
      have hv20 := hV 20 _ rfl (hall 20 (by decide))
      clear hV hall
      rw [putSel_fr]
      simp only [tells, List.map_cons, List.map_nil, setAll, List.set_cons_succ, List.set_cons_zero, hv0, hv1, hv2, hv3, hv4, hv5, hv6, hv7, hv8, hv9, hv10, hv11, hv12, hv13, hv14, hv15, hv16, hv17, hv18, hv19, hv20]
      clear hv0 hv1 hv2 hv3 hv4 hv5 hv6 hv7 hv8 hv9 hv10 hv11 hv12 hv13 hv14 hv15 hv16 hv17 hv18 hv19 hv20
      generalize w_ = w900601 at HS ⊢
      refine fr_at (l' := [.agg (Value.int .i64 k :: ((nums .u8 (b.map bv)) ++ ([Value.slice A es.length c]))).toArray, .agg (Value.int .i64 k2 :: ((nums .u8 (b2.map bv)) ++ ([Value.slice B fs.length d]))).toArray, .agg ((nums .u8 (q.map bv))).toArray, .pointer (some ⟨g5, 0, none⟩), .pointer (some ⟨g8, 0, none⟩), .pointer (some ⟨g11, 0, none⟩), .bool false, .pointer (some ⟨g32, 0, none⟩), .int .i64 (lfE k b es), .pointer (some ⟨g41, 0, none⟩), .int .i64 (lfE k2 b2 fs), .pointer (some ⟨g58, 0, none⟩), .int .i64 (opE (lfP k b es)), undef, undef, undef, undef, .bool true, .bool false, .pointer (some ⟨g5, 17, none⟩), .slice A es.length c, .int .i64 (es.length : Int), .bool false, .bool false, .pointer (some ⟨g8, 17, none⟩), .slice B fs.length d, .int .i64 (fs.length : Int), .bool false, .bool false, .tuple [.agg ((nums .u8 ((lfP k b es).map bv))).toArray, .int .i64 (lfE k b es)].toArray, .agg (Value.int .i64 k :: ((nums .u8 (b.map bv)) ++ ([Value.slice A es.length c]))).toArray, .tuple [.agg ((nums .u8 ((lfP k b es).map bv))).toArray, .int .i64 (lfE k b es)].toArray, .agg ((nums .u8 ((lfP k b es).map bv))).toArray, .int .i64 (lfE k b es), .tuple [.agg ((nums .u8 ((lfP k2 b2 fs).map bv))).toArray, .int .i64 (lfE k2 b2 fs)].toArray, .agg (Value.int .i64 k2 :: ((nums .u8 (b2.map bv)) ++ ([Value.slice B fs.length d]))).toArray, .tuple [.agg ((nums .u8 ((lfP k2 b2 fs).map bv))).toArray, .int .i64 (lfE k2 b2 fs)].toArray, .agg ((nums .u8 ((lfP k2 b2 fs).map bv))).toArray, .int .i64 (lfE k2 b2 fs), .int .i64 (lfE k b es), .bool true, .tuple [.agg (Value.int .i64 (opK (lfP k b es)) :: ((nums .u8 ((opB (lfP k b es)).map bv)) ++ ([Value.slice oa55 ((opS (lfP k b es)).length) nc56]))).toArray, .int .i64 (opE (lfP k b es))].toArray, .agg ((nums .u8 ((lfP k b es).map bv))).toArray, .tuple [.agg (Value.int .i64 (opK (lfP k b es)) :: ((nums .u8 ((opB (lfP k b es)).map bv)) ++ ([Value.slice oa55 ((opS (lfP k b es)).length) nc56]))).toArray, .int .i64 (opE (lfP k b es))].toArray, .agg (Value.int .i64 (opK (lfP k b es)) :: ((nums .u8 ((opB (lfP k b es)).map bv)) ++ ([Value.slice oa55 ((opS (lfP k b es)).length) nc56]))).toArray, .int .i64 (opE (lfP k b es)), .int .i64 (opE (lfP k b es)), .bool false, .bool false, .agg (Value.int .i64 (opK (lfP k b es)) :: ((nums .u8 ((opB (lfP k b es)).map bv)) ++ ([Value.slice oa55 ((opS (lfP k b es)).length) nc56]))).toArray, .agg (Value.int .i64 k :: ((nums .u8 (b.map bv)) ++ ([Value.slice A es.length c]))).toArray, .bool true, .bool false, .bool false, .bool false, .int .i64 (lfE k2 b2 fs), .bool false, .bool false, undef, undef, undef, undef, undef, undef, undef, .bool false, .bool false, undef, undef, undef, undef, undef, undef, undef, undef, undef, undef, undef, undef, undef, undef, undef, undef, undef, undef, undef, undef, undef, undef]) rfl ?_
      refine hK63 _ _ ?_
      refine c_false rfl ?_
      refine wp_skip ?_
      refine hK46 _ _ ?_
      refine wp_seq_k (fun K900602 hK900603 => ?_)
      refine c_region (fun ops900605 hops900604 => ?_)
      clear hops900604
      refine p_run (l' := _) _ (x_loads ((nums .u8 (q.map bv))) 256 rfl rfl (bkCells (HS.get (.tail _ (.tail _ (.tail _ (.tail _ (.head _)))))) 0 _ (whole _)) (by rfl) (by kernel_rfl) (by simp [List.length_map, hq, nums_length])) rfl ?_
      refine w_call [.agg ((nums .u8 (q.map bv))).toArray] Try.func24 (by kernel_rfl) (by rfl) rfl ?_
      refine (lopen_any _ q hq).mono ?_
      rintro e w900608 ⟨oa900606, nc900607, rfl, hk_⟩
      replace HS := HS.more hk_
      clear hk_
      refine ⟨_, rfl, ?_⟩
      refine p_run (l' := _) _ (x_move (.tuple [.agg (Value.int .i64 (opK q) :: ((nums .u8 ((opB q).map bv)) ++ ([Value.slice oa900606 ((opS q).length) nc900607]))).toArray, .int .i64 (opE q)].toArray) rfl rfl) rfl ?_
      refine p_run (l' := _) _ (x_extract (vs := [.agg (Value.int .i64 (opK q) :: ((nums .u8 ((opB q).map bv)) ++ ([Value.slice oa900606 ((opS q).length) nc900607]))).toArray, .int .i64 (opE q)]) 0 (.agg (Value.int .i64 (opK q) :: ((nums .u8 ((opB q).map bv)) ++ ([Value.slice oa900606 ((opS q).length) nc900607]))).toArray) rfl rfl rfl) rfl ?_
      refine p_run (l' := _) _ (x_extract (vs := [.agg (Value.int .i64 (opK q) :: ((nums .u8 ((opB q).map bv)) ++ ([Value.slice oa900606 ((opS q).length) nc900607]))).toArray, .int .i64 (opE q)]) 1 (.int .i64 (opE q)) rfl rfl rfl) rfl ?_
      refine St.wAlloc HS (cs := (Value.int .i64 0 :: ((nums .u8 (zK.map bv)) ++ ([Value.slice none 0 0])))) (.agg (Value.int .i64 0 :: ((nums .u8 (zK.map bv)) ++ ([Value.slice none 0 0]))).toArray) (by kernel_rfl) rfl ?_
      clear HS
      intro g900609 w900610 hg900611 HS
      refine St.stores (cs' := (Value.int .i64 (opK q) :: ((nums .u8 ((opB q).map bv)) ++ ([Value.slice oa900606 ((opS q).length) nc900607])))) HS (Value.int .i64 (opK q) :: ((nums .u8 ((opB q).map bv)) ++ ([Value.slice oa900606 ((opS q).length) nc900607]))) 18 rfl rfl (all1 rfl (allA (nums_one _ _) (all1 rfl rfl))) (by kernel_rfl) (by simp [(opB_len hq), List.length_map, nums_length]) (by simp [(opB_len hq), List.length_map, nums_length, zK_len]) (lay_all _ _ (by simp [(opB_len hq), List.length_map, nums_length, zK_len])) ?_
      clear HS
      intro w900612 HS
      refine p_run (l' := _) _ (x_assign (.int .i64 (opE q)) rfl rfl) rfl ?_
      refine wpList_nil ?_
      refine hK900603 _ _ ?_
      refine wp_seq_k (fun K900613 hK900614 => ?_)
      refine wp_seq_k (fun K900615 hK900616 => ?_)
      refine c_region (fun ops900618 hops900617 => ?_)
      clear hops900617
      refine p_run (l' := _) _ (x_move (.int .i64 (opE q)) rfl rfl) rfl ?_
      refine p_run (l' := _) _ (x_cmp (k := .i64) (m := (opE q)) (n := 0) .neq false rfl rfl rfl (neq_yes' (op_yes hQ).2.2.2) rfl) rfl ?_
      refine wpList_nil ?_
      refine fr_at (l' := [.agg (Value.int .i64 k :: ((nums .u8 (b.map bv)) ++ ([Value.slice A es.length c]))).toArray, .agg (Value.int .i64 k2 :: ((nums .u8 (b2.map bv)) ++ ([Value.slice B fs.length d]))).toArray, .agg ((nums .u8 (q.map bv))).toArray, .pointer (some ⟨g5, 0, none⟩), .pointer (some ⟨g8, 0, none⟩), .pointer (some ⟨g11, 0, none⟩), .bool false, .pointer (some ⟨g32, 0, none⟩), .int .i64 (lfE k b es), .pointer (some ⟨g41, 0, none⟩), .int .i64 (lfE k2 b2 fs), .pointer (some ⟨g58, 0, none⟩), .int .i64 (opE (lfP k b es)), .pointer (some ⟨g900609, 0, none⟩), .int .i64 (opE q), undef, undef, .bool true, .bool false, .pointer (some ⟨g5, 17, none⟩), .slice A es.length c, .int .i64 (es.length : Int), .bool false, .bool false, .pointer (some ⟨g8, 17, none⟩), .slice B fs.length d, .int .i64 (fs.length : Int), .bool false, .bool false, .tuple [.agg ((nums .u8 ((lfP k b es).map bv))).toArray, .int .i64 (lfE k b es)].toArray, .agg (Value.int .i64 k :: ((nums .u8 (b.map bv)) ++ ([Value.slice A es.length c]))).toArray, .tuple [.agg ((nums .u8 ((lfP k b es).map bv))).toArray, .int .i64 (lfE k b es)].toArray, .agg ((nums .u8 ((lfP k b es).map bv))).toArray, .int .i64 (lfE k b es), .tuple [.agg ((nums .u8 ((lfP k2 b2 fs).map bv))).toArray, .int .i64 (lfE k2 b2 fs)].toArray, .agg (Value.int .i64 k2 :: ((nums .u8 (b2.map bv)) ++ ([Value.slice B fs.length d]))).toArray, .tuple [.agg ((nums .u8 ((lfP k2 b2 fs).map bv))).toArray, .int .i64 (lfE k2 b2 fs)].toArray, .agg ((nums .u8 ((lfP k2 b2 fs).map bv))).toArray, .int .i64 (lfE k2 b2 fs), .int .i64 (lfE k b es), .bool true, .tuple [.agg (Value.int .i64 (opK (lfP k b es)) :: ((nums .u8 ((opB (lfP k b es)).map bv)) ++ ([Value.slice oa55 ((opS (lfP k b es)).length) nc56]))).toArray, .int .i64 (opE (lfP k b es))].toArray, .agg ((nums .u8 ((lfP k b es).map bv))).toArray, .tuple [.agg (Value.int .i64 (opK (lfP k b es)) :: ((nums .u8 ((opB (lfP k b es)).map bv)) ++ ([Value.slice oa55 ((opS (lfP k b es)).length) nc56]))).toArray, .int .i64 (opE (lfP k b es))].toArray, .agg (Value.int .i64 (opK (lfP k b es)) :: ((nums .u8 ((opB (lfP k b es)).map bv)) ++ ([Value.slice oa55 ((opS (lfP k b es)).length) nc56]))).toArray, .int .i64 (opE (lfP k b es)), .int .i64 (opE (lfP k b es)), .bool false, .bool false, .agg (Value.int .i64 (opK (lfP k b es)) :: ((nums .u8 ((opB (lfP k b es)).map bv)) ++ ([Value.slice oa55 ((opS (lfP k b es)).length) nc56]))).toArray, .agg (Value.int .i64 k :: ((nums .u8 (b.map bv)) ++ ([Value.slice A es.length c]))).toArray, .bool true, .bool false, .bool false, .bool false, .int .i64 (lfE k2 b2 fs), .bool false, .bool false, undef, undef, undef, undef, undef, undef, undef, .bool false, .bool false, .tuple [.agg (Value.int .i64 (opK q) :: ((nums .u8 ((opB q).map bv)) ++ ([Value.slice oa900606 ((opS q).length) nc900607]))).toArray, .int .i64 (opE q)].toArray, .agg ((nums .u8 (q.map bv))).toArray, .tuple [.agg (Value.int .i64 (opK q) :: ((nums .u8 ((opB q).map bv)) ++ ([Value.slice oa900606 ((opS q).length) nc900607]))).toArray, .int .i64 (opE q)].toArray, .agg (Value.int .i64 (opK q) :: ((nums .u8 ((opB q).map bv)) ++ ([Value.slice oa900606 ((opS q).length) nc900607]))).toArray, .int .i64 (opE q), .int .i64 (opE q), .bool false, undef, undef, undef, undef, undef, undef, undef, undef, undef, undef, undef, undef, undef, undef, undef]) rfl ?_
      refine hK900616 _ _ ?_
      refine c_false rfl ?_
      refine wp_skip ?_
      refine hK900614 _ _ ?_
      refine wp_seq_k (fun K900619 hK900620 => ?_)
      refine c_region (fun ops900622 hops900621 => ?_)
      clear hops900621
      refine p_run (l' := _) _ (x_loads (Value.int .i64 (opK q) :: ((nums .u8 ((opB q).map bv)) ++ ([Value.slice oa900606 ((opS q).length) nc900607]))) 18 rfl rfl (bkCells (HS.get (.head _)) 0 _ (whole _)) (by rfl) (by kernel_rfl) (by simp [(opB_len hq), List.length_map, nums_length])) rfl ?_
      refine w_call [.agg (Value.int .i64 (opK q) :: ((nums .u8 ((opB q).map bv)) ++ ([Value.slice oa900606 ((opS q).length) nc900607]))).toArray] Try.func23 (by kernel_rfl) (by rfl) rfl ?_
      refine (lpage_any _ (opK q) (opB q) (opB_len hq) oa900606 nc900607 (opS q) (row_C (HS.get (.tail _ (.head _)))).2.2 (opS_le q)).mono ?_
      rintro e w900623 ⟨rfl, hb_⟩
      replace HS := HS.here hb_
      clear hb_
      refine ⟨_, rfl, ?_⟩
      refine p_run (l' := _) _ (x_move (.tuple [.agg ((nums .u8 ((lfP (opK q) (opB q) (opS q)).map bv))).toArray, .int .i64 (lfE (opK q) (opB q) (opS q))].toArray) rfl rfl) rfl ?_
      refine p_run (l' := _) _ (x_extract (vs := [.agg ((nums .u8 ((lfP (opK q) (opB q) (opS q)).map bv))).toArray, .int .i64 (lfE (opK q) (opB q) (opS q))]) 0 (.agg ((nums .u8 ((lfP (opK q) (opB q) (opS q)).map bv))).toArray) rfl rfl rfl) rfl ?_
      refine p_run (l' := _) _ (x_extract (vs := [.agg ((nums .u8 ((lfP (opK q) (opB q) (opS q)).map bv))).toArray, .int .i64 (lfE (opK q) (opB q) (opS q))]) 1 (.int .i64 (lfE (opK q) (opB q) (opS q))) rfl rfl rfl) rfl ?_
      refine St.wAlloc HS (cs := ((nums .u8 (zQ.map bv)))) (.agg ((nums .u8 (zQ.map bv))).toArray) (by kernel_rfl) rfl ?_
      clear HS
      intro g900624 w900625 hg900626 HS
      refine St.stores (cs' := ((nums .u8 ((lfP (opK q) (opB q) (opS q)).map bv)))) HS ((nums .u8 ((lfP (opK q) (opB q) (opS q)).map bv))) 256 rfl rfl (nums_one _ _) (by kernel_rfl) (by simp [(lfP_len (opK q) (opB_len hq) (opS q)), List.length_map, nums_length]) (by simp [(lfP_len (opK q) (opB_len hq) (opS q)), List.length_map, nums_length, zQ_len]) (lay_all _ _ (by simp [(lfP_len (opK q) (opB_len hq) (opS q)), List.length_map, nums_length, zQ_len])) ?_
      clear HS
      intro w900627 HS
      refine p_run (l' := _) _ (x_assign (.int .i64 (lfE (opK q) (opB q) (opS q))) rfl rfl) rfl ?_
      refine wpList_nil ?_
      refine hK900620 _ _ ?_
      refine wp_seq_k (fun K900628 hK900629 => ?_)
      refine c_region (fun ops900631 hops900630 => ?_)
      refine p_run (l' := _) _ (x_move (.int .i64 (lfE (opK q) (opB q) (opS q))) rfl rfl) rfl ?_
      refine p_run (l' := _) _ (x_cmp (k := .i64) (m := (lfE (opK q) (opB q) (opS q))) (n := 0) .eql true rfl rfl rfl (cmp_yes (lb_page hQ).2) rfl) rfl ?_
      refine p_run (l' := _) _ (x_move (.bool true) rfl rfl) rfl ?_
      refine p_on rfl (by rw [hops900630]; rfl) ?_
      refine p_run (l' := _) _ (x_loads ((nums .u8 ((lfP (opK q) (opB q) (opS q)).map bv))) 256 rfl rfl (bkCells (HS.get (.head _)) 0 _ (whole _)) (by rfl) (by kernel_rfl) (by simp [(lfP_len (opK q) (opB_len hq) (opS q)), List.length_map, nums_length])) rfl ?_
      refine p_on rfl (by rw [hops900630]; rfl) ?_
      refine p_run (l' := [.agg (Value.int .i64 k :: ((nums .u8 (b.map bv)) ++ ([Value.slice A es.length c]))).toArray, .agg (Value.int .i64 k2 :: ((nums .u8 (b2.map bv)) ++ ([Value.slice B fs.length d]))).toArray, .agg ((nums .u8 (q.map bv))).toArray, .pointer (some ⟨g5, 0, none⟩), .pointer (some ⟨g8, 0, none⟩), .pointer (some ⟨g11, 0, none⟩), .bool false, .pointer (some ⟨g32, 0, none⟩), .int .i64 (lfE k b es), .pointer (some ⟨g41, 0, none⟩), .int .i64 (lfE k2 b2 fs), .pointer (some ⟨g58, 0, none⟩), .int .i64 (opE (lfP k b es)), .pointer (some ⟨g900609, 0, none⟩), .int .i64 (opE q), .pointer (some ⟨g900624, 0, none⟩), .int .i64 (lfE (opK q) (opB q) (opS q)), .bool true, .bool false, .pointer (some ⟨g5, 17, none⟩), .slice A es.length c, .int .i64 (es.length : Int), .bool false, .bool false, .pointer (some ⟨g8, 17, none⟩), .slice B fs.length d, .int .i64 (fs.length : Int), .bool false, .bool false, .tuple [.agg ((nums .u8 ((lfP k b es).map bv))).toArray, .int .i64 (lfE k b es)].toArray, .agg (Value.int .i64 k :: ((nums .u8 (b.map bv)) ++ ([Value.slice A es.length c]))).toArray, .tuple [.agg ((nums .u8 ((lfP k b es).map bv))).toArray, .int .i64 (lfE k b es)].toArray, .agg ((nums .u8 ((lfP k b es).map bv))).toArray, .int .i64 (lfE k b es), .tuple [.agg ((nums .u8 ((lfP k2 b2 fs).map bv))).toArray, .int .i64 (lfE k2 b2 fs)].toArray, .agg (Value.int .i64 k2 :: ((nums .u8 (b2.map bv)) ++ ([Value.slice B fs.length d]))).toArray, .tuple [.agg ((nums .u8 ((lfP k2 b2 fs).map bv))).toArray, .int .i64 (lfE k2 b2 fs)].toArray, .agg ((nums .u8 ((lfP k2 b2 fs).map bv))).toArray, .int .i64 (lfE k2 b2 fs), .int .i64 (lfE k b es), .bool true, .tuple [.agg (Value.int .i64 (opK (lfP k b es)) :: ((nums .u8 ((opB (lfP k b es)).map bv)) ++ ([Value.slice oa55 ((opS (lfP k b es)).length) nc56]))).toArray, .int .i64 (opE (lfP k b es))].toArray, .agg ((nums .u8 ((lfP k b es).map bv))).toArray, .tuple [.agg (Value.int .i64 (opK (lfP k b es)) :: ((nums .u8 ((opB (lfP k b es)).map bv)) ++ ([Value.slice oa55 ((opS (lfP k b es)).length) nc56]))).toArray, .int .i64 (opE (lfP k b es))].toArray, .agg (Value.int .i64 (opK (lfP k b es)) :: ((nums .u8 ((opB (lfP k b es)).map bv)) ++ ([Value.slice oa55 ((opS (lfP k b es)).length) nc56]))).toArray, .int .i64 (opE (lfP k b es)), .int .i64 (opE (lfP k b es)), .bool false, .bool false, .agg (Value.int .i64 (opK (lfP k b es)) :: ((nums .u8 ((opB (lfP k b es)).map bv)) ++ ([Value.slice oa55 ((opS (lfP k b es)).length) nc56]))).toArray, .agg (Value.int .i64 k :: ((nums .u8 (b.map bv)) ++ ([Value.slice A es.length c]))).toArray, .bool true, .bool false, .bool false, .bool false, .int .i64 (lfE k2 b2 fs), .bool false, .bool false, undef, undef, undef, undef, undef, undef, undef, .bool false, .bool false, .tuple [.agg (Value.int .i64 (opK q) :: ((nums .u8 ((opB q).map bv)) ++ ([Value.slice oa900606 ((opS q).length) nc900607]))).toArray, .int .i64 (opE q)].toArray, .agg ((nums .u8 (q.map bv))).toArray, .tuple [.agg (Value.int .i64 (opK q) :: ((nums .u8 ((opB q).map bv)) ++ ([Value.slice oa900606 ((opS q).length) nc900607]))).toArray, .int .i64 (opE q)].toArray, .agg (Value.int .i64 (opK q) :: ((nums .u8 ((opB q).map bv)) ++ ([Value.slice oa900606 ((opS q).length) nc900607]))).toArray, .int .i64 (opE q), .int .i64 (opE q), .bool false, undef, undef, undef, .tuple [.agg ((nums .u8 ((lfP (opK q) (opB q) (opS q)).map bv))).toArray, .int .i64 (lfE (opK q) (opB q) (opS q))].toArray, .agg (Value.int .i64 (opK q) :: ((nums .u8 ((opB q).map bv)) ++ ([Value.slice oa900606 ((opS q).length) nc900607]))).toArray, .tuple [.agg ((nums .u8 ((lfP (opK q) (opB q) (opS q)).map bv))).toArray, .int .i64 (lfE (opK q) (opB q) (opS q))].toArray, .agg ((nums .u8 ((lfP (opK q) (opB q) (opS q)).map bv))).toArray, .int .i64 (lfE (opK q) (opB q) (opS q)), .int .i64 (lfE (opK q) (opB q) (opS q)), .bool true, .bool true, .agg ((nums .u8 ((lfP (opK q) (opB q) (opS q)).map bv))).toArray, .agg ((nums .u8 (q.map bv))).toArray, undef, undef]) _ (x_loads ((nums .u8 (q.map bv))) 256 rfl rfl (bkCells (HS.get (.tail _ (.tail _ (.tail _ (.tail _ (.tail _ (.tail _ (.tail _ (.head _))))))))) 0 _ (whole _)) (by rfl) (by kernel_rfl) (by simp [List.length_map, hq, nums_length])) rfl ?_
      refine p_on rfl (by rw [hops900630]; rfl) ?_
      refine p_run (l' := _) _ (x_eq .eql (.agg ((nums .u8 ((lfP (opK q) (opB q) (opS q)).map bv))).toArray) (.agg ((nums .u8 (q.map bv))).toArray) (decide (((lfP (opK q) (opB q) (opS q)).map bv) = (q.map bv))) true rfl rfl rfl (equal_nums Try.underlying27 Try.underlying5 (by kernel_rfl) (by kernel_rfl) _ _ (by simp [List.length_map, (lfP_len (opK q) (opB_len hq) (opS q))]) (by simp [List.length_map, hq])) (eq_yes (lb_page hQ).1) rfl (guard_agg (by kernel_rfl)) (guard_agg (by kernel_rfl))) rfl ?_
      refine p_run (l' := _) _ (x_pick true (.bool true) (.bool false) (.bool true) rfl rfl rfl rfl rfl) rfl ?_
      refine p_run (l' := _) _ (x_assign (.bool true) rfl rfl) rfl ?_
      clear hops900630
      refine wpList_nil ?_
      refine hK900629 _ _ ?_
      refine wp_ret ?_
      try simp only [Exit.inBlock, Exit.then]
      refine c_ret (.bool true) (r_tmp rfl rfl) ?_
      exact ⟨rfl, HS.belowOf⟩
end Go.Proofs.Ytiokdpnhaemciaa
