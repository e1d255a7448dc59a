/- Package leaf: Open. -/
import Derived.Test.YtiokdpnhaemciaaLeaf4
set_option linter.unusedVariables false
set_option linter.unusedSimpArgs false
namespace Go.Proofs.Ytiokdpnhaemciaa
open Go.RowKit Go.Proofs.YtiokdpnhaemciaaW.PrintWords Go.Proofs.YtiokdpnhaemciaaW.PrintLast Crc
abbrev U4l5 (l : List Value) : List Value := undef :: undef :: undef :: undef :: l
abbrev U8l5 (l : List Value) : List Value := U4l5 (U4l5 l)
abbrev U16l5 (l : List Value) : List Value := U8l5 (U8l5 l)
abbrev U32l5 (l : List Value) : List Value := U16l5 (U16l5 l)
abbrev U64l5 (l : List Value) : List Value := U32l5 (U32l5 l)
/-- Is it a node's page? -/
def okN (q : List UInt8) : Bool := ndOk (kN q) (bN q) (eN q) && decide (pdB (ndB (kN q) (bN q) (eN q)) = q)
def opK (q : List UInt8) : Int := if okN q then kN q else 0
def opB (q : List UInt8) : List UInt8 := if okN q then bN q else zK
def opS (q : List UInt8) : List (Int × Int) := if okN q then eN q else []
def opE (q : List UInt8) : Int := if okN q then 0 else 81
theorem op_yes {q : List UInt8} (h : okN q = true) : opK q = kN q ∧ opB q = bN q ∧ opS q = eN q ∧ opE q = 0 := by unfold opK opB opS opE; rw [h]; exact ⟨rfl, rfl, rfl, rfl⟩
theorem op_no {q : List UInt8} (h : okN q = false) : opK q = 0 ∧ opB q = zK ∧ opS q = [] ∧ opE q = 81 := by unfold opK opB opS opE; rw [h]; exact ⟨rfl, rfl, rfl, rfl⟩
theorem neq_yes {a b : Int} (h : a = b) : cmpB .neq a b = false := by subst h; simp [cmpB]
theorem neq_no {a b : Int} (h : ¬ a = b) : cmpB .neq a b = true := by simp [cmpB, h]

set_option maxRecDepth 10000 in
set_option maxHeartbeats 2000000 in
theorem lopen_any (w : World) (q : List UInt8) (hq : q.length = 256) : Calls Try.prog 24 #[.agg ((nums .u8 (q.map bv))).toArray] w fun e w' => ∃ A c, e = .returned (.tuple #[.agg (Value.int .i64 (opK q) :: (nums .u8 ((opB q).map bv) ++ [Value.slice A (opS q).length c])).toArray, .int .i64 (opE q)]) ∧ St w (fun _ => False) w' [row kEn rfl 62 (.slice A (opS q).length c) (opS q)] := by
  have HS := St.empty w
  rcases hA : ndOk (kN q) (bN q) (eN q) with _ | _
  · skip
    have hok : okN q = false := by unfold okN; rw [hA]; rfl
    refine c_enter Try.func24 rfl 24 rfl (.agg ((nums .u8 (q.map bv))).toArray :: U16l5 (U4l5 (undef :: undef :: undef :: []))) rfl ?_
    refine wp_seq_k (fun K1 hK2 => ?_)
    refine c_region (fun ops4 hops3 => ?_)
    clear hops3
    refine St.wBox HS (cs := ((nums .u8 (q.map bv)))) (.agg ((nums .u8 (q.map bv))).toArray) rfl rfl ?_
    clear HS
    intro g5 w6 hg7 HS
    refine St.wAlloc HS (cs := (Value.int .i64 0 :: ((nums .u8 (zK.map bv)) ++ ([Value.slice none 0 0])))) (.agg (Value.int .i64 0 :: ((nums .u8 (zK.map bv)) ++ ([Value.slice none 0 0]))).toArray) (by kernel_rfl) rfl ?_
    clear HS
    intro g8 w9 hg10 HS
    refine p_run (l' := _) _ (x_assign (.int .i64 0) rfl rfl) rfl ?_
    refine wpList_nil ?_
    refine hK2 _ _ ?_
    refine wp_seq_k (fun K11 hK12 => ?_)
    refine c_region (fun ops14 hops13 => ?_)
    clear hops13
    refine p_run (l' := _) (.slice (some ⟨g5, 0, none⟩) 256 256) ((x_sliceArr (sz := 1) (L := none) (H := none) (lo := 0) (hi := 256) ⟨g5, 0, none⟩ rfl rfl Try.underlying27 (by kernel_rfl) rfl rfl (by omega) (by omega) (by first | rfl | (rw [if_neg (by omega), add_mk]; rfl))).trans rfl) rfl ?_
    refine w_call [.slice (some ⟨g5, 0, none⟩) 256 256] Try.func39 (by kernel_rfl) (by rfl) rfl ?_
    refine (St.newR0 HS _ 256 256 q hq.symm (rd_blk (HS.get (.tail _ (.head _))) (by omega)) (by omega) (by omega)).mono ?_
    clear HS
    rintro e w17 ⟨g15, g16, rfl, HS⟩
    refine ⟨_, rfl, ?_⟩
    refine w_call [.pointer (some ⟨g16, 0, none⟩)] Try.func38 (by kernel_rfl) (by rfl) rfl ?_
    refine (lread_any (base := g15) (R := g16) (q := q) HS hq).mono ?_
    clear HS
    rintro e w21 ⟨oa18, nc19, g20, rfl, HS⟩
    refine ⟨_, rfl, ?_⟩
    refine St.wAlloc HS (cs := (Value.int .i64 0 :: ((nums .u8 (zK.map bv)) ++ ([Value.slice none 0 0])))) (.agg (Value.int .i64 0 :: ((nums .u8 (zK.map bv)) ++ ([Value.slice none 0 0]))).toArray) (by kernel_rfl) rfl ?_
    clear HS
    intro g22 w23 hg24 HS
    refine St.stores (cs' := (Value.int .i64 (kN q) :: ((nums .u8 ((bN q).map bv)) ++ ([Value.slice oa18 ((eN q).length) nc19])))) HS (Value.int .i64 (kN q) :: ((nums .u8 ((bN q).map bv)) ++ ([Value.slice oa18 ((eN q).length) nc19]))) 18 rfl rfl (all1 rfl (allA (nums_one _ _) (all1 rfl rfl))) (by kernel_rfl) (by simp [List.length_map, bN_length hq, nums_length]) (by simp [List.length_map, bN_length hq, nums_length, zK_len]) (lay_all _ _ (by simp [List.length_map, bN_length hq, nums_length, zK_len])) ?_
    clear HS
    intro w25 HS
    refine wpList_nil ?_
    refine hK12 _ _ ?_
    refine wp_seq_k (fun K26 hK27 => ?_)
    refine wp_seq_k (fun K28 hK29 => ?_)
    refine c_region (fun ops31 hops30 => ?_)
    clear hops30
    refine p_run (l' := _) _ (x_loads (Value.int .i64 (kN q) :: ((nums .u8 ((bN q).map bv)) ++ ([Value.slice oa18 ((eN q).length) nc19]))) 18 rfl rfl (bkCells (HS.get (.head _)) 0 _ (whole _)) (by rfl) (by kernel_rfl) (by simp [List.length_map, bN_length hq, nums_length])) rfl ?_
    refine w_call [.agg (Value.int .i64 (kN q) :: ((nums .u8 ((bN q).map bv)) ++ ([Value.slice oa18 ((eN q).length) nc19]))).toArray] Try.func23 (by kernel_rfl) (by rfl) rfl ?_
    refine (lpage_any _ (kN q) (bN q) (bN_length hq) oa18 nc19 (eN q) (row_C (HS.get (.tail _ (.head _)))).2.2 (by have := eN_length q; omega)).mono ?_
    rintro e w32 ⟨rfl, hb_⟩
    replace HS := HS.here hb_
    clear hb_
    refine ⟨_, rfl, ?_⟩
    refine p_run (l' := _) _ (x_move (.tuple [.agg ((nums .u8 ((lfP (kN q) (bN q) (eN q)).map bv))).toArray, .int .i64 (lfE (kN q) (bN q) (eN q))].toArray) rfl rfl) rfl ?_
    refine p_run (l' := _) _ (x_extract (vs := [.agg ((nums .u8 ((lfP (kN q) (bN q) (eN q)).map bv))).toArray, .int .i64 (lfE (kN q) (bN q) (eN q))]) 0 (.agg ((nums .u8 ((lfP (kN q) (bN q) (eN q)).map bv))).toArray) rfl rfl rfl) rfl ?_
    refine p_run (l' := (.agg ((nums .u8 (q.map bv))).toArray :: .pointer (some ⟨g5, 0, none⟩) :: .pointer (some ⟨g8, 0, none⟩) :: .int .i64 0 :: .pointer (some ⟨g22, 0, none⟩) :: undef :: undef :: .slice (some ⟨g5, 0, none⟩) 256 256 :: .pointer (some ⟨g16, 0, none⟩) :: .agg (Value.int .i64 (kN q) :: ((nums .u8 ((bN q).map bv)) ++ ([Value.slice oa18 ((eN q).length) nc19]))).toArray :: .tuple [.agg ((nums .u8 ((lfP (kN q) (bN q) (eN q)).map bv))).toArray, .int .i64 (lfE (kN q) (bN q) (eN q))].toArray :: .agg (Value.int .i64 (kN q) :: ((nums .u8 ((bN q).map bv)) ++ ([Value.slice oa18 ((eN q).length) nc19]))).toArray :: .tuple [.agg ((nums .u8 ((lfP (kN q) (bN q) (eN q)).map bv))).toArray, .int .i64 (lfE (kN q) (bN q) (eN q))].toArray :: .agg ((nums .u8 ((lfP (kN q) (bN q) (eN q)).map bv))).toArray :: .int .i64 (lfE (kN q) (bN q) (eN q)) :: U8l5 (undef :: []))) _ (x_extract (vs := [.agg ((nums .u8 ((lfP (kN q) (bN q) (eN q)).map bv))).toArray, .int .i64 (lfE (kN q) (bN q) (eN q))]) 1 (.int .i64 (lfE (kN q) (bN q) (eN q))) rfl rfl rfl) rfl ?_
    refine St.wAlloc HS (cs := ((nums .u8 zpg))) (.agg ((nums .u8 zpg)).toArray) (by kernel_rfl) rfl ?_
    clear HS
    intro g33 w34 hg35 HS
    refine St.stores (cs' := ((nums .u8 ((lfP (kN q) (bN q) (eN q)).map bv)))) HS ((nums .u8 ((lfP (kN q) (bN q) (eN q)).map bv))) 256 rfl rfl (nums_one _ _) (by kernel_rfl) (by simp [List.length_map, lfP_len (kN q) (bN_length hq) (eN q), nums_length]) (by simp [List.length_map, lfP_len (kN q) (bN_length hq) (eN q), nums_length, zlen]) (lay_all _ _ (by simp [List.length_map, lfP_len (kN q) (bN_length hq) (eN q), nums_length, zlen])) ?_
    clear HS
    intro w36 HS
    refine p_run (l' := _) _ (x_assign (.int .i64 (lfE (kN q) (bN q) (eN q))) rfl rfl) rfl ?_
    refine wpList_nil ?_
    refine hK29 _ _ ?_
    refine wp_seq_k (fun K37 hK38 => ?_)
    refine c_region (fun ops40 hops39 => ?_)
    refine p_run (l' := _) _ (x_move (.int .i64 (lfE (kN q) (bN q) (eN q))) rfl rfl) rfl ?_
    refine p_run (l' := _) _ (x_cmp (k := .i64) (m := (lfE (kN q) (bN q) (eN q))) (n := 0) .neq true rfl rfl rfl (by rw [(lf_no hA).2]; decide) rfl) rfl ?_
    refine p_run (l' := _) _ (x_move (.bool true) rfl rfl) rfl ?_
    refine p_off (l' := _) (by rw [hops39]; rfl) rfl ?_
    refine p_off (l' := _) (by rw [hops39]; rfl) rfl ?_
    refine p_off (l' := _) (by rw [hops39]; rfl) rfl ?_
    refine p_run (l' := _) _ (x_pick true (.bool true) (undef) (.bool true) rfl rfl rfl rfl rfl) rfl ?_
    clear hops39
    refine wpList_nil ?_
    refine hK38 _ _ ?_
    refine c_true rfl ?_
    refine wp_seq_k (fun K41 hK42 => ?_)
    refine c_region (fun ops44 hops43 => ?_)
    clear hops43
    refine p_run (l' := _) _ (x_build (Value.int .i64 0 :: ((nums .u8 (zK.map bv)) ++ ([Value.slice none 0 0]))) rfl (by kernel_rfl)) rfl ?_
    refine St.stores (cs' := (Value.int .i64 0 :: ((nums .u8 (zK.map bv)) ++ ([Value.slice none 0 0])))) (HS.front 4 rfl) (Value.int .i64 0 :: ((nums .u8 (zK.map bv)) ++ ([Value.slice none 0 0]))) 18 rfl rfl (all1 rfl (allA (nums_one _ _) (all1 rfl rfl))) (by kernel_rfl) (by simp [List.length_map, nums_length, zK_len]) (by simp [List.length_map, nums_length, zK_len]) (lay_all _ _ (by simp [List.length_map, nums_length, zK_len])) ?_
    clear HS
    intro w45 HS
    refine p_run (l' := _) _ (x_assign (.int .i64 81) rfl rfl) rfl ?_
    refine wpList_nil ?_
    refine fr_at (l' := (.agg ((nums .u8 (q.map bv))).toArray :: .pointer (some ⟨g5, 0, none⟩) :: .pointer (some ⟨g8, 0, none⟩) :: .int .i64 81 :: .pointer (some ⟨g22, 0, none⟩) :: .pointer (some ⟨g33, 0, none⟩) :: .int .i64 (lfE (kN q) (bN q) (eN q)) :: .slice (some ⟨g5, 0, none⟩) 256 256 :: .pointer (some ⟨g16, 0, none⟩) :: .agg (Value.int .i64 (kN q) :: ((nums .u8 ((bN q).map bv)) ++ ([Value.slice oa18 ((eN q).length) nc19]))).toArray :: .tuple [.agg ((nums .u8 ((lfP (kN q) (bN q) (eN q)).map bv))).toArray, .int .i64 (lfE (kN q) (bN q) (eN q))].toArray :: .agg (Value.int .i64 (kN q) :: ((nums .u8 ((bN q).map bv)) ++ ([Value.slice oa18 ((eN q).length) nc19]))).toArray :: .tuple [.agg ((nums .u8 ((lfP (kN q) (bN q) (eN q)).map bv))).toArray, .int .i64 (lfE (kN q) (bN q) (eN q))].toArray :: .agg ((nums .u8 ((lfP (kN q) (bN q) (eN q)).map bv))).toArray :: .int .i64 (lfE (kN q) (bN q) (eN q)) :: .int .i64 (lfE (kN q) (bN q) (eN q)) :: .bool true :: .bool true :: undef :: undef :: undef :: .bool true :: .agg (Value.int .i64 0 :: ((nums .u8 (zK.map bv)) ++ ([Value.slice none 0 0]))).toArray :: undef :: [])) rfl ?_
    refine hK42 _ _ ?_
    refine wp_ret ?_
    try simp only [Exit.inBlock, Exit.then]
    refine c_ret (.tuple [.agg (Value.int .i64 0 :: ((nums .u8 (zK.map bv)) ++ ([Value.slice none 0 0]))).toArray, .int .i64 81].toArray) (r_ct rfl rfl (run_loadVar_aggn (by rfl) (Value.int .i64 0 :: ((nums .u8 (zK.map bv)) ++ ([Value.slice none 0 0]))) 18 (by kernel_rfl) (by simp [List.length_map, nums_length, zK_len]) (bkCells (HS.get (.head _)) 0 _ (whole _))) rfl) ?_
    replace HS := HS.nil kEn rfl 62
    obtain ⟨e1, e2, e3, e4⟩ := op_no hok
    rw [e1, e2, e3, e4]
    exact ⟨none, 0, rfl, ((((((HS.front 1 rfl).drop.front 1 rfl).drop.front 1 rfl).drop.front 1 rfl).drop.front 1 rfl).drop.front 1 rfl).drop⟩
  · skip
    by_cases hB : pdB (ndB (kN q) (bN q) (eN q)) = q
    · skip
      have hok : okN q = true := by unfold okN; rw [hA, decide_eq_true hB]; rfl
      refine c_enter Try.func24 rfl 24 rfl (.agg ((nums .u8 (q.map bv))).toArray :: U16l5 (U4l5 (undef :: undef :: undef :: []))) rfl ?_
      refine wp_seq_k (fun K1 hK2 => ?_)
      refine c_region (fun ops4 hops3 => ?_)
      clear hops3
      refine St.wBox HS (cs := ((nums .u8 (q.map bv)))) (.agg ((nums .u8 (q.map bv))).toArray) rfl rfl ?_
      clear HS
      intro g5 w6 hg7 HS
      refine St.wAlloc HS (cs := (Value.int .i64 0 :: ((nums .u8 (zK.map bv)) ++ ([Value.slice none 0 0])))) (.agg (Value.int .i64 0 :: ((nums .u8 (zK.map bv)) ++ ([Value.slice none 0 0]))).toArray) (by kernel_rfl) rfl ?_
      clear HS
      intro g8 w9 hg10 HS
      refine p_run (l' := _) _ (x_assign (.int .i64 0) rfl rfl) rfl ?_
      refine wpList_nil ?_
      refine hK2 _ _ ?_
      refine wp_seq_k (fun K11 hK12 => ?_)
      refine c_region (fun ops14 hops13 => ?_)
      clear hops13
      refine p_run (l' := _) (.slice (some ⟨g5, 0, none⟩) 256 256) ((x_sliceArr (sz := 1) (L := none) (H := none) (lo := 0) (hi := 256) ⟨g5, 0, none⟩ rfl rfl Try.underlying27 (by kernel_rfl) rfl rfl (by omega) (by omega) (by first | rfl | (rw [if_neg (by omega), add_mk]; rfl))).trans rfl) rfl ?_
      refine w_call [.slice (some ⟨g5, 0, none⟩) 256 256] Try.func39 (by kernel_rfl) (by rfl) rfl ?_
      refine (St.newR0 HS _ 256 256 q hq.symm (rd_blk (HS.get (.tail _ (.head _))) (by omega)) (by omega) (by omega)).mono ?_
      clear HS
      rintro e w17 ⟨g15, g16, rfl, HS⟩
      refine ⟨_, rfl, ?_⟩
      refine w_call [.pointer (some ⟨g16, 0, none⟩)] Try.func38 (by kernel_rfl) (by rfl) rfl ?_
      refine (lread_any (base := g15) (R := g16) (q := q) HS hq).mono ?_
      clear HS
      rintro e w21 ⟨oa18, nc19, g20, rfl, HS⟩
      refine ⟨_, rfl, ?_⟩
      refine St.wAlloc HS (cs := (Value.int .i64 0 :: ((nums .u8 (zK.map bv)) ++ ([Value.slice none 0 0])))) (.agg (Value.int .i64 0 :: ((nums .u8 (zK.map bv)) ++ ([Value.slice none 0 0]))).toArray) (by kernel_rfl) rfl ?_
      clear HS
      intro g22 w23 hg24 HS
      refine St.stores (cs' := (Value.int .i64 (kN q) :: ((nums .u8 ((bN q).map bv)) ++ ([Value.slice oa18 ((eN q).length) nc19])))) HS (Value.int .i64 (kN q) :: ((nums .u8 ((bN q).map bv)) ++ ([Value.slice oa18 ((eN q).length) nc19]))) 18 rfl rfl (all1 rfl (allA (nums_one _ _) (all1 rfl rfl))) (by kernel_rfl) (by simp [List.length_map, bN_length hq, nums_length]) (by simp [List.length_map, bN_length hq, nums_length, zK_len]) (lay_all _ _ (by simp [List.length_map, bN_length hq, nums_length, zK_len])) ?_
      clear HS
      intro w25 HS
      refine wpList_nil ?_
      refine hK12 _ _ ?_
      refine wp_seq_k (fun K26 hK27 => ?_)
      refine wp_seq_k (fun K28 hK29 => ?_)
      refine c_region (fun ops31 hops30 => ?_)
      clear hops30
      refine p_run (l' := _) _ (x_loads (Value.int .i64 (kN q) :: ((nums .u8 ((bN q).map bv)) ++ ([Value.slice oa18 ((eN q).length) nc19]))) 18 rfl rfl (bkCells (HS.get (.head _)) 0 _ (whole _)) (by rfl) (by kernel_rfl) (by simp [List.length_map, bN_length hq, nums_length])) rfl ?_
      refine w_call [.agg (Value.int .i64 (kN q) :: ((nums .u8 ((bN q).map bv)) ++ ([Value.slice oa18 ((eN q).length) nc19]))).toArray] Try.func23 (by kernel_rfl) (by rfl) rfl ?_
      refine (lpage_any _ (kN q) (bN q) (bN_length hq) oa18 nc19 (eN q) (row_C (HS.get (.tail _ (.head _)))).2.2 (by have := eN_length q; omega)).mono ?_
      rintro e w32 ⟨rfl, hb_⟩
      replace HS := HS.here hb_
      clear hb_
      refine ⟨_, rfl, ?_⟩
      refine p_run (l' := _) _ (x_move (.tuple [.agg ((nums .u8 ((lfP (kN q) (bN q) (eN q)).map bv))).toArray, .int .i64 (lfE (kN q) (bN q) (eN q))].toArray) rfl rfl) rfl ?_
      refine p_run (l' := _) _ (x_extract (vs := [.agg ((nums .u8 ((lfP (kN q) (bN q) (eN q)).map bv))).toArray, .int .i64 (lfE (kN q) (bN q) (eN q))]) 0 (.agg ((nums .u8 ((lfP (kN q) (bN q) (eN q)).map bv))).toArray) rfl rfl rfl) rfl ?_
      refine p_run (l' := (.agg ((nums .u8 (q.map bv))).toArray :: .pointer (some ⟨g5, 0, none⟩) :: .pointer (some ⟨g8, 0, none⟩) :: .int .i64 0 :: .pointer (some ⟨g22, 0, none⟩) :: undef :: undef :: .slice (some ⟨g5, 0, none⟩) 256 256 :: .pointer (some ⟨g16, 0, none⟩) :: .agg (Value.int .i64 (kN q) :: ((nums .u8 ((bN q).map bv)) ++ ([Value.slice oa18 ((eN q).length) nc19]))).toArray :: .tuple [.agg ((nums .u8 ((lfP (kN q) (bN q) (eN q)).map bv))).toArray, .int .i64 (lfE (kN q) (bN q) (eN q))].toArray :: .agg (Value.int .i64 (kN q) :: ((nums .u8 ((bN q).map bv)) ++ ([Value.slice oa18 ((eN q).length) nc19]))).toArray :: .tuple [.agg ((nums .u8 ((lfP (kN q) (bN q) (eN q)).map bv))).toArray, .int .i64 (lfE (kN q) (bN q) (eN q))].toArray :: .agg ((nums .u8 ((lfP (kN q) (bN q) (eN q)).map bv))).toArray :: .int .i64 (lfE (kN q) (bN q) (eN q)) :: U8l5 (undef :: []))) _ (x_extract (vs := [.agg ((nums .u8 ((lfP (kN q) (bN q) (eN q)).map bv))).toArray, .int .i64 (lfE (kN q) (bN q) (eN q))]) 1 (.int .i64 (lfE (kN q) (bN q) (eN q))) rfl rfl rfl) rfl ?_
      refine St.wAlloc HS (cs := ((nums .u8 zpg))) (.agg ((nums .u8 zpg)).toArray) (by kernel_rfl) rfl ?_
      clear HS
      intro g33 w34 hg35 HS
      refine St.stores (cs' := ((nums .u8 ((lfP (kN q) (bN q) (eN q)).map bv)))) HS ((nums .u8 ((lfP (kN q) (bN q) (eN q)).map bv))) 256 rfl rfl (nums_one _ _) (by kernel_rfl) (by simp [List.length_map, lfP_len (kN q) (bN_length hq) (eN q), nums_length]) (by simp [List.length_map, lfP_len (kN q) (bN_length hq) (eN q), nums_length, zlen]) (lay_all _ _ (by simp [List.length_map, lfP_len (kN q) (bN_length hq) (eN q), nums_length, zlen])) ?_
      clear HS
      intro w36 HS
      refine p_run (l' := _) _ (x_assign (.int .i64 (lfE (kN q) (bN q) (eN q))) rfl rfl) rfl ?_
      refine wpList_nil ?_
      refine hK29 _ _ ?_
      refine wp_seq_k (fun K37 hK38 => ?_)
      refine c_region (fun ops40 hops39 => ?_)
      refine p_run (l' := _) _ (x_move (.int .i64 (lfE (kN q) (bN q) (eN q))) rfl rfl) rfl ?_
      refine p_run (l' := _) _ (x_cmp (k := .i64) (m := (lfE (kN q) (bN q) (eN q))) (n := 0) .neq false rfl rfl rfl (by rw [(lf_yes hA).2]; decide) rfl) rfl ?_
      refine p_run (l' := _) _ (x_move (.bool false) rfl rfl) rfl ?_
      refine p_on rfl (by rw [hops39]; rfl) ?_
      refine p_run (l' := _) _ (x_loads ((nums .u8 ((lfP (kN q) (bN q) (eN q)).map bv))) 256 rfl rfl (bkCells (HS.get (.head _)) 0 _ (whole _)) (by rfl) (by kernel_rfl) (by simp [List.length_map, lfP_len (kN q) (bN_length hq) (eN q), nums_length])) rfl ?_
      refine p_on rfl (by rw [hops39]; rfl) ?_
      refine p_run (l' := _) _ (x_loads ((nums .u8 (q.map bv))) 256 rfl rfl (bkCells (HS.get (.tail _ (.tail _ (.tail _ (.tail _ (.tail _ (.head _))))))) 0 _ (whole _)) (by rfl) (by kernel_rfl) (by simp [List.length_map, hq, nums_length])) rfl ?_
      refine p_on rfl (by rw [hops39]; rfl) ?_
      refine p_run (l' := _) _ (x_eq .neq (.agg ((nums .u8 ((lfP (kN q) (bN q) (eN q)).map bv))).toArray) (.agg ((nums .u8 (q.map bv))).toArray) (decide (((lfP (kN q) (bN q) (eN q)).map bv) = (q.map bv))) false rfl rfl rfl (equal_nums Try.underlying27 Try.underlying5 (by kernel_rfl) (by kernel_rfl) _ _ (by simp [List.length_map, lfP_len (kN q) (bN_length hq) (eN q)]) (by simp [List.length_map, hq])) (by rw [(lf_yes hA).1, eq_yes hB]; rfl) rfl (guard_agg (by kernel_rfl)) (guard_agg (by kernel_rfl))) rfl ?_
      refine p_run (l' := _) _ (x_pick false (.bool true) (.bool false) (.bool false) rfl rfl rfl rfl rfl) rfl ?_
      clear hops39
      refine wpList_nil ?_
      refine hK38 _ _ ?_
      refine c_false rfl ?_
      refine wp_skip ?_
      refine hK27 _ _ ?_
      refine wp_seq_k (fun K41 hK42 => ?_)
      refine c_region (fun ops44 hops43 => ?_)
      clear hops43
      refine p_run (l' := _) _ (x_loads (Value.int .i64 (kN q) :: ((nums .u8 ((bN q).map bv)) ++ ([Value.slice oa18 ((eN q).length) nc19]))) 18 rfl rfl (bkCells (HS.get (.tail _ (.head _))) 0 _ (whole _)) (by rfl) (by kernel_rfl) (by simp [List.length_map, bN_length hq, nums_length])) rfl ?_
      refine St.stores (cs' := (Value.int .i64 (kN q) :: ((nums .u8 ((bN q).map bv)) ++ ([Value.slice oa18 ((eN q).length) nc19])))) (HS.front 4 rfl) (Value.int .i64 (kN q) :: ((nums .u8 ((bN q).map bv)) ++ ([Value.slice oa18 ((eN q).length) nc19]))) 18 rfl rfl (all1 rfl (allA (nums_one _ _) (all1 rfl rfl))) (by kernel_rfl) (by simp [List.length_map, bN_length hq, nums_length]) (by simp [List.length_map, bN_length hq, nums_length, zK_len]) (lay_all _ _ (by simp [List.length_map, bN_length hq, nums_length, zK_len])) ?_
      clear HS
      intro w45 HS
      refine p_run (l' := _) _ (x_assign (.int .i64 0) rfl rfl) rfl ?_
      refine wpList_nil ?_
      refine fr_at (l' := (.agg ((nums .u8 (q.map bv))).toArray :: .pointer (some ⟨g5, 0, none⟩) :: .pointer (some ⟨g8, 0, none⟩) :: .int .i64 0 :: .pointer (some ⟨g22, 0, none⟩) :: .pointer (some ⟨g33, 0, none⟩) :: .int .i64 (lfE (kN q) (bN q) (eN q)) :: .slice (some ⟨g5, 0, none⟩) 256 256 :: .pointer (some ⟨g16, 0, none⟩) :: .agg (Value.int .i64 (kN q) :: ((nums .u8 ((bN q).map bv)) ++ ([Value.slice oa18 ((eN q).length) nc19]))).toArray :: .tuple [.agg ((nums .u8 ((lfP (kN q) (bN q) (eN q)).map bv))).toArray, .int .i64 (lfE (kN q) (bN q) (eN q))].toArray :: .agg (Value.int .i64 (kN q) :: ((nums .u8 ((bN q).map bv)) ++ ([Value.slice oa18 ((eN q).length) nc19]))).toArray :: .tuple [.agg ((nums .u8 ((lfP (kN q) (bN q) (eN q)).map bv))).toArray, .int .i64 (lfE (kN q) (bN q) (eN q))].toArray :: .agg ((nums .u8 ((lfP (kN q) (bN q) (eN q)).map bv))).toArray :: .int .i64 (lfE (kN q) (bN q) (eN q)) :: .int .i64 (lfE (kN q) (bN q) (eN q)) :: .bool false :: .bool false :: .agg ((nums .u8 ((lfP (kN q) (bN q) (eN q)).map bv))).toArray :: .agg ((nums .u8 (q.map bv))).toArray :: .bool false :: .bool false :: undef :: .agg (Value.int .i64 (kN q) :: ((nums .u8 ((bN q).map bv)) ++ ([Value.slice oa18 ((eN q).length) nc19]))).toArray :: [])) rfl ?_
      refine hK42 _ _ ?_
      refine wp_ret ?_
      try simp only [Exit.inBlock, Exit.then]
      refine c_ret (.tuple [.agg (Value.int .i64 (kN q) :: ((nums .u8 ((bN q).map bv)) ++ ([Value.slice oa18 ((eN q).length) nc19]))).toArray, .int .i64 0].toArray) (r_ct rfl rfl (run_loadVar_aggn (by rfl) (Value.int .i64 (kN q) :: ((nums .u8 ((bN q).map bv)) ++ ([Value.slice oa18 ((eN q).length) nc19]))) 18 (by kernel_rfl) (by simp [List.length_map, bN_length hq, nums_length]) (bkCells (HS.get (.head _)) 0 _ (whole _))) rfl) ?_
      obtain ⟨e1, e2, e3, e4⟩ := op_yes hok
      rw [e1, e2, e3, e4]
      exact ⟨_, _, rfl, ((HS.drop.drop.drop.front 1 rfl).drop.front 1 rfl).drop⟩
    · skip
      have hok : okN q = false := by unfold okN; rw [hA, decide_eq_false hB]; rfl
      refine c_enter Try.func24 rfl 24 rfl (.agg ((nums .u8 (q.map bv))).toArray :: U16l5 (U4l5 (undef :: undef :: undef :: []))) rfl ?_
      refine wp_seq_k (fun K1 hK2 => ?_)
      refine c_region (fun ops4 hops3 => ?_)
      clear hops3
      refine St.wBox HS (cs := ((nums .u8 (q.map bv)))) (.agg ((nums .u8 (q.map bv))).toArray) rfl rfl ?_
      clear HS
      intro g5 w6 hg7 HS
      refine St.wAlloc HS (cs := (Value.int .i64 0 :: ((nums .u8 (zK.map bv)) ++ ([Value.slice none 0 0])))) (.agg (Value.int .i64 0 :: ((nums .u8 (zK.map bv)) ++ ([Value.slice none 0 0]))).toArray) (by kernel_rfl) rfl ?_
      clear HS
      intro g8 w9 hg10 HS
      refine p_run (l' := _) _ (x_assign (.int .i64 0) rfl rfl) rfl ?_
      refine wpList_nil ?_
      refine hK2 _ _ ?_
      refine wp_seq_k (fun K11 hK12 => ?_)
      refine c_region (fun ops14 hops13 => ?_)
      clear hops13
      refine p_run (l' := _) (.slice (some ⟨g5, 0, none⟩) 256 256) ((x_sliceArr (sz := 1) (L := none) (H := none) (lo := 0) (hi := 256) ⟨g5, 0, none⟩ rfl rfl Try.underlying27 (by kernel_rfl) rfl rfl (by omega) (by omega) (by first | rfl | (rw [if_neg (by omega), add_mk]; rfl))).trans rfl) rfl ?_
      refine w_call [.slice (some ⟨g5, 0, none⟩) 256 256] Try.func39 (by kernel_rfl) (by rfl) rfl ?_
      refine (St.newR0 HS _ 256 256 q hq.symm (rd_blk (HS.get (.tail _ (.head _))) (by omega)) (by omega) (by omega)).mono ?_
      clear HS
      rintro e w17 ⟨g15, g16, rfl, HS⟩
      refine ⟨_, rfl, ?_⟩
      refine w_call [.pointer (some ⟨g16, 0, none⟩)] Try.func38 (by kernel_rfl) (by rfl) rfl ?_
      refine (lread_any (base := g15) (R := g16) (q := q) HS hq).mono ?_
      clear HS
      rintro e w21 ⟨oa18, nc19, g20, rfl, HS⟩
      refine ⟨_, rfl, ?_⟩
      refine St.wAlloc HS (cs := (Value.int .i64 0 :: ((nums .u8 (zK.map bv)) ++ ([Value.slice none 0 0])))) (.agg (Value.int .i64 0 :: ((nums .u8 (zK.map bv)) ++ ([Value.slice none 0 0]))).toArray) (by kernel_rfl) rfl ?_
      clear HS
      intro g22 w23 hg24 HS
      refine St.stores (cs' := (Value.int .i64 (kN q) :: ((nums .u8 ((bN q).map bv)) ++ ([Value.slice oa18 ((eN q).length) nc19])))) HS (Value.int .i64 (kN q) :: ((nums .u8 ((bN q).map bv)) ++ ([Value.slice oa18 ((eN q).length) nc19]))) 18 rfl rfl (all1 rfl (allA (nums_one _ _) (all1 rfl rfl))) (by kernel_rfl) (by simp [List.length_map, bN_length hq, nums_length]) (by simp [List.length_map, bN_length hq, nums_length, zK_len]) (lay_all _ _ (by simp [List.length_map, bN_length hq, nums_length, zK_len])) ?_
      clear HS
      intro w25 HS
      refine wpList_nil ?_
      refine hK12 _ _ ?_
      refine wp_seq_k (fun K26 hK27 => ?_)
      refine wp_seq_k (fun K28 hK29 => ?_)
      refine c_region (fun ops31 hops30 => ?_)
      clear hops30
      refine p_run (l' := _) _ (x_loads (Value.int .i64 (kN q) :: ((nums .u8 ((bN q).map bv)) ++ ([Value.slice oa18 ((eN q).length) nc19]))) 18 rfl rfl (bkCells (HS.get (.head _)) 0 _ (whole _)) (by rfl) (by kernel_rfl) (by simp [List.length_map, bN_length hq, nums_length])) rfl ?_
      refine w_call [.agg (Value.int .i64 (kN q) :: ((nums .u8 ((bN q).map bv)) ++ ([Value.slice oa18 ((eN q).length) nc19]))).toArray] Try.func23 (by kernel_rfl) (by rfl) rfl ?_
      refine (lpage_any _ (kN q) (bN q) (bN_length hq) oa18 nc19 (eN q) (row_C (HS.get (.tail _ (.head _)))).2.2 (by have := eN_length q; omega)).mono ?_
      rintro e w32 ⟨rfl, hb_⟩
      replace HS := HS.here hb_
      clear hb_
      refine ⟨_, rfl, ?_⟩
      refine p_run (l' := _) _ (x_move (.tuple [.agg ((nums .u8 ((lfP (kN q) (bN q) (eN q)).map bv))).toArray, .int .i64 (lfE (kN q) (bN q) (eN q))].toArray) rfl rfl) rfl ?_
      refine p_run (l' := _) _ (x_extract (vs := [.agg ((nums .u8 ((lfP (kN q) (bN q) (eN q)).map bv))).toArray, .int .i64 (lfE (kN q) (bN q) (eN q))]) 0 (.agg ((nums .u8 ((lfP (kN q) (bN q) (eN q)).map bv))).toArray) rfl rfl rfl) rfl ?_
      refine p_run (l' := (.agg ((nums .u8 (q.map bv))).toArray :: .pointer (some ⟨g5, 0, none⟩) :: .pointer (some ⟨g8, 0, none⟩) :: .int .i64 0 :: .pointer (some ⟨g22, 0, none⟩) :: undef :: undef :: .slice (some ⟨g5, 0, none⟩) 256 256 :: .pointer (some ⟨g16, 0, none⟩) :: .agg (Value.int .i64 (kN q) :: ((nums .u8 ((bN q).map bv)) ++ ([Value.slice oa18 ((eN q).length) nc19]))).toArray :: .tuple [.agg ((nums .u8 ((lfP (kN q) (bN q) (eN q)).map bv))).toArray, .int .i64 (lfE (kN q) (bN q) (eN q))].toArray :: .agg (Value.int .i64 (kN q) :: ((nums .u8 ((bN q).map bv)) ++ ([Value.slice oa18 ((eN q).length) nc19]))).toArray :: .tuple [.agg ((nums .u8 ((lfP (kN q) (bN q) (eN q)).map bv))).toArray, .int .i64 (lfE (kN q) (bN q) (eN q))].toArray :: .agg ((nums .u8 ((lfP (kN q) (bN q) (eN q)).map bv))).toArray :: .int .i64 (lfE (kN q) (bN q) (eN q)) :: U8l5 (undef :: []))) _ (x_extract (vs := [.agg ((nums .u8 ((lfP (kN q) (bN q) (eN q)).map bv))).toArray, .int .i64 (lfE (kN q) (bN q) (eN q))]) 1 (.int .i64 (lfE (kN q) (bN q) (eN q))) rfl rfl rfl) rfl ?_
      refine St.wAlloc HS (cs := ((nums .u8 zpg))) (.agg ((nums .u8 zpg)).toArray) (by kernel_rfl) rfl ?_
      clear HS
      intro g33 w34 hg35 HS
      refine St.stores (cs' := ((nums .u8 ((lfP (kN q) (bN q) (eN q)).map bv)))) HS ((nums .u8 ((lfP (kN q) (bN q) (eN q)).map bv))) 256 rfl rfl (nums_one _ _) (by kernel_rfl) (by simp [List.length_map, lfP_len (kN q) (bN_length hq) (eN q), nums_length]) (by simp [List.length_map, lfP_len (kN q) (bN_length hq) (eN q), nums_length, zlen]) (lay_all _ _ (by simp [List.length_map, lfP_len (kN q) (bN_length hq) (eN q), nums_length, zlen])) ?_
      clear HS
      intro w36 HS
      refine p_run (l' := _) _ (x_assign (.int .i64 (lfE (kN q) (bN q) (eN q))) rfl rfl) rfl ?_
      refine wpList_nil ?_
      refine hK29 _ _ ?_
      refine wp_seq_k (fun K37 hK38 => ?_)
      refine c_region (fun ops40 hops39 => ?_)
      refine p_run (l' := _) _ (x_move (.int .i64 (lfE (kN q) (bN q) (eN q))) rfl rfl) rfl ?_
      refine p_run (l' := _) _ (x_cmp (k := .i64) (m := (lfE (kN q) (bN q) (eN q))) (n := 0) .neq false rfl rfl rfl (by rw [(lf_yes hA).2]; decide) rfl) rfl ?_
      refine p_run (l' := _) _ (x_move (.bool false) rfl rfl) rfl ?_
      refine p_on rfl (by rw [hops39]; rfl) ?_
      refine p_run (l' := _) _ (x_loads ((nums .u8 ((lfP (kN q) (bN q) (eN q)).map bv))) 256 rfl rfl (bkCells (HS.get (.head _)) 0 _ (whole _)) (by rfl) (by kernel_rfl) (by simp [List.length_map, lfP_len (kN q) (bN_length hq) (eN q), nums_length])) rfl ?_
      refine p_on rfl (by rw [hops39]; rfl) ?_
      refine p_run (l' := _) _ (x_loads ((nums .u8 (q.map bv))) 256 rfl rfl (bkCells (HS.get (.tail _ (.tail _ (.tail _ (.tail _ (.tail _ (.head _))))))) 0 _ (whole _)) (by rfl) (by kernel_rfl) (by simp [List.length_map, hq, nums_length])) rfl ?_
      refine p_on rfl (by rw [hops39]; rfl) ?_
      refine p_run (l' := _) _ (x_eq .neq (.agg ((nums .u8 ((lfP (kN q) (bN q) (eN q)).map bv))).toArray) (.agg ((nums .u8 (q.map bv))).toArray) (decide (((lfP (kN q) (bN q) (eN q)).map bv) = (q.map bv))) true rfl rfl rfl (equal_nums Try.underlying27 Try.underlying5 (by kernel_rfl) (by kernel_rfl) _ _ (by simp [List.length_map, lfP_len (kN q) (bN_length hq) (eN q)]) (by simp [List.length_map, hq])) (by rw [(lf_yes hA).1, decide_eq_false (fun e => hB (map_bv_inj.1 e))]; rfl) rfl (guard_agg (by kernel_rfl)) (guard_agg (by kernel_rfl))) rfl ?_
      refine p_run (l' := _) _ (x_pick false (.bool true) (.bool true) (.bool true) rfl rfl rfl rfl rfl) rfl ?_
      clear hops39
      refine wpList_nil ?_
      refine hK38 _ _ ?_
      refine c_true rfl ?_
      refine wp_seq_k (fun K41 hK42 => ?_)
      refine c_region (fun ops44 hops43 => ?_)
      clear hops43
      refine p_run (l' := _) _ (x_build (Value.int .i64 0 :: ((nums .u8 (zK.map bv)) ++ ([Value.slice none 0 0]))) rfl (by kernel_rfl)) rfl ?_
      refine St.stores (cs' := (Value.int .i64 0 :: ((nums .u8 (zK.map bv)) ++ ([Value.slice none 0 0])))) (HS.front 4 rfl) (Value.int .i64 0 :: ((nums .u8 (zK.map bv)) ++ ([Value.slice none 0 0]))) 18 rfl rfl (all1 rfl (allA (nums_one _ _) (all1 rfl rfl))) (by kernel_rfl) (by simp [List.length_map, nums_length, zK_len]) (by simp [List.length_map, nums_length, zK_len]) (lay_all _ _ (by simp [List.length_map, nums_length, zK_len])) ?_
      clear HS
      intro w45 HS
      refine p_run (l' := _) _ (x_assign (.int .i64 81) rfl rfl) rfl ?_
      refine wpList_nil ?_
      refine fr_at (l' := (.agg ((nums .u8 (q.map bv))).toArray :: .pointer (some ⟨g5, 0, none⟩) :: .pointer (some ⟨g8, 0, none⟩) :: .int .i64 81 :: .pointer (some ⟨g22, 0, none⟩) :: .pointer (some ⟨g33, 0, none⟩) :: .int .i64 (lfE (kN q) (bN q) (eN q)) :: .slice (some ⟨g5, 0, none⟩) 256 256 :: .pointer (some ⟨g16, 0, none⟩) :: .agg (Value.int .i64 (kN q) :: ((nums .u8 ((bN q).map bv)) ++ ([Value.slice oa18 ((eN q).length) nc19]))).toArray :: .tuple [.agg ((nums .u8 ((lfP (kN q) (bN q) (eN q)).map bv))).toArray, .int .i64 (lfE (kN q) (bN q) (eN q))].toArray :: .agg (Value.int .i64 (kN q) :: ((nums .u8 ((bN q).map bv)) ++ ([Value.slice oa18 ((eN q).length) nc19]))).toArray :: .tuple [.agg ((nums .u8 ((lfP (kN q) (bN q) (eN q)).map bv))).toArray, .int .i64 (lfE (kN q) (bN q) (eN q))].toArray :: .agg ((nums .u8 ((lfP (kN q) (bN q) (eN q)).map bv))).toArray :: .int .i64 (lfE (kN q) (bN q) (eN q)) :: .int .i64 (lfE (kN q) (bN q) (eN q)) :: .bool false :: .bool false :: .agg ((nums .u8 ((lfP (kN q) (bN q) (eN q)).map bv))).toArray :: .agg ((nums .u8 (q.map bv))).toArray :: .bool true :: .bool true :: .agg (Value.int .i64 0 :: ((nums .u8 (zK.map bv)) ++ ([Value.slice none 0 0]))).toArray :: undef :: [])) rfl ?_
      refine hK42 _ _ ?_
      refine wp_ret ?_
      try simp only [Exit.inBlock, Exit.then]
      refine c_ret (.tuple [.agg (Value.int .i64 0 :: ((nums .u8 (zK.map bv)) ++ ([Value.slice none 0 0]))).toArray, .int .i64 81].toArray) (r_ct rfl rfl (run_loadVar_aggn (by rfl) (Value.int .i64 0 :: ((nums .u8 (zK.map bv)) ++ ([Value.slice none 0 0]))) 18 (by kernel_rfl) (by simp [List.length_map, nums_length, zK_len]) (bkCells (HS.get (.head _)) 0 _ (whole _))) rfl) ?_
      replace HS := HS.nil kEn rfl 62
      obtain ⟨e1, e2, e3, e4⟩ := op_no hok
      rw [e1, e2, e3, e4]
      exact ⟨none, 0, rfl, ((((((HS.front 1 rfl).drop.front 1 rfl).drop.front 1 rfl).drop.front 1 rfl).drop.front 1 rfl).drop.front 1 rfl).drop⟩
end Go.Proofs.Ytiokdpnhaemciaa
