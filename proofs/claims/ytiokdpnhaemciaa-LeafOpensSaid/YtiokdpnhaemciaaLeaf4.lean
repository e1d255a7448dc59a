/- Package leaf: read. -/
import Derived.Test.YtiokdpnhaemciaaLeaf3
import Derived.Test.YtiokdpnhaemciaaShT
set_option linter.unusedVariables false
set_option linter.unusedSimpArgs false
namespace Go.Proofs.Ytiokdpnhaemciaa
open Go.RowKit Go.Proofs.YtiokdpnhaemciaaW.PrintWords Go.Proofs.YtiokdpnhaemciaaW.PrintLast Crc
abbrev U4l4 (l : List Value) : List Value := undef :: undef :: undef :: undef :: l
abbrev U8l4 (l : List Value) : List Value := U4l4 (U4l4 l)
abbrev U16l4 (l : List Value) : List Value := U8l4 (U8l4 l)
abbrev U32l4 (l : List Value) : List Value := U16l4 (U16l4 l)
abbrev U64l4 (l : List Value) : List Value := U32l4 (U32l4 l)
section
variable {w0 W : World} {F : Nat → Prop} {L : List Res} {base R : Nat} {q : List UInt8}
/-- The node that a page seems to be. -/
def kN (q : List UInt8) : Int := bv (q.getD 0 0)
def mN (q : List UInt8) : Nat := min (q.getD 1 0).toNat 6
def eL (q : List UInt8) (j : Nat) : List (Int × Int) := (List.range j).map fun i => (bv (q.getD (2 + 2 * i) 0), bv (q.getD (2 + 2 * i + 1) 0))
def bN (q : List UInt8) : List UInt8 := if kN q = 1 then (q.drop 1).take 16 else zK
def eN (q : List UInt8) : List (Int × Int) := if kN q = 1 then [] else eL q (mN q)
theorem eL_snoc (q : List UInt8) (j : Nat) : eL q (j + 1) = eL q j ++ [(bv (q.getD (2 + 2 * j) 0), bv (q.getD (2 + 2 * j + 1) 0))] := by unfold eL; rw [List.range_succ, List.map_append]; rfl
theorem eL_length (q : List UInt8) (j : Nat) : (eL q j).length = j := by unfold eL; rw [List.length_map, List.length_range]
theorem eN_length (q : List UInt8) : (eN q).length ≤ 6 := by
  unfold eN mN
  split
  · simp
  · rw [eL_length]; omega
theorem bN_length {q : List UInt8} (h : q.length = 256) : (bN q).length = 16 := by
  unfold bN
  split
  · rw [List.length_take, List.length_drop]; omega
  · exact zK_len
theorem mn_eq (q : List UInt8) : (if (6 : Int) < bv (q.getD 1 0) then (6 : Int) else bv (q.getD 1 0)) = ((mN q : Nat) : Int) := by
  unfold mN bv
  split <;> omega
theorem wru64 {x : Int} (h : 0 ≤ x ∧ x < 18446744073709551616) : IntKind.u64.wrap x = x := by rw [IntKind.wrap_u64]; omega
theorem t16_len {q : List UInt8} (h : q.length = 256) : ((q.drop 1).take 16).length = 16 := by rw [List.length_take, List.length_drop]; omega
theorem lay16 (k : Int) {xs : List UInt8} (h : xs.length = 16) (s : Value) : lay (Value.int .i64 k :: (nums .u8 (zK.map bv) ++ [s])) 1 (nums .u8 (xs.map bv)) = Value.int .i64 k :: (nums .u8 (xs.map bv) ++ [s]) := by
  unfold lay
  simp [nums_length, h, zK_len, List.drop_append]

set_option maxRecDepth 10000 in
set_option maxHeartbeats 2000000 in
theorem lread_any (HS : St w0 F W (rdr base R (q.drop 0, false) :: L)) (hq : q.length = 256) : Calls Try.prog 38 #[.pointer (some ⟨R, 0, none⟩)] W fun e w' => ∃ A c m, e = .returned (.agg (Value.int .i64 (kN q) :: (nums .u8 ((bN q).map bv) ++ [Value.slice A (eN q).length c])).toArray) ∧ St w0 F w' (row kEn rfl 62 (.slice A (eN q).length c) (eN q) :: rdr base R (q.drop m, false) :: L) := by
  by_cases hk : kN q = 1
  · skip
    refine c_enter Try.func38 rfl 36 rfl (.pointer (some ⟨R, 0, none⟩) :: U32l4 (undef :: undef :: undef :: [])) rfl ?_
    refine wp_seq_k (fun K1 hK2 => ?_)
    refine c_region (fun ops4 hops3 => ?_)
    clear hops3
    refine St.wAlloc HS (cs := (Value.int .i64 0 :: ((nums .u8 (zK.map bv)) ++ ([Value.slice none 0 0])))) (.agg (Value.int .i64 0 :: ((nums .u8 (zK.map bv)) ++ ([Value.slice none 0 0]))).toArray) (by kernel_rfl) rfl ?_
    clear HS
    intro g5 w6 hg7 HS
    refine wpList_nil ?_
    refine hK2 _ _ ?_
    refine wp_seq_k (fun K8 hK9 => ?_)
    refine c_region (fun ops11 hops10 => ?_)
    clear hops10
    refine p_run (l' := _) _ (x_move (.pointer (some ⟨R, 0, none⟩)) rfl rfl) rfl ?_
    refine w_call [.pointer (some ⟨R, 0, none⟩), .int .i64 1] Try.func57 (by kernel_rfl) (by rfl) rfl ?_
    replace HS := (HS.front 1 rfl)
    refine (St.numD (m := 0) HS (by omega)).mono ?_
    clear HS
    rintro e w12 ⟨rfl, HS⟩
    refine ⟨_, rfl, ?_⟩
    refine p_run (l' := _) _ (x_conv (k := .u64) (m := (bv (q.getD 0 0))) .i64 ((kN q)) rfl (by rw [Try.underlying22]; rfl) Try.underlying3 rfl (wr64' (by have := bv_lo (q.getD 0 0); have := bv_hi (q.getD 0 0); omega))) rfl ?_
    refine p_run (l' := _) _ (x_build (Value.int .i64 (kN q) :: ((nums .u8 (zK.map bv)) ++ ([Value.slice none 0 0]))) rfl (by kernel_rfl)) rfl ?_
    refine St.wAlloc HS (cs := (Value.int .i64 0 :: ((nums .u8 (zK.map bv)) ++ ([Value.slice none 0 0])))) (.agg (Value.int .i64 0 :: ((nums .u8 (zK.map bv)) ++ ([Value.slice none 0 0]))).toArray) (by kernel_rfl) rfl ?_
    clear HS
    intro g13 w14 hg15 HS
    refine St.stores (cs' := (Value.int .i64 (kN q) :: ((nums .u8 (zK.map bv)) ++ ([Value.slice none 0 0])))) HS (Value.int .i64 (kN q) :: ((nums .u8 (zK.map bv)) ++ ([Value.slice none 0 0]))) 18 rfl rfl (all1 rfl (allA (nums_one _ _) (all1 rfl rfl))) (by kernel_rfl) (by simp [List.length_map, nums_length, zK_len]) (by simp [List.length_map, nums_length, zK_len]) (lay_all _ _ (by simp [List.length_map, nums_length, zK_len])) ?_
    clear HS
    intro w16 HS
    refine wpList_nil ?_
    refine hK9 _ _ ?_
    refine wp_seq_k (fun K17 hK18 => ?_)
    refine wp_seq_k (fun K19 hK20 => ?_)
    refine c_region (fun ops22 hops21 => ?_)
    clear hops21
    refine p_run (l' := _) _ (x_field (j := 0) _ _ rfl rfl Try.underlying52 rfl (by rfl) rfl) rfl ?_
    refine p_run (l' := _) _ (x_load (.int .i64 (kN q)) rfl rfl (bkCell (HS.get (.head _)) 0 _ rfl) (by rfl)) rfl ?_
    refine p_run (l' := _) _ (x_cmp (k := .i64) (m := (kN q)) (n := 1) .eql true rfl rfl rfl (cmp_yes hk) rfl) rfl ?_
    refine wpList_nil ?_
    refine hK20 _ _ ?_
    refine c_true rfl ?_
    refine wp_seq_k (fun K23 hK24 => ?_)
    refine free_frame (n := 5) (T := _) [0, 1, 0, 4, 15] [(0, 11), (1, 12), (2, 13), (3, 14), (4, 15)] (fun bq_ vq_ w_ => qv ((fun i_ => match i_ with | 0 => some (.pointer (some ⟨g13, 1, none⟩)) | 1 => some (.slice (some ⟨g13, 1, none⟩) 16 16) | 2 => some (.pointer (some ⟨R, 0, none⟩)) | _ => none) : Nat → Option Value) bq_ vq_ ∧ cond (bq_ 4) (∃ (oa27 : Option Addr) (nc28 : Nat), vq_ 3 = .slice oa27 16 nc28 ∧ vq_ 4 = .int .i64 ((nums .u8 (((q.drop 1).take 16).map bv)).length : Int) ∧ St w0 F w_ (blk g13 (Value.int .i64 (kN q) :: ((nums .u8 (((q.drop 1).take 16).map bv)) ++ ([Value.slice none 0 0]))) 52 :: rdp oa27 nc28 ((q.drop (0 + 1)).take 16) :: rdr base R (q.drop (0 + 1 + 16), false) :: blk g5 (Value.int .i64 0 :: ((nums .u8 (zK.map bv)) ++ ([Value.slice none 0 0]))) 52 :: L)) (cond (bq_ 3) (∃ (oa27 : Option Addr) (nc28 : Nat), vq_ 3 = .slice oa27 16 nc28 ∧ St w0 F w_ (rdp oa27 nc28 ((q.drop (0 + 1)).take 16) :: rdr base R (q.drop (0 + 1 + 16), false) :: blk g13 (Value.int .i64 (kN q) :: ((nums .u8 (zK.map bv)) ++ ([Value.slice none 0 0]))) 52 :: blk g5 (Value.int .i64 0 :: ((nums .u8 (zK.map bv)) ++ ([Value.slice none 0 0]))) 52 :: L)) ((St w0 F w_ (blk g13 (Value.int .i64 (kN q) :: ((nums .u8 (zK.map bv)) ++ ([Value.slice none 0 0]))) 52 :: rdr base R (q.drop (0 + 1), false) :: blk g5 (Value.int .i64 0 :: ((nums .u8 (zK.map bv)) ++ ([Value.slice none 0 0]))) 52 :: L))))) (by kernel_rfl) rfl rfl (by kernel_rfl) (by kernel_rfl) rfl (by kernel_rfl) (by kernel_rfl) ⟨qv_none, HS.draw⟩ ?_ ?_
    · clear HS
      intro i_ hi_ bq_ vq_ a_ w_ hG hb_ hon hoff hfr hel hval
      obtain ⟨hV, hE⟩ := hG
      have hi_ := List.mem_range.1 hi_
      obtain ⟨l_, rfl⟩ := hfr
      have hv_ := fun (j t : Nat) (v : Value) (h1 : (j, t) ∈ [(0, 11), (1, 12), (2, 13), (3, 14), (4, 15)]) h2 h3 => (hval (j, t) h1 h3).trans (congrArg some (hV j v h2 h3))
      have hcs : i_ = 0 ∨ i_ = 1 ∨ i_ = 2 ∨ i_ = 3 ∨ i_ = 4 := by omega
      rcases hcs with rfl | rfl | rfl | rfl | rfl
      · have e3 : evl l_ (.tmp 3) = .pointer (some ⟨g13, 0, none⟩) := evl_of ((hel 3 (by decide)).trans rfl)
        exact ⟨_, rfl, fun K_ hK_ => q_op _ (x_field (j := 1) _ _ rfl e3 Try.underlying52 rfl (by rfl) rfl) (hK_ _ _ ⟨qv_up hV (fun _ h => Option.some.inj h), hE⟩)⟩
      · have e11 : evl l_ (.tmp 11) = .pointer (some ⟨g13, 1, none⟩) := evl_of (hv_ 0 11 _ (by decide) rfl (hon 0 (by decide)))
        exact ⟨_, rfl, fun K_ hK_ => q_op (.slice (some ⟨g13, 1, none⟩) 16 16) ((x_sliceArr (sz := 1) (L := none) (H := none) (lo := 0) (hi := 16) ⟨g13, 1, none⟩ rfl e11 Try.underlying49 (by kernel_rfl) rfl rfl (by omega) (by omega) (by first | rfl | (rw [if_neg (by omega), add_mk]; rfl))).trans rfl) (hK_ _ _ ⟨qv_up hV (fun _ h => Option.some.inj h), hE⟩)⟩
      · have e0 : evl l_ (.tmp 0) = .pointer (some ⟨R, 0, none⟩) := evl_of ((hel 0 (by decide)).trans rfl)
        exact ⟨_, rfl, fun K_ hK_ => q_op _ (x_move (.pointer (some ⟨R, 0, none⟩)) rfl e0) (hK_ _ _ ⟨qv_up hV (fun _ h => Option.some.inj h), hE⟩)⟩
      · have h13 : (fr l_).tmps[13]? = some (.pointer (some ⟨R, 0, none⟩)) := hv_ 2 13 _ (by decide) rfl (hon 2 (by decide))
        have hE0 := hE
        rw [show bq_ 4 = false from (hoff 4 (by decide))] at hE0
        rw [show bq_ 3 = false from hb_] at hE0
        simp only [cond_true, cond_false] at hE0
        have HS := hE0
        have e13 : evl l_ (.tmp 13) = .pointer (some ⟨R, 0, none⟩) := evl_of h13
        refine ⟨_, rfl, fun K_ hK_ => wp_of_list rfl ?_⟩
        intro ops_
        refine w_call [.pointer (some ⟨R, 0, none⟩), .int .i64 16] Try.func58 (by kernel_rfl) (by rfl) (by simp only [List.map_cons, List.map_nil, e13] <;> rfl) ?_
        replace HS := (HS.front 1 rfl)
        refine (St.take16 (m := 0 + 1) (n := 16) HS (by omega)).mono ?_
        clear HS
        rintro e w900303 ⟨oa900301, nc900302, rfl, HS⟩
        refine ⟨_, rfl, ?_⟩
        refine wpList_nil ?_
        refine norm_put (hK_ (.slice oa900301 16 nc900302) _ ⟨qv_up hV (by intro _ h; cases h), ?_⟩)
        show cond (bq_ 4) _ _
        rw [show bq_ 4 = false from hoff 4 (by decide), cond_false]
        show cond true _ _
        rw [cond_true]
        exact ⟨oa900301, nc900302, rfl, ((((HS.front 3 rfl).front 3 rfl).front 3 rfl).front 3 rfl)⟩
      · have h12 : (fr l_).tmps[12]? = some (.slice (some ⟨g13, 1, none⟩) 16 16) := hv_ 1 12 _ (by decide) rfl (hon 1 (by decide))
        have h14 := hval (3, 14) (by decide) (hon 3 (by decide))
        have hE0 := hE
        rw [show bq_ 4 = false from hb_] at hE0
        rw [show bq_ 3 = true from (hon 3 (by decide))] at hE0
        simp only [cond_true, cond_false] at hE0
        obtain ⟨oa27, nc28, hv3, HS⟩ := hE0
        rw [hv3] at h14
        have e12 : evl l_ (.tmp 12) = .slice (some ⟨g13, 1, none⟩) 16 16 := evl_of h12
        have e14 : evl l_ (.tmp 14) = .slice oa27 16 nc28 := evl_of h14
        refine ⟨_, rfl, fun K_ hK_ => wp_of_list rfl ?_⟩
        intro ops_
        refine St.wCopy (HS.front 2 rfl) Try.underlying65 (by kernel_rfl) e12 e14 (nums .u8 (((q.drop 1).take 16).map bv)) (by rw [nums_length, List.length_map, t16_len hq]; rfl) (rd_cells (HS.get (.head _)).rd) (by simp [nums_length, zK_len, hq]) (nums_one _ _) (lay16 _ (t16_len hq) _) ?_
        clear HS
        intro w900401 HS
        rw [fr_put]
        refine wpList_nil ?_
        refine norm_put (hK_ (.int .i64 ((nums .u8 (((q.drop 1).take 16).map bv)).length : Int)) _ ⟨qv_up hV (by intro _ h; cases h), ?_⟩)
        show cond true _ _
        rw [cond_true]
        exact ⟨oa27, nc28, hv3, rfl, ((((HS.front 3 rfl).front 3 rfl).front 3 rfl).front 3 rfl)⟩
    intro bq_ vq_ w_ hall hG
    obtain ⟨hV, hE⟩ := hG
    clear HS
    rw [show bq_ 4 = true from hall 4 (by decide)] at hE
    simp only [cond_true] at hE
    obtain ⟨oa27, nc28, hv3, hv4, HS⟩ := hE
    have hv0 := hV 0 _ rfl (hall 0 (by decide))
    have hv1 := hV 1 _ rfl (hall 1 (by decide))
    have hv2 := hV 2 _ rfl (hall 2 (by decide))
    clear hV hall
    rw [putSel_fr]
    simp only [tells, List.map_cons, List.map_nil, setAll, List.set_cons_succ, List.set_cons_zero, hv0, hv1, hv2, hv3, hv4]
    clear hv0 hv1 hv2 hv3 hv4
    generalize w_ = w900402 at HS ⊢
    refine fr_at (l' := (.pointer (some ⟨R, 0, none⟩) :: undef :: .pointer (some ⟨g5, 0, none⟩) :: .pointer (some ⟨g13, 0, none⟩) :: .pointer (some ⟨R, 0, none⟩) :: .int .u64 (bv (q.getD 0 0)) :: .int .i64 (kN q) :: .agg (Value.int .i64 (kN q) :: ((nums .u8 (zK.map bv)) ++ ([Value.slice none 0 0]))).toArray :: .pointer (some ⟨g13, 0, none⟩) :: .int .i64 (kN q) :: .bool true :: .pointer (some ⟨g13, 1, none⟩) :: .slice (some ⟨g13, 1, none⟩) 16 16 :: .pointer (some ⟨R, 0, none⟩) :: .slice oa27 16 nc28 :: .int .i64 ((nums .u8 (((q.drop 1).take 16).map bv)).length : Int) :: U16l4 (U4l4 ([])))) rfl ?_
    refine hK24 _ _ ?_
    refine wp_seq_k (fun K900403 hK900404 => ?_)
    refine c_region (fun ops900406 hops900405 => ?_)
    clear hops900405
    refine p_run (l' := _) _ (x_loads (Value.int .i64 (kN q) :: ((nums .u8 (((q.drop 1).take 16).map bv)) ++ ([Value.slice none 0 0]))) 18 rfl rfl (bkCells (HS.get (.head _)) 0 _ (whole _)) (by rfl) (by kernel_rfl) (by simp [List.length_drop, List.length_map, List.length_take, hq, nums_length])) rfl ?_
    refine St.stores (cs' := (Value.int .i64 (kN q) :: ((nums .u8 (((q.drop 1).take 16).map bv)) ++ ([Value.slice none 0 0])))) (HS.front 3 rfl) (Value.int .i64 (kN q) :: ((nums .u8 (((q.drop 1).take 16).map bv)) ++ ([Value.slice none 0 0]))) 18 rfl rfl (all1 rfl (allA (nums_one _ _) (all1 rfl rfl))) (by kernel_rfl) (by simp [List.length_drop, List.length_map, List.length_take, hq, nums_length]) (by simp [List.length_drop, List.length_map, List.length_take, hq, nums_length, zK_len]) (lay_all _ _ (by simp [List.length_drop, List.length_map, List.length_take, hq, nums_length, zK_len])) ?_
    clear HS
    intro w900407 HS
    refine wpList_nil ?_
    refine hK900404 _ _ ?_
    refine wp_ret ?_
    try simp only [Exit.inBlock, Exit.then]
    refine c_ret (.agg (Value.int .i64 (kN q) :: ((nums .u8 (((q.drop 1).take 16).map bv)) ++ ([Value.slice none 0 0]))).toArray) (r_c rfl rfl (run_loadVar_aggn (by rfl) (Value.int .i64 (kN q) :: ((nums .u8 (((q.drop 1).take 16).map bv)) ++ ([Value.slice none 0 0]))) 18 (by kernel_rfl) (by simp [List.length_drop, List.length_map, List.length_take, hq, nums_length]) (bkCells (HS.get (.head _)) 0 _ (whole _)))) ?_
    replace HS := HS.nil kEn rfl 62
    have e1 : bN q = (q.drop 1).take 16 := if_pos hk
    have e2 : eN q = [] := if_pos hk
    rw [e1, e2]
    exact ⟨none, 0, _, rfl, (((((HS.front 1 rfl).drop.front 1 rfl).drop.front 1 rfl).drop.front 1 rfl).front 1 rfl)⟩
  · skip
    refine c_enter Try.func38 rfl 36 rfl (.pointer (some ⟨R, 0, none⟩) :: U32l4 (undef :: undef :: undef :: [])) rfl ?_
    refine wp_seq_k (fun K1 hK2 => ?_)
    refine c_region (fun ops4 hops3 => ?_)
    clear hops3
    refine St.wAlloc HS (cs := (Value.int .i64 0 :: ((nums .u8 (zK.map bv)) ++ ([Value.slice none 0 0])))) (.agg (Value.int .i64 0 :: ((nums .u8 (zK.map bv)) ++ ([Value.slice none 0 0]))).toArray) (by kernel_rfl) rfl ?_
    clear HS
    intro g5 w6 hg7 HS
    refine wpList_nil ?_
    refine hK2 _ _ ?_
    refine wp_seq_k (fun K8 hK9 => ?_)
    refine c_region (fun ops11 hops10 => ?_)
    clear hops10
    refine p_run (l' := _) _ (x_move (.pointer (some ⟨R, 0, none⟩)) rfl rfl) rfl ?_
    refine w_call [.pointer (some ⟨R, 0, none⟩), .int .i64 1] Try.func57 (by kernel_rfl) (by rfl) rfl ?_
    replace HS := (HS.front 1 rfl)
    refine (St.numD (m := 0) HS (by omega)).mono ?_
    clear HS
    rintro e w12 ⟨rfl, HS⟩
    refine ⟨_, rfl, ?_⟩
    refine p_run (l' := _) _ (x_conv (k := .u64) (m := (bv (q.getD 0 0))) .i64 ((kN q)) rfl (by rw [Try.underlying22]; rfl) Try.underlying3 rfl (wr64' (by have := bv_lo (q.getD 0 0); have := bv_hi (q.getD 0 0); omega))) rfl ?_
    refine p_run (l' := _) _ (x_build (Value.int .i64 (kN q) :: ((nums .u8 (zK.map bv)) ++ ([Value.slice none 0 0]))) rfl (by kernel_rfl)) rfl ?_
    refine St.wAlloc HS (cs := (Value.int .i64 0 :: ((nums .u8 (zK.map bv)) ++ ([Value.slice none 0 0])))) (.agg (Value.int .i64 0 :: ((nums .u8 (zK.map bv)) ++ ([Value.slice none 0 0]))).toArray) (by kernel_rfl) rfl ?_
    clear HS
    intro g13 w14 hg15 HS
    refine St.stores (cs' := (Value.int .i64 (kN q) :: ((nums .u8 (zK.map bv)) ++ ([Value.slice none 0 0])))) HS (Value.int .i64 (kN q) :: ((nums .u8 (zK.map bv)) ++ ([Value.slice none 0 0]))) 18 rfl rfl (all1 rfl (allA (nums_one _ _) (all1 rfl rfl))) (by kernel_rfl) (by simp [List.length_map, nums_length, zK_len]) (by simp [List.length_map, nums_length, zK_len]) (lay_all _ _ (by simp [List.length_map, nums_length, zK_len])) ?_
    clear HS
    intro w16 HS
    refine wpList_nil ?_
    refine hK9 _ _ ?_
    refine wp_seq_k (fun K17 hK18 => ?_)
    refine wp_seq_k (fun K19 hK20 => ?_)
    refine c_region (fun ops22 hops21 => ?_)
    clear hops21
    refine p_run (l' := _) _ (x_field (j := 0) _ _ rfl rfl Try.underlying52 rfl (by rfl) rfl) rfl ?_
    refine p_run (l' := _) _ (x_load (.int .i64 (kN q)) rfl rfl (bkCell (HS.get (.head _)) 0 _ rfl) (by rfl)) rfl ?_
    refine p_run (l' := _) _ (x_cmp (k := .i64) (m := (kN q)) (n := 1) .eql false rfl rfl rfl (cmp_not hk) rfl) rfl ?_
    refine wpList_nil ?_
    refine hK20 _ _ ?_
    refine c_false rfl ?_
    refine wp_skip ?_
    refine hK18 _ _ ?_
    refine wp_seq_k (fun K23 hK24 => ?_)
    refine wp_seq_k (fun K25 hK26 => ?_)
    refine c_region (fun ops28 hops27 => ?_)
    clear hops27
    refine p_run (l' := _) _ (x_move (.pointer (some ⟨R, 0, none⟩)) rfl rfl) rfl ?_
    refine w_call [.pointer (some ⟨R, 0, none⟩), .int .i64 1] Try.func57 (by kernel_rfl) (by rfl) rfl ?_
    replace HS := (HS.front 1 rfl)
    refine (St.numD (m := 0 + 1) HS (by omega)).mono ?_
    clear HS
    rintro e w29 ⟨rfl, HS⟩
    refine ⟨_, rfl, ?_⟩
    refine p_run (l' := (.pointer (some ⟨R, 0, none⟩) :: undef :: .pointer (some ⟨g5, 0, none⟩) :: .pointer (some ⟨g13, 0, none⟩) :: .pointer (some ⟨R, 0, none⟩) :: .int .u64 (bv (q.getD 0 0)) :: .int .i64 (kN q) :: .agg (Value.int .i64 (kN q) :: ((nums .u8 (zK.map bv)) ++ ([Value.slice none 0 0]))).toArray :: .pointer (some ⟨g13, 0, none⟩) :: .int .i64 (kN q) :: .bool false :: U4l4 (undef :: undef :: .pointer (some ⟨R, 0, none⟩) :: .int .u64 (bv (q.getD (0 + 1) 0)) :: .int .u64 ((mN q : Nat) : Int) :: U16l4 ([])))) _ (x_min (m := (bv (q.getD (0 + 1) 0))) (n := 6) (((mN q : Nat) : Int)) rfl rfl rfl (mn_eq q)) rfl ?_
    refine p_run (l' := _) _ (x_move (.int .u64 0) rfl rfl) rfl ?_
    refine wpList_nil ?_
    refine fr_at (l' := (.pointer (some ⟨R, 0, none⟩) :: undef :: .pointer (some ⟨g5, 0, none⟩) :: .pointer (some ⟨g13, 0, none⟩) :: .pointer (some ⟨R, 0, none⟩) :: .int .u64 (bv (q.getD 0 0)) :: .int .i64 (kN q) :: .agg (Value.int .i64 (kN q) :: ((nums .u8 (zK.map bv)) ++ ([Value.slice none 0 0]))).toArray :: .pointer (some ⟨g13, 0, none⟩) :: .int .i64 (kN q) :: .bool false :: U4l4 (undef :: undef :: .pointer (some ⟨R, 0, none⟩) :: .int .u64 (bv (q.getD (0 + 1) 0)) :: .int .u64 ((mN q : Nat) : Int) :: .int .u64 0 :: U8l4 (U4l4 (undef :: undef :: undef :: []))))) rfl ?_
    refine hK26 _ _ ?_
    refine wp_block ?_
    replace HS := HS.nil kEn rfl 62
    refine c_loop (ι := Nat × Value) (fun i_ a_ w_ => match i_ with | (j, ve) => ∃ (u21 : Value) (u22 : Value) (u23 : Value) (u24 : Value) (u25 : Value) (u26 : Value) (u27 : Value) (u28 : Value) (u29 : Value) (u30 : Value) (u31 : Value) (u32 : Value) (u33 : Value) (u34 : Value), a_ = fr (.pointer (some ⟨R, 0, none⟩) :: undef :: .pointer (some ⟨g5, 0, none⟩) :: .pointer (some ⟨g13, 0, none⟩) :: .pointer (some ⟨R, 0, none⟩) :: .int .u64 (bv (q.getD 0 0)) :: .int .i64 (kN q) :: .agg (Value.int .i64 (kN q) :: ((nums .u8 (zK.map bv)) ++ ([Value.slice none 0 0]))).toArray :: .pointer (some ⟨g13, 0, none⟩) :: .int .i64 (kN q) :: .bool false :: U4l4 (undef :: undef :: .pointer (some ⟨R, 0, none⟩) :: .int .u64 (bv (q.getD (0 + 1) 0)) :: .int .u64 ((mN q : Nat) : Int) :: .int .u64 (j : Int) :: u21 :: u22 :: u23 :: u24 :: u25 :: u26 :: u27 :: u28 :: u29 :: u30 :: u31 :: u32 :: u33 :: u34 :: undef :: [])) ∧ St w0 F w_ (row kEn rfl 62 ve (eL q j) :: blk g13 (Value.int .i64 (kN q) :: ((nums .u8 (zK.map bv)) ++ ([ve]))) 52 :: rdr base R (q.drop (2 + 2 * j), false) :: blk g5 (Value.int .i64 0 :: ((nums .u8 (zK.map bv)) ++ ([Value.slice none 0 0]))) 52 :: L) ∧ (j ≤ mN q)) (fun i_ => match i_ with | (j, ve) => mN q - j) (0, .slice none 0 0) ?_ ?_
    · exact ⟨_, _, _, _, _, _, _, _, _, _, _, _, _, _, rfl, ((((HS.front 3 rfl).front 2 rfl).front 3 rfl).front 3 rfl), (by omega)⟩
    · clear HS
      rintro ⟨j, ve⟩ a_ w32 ⟨u21, u22, u23, u24, u25, u26, u27, u28, u29, u30, u31, u32, u33, u34, rfl, HS, hI⟩ J30 hJ31
      refine wp_seq_k (fun K33 hK34 => ?_)
      refine c_region (fun ops36 hops35 => ?_)
      clear hops35
      refine p_run (l' := _) _ (x_cmp (k := .u64) (m := (j : Int)) (n := ((mN q : Nat) : Int)) .lss (decide ((j : Int) < ((mN q : Nat) : Int))) rfl rfl rfl rfl rfl) rfl ?_
      refine wpList_nil ?_
      refine hK34 _ _ ?_
      refine wp_seq_k (fun K37 hK38 => ?_)
      refine c_cond (t := decide ((j : Int) < ((mN q : Nat) : Int))) rfl (fun hc39 => ?_) (fun hc39 => ?_)
      · have hlt : j < mN q := by have := of_decide_eq_true hc39; omega
        have hm6 : mN q ≤ 6 := Nat.min_le_right _ _
        refine wp_skip ?_
        refine hK38 _ _ ?_
        refine wp_seq_k (fun K40 hK41 => ?_)
        refine wp_block ?_
        refine free_frame (n := 13) (T := _) [0, 1, 0, 4, 12, 0, 44, 108, 252, 508, 1023, 2047, 4095] [(0, 22), (1, 23), (2, 24), (3, 25), (4, 26), (5, 27), (6, 28), (7, 29), (8, 30), (9, 31), (10, 32), (11, 33)] (fun bq_ vq_ w_ => qv ((fun i_ => match i_ with | 0 => some (.pointer (some ⟨g13, 17, none⟩)) | 1 => some (ve) | 2 => some (.pointer (some ⟨R, 0, none⟩)) | 4 => some (.int .i64 (bv (q.getD (2 + 2 * j) 0))) | 5 => some (.pointer (some ⟨R, 0, none⟩)) | 7 => some (.int .i64 (bv (q.getD (2 + 2 * j + 1) 0))) | 8 => some (.agg ([.int .i64 (bv (q.getD (2 + 2 * j) 0)), .int .i64 (bv (q.getD (2 + 2 * j + 1) 0))] : List Value).toArray) | 11 => some (.pointer (some ⟨g13, 17, none⟩)) | _ => none) : Nat → Option Value) bq_ vq_ ∧ cond (bq_ 12) (∃ (g46 : Nat) (v49 : Value), vq_ 3 = .int .u64 (bv (q.getD (2 + 2 * j) 0)) ∧ vq_ 6 = .int .u64 (bv (q.getD (2 + 2 * j + 1) 0)) ∧ vq_ 9 = .slice (some ⟨g46, 0, none⟩) 1 1 ∧ vq_ 10 = v49 ∧ St w0 F w_ (blk g13 (Value.int .i64 (kN q) :: ((nums .u8 (zK.map bv)) ++ ([v49]))) 52 :: row kEn rfl 62 v49 ((eL q j) ++ [((bv (q.getD (2 + 2 * j) 0)), (bv (q.getD (2 + 2 * j + 1) 0)))]) :: blk g46 [.int .i64 (bv (q.getD (2 + 2 * j) 0)), .int .i64 (bv (q.getD (2 + 2 * j + 1) 0))] 62 :: rdr base R (q.drop (2 + 2 * j + 1 + 1), false) :: blk g5 (Value.int .i64 0 :: ((nums .u8 (zK.map bv)) ++ ([Value.slice none 0 0]))) 52 :: L)) (cond (bq_ 10) (∃ (g46 : Nat) (v49 : Value), vq_ 3 = .int .u64 (bv (q.getD (2 + 2 * j) 0)) ∧ vq_ 6 = .int .u64 (bv (q.getD (2 + 2 * j + 1) 0)) ∧ vq_ 9 = .slice (some ⟨g46, 0, none⟩) 1 1 ∧ vq_ 10 = v49 ∧ St w0 F w_ (row kEn rfl 62 v49 ((eL q j) ++ [((bv (q.getD (2 + 2 * j) 0)), (bv (q.getD (2 + 2 * j + 1) 0)))]) :: blk g46 [.int .i64 (bv (q.getD (2 + 2 * j) 0)), .int .i64 (bv (q.getD (2 + 2 * j + 1) 0))] 62 :: rdr base R (q.drop (2 + 2 * j + 1 + 1), false) :: blk g13 (Value.int .i64 (kN q) :: ((nums .u8 (zK.map bv)) ++ ([ve]))) 52 :: blk g5 (Value.int .i64 0 :: ((nums .u8 (zK.map bv)) ++ ([Value.slice none 0 0]))) 52 :: L)) (cond (bq_ 9) (∃ (g46 : Nat), vq_ 3 = .int .u64 (bv (q.getD (2 + 2 * j) 0)) ∧ vq_ 6 = .int .u64 (bv (q.getD (2 + 2 * j + 1) 0)) ∧ vq_ 9 = .slice (some ⟨g46, 0, none⟩) 1 1 ∧ St w0 F w_ (blk g46 [.int .i64 (bv (q.getD (2 + 2 * j) 0)), .int .i64 (bv (q.getD (2 + 2 * j + 1) 0))] 62 :: rdr base R (q.drop (2 + 2 * j + 1 + 1), false) :: row kEn rfl 62 ve (eL q j) :: blk g13 (Value.int .i64 (kN q) :: ((nums .u8 (zK.map bv)) ++ ([ve]))) 52 :: blk g5 (Value.int .i64 0 :: ((nums .u8 (zK.map bv)) ++ ([Value.slice none 0 0]))) 52 :: L)) (cond (bq_ 6) (vq_ 3 = .int .u64 (bv (q.getD (2 + 2 * j) 0)) ∧ vq_ 6 = .int .u64 (bv (q.getD (2 + 2 * j + 1) 0)) ∧ St w0 F w_ (rdr base R (q.drop (2 + 2 * j + 1 + 1), false) :: row kEn rfl 62 ve (eL q j) :: blk g13 (Value.int .i64 (kN q) :: ((nums .u8 (zK.map bv)) ++ ([ve]))) 52 :: blk g5 (Value.int .i64 0 :: ((nums .u8 (zK.map bv)) ++ ([Value.slice none 0 0]))) 52 :: L)) (cond (bq_ 3) (vq_ 3 = .int .u64 (bv (q.getD (2 + 2 * j) 0)) ∧ St w0 F w_ (rdr base R (q.drop (2 + 2 * j + 1), false) :: row kEn rfl 62 ve (eL q j) :: blk g13 (Value.int .i64 (kN q) :: ((nums .u8 (zK.map bv)) ++ ([ve]))) 52 :: blk g5 (Value.int .i64 0 :: ((nums .u8 (zK.map bv)) ++ ([Value.slice none 0 0]))) 52 :: L)) ((St w0 F w_ (row kEn rfl 62 ve (eL q j) :: blk g13 (Value.int .i64 (kN q) :: ((nums .u8 (zK.map bv)) ++ ([ve]))) 52 :: rdr base R (q.drop (2 + 2 * j), false) :: blk g5 (Value.int .i64 0 :: ((nums .u8 (zK.map bv)) ++ ([Value.slice none 0 0]))) 52 :: L)))))))) (by kernel_rfl) rfl rfl (by kernel_rfl) (by kernel_rfl) rfl (by kernel_rfl) (by kernel_rfl) ⟨qv_none, HS.draw⟩ ?_ ?_
        · clear HS
          intro i_ hi_ bq_ vq_ a_ w_ hG hb_ hon hoff hfr hel hval
          obtain ⟨hV, hE⟩ := hG
          have hi_ := List.mem_range.1 hi_
          obtain ⟨l_, rfl⟩ := hfr
          have hv_ := fun (j t : Nat) (v : Value) (h1 : (j, t) ∈ [(0, 22), (1, 23), (2, 24), (3, 25), (4, 26), (5, 27), (6, 28), (7, 29), (8, 30), (9, 31), (10, 32), (11, 33)]) h2 h3 => (hval (j, t) h1 h3).trans (congrArg some (hV j v h2 h3))
          have hcs : i_ = 0 ∨ i_ = 1 ∨ i_ = 2 ∨ i_ = 3 ∨ i_ = 4 ∨ i_ = 5 ∨ i_ = 6 ∨ i_ = 7 ∨ i_ = 8 ∨ i_ = 9 ∨ i_ = 10 ∨ i_ = 11 ∨ i_ = 12 := by omega
          rcases hcs with rfl | rfl | rfl | rfl | rfl | rfl | rfl | rfl | rfl | rfl | rfl | rfl | rfl
          · have e3 : evl l_ (.tmp 3) = .pointer (some ⟨g13, 0, none⟩) := evl_of ((hel 3 (by decide)).trans rfl)
            exact ⟨_, rfl, fun K_ hK_ => q_op _ (x_field (j := 17) _ _ rfl e3 Try.underlying52 rfl (by rfl) rfl) (hK_ _ _ ⟨qv_up hV (fun _ h => Option.some.inj h), hE⟩)⟩
          · rcases hq9 : bq_ 9 with _ | _
            · skip
              rcases hq6 : bq_ 6 with _ | _
              · skip
                rcases hq3 : bq_ 3 with _ | _
                · skip
                  have hE0 := hE
                  rw [show bq_ 12 = false from (hoff 12 (by decide))] at hE0
                  rw [show bq_ 10 = false from (hoff 10 (by decide))] at hE0
                  rw [show bq_ 9 = false from hq9] at hE0
                  rw [show bq_ 6 = false from hq6] at hE0
                  rw [show bq_ 3 = false from hq3] at hE0
                  simp only [cond_true, cond_false] at hE0
                  have HS := hE0
                  have e22 : evl l_ (.tmp 22) = .pointer (some ⟨g13, 17, none⟩) := evl_of (hv_ 0 22 _ (by decide) rfl (hon 0 (by decide)))
                  exact ⟨_, rfl, fun K_ hK_ => q_op _ (x_load (ve) rfl e22 (bkCell (HS.get (.tail _ (.head _))) 17 _ (by simp [List.getElem?_append, List.length_map, nums_length, zK_len])) (by rfl)) (hK_ _ _ ⟨qv_up hV (fun _ h => Option.some.inj h), hE⟩)⟩
                · have hE0 := hE
                  rw [show bq_ 12 = false from (hoff 12 (by decide))] at hE0
                  rw [show bq_ 10 = false from (hoff 10 (by decide))] at hE0
                  rw [show bq_ 9 = false from hq9] at hE0
                  rw [show bq_ 6 = false from hq6] at hE0
                  rw [show bq_ 3 = true from hq3] at hE0
                  simp only [cond_true, cond_false] at hE0
                  obtain ⟨hv3, HS⟩ := hE0
                  have e22 : evl l_ (.tmp 22) = .pointer (some ⟨g13, 17, none⟩) := evl_of (hv_ 0 22 _ (by decide) rfl (hon 0 (by decide)))
                  exact ⟨_, rfl, fun K_ hK_ => q_op _ (x_load (ve) rfl e22 (bkCell (HS.get (.tail _ (.tail _ (.head _)))) 17 _ (by simp [List.getElem?_append, List.length_map, nums_length, zK_len])) (by rfl)) (hK_ _ _ ⟨qv_up hV (fun _ h => Option.some.inj h), hE⟩)⟩
              · have hE0 := hE
                rw [show bq_ 12 = false from (hoff 12 (by decide))] at hE0
                rw [show bq_ 10 = false from (hoff 10 (by decide))] at hE0
                rw [show bq_ 9 = false from hq9] at hE0
                rw [show bq_ 6 = true from hq6] at hE0
                simp only [cond_true, cond_false] at hE0
                obtain ⟨hv3, hv6, HS⟩ := hE0
                have e22 : evl l_ (.tmp 22) = .pointer (some ⟨g13, 17, none⟩) := evl_of (hv_ 0 22 _ (by decide) rfl (hon 0 (by decide)))
                exact ⟨_, rfl, fun K_ hK_ => q_op _ (x_load (ve) rfl e22 (bkCell (HS.get (.tail _ (.tail _ (.head _)))) 17 _ (by simp [List.getElem?_append, List.length_map, nums_length, zK_len])) (by rfl)) (hK_ _ _ ⟨qv_up hV (fun _ h => Option.some.inj h), hE⟩)⟩
            · have hE0 := hE
              rw [show bq_ 12 = false from (hoff 12 (by decide))] at hE0
              rw [show bq_ 10 = false from (hoff 10 (by decide))] at hE0
              rw [show bq_ 9 = true from hq9] at hE0
              simp only [cond_true, cond_false] at hE0
              obtain ⟨g46, hv3, hv6, hv9, HS⟩ := hE0
              have e22 : evl l_ (.tmp 22) = .pointer (some ⟨g13, 17, none⟩) := evl_of (hv_ 0 22 _ (by decide) rfl (hon 0 (by decide)))
              exact ⟨_, rfl, fun K_ hK_ => q_op _ (x_load (ve) rfl e22 (bkCell (HS.get (.tail _ (.tail _ (.tail _ (.head _))))) 17 _ (by simp [List.getElem?_append, List.length_map, nums_length, zK_len])) (by rfl)) (hK_ _ _ ⟨qv_up hV (fun _ h => Option.some.inj h), hE⟩)⟩
          · have e0 : evl l_ (.tmp 0) = .pointer (some ⟨R, 0, none⟩) := evl_of ((hel 0 (by decide)).trans rfl)
            exact ⟨_, rfl, fun K_ hK_ => q_op _ (x_move (.pointer (some ⟨R, 0, none⟩)) rfl e0) (hK_ _ _ ⟨qv_up hV (fun _ h => Option.some.inj h), hE⟩)⟩
          · have h24 : (fr l_).tmps[24]? = some (.pointer (some ⟨R, 0, none⟩)) := hv_ 2 24 _ (by decide) rfl (hon 2 (by decide))
            have hE0 := hE
            rw [show bq_ 12 = false from (hoff 12 (by decide))] at hE0
            rw [show bq_ 10 = false from (hoff 10 (by decide))] at hE0
            rw [show bq_ 9 = false from (hoff 9 (by decide))] at hE0
            rw [show bq_ 6 = false from (hoff 6 (by decide))] at hE0
            rw [show bq_ 3 = false from hb_] at hE0
            simp only [cond_true, cond_false] at hE0
            have HS := hE0
            have e24 : evl l_ (.tmp 24) = .pointer (some ⟨R, 0, none⟩) := evl_of h24
            refine ⟨_, rfl, fun K_ hK_ => wp_of_list rfl ?_⟩
            intro ops_
            refine w_call [.pointer (some ⟨R, 0, none⟩), .int .i64 1] Try.func57 (by kernel_rfl) (by rfl) (by simp only [List.map_cons, List.map_nil, e24] <;> rfl) ?_
            replace HS := (HS.front 2 rfl)
            refine (St.numD (m := 2 + 2 * j) HS (by omega)).mono ?_
            clear HS
            rintro e w900301 ⟨rfl, HS⟩
            refine ⟨_, rfl, ?_⟩
            refine wpList_nil ?_
            refine norm_put (hK_ (.int .u64 (bv (q.getD (2 + 2 * j) 0))) _ ⟨qv_up hV (by intro _ h; cases h), ?_⟩)
            show cond (bq_ 12) _ _
            rw [show bq_ 12 = false from hoff 12 (by decide), cond_false]
            show cond (bq_ 10) _ _
            rw [show bq_ 10 = false from hoff 10 (by decide), cond_false]
            show cond (bq_ 9) _ _
            rw [show bq_ 9 = false from hoff 9 (by decide), cond_false]
            show cond (bq_ 6) _ _
            rw [show bq_ 6 = false from hoff 6 (by decide), cond_false]
            show cond true _ _
            rw [cond_true]
            exact ⟨rfl, ((((HS.front 3 rfl).front 3 rfl).front 3 rfl).front 3 rfl)⟩
          · have h25 := hval (3, 25) (by decide) (hon 3 (by decide))
            rcases hq6 : bq_ 6 with _ | _
            · skip
              have hE0 := hE
              rw [show bq_ 12 = false from (hoff 12 (by decide))] at hE0
              rw [show bq_ 10 = false from (hoff 10 (by decide))] at hE0
              rw [show bq_ 9 = false from (hoff 9 (by decide))] at hE0
              rw [show bq_ 6 = false from hq6] at hE0
              rw [show bq_ 3 = true from (hon 3 (by decide))] at hE0
              simp only [cond_true, cond_false] at hE0
              obtain ⟨hv3, HS⟩ := hE0
              rw [hv3] at h25
              have e25 : evl l_ (.tmp 25) = .int .u64 (bv (q.getD (2 + 2 * j) 0)) := evl_of h25
              exact ⟨_, rfl, fun K_ hK_ => q_op _ (x_conv (k := .u64) (m := (bv (q.getD (2 + 2 * j) 0))) .i64 ((bv (q.getD (2 + 2 * j) 0))) rfl (by rw [Try.underlying22]; rfl) Try.underlying3 e25 (wr64' (by have := bv_lo (q.getD (2 + 2 * j) 0); have := bv_hi (q.getD (2 + 2 * j) 0); omega))) (hK_ _ _ ⟨qv_up hV (fun _ h => Option.some.inj h), hE⟩)⟩
            · have hE0 := hE
              rw [show bq_ 12 = false from (hoff 12 (by decide))] at hE0
              rw [show bq_ 10 = false from (hoff 10 (by decide))] at hE0
              rw [show bq_ 9 = false from (hoff 9 (by decide))] at hE0
              rw [show bq_ 6 = true from hq6] at hE0
              simp only [cond_true, cond_false] at hE0
              obtain ⟨hv3, hv6, HS⟩ := hE0
              rw [hv3] at h25
              have e25 : evl l_ (.tmp 25) = .int .u64 (bv (q.getD (2 + 2 * j) 0)) := evl_of h25
              exact ⟨_, rfl, fun K_ hK_ => q_op _ (x_conv (k := .u64) (m := (bv (q.getD (2 + 2 * j) 0))) .i64 ((bv (q.getD (2 + 2 * j) 0))) rfl (by rw [Try.underlying22]; rfl) Try.underlying3 e25 (wr64' (by have := bv_lo (q.getD (2 + 2 * j) 0); have := bv_hi (q.getD (2 + 2 * j) 0); omega))) (hK_ _ _ ⟨qv_up hV (fun _ h => Option.some.inj h), hE⟩)⟩
          · have e0 : evl l_ (.tmp 0) = .pointer (some ⟨R, 0, none⟩) := evl_of ((hel 0 (by decide)).trans rfl)
            exact ⟨_, rfl, fun K_ hK_ => q_op _ (x_move (.pointer (some ⟨R, 0, none⟩)) rfl e0) (hK_ _ _ ⟨qv_up hV (fun _ h => Option.some.inj h), hE⟩)⟩
          · have h27 : (fr l_).tmps[27]? = some (.pointer (some ⟨R, 0, none⟩)) := hv_ 5 27 _ (by decide) rfl (hon 5 (by decide))
            have hE0 := hE
            rw [show bq_ 12 = false from (hoff 12 (by decide))] at hE0
            rw [show bq_ 10 = false from (hoff 10 (by decide))] at hE0
            rw [show bq_ 9 = false from (hoff 9 (by decide))] at hE0
            rw [show bq_ 6 = false from hb_] at hE0
            rw [show bq_ 3 = true from (hon 3 (by decide))] at hE0
            simp only [cond_true, cond_false] at hE0
            obtain ⟨hv3, HS⟩ := hE0
            have e27 : evl l_ (.tmp 27) = .pointer (some ⟨R, 0, none⟩) := evl_of h27
            refine ⟨_, rfl, fun K_ hK_ => wp_of_list rfl ?_⟩
            intro ops_
            refine w_call [.pointer (some ⟨R, 0, none⟩), .int .i64 1] Try.func57 (by kernel_rfl) (by rfl) (by simp only [List.map_cons, List.map_nil, e27] <;> rfl) ?_
            refine (St.numD (m := 2 + 2 * j + 1) HS (by omega)).mono ?_
            clear HS
            rintro e w900601 ⟨rfl, HS⟩
            refine ⟨_, rfl, ?_⟩
            refine wpList_nil ?_
            refine norm_put (hK_ (.int .u64 (bv (q.getD (2 + 2 * j + 1) 0))) _ ⟨qv_up hV (by intro _ h; cases h), ?_⟩)
            show cond (bq_ 12) _ _
            rw [show bq_ 12 = false from hoff 12 (by decide), cond_false]
            show cond (bq_ 10) _ _
            rw [show bq_ 10 = false from hoff 10 (by decide), cond_false]
            show cond (bq_ 9) _ _
            rw [show bq_ 9 = false from hoff 9 (by decide), cond_false]
            show cond true _ _
            rw [cond_true]
            exact ⟨hv3, rfl, ((((HS.front 3 rfl).front 3 rfl).front 3 rfl).front 3 rfl)⟩
          · have h28 := hval (6, 28) (by decide) (hon 6 (by decide))
            have hE0 := hE
            rw [show bq_ 12 = false from (hoff 12 (by decide))] at hE0
            rw [show bq_ 10 = false from (hoff 10 (by decide))] at hE0
            rw [show bq_ 9 = false from (hoff 9 (by decide))] at hE0
            rw [show bq_ 6 = true from (hon 6 (by decide))] at hE0
            simp only [cond_true, cond_false] at hE0
            obtain ⟨hv3, hv6, HS⟩ := hE0
            rw [hv6] at h28
            have e28 : evl l_ (.tmp 28) = .int .u64 (bv (q.getD (2 + 2 * j + 1) 0)) := evl_of h28
            exact ⟨_, rfl, fun K_ hK_ => q_op _ (x_conv (k := .u64) (m := (bv (q.getD (2 + 2 * j + 1) 0))) .i64 ((bv (q.getD (2 + 2 * j + 1) 0))) rfl (by rw [Try.underlying22]; rfl) Try.underlying3 e28 (wr64' (by have := bv_lo (q.getD (2 + 2 * j + 1) 0); have := bv_hi (q.getD (2 + 2 * j + 1) 0); omega))) (hK_ _ _ ⟨qv_up hV (fun _ h => Option.some.inj h), hE⟩)⟩
          · have e26 : evl l_ (.tmp 26) = .int .i64 (bv (q.getD (2 + 2 * j) 0)) := evl_of (hv_ 4 26 _ (by decide) rfl (hon 4 (by decide)))
            have e29 : evl l_ (.tmp 29) = .int .i64 (bv (q.getD (2 + 2 * j + 1) 0)) := evl_of (hv_ 7 29 _ (by decide) rfl (hon 7 (by decide)))
            exact ⟨_, rfl, fun K_ hK_ => q_op _ (x_build [.int .i64 (bv (q.getD (2 + 2 * j) 0)), .int .i64 (bv (q.getD (2 + 2 * j + 1) 0))] rfl (by show Try.prog.built 62 (Array.map (fun x : Nat × Operand => (x.1, evl l_ x.2)) #[(0, Operand.tmp 26), (1, Operand.tmp 29)]).toList = _; rw [show (Array.map (fun x : Nat × Operand => (x.1, evl l_ x.2)) #[(0, Operand.tmp 26), (1, Operand.tmp 29)]).toList = [(0, .int .i64 (bv (q.getD (2 + 2 * j) 0))), (1, .int .i64 (bv (q.getD (2 + 2 * j + 1) 0)))] from by simp only [List.map_toArray, List.map_cons, List.map_nil, e26, e29] <;> rfl]; kernel_rfl)) (hK_ _ _ ⟨qv_up hV (fun _ h => Option.some.inj h), hE⟩)⟩
          · have h30 : (fr l_).tmps[30]? = some (.agg ([.int .i64 (bv (q.getD (2 + 2 * j) 0)), .int .i64 (bv (q.getD (2 + 2 * j + 1) 0))] : List Value).toArray) := hv_ 8 30 _ (by decide) rfl (hon 8 (by decide))
            have hE0 := hE
            rw [show bq_ 12 = false from (hoff 12 (by decide))] at hE0
            rw [show bq_ 10 = false from (hoff 10 (by decide))] at hE0
            rw [show bq_ 9 = false from hb_] at hE0
            rw [show bq_ 6 = true from (hon 6 (by decide))] at hE0
            simp only [cond_true, cond_false] at hE0
            obtain ⟨hv3, hv6, HS⟩ := hE0
            have e30 : evl l_ (.tmp 30) = .agg ([.int .i64 (bv (q.getD (2 + 2 * j) 0)), .int .i64 (bv (q.getD (2 + 2 * j + 1) 0))] : List Value).toArray := evl_of h30
            refine ⟨_, rfl, fun K_ hK_ => wp_of_list rfl ?_⟩
            intro ops_
            refine St.wLit1 HS [.int .i64 (bv (q.getD (2 + 2 * j) 0)), .int .i64 (bv (q.getD (2 + 2 * j + 1) 0))] 2 (.agg [.int .i64 0, .int .i64 0].toArray) (.agg ([.int .i64 (bv (q.getD (2 + 2 * j) 0)), .int .i64 (bv (q.getD (2 + 2 * j + 1) 0))] : List Value).toArray) Try.underlying50 (by kernel_rfl) (by decide) e30 rfl rfl ?_
            clear HS
            intro g900901 w900902 hg900903 HS
            refine wpList_nil ?_
            refine norm_put (hK_ (.slice (some ⟨g900901, 0, none⟩) 1 1) _ ⟨qv_up hV (by intro _ h; cases h), ?_⟩)
            show cond (bq_ 12) _ _
            rw [show bq_ 12 = false from hoff 12 (by decide), cond_false]
            show cond (bq_ 10) _ _
            rw [show bq_ 10 = false from hoff 10 (by decide), cond_false]
            show cond true _ _
            rw [cond_true]
            exact ⟨g900901, hv3, hv6, rfl, (((((HS.front 4 rfl).front 4 rfl).front 4 rfl).front 4 rfl).front 4 rfl)⟩
          · have h23 : (fr l_).tmps[23]? = some (ve) := hv_ 1 23 _ (by decide) rfl (hon 1 (by decide))
            have h31 := hval (9, 31) (by decide) (hon 9 (by decide))
            have hE0 := hE
            rw [show bq_ 12 = false from (hoff 12 (by decide))] at hE0
            rw [show bq_ 10 = false from hb_] at hE0
            rw [show bq_ 9 = true from (hon 9 (by decide))] at hE0
            simp only [cond_true, cond_false] at hE0
            obtain ⟨g46, hv3, hv6, hv9, HS⟩ := hE0
            rw [hv9] at h31
            have e23 : evl l_ (.tmp 23) = ve := evl_of h23
            have e31 : evl l_ (.tmp 31) = .slice (some ⟨g46, 0, none⟩) 1 1 := evl_of h31
            refine ⟨_, rfl, fun K_ hK_ => wp_of_list rfl ?_⟩
            intro ops_
            replace HS := (HS.front 2 rfl)
            refine St.wAppend HS ((.agg #[.int .i64 0, .int .i64 0])) 16 Try.underlying50 (by kernel_rfl) rfl (by decide) (by decide) [((bv (q.getD (2 + 2 * j) 0)), (bv (q.getD (2 + 2 * j + 1) 0)))] _ _ _ e23 e31 (lit_reads (HS.get (.tail _ (.head _))) ((Reps.none _ _).snoc (p := ((bv (q.getD (2 + 2 * j) 0)), (bv (q.getD (2 + 2 * j + 1) 0)))) rfl rfl) (by simp)) (fun _ _ h => h) (by rw [eL_length]; omega) ?_
            clear HS
            intro v901001 w901002 HS
            refine wpList_nil ?_
            refine norm_put (hK_ (v901001) _ ⟨qv_up hV (by intro _ h; cases h), ?_⟩)
            show cond (bq_ 12) _ _
            rw [show bq_ 12 = false from hoff 12 (by decide), cond_false]
            show cond true _ _
            rw [cond_true]
            exact ⟨g46, v901001, hv3, hv6, hv9, rfl, (((((HS.front 4 rfl).front 4 rfl).front 4 rfl).front 4 rfl).front 4 rfl)⟩
          · have e3 : evl l_ (.tmp 3) = .pointer (some ⟨g13, 0, none⟩) := evl_of ((hel 3 (by decide)).trans rfl)
            exact ⟨_, rfl, fun K_ hK_ => q_op _ (x_field (j := 17) _ _ rfl e3 Try.underlying52 rfl (by rfl) rfl) (hK_ _ _ ⟨qv_up hV (fun _ h => Option.some.inj h), hE⟩)⟩
          · have h32 := hval (10, 32) (by decide) (hon 10 (by decide))
            have h33 : (fr l_).tmps[33]? = some (.pointer (some ⟨g13, 17, none⟩)) := hv_ 11 33 _ (by decide) rfl (hon 11 (by decide))
            have hE0 := hE
            rw [show bq_ 12 = false from hb_] at hE0
            rw [show bq_ 10 = true from (hon 10 (by decide))] at hE0
            simp only [cond_true, cond_false] at hE0
            obtain ⟨g46, v49, hv3, hv6, hv9, hv10, HS⟩ := hE0
            rw [hv10] at h32
            have e32 : evl l_ (.tmp 32) = v49 := evl_of h32
            have e33 : evl l_ (.tmp 33) = .pointer (some ⟨g13, 17, none⟩) := evl_of h33
            refine ⟨_, rfl, fun K_ hK_ => wp_of_list rfl ?_⟩
            intro ops_
            refine St.store (cs' := (Value.int .i64 (kN q) :: ((nums .u8 (zK.map bv)) ++ ([v49])))) (HS.front 3 rfl) (v49) e33 e32 (row_one (HS.get (.head _))) (by kernel_rfl) (by simp [List.length_map, nums_length, zK_len]) (by simp [List.set_append, List.length_map, nums_length, zK_len]) ?_
            clear HS
            intro w901201 HS
            refine wpList_nil ?_
            refine norm_none (hK_ undef _ ⟨qv_up hV (by intro _ h; cases h), ?_⟩)
            show cond true _ _
            rw [cond_true]
            exact ⟨g46, v49, hv3, hv6, hv9, hv10, (((((HS.front 4 rfl).front 4 rfl).front 4 rfl).front 4 rfl).front 4 rfl)⟩
        intro bq_ vq_ w_ hall hG
        obtain ⟨hV, hE⟩ := hG
        clear HS
        rw [show bq_ 12 = true from hall 12 (by decide)] at hE
        simp only [cond_true] at hE
        obtain ⟨g46, v49, hv3, hv6, hv9, hv10, HS⟩ := hE
        have hv0 := hV 0 _ rfl (hall 0 (by decide))
        have hv1 := hV 1 _ rfl (hall 1 (by decide))
        have hv2 := hV 2 _ rfl (hall 2 (by decide))
        have hv4 := hV 4 _ rfl (hall 4 (by decide))
        have hv5 := hV 5 _ rfl (hall 5 (by decide))
        have hv7 := hV 7 _ rfl (hall 7 (by decide))
        have hv8 := hV 8 _ rfl (hall 8 (by decide))
        have hv11 := hV 11 _ rfl (hall 11 (by decide))
        clear hV hall
        rw [putSel_fr]
        simp only [tells, List.map_cons, List.map_nil, setAll, List.set_cons_succ, List.set_cons_zero, hv0, hv1, hv2, hv3, hv4, hv5, hv6, hv7, hv8, hv9, hv10, hv11]
        clear hv0 hv1 hv2 hv3 hv4 hv5 hv6 hv7 hv8 hv9 hv10 hv11
        generalize w_ = w901202 at HS ⊢
        refine fr_at (l' := (.pointer (some ⟨R, 0, none⟩) :: undef :: .pointer (some ⟨g5, 0, none⟩) :: .pointer (some ⟨g13, 0, none⟩) :: .pointer (some ⟨R, 0, none⟩) :: .int .u64 (bv (q.getD 0 0)) :: .int .i64 (kN q) :: .agg (Value.int .i64 (kN q) :: ((nums .u8 (zK.map bv)) ++ ([Value.slice none 0 0]))).toArray :: .pointer (some ⟨g13, 0, none⟩) :: .int .i64 (kN q) :: .bool false :: U4l4 (undef :: undef :: .pointer (some ⟨R, 0, none⟩) :: .int .u64 (bv (q.getD (0 + 1) 0)) :: .int .u64 ((mN q : Nat) : Int) :: .int .u64 (j : Int) :: .bool (decide ((j : Int) < ((mN q : Nat) : Int))) :: .pointer (some ⟨g13, 17, none⟩) :: ve :: .pointer (some ⟨R, 0, none⟩) :: .int .u64 (bv (q.getD (2 + 2 * j) 0)) :: .int .i64 (bv (q.getD (2 + 2 * j) 0)) :: .pointer (some ⟨R, 0, none⟩) :: .int .u64 (bv (q.getD (2 + 2 * j + 1) 0)) :: .int .i64 (bv (q.getD (2 + 2 * j + 1) 0)) :: .agg ([.int .i64 (bv (q.getD (2 + 2 * j) 0)), .int .i64 (bv (q.getD (2 + 2 * j + 1) 0))] : List Value).toArray :: .slice (some ⟨g46, 0, none⟩) 1 1 :: v49 :: .pointer (some ⟨g13, 17, none⟩) :: u34 :: undef :: []))) rfl ?_
        refine hK41 _ _ ?_
        refine c_region (fun ops901204 hops901203 => ?_)
        clear hops901203
        refine p_run (l' := _) _ (x_arith (k := .u64) (m := (j : Int)) (n := 1) .add (((j + 1 : Nat) : Int)) rfl rfl rfl (show IntKind.u64.wrap ((j : Int) + 1) = ((j + 1 : Nat) : Int) from ((wru64 (by omega)).trans (by omega))) rfl) rfl ?_
        refine p_run (l' := _) _ (x_move (.int .u64 ((j + 1 : Nat) : Int)) rfl rfl) rfl ?_
        refine wpList_nil ?_
        refine fr_at (l' := (.pointer (some ⟨R, 0, none⟩) :: undef :: .pointer (some ⟨g5, 0, none⟩) :: .pointer (some ⟨g13, 0, none⟩) :: .pointer (some ⟨R, 0, none⟩) :: .int .u64 (bv (q.getD 0 0)) :: .int .i64 (kN q) :: .agg (Value.int .i64 (kN q) :: ((nums .u8 (zK.map bv)) ++ ([Value.slice none 0 0]))).toArray :: .pointer (some ⟨g13, 0, none⟩) :: .int .i64 (kN q) :: .bool false :: U4l4 (undef :: undef :: .pointer (some ⟨R, 0, none⟩) :: .int .u64 (bv (q.getD (0 + 1) 0)) :: .int .u64 ((mN q : Nat) : Int) :: .int .u64 ((j + 1 : Nat) : Int) :: .bool (decide ((j : Int) < ((mN q : Nat) : Int))) :: .pointer (some ⟨g13, 17, none⟩) :: ve :: .pointer (some ⟨R, 0, none⟩) :: .int .u64 (bv (q.getD (2 + 2 * j) 0)) :: .int .i64 (bv (q.getD (2 + 2 * j) 0)) :: .pointer (some ⟨R, 0, none⟩) :: .int .u64 (bv (q.getD (2 + 2 * j + 1) 0)) :: .int .i64 (bv (q.getD (2 + 2 * j + 1) 0)) :: .agg ([.int .i64 (bv (q.getD (2 + 2 * j) 0)), .int .i64 (bv (q.getD (2 + 2 * j + 1) 0))] : List Value).toArray :: .slice (some ⟨g46, 0, none⟩) 1 1 :: v49 :: .pointer (some ⟨g13, 17, none⟩) :: .int .u64 ((j + 1 : Nat) : Int) :: undef :: []))) rfl ?_
        rw [← eL_snoc] at HS
        refine hJ31 (j + 1, v49) _ _ ?_ ?_
        · show mN q - (j + 1) < mN q - j; omega
        · exact ⟨_, _, _, _, _, _, _, _, _, _, _, _, _, _, rfl, (((((HS.front 2 rfl).drop.front 3 rfl).front 3 rfl).front 2 rfl).front 3 rfl), (by omega)⟩
      · have hlt : j = mN q := by have := of_decide_eq_false hc39; omega
        subst hlt
        refine wp_exit ?_
        refine hK24 _ _ ?_
        refine wp_seq_k (fun K901205 hK901206 => ?_)
        refine c_region (fun ops901208 hops901207 => ?_)
        clear hops901207
        refine p_run (l' := _) _ (x_loads (Value.int .i64 (kN q) :: ((nums .u8 (zK.map bv)) ++ ([ve]))) 18 rfl rfl (bkCells (HS.get (.tail _ (.head _))) 0 _ (whole _)) (by rfl) (by kernel_rfl) (by simp [List.length_map, nums_length, zK_len])) rfl ?_
        refine St.stores (cs' := (Value.int .i64 (kN q) :: ((nums .u8 (zK.map bv)) ++ ([ve])))) (HS.front 3 rfl) (Value.int .i64 (kN q) :: ((nums .u8 (zK.map bv)) ++ ([ve]))) 18 rfl rfl (all1 rfl (allA (nums_one _ _) (all1 (row_one (HS.get (.head _))) rfl))) (by kernel_rfl) (by simp [List.length_map, nums_length, zK_len]) (by simp [List.length_map, nums_length, zK_len]) (lay_all _ _ (by simp [List.length_map, nums_length, zK_len])) ?_
        clear HS
        intro w901209 HS
        refine wpList_nil ?_
        refine hK901206 _ _ ?_
        refine wp_ret ?_
        try simp only [Exit.inBlock, Exit.then]
        refine c_ret (.agg (Value.int .i64 (kN q) :: ((nums .u8 (zK.map bv)) ++ ([ve]))).toArray) (r_c rfl rfl (run_loadVar_aggn (by rfl) (Value.int .i64 (kN q) :: ((nums .u8 (zK.map bv)) ++ ([ve]))) 18 (by kernel_rfl) (by simp [List.length_map, nums_length, zK_len]) (bkCells (HS.get (.head _)) 0 _ (whole _)))) ?_
        have e1 : bN q = zK := if_neg hk
        have e2 : eN q = eL q (mN q) := if_neg hk
        rw [e1, e2]
        obtain ⟨A, c, hv, -, -⟩ := row_reads (HS.get (.tail _ (.head _)))
        subst hv
        exact ⟨A, c, _, rfl, (((HS.drop.front 1 rfl).drop.front 1 rfl).front 1 rfl)⟩
end
end Go.Proofs.Ytiokdpnhaemciaa
