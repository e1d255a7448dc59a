/- The chapter's example. -/
import Derived.Test.YtiokdpnhaemciaaLfP
import Derived.Test.YtiokdpnhaemciaaLeaf6
set_option linter.unusedVariables false
set_option linter.unusedSimpArgs false
namespace Go.Proofs.Ytiokdpnhaemciaa
open Go.RowKit Go.Proofs.YtiokdpnhaemciaaW.PrintWords Go.Proofs.YtiokdpnhaemciaaW.PrintLast Crc
abbrev U4p8 (l : List Value) : List Value := undef :: undef :: undef :: undef :: l
abbrev U8p8 (l : List Value) : List Value := U4p8 (U4p8 l)
abbrev U16p8 (l : List Value) : List Value := U8p8 (U8p8 l)
abbrev U32p8 (l : List Value) : List Value := U16p8 (U16p8 l)
abbrev U64p8 (l : List Value) : List Value := U32p8 (U32p8 l)
theorem opB_len {q : List UInt8} (h : q.length = 256) : (opB q).length = 16 := by unfold opB; split; exact bN_length h; exact zK_len
theorem opS_le (q : List UInt8) : (opS q).length ≤ 1000 := by
  have := eN_length q
  unfold opS
  split
  · omega
  · simp
theorem en_nil (w : World) : kEn.C w none 0 [] := ⟨rfl, by simp, fun h => absurd h (by simp)⟩
def aE : List (Int × Int) := [(3, 9), (7, 1)]
theorem a_reps (w : World) : Reps (kEn.K w) kEn.sz aE [.int .i64 3, .int .i64 9, .int .i64 7, .int .i64 1] := by
  refine ⟨rfl, fun j p hj => ?_⟩
  match j, hj with
  | 0, hj =>
    obtain rfl : (3, 9) = p := by simpa [aE] using hj
    exact rfl
  | 1, hj =>
    obtain rfl : (7, 1) = p := by simpa [aE] using hj
    exact rfl
theorem a_ok : ndOk 2 zK aE = true := by kernel_rfl
theorem a_page : lfP 2 zK aE = pdB (ndB 2 zK aE) := (lf_yes a_ok).1
theorem a_open : okN (lfP 2 zK aE) = true := by rw [a_page]; exact ok_back zK_len a_ok
theorem a_S : opS (lfP 2 zK aE) = aE := by rw [(op_yes a_open).2.2.1, a_page]; exact (lf_back zK_len a_ok).2.2
theorem a_at : (opS (lfP 2 zK aE))[1]? = some (7, 1) := by rw [a_S]; rfl
theorem a_len : (((opS (lfP 2 zK aE)).length : Nat) : Int) = 2 := by rw [a_S]; rfl
theorem a_sort : sorted aE := fun a b x y h hx hy => (rise_sorted (by kernel_rfl : riseB aE = true) a b x y h hx hy).1
theorem at_a (w : World) (A : Option Addr) (c : Nat) (k z : Int) (hr : kEn.C w A 2 aE) (hz : ∀ i, placed aE k i → (¬ ∃ x, aE[i]? = some x ∧ x.1 = k) ∧ (i : Int) - 1 = z) : Calls Try.prog 29 #[.slice A 2 c, .int .i64 k] w fun e w' => e = .returned (.int .i64 z) ∧ Below w.heap.size w w' := by
  refine (lat_any w A c aE k hr (by decide) a_sort).mono ?_
  rintro e w' ⟨r, rfl, i, hp, hc, hb⟩
  obtain ⟨h1, h2⟩ := hz i hp
  rcases hc with ⟨-, hx⟩ | ⟨rfl, -⟩
  · exact absurd hx h1
  · rw [h2]
    exact ⟨rfl, hb⟩
theorem pl_5 : ∀ i, placed aE 5 i → (¬ ∃ x, aE[i]? = some x ∧ x.1 = 5) ∧ (i : Int) - 1 = 0 := by
  intro i h
  have hl : i ≤ 2 := h.1
  match i, hl with
  | 0, _ => exact absurd (h.2.2 0 (3, 9) (Nat.le_refl _) rfl) (by decide)
  | 1, _ => exact ⟨fun ⟨x, hx, hk⟩ => by
      have : (7, 1) = x := by simpa [aE] using hx
      subst this
      revert hk; decide, rfl⟩
  | 2, _ => exact absurd (h.2.1 1 (7, 1) (by decide) rfl) (by decide)
theorem pl_2 : ∀ i, placed aE 2 i → (¬ ∃ x, aE[i]? = some x ∧ x.1 = 2) ∧ (i : Int) - 1 = -1 := by
  intro i h
  have hl : i ≤ 2 := h.1
  match i, hl with
  | 0, _ => exact ⟨fun ⟨x, hx, hk⟩ => by
      have : (3, 9) = x := by simpa [aE] using hx
      subst this
      revert hk; decide, rfl⟩
  | 1, _ => exact absurd (h.2.1 0 (3, 9) (by decide) rfl) (by decide)
  | 2, _ => exact absurd (h.2.1 1 (7, 1) (by decide) rfl) (by decide)
theorem en_row {w : World} {ad : Addr} {n c e : Nat} {hE : kEn.E = []} {es : List (Int × Int)} {j : Nat} {x : Int × Int} (h : (row kEn hE e (.slice (some ad) n c) es).holds w) (hx : es[j]? = some x) : ∀ i u, ([.int .i64 x.1, .int .i64 x.2] : List Value)[i]? = some u → w.cell? ((ad.add (j * 2)).add i) = some u := by
  obtain ⟨ad', x', e, hx', hc⟩ := en_get (row_C h).2.2 j (List.getElem?_eq_some_iff.1 hx).1
  injection e with e
  subst e
  rw [hx] at hx'
  injection hx' with hx'
  subst hx'
  exact hc
theorem row_some {w : World} {A : Option Addr} {n c e : Nat} {hE : kEn.E = []} {es : List (Int × Int)} (h : (row kEn hE e (.slice A n c) es).holds w) (hp : 0 < es.length) : ∃ ad, A = some ad := by
  obtain ⟨ad, _, e, _⟩ := en_get (row_C h).2.2 0 hp
  exact ⟨ad, e⟩

set_option maxRecDepth 10000 in
set_option maxHeartbeats 2000000 in
theorem lalive_any (w : World) : Calls Try.prog 25 #[] w fun e w' => e = .returned (.bool true) ∧ Below w.heap.size w w' := by
  have HS := St.empty w
  · skip
    refine c_enter Try.func25 rfl 52 rfl (U32p8 (U16p8 (U4p8 ([])))) rfl ?_
    refine wp_seq_k (fun K1 hK2 => ?_)
    refine c_region (fun ops4 hops3 => ?_)
    clear hops3
    refine p_run _ (x_assign (.bool false) rfl rfl) rfl ?_
    refine wpList_nil ?_
    refine hK2 _ _ ?_
    refine wp_seq_k (fun K5 hK6 => ?_)
    refine c_region (fun ops8 hops7 => ?_)
    clear hops7
    refine p_run _ (x_build [.int .i64 3, .int .i64 9] rfl (by kernel_rfl)) rfl ?_
    refine p_run _ (x_build [.int .i64 7, .int .i64 1] rfl (by kernel_rfl)) rfl ?_
    refine St.wLit HS (cs := [.int .i64 3, .int .i64 9, .int .i64 7, .int .i64 1]) 2 (.agg [.int .i64 0, .int .i64 0].toArray) Try.underlying50 (by kernel_rfl) (by decide) (by kernel_rfl) ?_
    clear HS
    intro g9 w10 hg11 HS
    refine p_run _ (x_assign (.slice (some ⟨g9, 0, none⟩) 2 2) rfl rfl) rfl ?_
    refine wpList_nil ?_
    refine hK6 _ _ ?_
    refine wp_seq_k (fun K12 hK13 => ?_)
    refine c_region (fun ops15 hops14 => ?_)
    clear hops14
    refine p_run _ (x_move (.slice (some ⟨g9, 0, none⟩) 2 2) rfl rfl) rfl ?_
    refine p_run _ (x_build (Value.int .i64 2 :: ((nums .u8 (zK.map bv)) ++ ([Value.slice (some ⟨g9, 0, none⟩) 2 2]))) rfl (by kernel_rfl)) rfl ?_
    refine w_call [.agg (Value.int .i64 2 :: ((nums .u8 (zK.map bv)) ++ ([Value.slice (some ⟨g9, 0, none⟩) 2 2]))).toArray] Try.func23 (by kernel_rfl) (by rfl) rfl ?_
    refine (lpage_any _ 2 zK zK_len (some ⟨g9, 0, none⟩) 2 aE (lit_reads (d := kEn) (xs := aE) (HS.get (.head _)) (a_reps _) (by decide)) (by decide)).mono ?_
    rintro e w16 ⟨rfl, hb_⟩
    replace HS := HS.here hb_
    clear hb_
    refine ⟨_, rfl, ?_⟩
    refine p_run _ (x_move (.tuple [.agg ((nums .u8 ((lfP 2 zK aE).map bv))).toArray, .int .i64 (lfE 2 zK aE)].toArray) rfl rfl) rfl ?_
    refine p_run _ (x_extract (vs := [.agg ((nums .u8 ((lfP 2 zK aE).map bv))).toArray, .int .i64 (lfE 2 zK aE)]) 0 (.agg ((nums .u8 ((lfP 2 zK aE).map bv))).toArray) rfl rfl rfl) rfl ?_
    refine p_run _ (x_extract (vs := [.agg ((nums .u8 ((lfP 2 zK aE).map bv))).toArray, .int .i64 (lfE 2 zK aE)]) 1 (.int .i64 (lfE 2 zK aE)) rfl rfl rfl) rfl ?_
    refine St.wAlloc HS (cs := ((nums .u8 (zQ.map bv)))) (.agg ((nums .u8 (zQ.map bv))).toArray) (by kernel_rfl) rfl ?_
    clear HS
    intro g17 w18 hg19 HS
    refine fr_to (l' := (.bool false :: .slice (some ⟨g9, 0, none⟩) 2 2 :: .pointer (some ⟨g17, 0, none⟩) :: undef :: undef :: undef :: .agg ([.int .i64 3, .int .i64 9] : List Value).toArray :: .agg ([.int .i64 7, .int .i64 1] : List Value).toArray :: .slice (some ⟨g9, 0, none⟩) 2 2 :: .tuple [.agg ((nums .u8 ((lfP 2 zK aE).map bv))).toArray, .int .i64 (lfE 2 zK aE)].toArray :: .slice (some ⟨g9, 0, none⟩) 2 2 :: .agg (Value.int .i64 2 :: ((nums .u8 (zK.map bv)) ++ ([Value.slice (some ⟨g9, 0, none⟩) 2 2]))).toArray :: .tuple [.agg ((nums .u8 ((lfP 2 zK aE).map bv))).toArray, .int .i64 (lfE 2 zK aE)].toArray :: .agg ((nums .u8 ((lfP 2 zK aE).map bv))).toArray :: .int .i64 (lfE 2 zK aE) :: U32p8 (U4p8 (undef :: [])))) rfl ?_
    refine St.stores (cs' := ((nums .u8 ((lfP 2 zK aE).map bv)))) HS ((nums .u8 ((lfP 2 zK aE).map bv))) 256 rfl rfl (nums_one _ _) (by kernel_rfl) (by simp [(lfP_len 2 zK_len aE), List.length_map, nums_length]) (by simp [(lfP_len 2 zK_len aE), List.length_map, nums_length, zQ_len]) (lay_all _ _ (by simp [(lfP_len 2 zK_len aE), List.length_map, nums_length, zQ_len])) ?_
    clear HS
    intro w20 HS
    refine p_run _ (x_assign (.int .i64 (lfE 2 zK aE)) rfl rfl) rfl ?_
    refine wpList_nil ?_
    refine hK13 _ _ ?_
    refine wp_seq_k (fun K21 hK22 => ?_)
    refine c_region (fun ops24 hops23 => ?_)
    clear hops23
    refine p_run _ (x_loads ((nums .u8 ((lfP 2 zK aE).map bv))) 256 rfl rfl (bkCells (HS.get (.head _)) 0 _ (whole _)) (by rfl) (by kernel_rfl) (by simp [(lfP_len 2 zK_len aE), List.length_map, nums_length])) rfl ?_
    refine w_call [.agg ((nums .u8 ((lfP 2 zK aE).map bv))).toArray] Try.func24 (by kernel_rfl) (by rfl) rfl ?_
    refine (lopen_any _ (lfP 2 zK aE) (lfP_len 2 zK_len aE)).mono ?_
    rintro e w27 ⟨oa25, nc26, rfl, hk_⟩
    replace HS := HS.more hk_
    clear hk_
    refine ⟨_, rfl, ?_⟩
    refine p_run _ (x_move (.tuple [.agg (Value.int .i64 (opK (lfP 2 zK aE)) :: ((nums .u8 ((opB (lfP 2 zK aE)).map bv)) ++ ([Value.slice oa25 ((opS (lfP 2 zK aE)).length) nc26]))).toArray, .int .i64 (opE (lfP 2 zK aE))].toArray) rfl rfl) rfl ?_
    refine p_run _ (x_extract (vs := [.agg (Value.int .i64 (opK (lfP 2 zK aE)) :: ((nums .u8 ((opB (lfP 2 zK aE)).map bv)) ++ ([Value.slice oa25 ((opS (lfP 2 zK aE)).length) nc26]))).toArray, .int .i64 (opE (lfP 2 zK aE))]) 0 (.agg (Value.int .i64 (opK (lfP 2 zK aE)) :: ((nums .u8 ((opB (lfP 2 zK aE)).map bv)) ++ ([Value.slice oa25 ((opS (lfP 2 zK aE)).length) nc26]))).toArray) rfl rfl rfl) rfl ?_
    refine p_run _ (x_extract (vs := [.agg (Value.int .i64 (opK (lfP 2 zK aE)) :: ((nums .u8 ((opB (lfP 2 zK aE)).map bv)) ++ ([Value.slice oa25 ((opS (lfP 2 zK aE)).length) nc26]))).toArray, .int .i64 (opE (lfP 2 zK aE))]) 1 (.int .i64 (opE (lfP 2 zK aE))) rfl rfl rfl) rfl ?_
    refine St.wAlloc HS (cs := (Value.int .i64 0 :: ((nums .u8 (zK.map bv)) ++ ([Value.slice none 0 0])))) (.agg (Value.int .i64 0 :: ((nums .u8 (zK.map bv)) ++ ([Value.slice none 0 0]))).toArray) (by kernel_rfl) rfl ?_
    clear HS
    intro g28 w29 hg30 HS
    refine St.stores (cs' := (Value.int .i64 (opK (lfP 2 zK aE)) :: ((nums .u8 ((opB (lfP 2 zK aE)).map bv)) ++ ([Value.slice oa25 ((opS (lfP 2 zK aE)).length) nc26])))) HS (Value.int .i64 (opK (lfP 2 zK aE)) :: ((nums .u8 ((opB (lfP 2 zK aE)).map bv)) ++ ([Value.slice oa25 ((opS (lfP 2 zK aE)).length) nc26]))) 18 rfl rfl (all1 rfl (allA (nums_one _ _) (all1 rfl rfl))) (by kernel_rfl) (by simp [(opB_len (lfP_len 2 zK_len aE)), List.length_map, nums_length]) (by simp [(opB_len (lfP_len 2 zK_len aE)), List.length_map, nums_length, zK_len]) (lay_all _ _ (by simp [(opB_len (lfP_len 2 zK_len aE)), List.length_map, nums_length, zK_len])) ?_
    clear HS
    intro w31 HS
    refine p_run _ (x_assign (.int .i64 (opE (lfP 2 zK aE))) rfl rfl) rfl ?_
    refine wpList_nil ?_
    refine hK22 _ _ ?_
    refine wp_seq_k (fun K32 hK33 => ?_)
    skip
    · skip
      have hlen_ := a_len
      obtain ⟨ad, hA_⟩ := row_some (HS.get (.tail _ (.head _))) (by rw [a_S]; decide)
      subst hA_
      refine free_frame (n := 33) (T := _) [0, 1, 3, 7, 15, 31, 63, 127, 255, 511, 1023, 2047, 4095, 8191, 16383, 32767, 65535, 131071, 262143, 524287, 1048575, 2097151, 4194303, 8388607, 16777215, 33554431, 67108863, 8388607, 142606335, 411041791, 1073741823, 2147483647, 4294967295] [(0, 20), (1, 21), (2, 22), (3, 23), (4, 24), (5, 25), (6, 26), (7, 27), (8, 28), (9, 29), (10, 30), (11, 31), (12, 32), (13, 33), (14, 34), (15, 35), (16, 36), (17, 37), (18, 38), (19, 39), (20, 40), (21, 41), (22, 42), (23, 43), (24, 44), (25, 45), (26, 46), (27, 47), (28, 48), (29, 49), (30, 50), (31, 51), (32, 0)] (fun bq_ vq_ w_ => qv ((fun i_ => match i_ with | 0 => some (.slice (some ⟨g9, 0, none⟩) 2 2) | 2 => some (.bool true) | 3 => some (.bool true) | 4 => some (.slice (some ⟨g9, 0, none⟩) 2 2) | 6 => some (.bool true) | 7 => some (.bool true) | 8 => some (.bool true) | 9 => some (.int .i64 (lfE 2 zK aE)) | 10 => some (.bool true) | 11 => some (.bool true) | 12 => some (.bool true) | 13 => some (.int .i64 (opE (lfP 2 zK aE))) | 14 => some (.bool true) | 15 => some (.bool true) | 16 => some (.bool true) | 17 => some (.pointer (some ⟨g28, 17, none⟩)) | 18 => some (.slice (some ad) ((opS (lfP 2 zK aE)).length) nc26) | 19 => some (.int .i64 ((opS (lfP 2 zK aE)).length : Int)) | 20 => some (.bool true) | 21 => some (.bool true) | 22 => some (.bool true) | 23 => some (.pointer (some ⟨g28, 17, none⟩)) | 24 => some (.slice (some ad) ((opS (lfP 2 zK aE)).length) nc26) | 25 => some (.pointer (some ((ad).add (2)))) | 26 => some (.agg ([.int .i64 7, .int .i64 1] : List Value).toArray) | 27 => some (.slice (some ⟨g9, 0, none⟩) 2 2) | 28 => some (.pointer (some ⟨g9, 2, none⟩)) | 29 => some (.agg ([.int .i64 7, .int .i64 1] : List Value).toArray) | 30 => some (.bool true) | 31 => some (.bool true) | 32 => some (.bool true) | _ => none) : Nat → Option Value) bq_ vq_ ∧ cond (bq_ 5) (vq_ 1 = .int .i64 0 ∧ vq_ 5 = .int .i64 (-1) ∧ St w (fun _ => False) w_ ([blk g28 (Value.int .i64 (opK (lfP 2 zK aE)) :: ((nums .u8 ((opB (lfP 2 zK aE)).map bv)) ++ ([Value.slice (some ad) ((opS (lfP 2 zK aE)).length) nc26]))) 52, row kEn rfl 62 (.slice (some ad) ((opS (lfP 2 zK aE)).length) nc26) (opS (lfP 2 zK aE)), blk g17 ((nums .u8 ((lfP 2 zK aE).map bv))) 27, blk g9 [.int .i64 3, .int .i64 9, .int .i64 7, .int .i64 1] 62])) (cond (bq_ 1) (vq_ 1 = .int .i64 0 ∧ St w (fun _ => False) w_ ([blk g28 (Value.int .i64 (opK (lfP 2 zK aE)) :: ((nums .u8 ((opB (lfP 2 zK aE)).map bv)) ++ ([Value.slice (some ad) ((opS (lfP 2 zK aE)).length) nc26]))) 52, row kEn rfl 62 (.slice (some ad) ((opS (lfP 2 zK aE)).length) nc26) (opS (lfP 2 zK aE)), blk g17 ((nums .u8 ((lfP 2 zK aE).map bv))) 27, blk g9 [.int .i64 3, .int .i64 9, .int .i64 7, .int .i64 1] 62])) ((St w (fun _ => False) w_ ([blk g28 (Value.int .i64 (opK (lfP 2 zK aE)) :: ((nums .u8 ((opB (lfP 2 zK aE)).map bv)) ++ ([Value.slice (some ad) ((opS (lfP 2 zK aE)).length) nc26]))) 52, row kEn rfl 62 (.slice (some ad) ((opS (lfP 2 zK aE)).length) nc26) (opS (lfP 2 zK aE)), blk g17 ((nums .u8 ((lfP 2 zK aE).map bv))) 27, blk g9 [.int .i64 3, .int .i64 9, .int .i64 7, .int .i64 1] 62]))))) (by kernel_rfl) rfl rfl (by kernel_rfl) (by kernel_rfl) rfl (by kernel_rfl) (by kernel_rfl) ⟨qv_none, HS.draw⟩ ?_ ?_
      · clear HS
        intro i_ hi_ bq_ vq_ a_ w_ hG hb_ hon hoff hfr hel hval
        obtain ⟨hV, hE⟩ := hG
        have hi_ := List.mem_range.1 hi_
        obtain ⟨l_, rfl⟩ := hfr
        have hv_ := fun (j t : Nat) (v : Value) (h1 : (j, t) ∈ [(0, 20), (1, 21), (2, 22), (3, 23), (4, 24), (5, 25), (6, 26), (7, 27), (8, 28), (9, 29), (10, 30), (11, 31), (12, 32), (13, 33), (14, 34), (15, 35), (16, 36), (17, 37), (18, 38), (19, 39), (20, 40), (21, 41), (22, 42), (23, 43), (24, 44), (25, 45), (26, 46), (27, 47), (28, 48), (29, 49), (30, 50), (31, 51), (32, 0)]) h2 h3 => (hval (j, t) h1 h3).trans (congrArg some (hV j v h2 h3))
        have hcs : i_ = 0 ∨ i_ = 1 ∨ i_ = 2 ∨ i_ = 3 ∨ i_ = 4 ∨ i_ = 5 ∨ i_ = 6 ∨ i_ = 7 ∨ i_ = 8 ∨ i_ = 9 ∨ i_ = 10 ∨ i_ = 11 ∨ i_ = 12 ∨ i_ = 13 ∨ i_ = 14 ∨ i_ = 15 ∨ i_ = 16 ∨ i_ = 17 ∨ i_ = 18 ∨ i_ = 19 ∨ i_ = 20 ∨ i_ = 21 ∨ i_ = 22 ∨ i_ = 23 ∨ i_ = 24 ∨ i_ = 25 ∨ i_ = 26 ∨ i_ = 27 ∨ i_ = 28 ∨ i_ = 29 ∨ i_ = 30 ∨ i_ = 31 ∨ i_ = 32 := by omega
        rcases hcs with rfl | rfl | rfl | rfl | rfl | rfl | rfl | rfl | rfl | rfl | rfl | rfl | rfl | rfl | rfl | rfl | rfl | rfl | rfl | rfl | rfl | rfl | rfl | rfl | rfl | rfl | rfl | rfl | rfl | rfl | rfl | rfl | rfl
        · have e1 : evl l_ (.tmp 1) = .slice (some ⟨g9, 0, none⟩) 2 2 := evl_of ((hel 1 (by decide)).trans rfl)
          exact ⟨_, rfl, fun K_ hK_ => q_op _ (x_move (.slice (some ⟨g9, 0, none⟩) 2 2) rfl e1) (hK_ _ _ ⟨qv_up hV (fun _ h => Option.some.inj h), hE⟩)⟩
        · have h20 : (fr l_).tmps[20]? = some (.slice (some ⟨g9, 0, none⟩) 2 2) := hv_ 0 20 _ (by decide) rfl (hon 0 (by decide))
          have hE0 := hE
          rw [show bq_ 5 = false from (hoff 5 (by decide))] at hE0
          rw [show bq_ 1 = false from hb_] at hE0
          simp only [cond_true, cond_false] at hE0
          have HS := hE0
          have e20 : evl l_ (.tmp 20) = .slice (some ⟨g9, 0, none⟩) 2 2 := evl_of h20
          refine ⟨_, rfl, fun K_ hK_ => wp_of_list rfl ?_⟩
          intro ops_
          refine w_call [.slice (some ⟨g9, 0, none⟩) 2 2, .int .i64 5] Try.func29 (by kernel_rfl) (by rfl) (by simp only [List.map_cons, List.map_nil, e20] <;> rfl) ?_
          refine (at_a _ _ _ 5 0 (lit_reads (d := kEn) (xs := aE) (HS.get (.tail _ (.tail _ (.tail _ (.head _))))) (a_reps _) (by decide)) pl_5).mono ?_
          rintro e w900101 ⟨rfl, hb_⟩
          replace HS := HS.here hb_
          clear hb_
          refine ⟨_, rfl, ?_⟩
          refine wpList_nil ?_
          refine norm_put (hK_ (.int .i64 0) _ ⟨qv_up hV (by intro _ h; cases h), ?_⟩)
          show cond (bq_ 5) _ _
          rw [show bq_ 5 = false from hoff 5 (by decide), cond_false]
          show cond true _ _
          rw [cond_true]
          exact ⟨rfl, ((((HS.front 3 rfl).front 3 rfl).front 3 rfl).front 3 rfl)⟩
        · have h21 := hval (1, 21) (by decide) (hon 1 (by decide))
          have hE0 := hE
          rw [show bq_ 5 = false from (hoff 5 (by decide))] at hE0
          rw [show bq_ 1 = true from (hon 1 (by decide))] at hE0
          simp only [cond_true, cond_false] at hE0
          obtain ⟨hv1, HS⟩ := hE0
          rw [hv1] at h21
          have e21 : evl l_ (.tmp 21) = .int .i64 0 := evl_of h21
          exact ⟨_, rfl, fun K_ hK_ => q_op _ (x_cmp (k := .i64) (m := 0) (n := 0) .eql true rfl e21 rfl (by decide) rfl) (hK_ _ _ ⟨qv_up hV (fun _ h => Option.some.inj h), hE⟩)⟩
        · have e22 : evl l_ (.tmp 22) = .bool true := evl_of (hv_ 2 22 _ (by decide) rfl (hon 2 (by decide)))
          exact ⟨_, rfl, fun K_ hK_ => q_op _ (x_move (.bool true) rfl e22) (hK_ _ _ ⟨qv_up hV (fun _ h => Option.some.inj h), hE⟩)⟩
        · have h23 : (fr l_).tmps[23]? = some (.bool true) := hv_ 3 23 _ (by decide) rfl (hon 3 (by decide))
          have e1 : evl l_ (.tmp 1) = .slice (some ⟨g9, 0, none⟩) 2 2 := evl_of ((hel 1 (by decide)).trans rfl)
          have e23 : evl l_ (.tmp 23) = .bool true := evl_of h23
          exact ⟨_, rfl, fun K_ hK_ => q_opG (wanted_on (t := 23) rfl rfl rfl h23) _ (x_move (.slice (some ⟨g9, 0, none⟩) 2 2) rfl e1) (hK_ _ _ ⟨qv_up hV (fun _ h => Option.some.inj h), hE⟩)⟩
        · have h23 : (fr l_).tmps[23]? = some (.bool true) := hv_ 3 23 _ (by decide) rfl (hon 3 (by decide))
          have h24 : (fr l_).tmps[24]? = some (.slice (some ⟨g9, 0, none⟩) 2 2) := hv_ 4 24 _ (by decide) rfl (hon 4 (by decide))
          have hE0 := hE
          rw [show bq_ 5 = false from hb_] at hE0
          rw [show bq_ 1 = true from (hon 1 (by decide))] at hE0
          simp only [cond_true, cond_false] at hE0
          obtain ⟨hv1, HS⟩ := hE0
          have e23 : evl l_ (.tmp 23) = .bool true := evl_of h23
          have e24 : evl l_ (.tmp 24) = .slice (some ⟨g9, 0, none⟩) 2 2 := evl_of h24
          refine ⟨_, rfl, fun K_ hK_ => wp_of_listG rfl (wanted_on (t := 23) rfl rfl rfl h23) ?_⟩
          intro ops_
          refine w_call [.slice (some ⟨g9, 0, none⟩) 2 2, .int .i64 2] Try.func29 (by kernel_rfl) (by rfl) (by simp only [List.map_cons, List.map_nil, e24] <;> rfl) ?_
          refine (at_a _ _ _ 2 (-1) (lit_reads (d := kEn) (xs := aE) (HS.get (.tail _ (.tail _ (.tail _ (.head _))))) (a_reps _) (by decide)) pl_2).mono ?_
          rintro e w900501 ⟨rfl, hb_⟩
          replace HS := HS.here hb_
          clear hb_
          refine ⟨_, rfl, ?_⟩
          refine wpList_nil ?_
          refine norm_put (hK_ (.int .i64 (-1)) _ ⟨qv_up hV (by intro _ h; cases h), ?_⟩)
          show cond true _ _
          rw [cond_true]
          exact ⟨hv1, rfl, ((((HS.front 3 rfl).front 3 rfl).front 3 rfl).front 3 rfl)⟩
        · have h23 : (fr l_).tmps[23]? = some (.bool true) := hv_ 3 23 _ (by decide) rfl (hon 3 (by decide))
          have h25 := hval (5, 25) (by decide) (hon 5 (by decide))
          have hE0 := hE
          rw [show bq_ 5 = true from (hon 5 (by decide))] at hE0
          simp only [cond_true, cond_false] at hE0
          obtain ⟨hv1, hv5, HS⟩ := hE0
          rw [hv5] at h25
          have e23 : evl l_ (.tmp 23) = .bool true := evl_of h23
          have e25 : evl l_ (.tmp 25) = .int .i64 (-1) := evl_of h25
          exact ⟨_, rfl, fun K_ hK_ => q_opG (wanted_on (t := 23) rfl rfl rfl h23) _ (x_cmp (k := .i64) (m := (-1)) (n := -1) .eql true rfl e25 rfl (by decide) rfl) (hK_ _ _ ⟨qv_up hV (fun _ h => Option.some.inj h), hE⟩)⟩
        · have e23 : evl l_ (.tmp 23) = .bool true := evl_of (hv_ 3 23 _ (by decide) rfl (hon 3 (by decide)))
          have e26 : evl l_ (.tmp 26) = .bool true := evl_of (hv_ 6 26 _ (by decide) rfl (hon 6 (by decide)))
          exact ⟨_, rfl, fun K_ hK_ => q_op _ (x_pick true (.bool true) (.bool false) (.bool true) rfl e23 e26 rfl rfl) (hK_ _ _ ⟨qv_up hV (fun _ h => Option.some.inj h), hE⟩)⟩
        · have e27 : evl l_ (.tmp 27) = .bool true := evl_of (hv_ 7 27 _ (by decide) rfl (hon 7 (by decide)))
          exact ⟨_, rfl, fun K_ hK_ => q_op _ (x_move (.bool true) rfl e27) (hK_ _ _ ⟨qv_up hV (fun _ h => Option.some.inj h), hE⟩)⟩
        · have h28 : (fr l_).tmps[28]? = some (.bool true) := hv_ 8 28 _ (by decide) rfl (hon 8 (by decide))
          have e3 : evl l_ (.tmp 3) = .int .i64 (lfE 2 zK aE) := evl_of ((hel 3 (by decide)).trans rfl)
          have e28 : evl l_ (.tmp 28) = .bool true := evl_of h28
          exact ⟨_, rfl, fun K_ hK_ => q_opG (wanted_on (t := 28) rfl rfl rfl h28) _ (x_move (.int .i64 (lfE 2 zK aE)) rfl e3) (hK_ _ _ ⟨qv_up hV (fun _ h => Option.some.inj h), hE⟩)⟩
        · have h28 : (fr l_).tmps[28]? = some (.bool true) := hv_ 8 28 _ (by decide) rfl (hon 8 (by decide))
          have e28 : evl l_ (.tmp 28) = .bool true := evl_of h28
          have e29 : evl l_ (.tmp 29) = .int .i64 (lfE 2 zK aE) := evl_of (hv_ 9 29 _ (by decide) rfl (hon 9 (by decide)))
          exact ⟨_, rfl, fun K_ hK_ => q_opG (wanted_on (t := 28) rfl rfl rfl h28) _ (x_cmp (k := .i64) (m := (lfE 2 zK aE)) (n := 0) .eql true rfl e29 rfl (cmp_yes (lf_yes a_ok).2) rfl) (hK_ _ _ ⟨qv_up hV (fun _ h => Option.some.inj h), hE⟩)⟩
        · have e28 : evl l_ (.tmp 28) = .bool true := evl_of (hv_ 8 28 _ (by decide) rfl (hon 8 (by decide)))
          have e30 : evl l_ (.tmp 30) = .bool true := evl_of (hv_ 10 30 _ (by decide) rfl (hon 10 (by decide)))
          exact ⟨_, rfl, fun K_ hK_ => q_op _ (x_pick true (.bool true) (.bool false) (.bool true) rfl e28 e30 rfl rfl) (hK_ _ _ ⟨qv_up hV (fun _ h => Option.some.inj h), hE⟩)⟩
        · have e31 : evl l_ (.tmp 31) = .bool true := evl_of (hv_ 11 31 _ (by decide) rfl (hon 11 (by decide)))
          exact ⟨_, rfl, fun K_ hK_ => q_op _ (x_move (.bool true) rfl e31) (hK_ _ _ ⟨qv_up hV (fun _ h => Option.some.inj h), hE⟩)⟩
        · have h32 : (fr l_).tmps[32]? = some (.bool true) := hv_ 12 32 _ (by decide) rfl (hon 12 (by decide))
          have e5 : evl l_ (.tmp 5) = .int .i64 (opE (lfP 2 zK aE)) := evl_of ((hel 5 (by decide)).trans rfl)
          have e32 : evl l_ (.tmp 32) = .bool true := evl_of h32
          exact ⟨_, rfl, fun K_ hK_ => q_opG (wanted_on (t := 32) rfl rfl rfl h32) _ (x_move (.int .i64 (opE (lfP 2 zK aE))) rfl e5) (hK_ _ _ ⟨qv_up hV (fun _ h => Option.some.inj h), hE⟩)⟩
        · have h32 : (fr l_).tmps[32]? = some (.bool true) := hv_ 12 32 _ (by decide) rfl (hon 12 (by decide))
          have e32 : evl l_ (.tmp 32) = .bool true := evl_of h32
          have e33 : evl l_ (.tmp 33) = .int .i64 (opE (lfP 2 zK aE)) := evl_of (hv_ 13 33 _ (by decide) rfl (hon 13 (by decide)))
          exact ⟨_, rfl, fun K_ hK_ => q_opG (wanted_on (t := 32) rfl rfl rfl h32) _ (x_cmp (k := .i64) (m := (opE (lfP 2 zK aE))) (n := 0) .eql true rfl e33 rfl (cmp_yes (op_yes a_open).2.2.2) rfl) (hK_ _ _ ⟨qv_up hV (fun _ h => Option.some.inj h), hE⟩)⟩
        · have e32 : evl l_ (.tmp 32) = .bool true := evl_of (hv_ 12 32 _ (by decide) rfl (hon 12 (by decide)))
          have e34 : evl l_ (.tmp 34) = .bool true := evl_of (hv_ 14 34 _ (by decide) rfl (hon 14 (by decide)))
          exact ⟨_, rfl, fun K_ hK_ => q_op _ (x_pick true (.bool true) (.bool false) (.bool true) rfl e32 e34 rfl rfl) (hK_ _ _ ⟨qv_up hV (fun _ h => Option.some.inj h), hE⟩)⟩
        · have e35 : evl l_ (.tmp 35) = .bool true := evl_of (hv_ 15 35 _ (by decide) rfl (hon 15 (by decide)))
          exact ⟨_, rfl, fun K_ hK_ => q_op _ (x_move (.bool true) rfl e35) (hK_ _ _ ⟨qv_up hV (fun _ h => Option.some.inj h), hE⟩)⟩
        · have h36 : (fr l_).tmps[36]? = some (.bool true) := hv_ 16 36 _ (by decide) rfl (hon 16 (by decide))
          have e4 : evl l_ (.tmp 4) = .pointer (some ⟨g28, 0, none⟩) := evl_of ((hel 4 (by decide)).trans rfl)
          have e36 : evl l_ (.tmp 36) = .bool true := evl_of h36
          exact ⟨_, rfl, fun K_ hK_ => q_opG (wanted_on (t := 36) rfl rfl rfl h36) _ (x_field (j := 17) _ _ rfl e4 Try.underlying52 rfl (by rfl) rfl) (hK_ _ _ ⟨qv_up hV (fun _ h => Option.some.inj h), hE⟩)⟩
        · have h36 : (fr l_).tmps[36]? = some (.bool true) := hv_ 16 36 _ (by decide) rfl (hon 16 (by decide))
          have hE0 := hE
          rw [show bq_ 5 = true from (hon 5 (by decide))] at hE0
          simp only [cond_true, cond_false] at hE0
          obtain ⟨hv1, hv5, HS⟩ := hE0
          have e36 : evl l_ (.tmp 36) = .bool true := evl_of h36
          have e37 : evl l_ (.tmp 37) = .pointer (some ⟨g28, 17, none⟩) := evl_of (hv_ 17 37 _ (by decide) rfl (hon 17 (by decide)))
          exact ⟨_, rfl, fun K_ hK_ => q_opG (wanted_on (t := 36) rfl rfl rfl h36) _ (x_load (.slice (some ad) ((opS (lfP 2 zK aE)).length) nc26) rfl e37 (bkCell (HS.get (.head _)) 17 _ (by simp [List.getElem?_append, (opB_len (lfP_len 2 zK_len aE)), List.length_map, nums_length])) (by rfl)) (hK_ _ _ ⟨qv_up hV (fun _ h => Option.some.inj h), hE⟩)⟩
        · have h36 : (fr l_).tmps[36]? = some (.bool true) := hv_ 16 36 _ (by decide) rfl (hon 16 (by decide))
          have hE0 := hE
          rw [show bq_ 5 = true from (hon 5 (by decide))] at hE0
          simp only [cond_true, cond_false] at hE0
          obtain ⟨hv1, hv5, HS⟩ := hE0
          have e36 : evl l_ (.tmp 36) = .bool true := evl_of h36
          have e38 : evl l_ (.tmp 38) = .slice (some ad) ((opS (lfP 2 zK aE)).length) nc26 := evl_of (hv_ 18 38 _ (by decide) rfl (hon 18 (by decide)))
          exact ⟨_, rfl, fun K_ hK_ => q_opG (wanted_on (t := 36) rfl rfl rfl h36) _ (x_len rfl e38 Try.underlying50) (hK_ _ _ ⟨qv_up hV (fun _ h => Option.some.inj h), hE⟩)⟩
        · have h36 : (fr l_).tmps[36]? = some (.bool true) := hv_ 16 36 _ (by decide) rfl (hon 16 (by decide))
          have e36 : evl l_ (.tmp 36) = .bool true := evl_of h36
          have e39 : evl l_ (.tmp 39) = .int .i64 ((opS (lfP 2 zK aE)).length : Int) := evl_of (hv_ 19 39 _ (by decide) rfl (hon 19 (by decide)))
          exact ⟨_, rfl, fun K_ hK_ => q_opG (wanted_on (t := 36) rfl rfl rfl h36) _ (x_cmp (k := .i64) (m := ((opS (lfP 2 zK aE)).length : Int)) (n := 2) .eql true rfl e39 rfl (cmp_yes a_len) rfl) (hK_ _ _ ⟨qv_up hV (fun _ h => Option.some.inj h), hE⟩)⟩
        · have e36 : evl l_ (.tmp 36) = .bool true := evl_of (hv_ 16 36 _ (by decide) rfl (hon 16 (by decide)))
          have e40 : evl l_ (.tmp 40) = .bool true := evl_of (hv_ 20 40 _ (by decide) rfl (hon 20 (by decide)))
          exact ⟨_, rfl, fun K_ hK_ => q_op _ (x_pick true (.bool true) (.bool false) (.bool true) rfl e36 e40 rfl rfl) (hK_ _ _ ⟨qv_up hV (fun _ h => Option.some.inj h), hE⟩)⟩
        · have e41 : evl l_ (.tmp 41) = .bool true := evl_of (hv_ 21 41 _ (by decide) rfl (hon 21 (by decide)))
          exact ⟨_, rfl, fun K_ hK_ => q_op _ (x_move (.bool true) rfl e41) (hK_ _ _ ⟨qv_up hV (fun _ h => Option.some.inj h), hE⟩)⟩
        · have h42 : (fr l_).tmps[42]? = some (.bool true) := hv_ 22 42 _ (by decide) rfl (hon 22 (by decide))
          have e4 : evl l_ (.tmp 4) = .pointer (some ⟨g28, 0, none⟩) := evl_of ((hel 4 (by decide)).trans rfl)
          have e42 : evl l_ (.tmp 42) = .bool true := evl_of h42
          exact ⟨_, rfl, fun K_ hK_ => q_opG (wanted_on (t := 42) rfl rfl rfl h42) _ (x_field (j := 17) _ _ rfl e4 Try.underlying52 rfl (by rfl) rfl) (hK_ _ _ ⟨qv_up hV (fun _ h => Option.some.inj h), hE⟩)⟩
        · have h42 : (fr l_).tmps[42]? = some (.bool true) := hv_ 22 42 _ (by decide) rfl (hon 22 (by decide))
          have hE0 := hE
          rw [show bq_ 5 = true from (hon 5 (by decide))] at hE0
          simp only [cond_true, cond_false] at hE0
          obtain ⟨hv1, hv5, HS⟩ := hE0
          have e42 : evl l_ (.tmp 42) = .bool true := evl_of h42
          have e43 : evl l_ (.tmp 43) = .pointer (some ⟨g28, 17, none⟩) := evl_of (hv_ 23 43 _ (by decide) rfl (hon 23 (by decide)))
          exact ⟨_, rfl, fun K_ hK_ => q_opG (wanted_on (t := 42) rfl rfl rfl h42) _ (x_load (.slice (some ad) ((opS (lfP 2 zK aE)).length) nc26) rfl e43 (bkCell (HS.get (.head _)) 17 _ (by simp [List.getElem?_append, (opB_len (lfP_len 2 zK_len aE)), List.length_map, nums_length])) (by rfl)) (hK_ _ _ ⟨qv_up hV (fun _ h => Option.some.inj h), hE⟩)⟩
        · have h42 : (fr l_).tmps[42]? = some (.bool true) := hv_ 22 42 _ (by decide) rfl (hon 22 (by decide))
          have e42 : evl l_ (.tmp 42) = .bool true := evl_of h42
          have e44 : evl l_ (.tmp 44) = .slice (some ad) ((opS (lfP 2 zK aE)).length) nc26 := evl_of (hv_ 24 44 _ (by decide) rfl (hon 24 (by decide)))
          exact ⟨_, rfl, fun K_ hK_ => q_opG (wanted_on (t := 42) rfl rfl rfl h42) _ (x_index (A := ad) (j := 2) (sz := 2) rfl e44 rfl Try.underlying50 (by kernel_rfl) (by omega) rfl) (hK_ _ _ ⟨qv_up hV (fun _ h => Option.some.inj h), hE⟩)⟩
        · have h42 : (fr l_).tmps[42]? = some (.bool true) := hv_ 22 42 _ (by decide) rfl (hon 22 (by decide))
          have hE0 := hE
          rw [show bq_ 5 = true from (hon 5 (by decide))] at hE0
          simp only [cond_true, cond_false] at hE0
          obtain ⟨hv1, hv5, HS⟩ := hE0
          have e42 : evl l_ (.tmp 42) = .bool true := evl_of h42
          have e45 : evl l_ (.tmp 45) = .pointer (some ((ad).add (2))) := evl_of (hv_ 25 45 _ (by decide) rfl (hon 25 (by decide)))
          exact ⟨_, rfl, fun K_ hK_ => q_opG (wanted_on (t := 42) rfl rfl rfl h42) _ (x_loads [.int .i64 7, .int .i64 1] 2 rfl e45 (en_row (x := (7, 1)) (j := 1) (HS.get (.tail _ (.head _))) a_at) (by rfl) (by kernel_rfl) rfl) (hK_ _ _ ⟨qv_up hV (fun _ h => Option.some.inj h), hE⟩)⟩
        · have h42 : (fr l_).tmps[42]? = some (.bool true) := hv_ 22 42 _ (by decide) rfl (hon 22 (by decide))
          have e1 : evl l_ (.tmp 1) = .slice (some ⟨g9, 0, none⟩) 2 2 := evl_of ((hel 1 (by decide)).trans rfl)
          have e42 : evl l_ (.tmp 42) = .bool true := evl_of h42
          exact ⟨_, rfl, fun K_ hK_ => q_opG (wanted_on (t := 42) rfl rfl rfl h42) _ (x_move (.slice (some ⟨g9, 0, none⟩) 2 2) rfl e1) (hK_ _ _ ⟨qv_up hV (fun _ h => Option.some.inj h), hE⟩)⟩
        · have h42 : (fr l_).tmps[42]? = some (.bool true) := hv_ 22 42 _ (by decide) rfl (hon 22 (by decide))
          have e42 : evl l_ (.tmp 42) = .bool true := evl_of h42
          have e47 : evl l_ (.tmp 47) = .slice (some ⟨g9, 0, none⟩) 2 2 := evl_of (hv_ 27 47 _ (by decide) rfl (hon 27 (by decide)))
          exact ⟨_, rfl, fun K_ hK_ => q_opG (wanted_on (t := 42) rfl rfl rfl h42) (.pointer (some ⟨g9, 2, none⟩)) ((x_index (A := ⟨g9, 0, none⟩) (j := 2) (sz := 2) rfl e47 rfl Try.underlying50 (by kernel_rfl) (by omega) rfl).trans (by rfl)) (hK_ _ _ ⟨qv_up hV (fun _ h => Option.some.inj h), hE⟩)⟩
        · have h42 : (fr l_).tmps[42]? = some (.bool true) := hv_ 22 42 _ (by decide) rfl (hon 22 (by decide))
          have hE0 := hE
          rw [show bq_ 5 = true from (hon 5 (by decide))] at hE0
          simp only [cond_true, cond_false] at hE0
          obtain ⟨hv1, hv5, HS⟩ := hE0
          have e42 : evl l_ (.tmp 42) = .bool true := evl_of h42
          have e48 : evl l_ (.tmp 48) = .pointer (some ⟨g9, 2, none⟩) := evl_of (hv_ 28 48 _ (by decide) rfl (hon 28 (by decide)))
          exact ⟨_, rfl, fun K_ hK_ => q_opG (wanted_on (t := 42) rfl rfl rfl h42) _ (x_loads [.int .i64 7, .int .i64 1] 2 rfl e48 (bkCells (HS.get (.tail _ (.tail _ (.tail _ (.head _))))) 2 _ rfl) (by rfl) (by kernel_rfl) rfl) (hK_ _ _ ⟨qv_up hV (fun _ h => Option.some.inj h), hE⟩)⟩
        · have h42 : (fr l_).tmps[42]? = some (.bool true) := hv_ 22 42 _ (by decide) rfl (hon 22 (by decide))
          have hE0 := hE
          rw [show bq_ 5 = true from (hon 5 (by decide))] at hE0
          simp only [cond_true, cond_false] at hE0
          obtain ⟨hv1, hv5, HS⟩ := hE0
          have e42 : evl l_ (.tmp 42) = .bool true := evl_of h42
          have e46 : evl l_ (.tmp 46) = .agg ([.int .i64 7, .int .i64 1] : List Value).toArray := evl_of (hv_ 26 46 _ (by decide) rfl (hon 26 (by decide)))
          have e49 : evl l_ (.tmp 49) = .agg ([.int .i64 7, .int .i64 1] : List Value).toArray := evl_of (hv_ 29 49 _ (by decide) rfl (hon 29 (by decide)))
          exact ⟨_, rfl, fun K_ hK_ => q_opG (wanted_on (t := 42) rfl rfl rfl h42) _ (x_eq .eql (.agg ([.int .i64 7, .int .i64 1] : List Value).toArray) (.agg ([.int .i64 7, .int .i64 1] : List Value).toArray) true true rfl e46 e49 (by kernel_rfl) rfl rfl (guard_agg (by kernel_rfl)) (guard_agg (by kernel_rfl))) (hK_ _ _ ⟨qv_up hV (fun _ h => Option.some.inj h), hE⟩)⟩
        · have e42 : evl l_ (.tmp 42) = .bool true := evl_of (hv_ 22 42 _ (by decide) rfl (hon 22 (by decide)))
          have e50 : evl l_ (.tmp 50) = .bool true := evl_of (hv_ 30 50 _ (by decide) rfl (hon 30 (by decide)))
          exact ⟨_, rfl, fun K_ hK_ => q_op _ (x_pick true (.bool true) (.bool false) (.bool true) rfl e42 e50 rfl rfl) (hK_ _ _ ⟨qv_up hV (fun _ h => Option.some.inj h), hE⟩)⟩
        · have e51 : evl l_ (.tmp 51) = .bool true := evl_of (hv_ 31 51 _ (by decide) rfl (hon 31 (by decide)))
          exact ⟨_, rfl, fun K_ hK_ => q_op _ (x_assign (.bool true) rfl e51) (hK_ _ _ ⟨qv_up hV (fun _ h => Option.some.inj h), hE⟩)⟩
      intro bq_ vq_ w_ hall hG
      obtain ⟨hV, hE⟩ := hG
      clear HS
      rw [show bq_ 5 = true from hall 5 (by decide)] at hE
      simp only [cond_true] at hE
      obtain ⟨hv1, hv5, HS⟩ := hE
      have hv0 := hV 0 _ rfl (hall 0 (by decide))
      have hv2 := hV 2 _ rfl (hall 2 (by decide))
      have hv3 := hV 3 _ rfl (hall 3 (by decide))
      have hv4 := hV 4 _ rfl (hall 4 (by decide))
      have hv6 := hV 6 _ rfl (hall 6 (by decide))
      have hv7 := hV 7 _ rfl (hall 7 (by decide))
      have hv8 := hV 8 _ rfl (hall 8 (by decide))
      have hv9 := hV 9 _ rfl (hall 9 (by decide))
      have hv10 := hV 10 _ rfl (hall 10 (by decide))
      have hv11 := hV 11 _ rfl (hall 11 (by decide))
      have hv12 := hV 12 _ rfl (hall 12 (by decide))
      have hv13 := hV 13 _ rfl (hall 13 (by decide))
      have hv14 := hV 14 _ rfl (hall 14 (by decide))
      have hv15 := hV 15 _ rfl (hall 15 (by decide))
      have hv16 := hV 16 _ rfl (hall 16 (by decide))
      have hv17 := hV 17 _ rfl (hall 17 (by decide))
      have hv18 := hV 18 _ rfl (hall 18 (by decide))
      have hv19 := hV 19 _ rfl (hall 19 (by decide))
      have hv20 := hV 20 _ rfl (hall 20 (by decide))
      have hv21 := hV 21 _ rfl (hall 21 (by decide))
      have hv22 := hV 22 _ rfl (hall 22 (by decide))
      have hv23 := hV 23 _ rfl (hall 23 (by decide))
      have hv24 := hV 24 _ rfl (hall 24 (by decide))
      have hv25 := hV 25 _ rfl (hall 25 (by decide))
      have hv26 := hV 26 _ rfl (hall 26 (by decide))
      have hv27 := hV 27 _ rfl (hall 27 (by decide))
      have hv28 := hV 28 _ rfl (hall 28 (by decide))
      have hv29 := hV 29 _ rfl (hall 29 (by decide))
      have hv30 := hV 30 _ rfl (hall 30 (by decide))
      have hv31 := hV 31 _ rfl (hall 31 (by decide))
      have hv32 := hV 32 _ rfl (hall 32 (by decide))
      clear hV hall
      rw [putSel_fr]
      simp only [tells, List.map_cons, List.map_nil, setAll, List.set_cons_succ, List.set_cons_zero, hv0, hv1, hv2, hv3, hv4, hv5, hv6, hv7, hv8, hv9, hv10, hv11, hv12, hv13, hv14, hv15, hv16, hv17, hv18, hv19, hv20, hv21, hv22, hv23, hv24, hv25, hv26, hv27, hv28, hv29, hv30, hv31, hv32]
      clear hv0 hv1 hv2 hv3 hv4 hv5 hv6 hv7 hv8 hv9 hv10 hv11 hv12 hv13 hv14 hv15 hv16 hv17 hv18 hv19 hv20 hv21 hv22 hv23 hv24 hv25 hv26 hv27 hv28 hv29 hv30 hv31 hv32
      generalize w_ = w903001 at HS ⊢
      refine fr_at (l' := (.bool true :: .slice (some ⟨g9, 0, none⟩) 2 2 :: .pointer (some ⟨g17, 0, none⟩) :: .int .i64 (lfE 2 zK aE) :: .pointer (some ⟨g28, 0, none⟩) :: .int .i64 (opE (lfP 2 zK aE)) :: .agg ([.int .i64 3, .int .i64 9] : List Value).toArray :: .agg ([.int .i64 7, .int .i64 1] : List Value).toArray :: .slice (some ⟨g9, 0, none⟩) 2 2 :: .tuple [.agg ((nums .u8 ((lfP 2 zK aE).map bv))).toArray, .int .i64 (lfE 2 zK aE)].toArray :: .slice (some ⟨g9, 0, none⟩) 2 2 :: .agg (Value.int .i64 2 :: ((nums .u8 (zK.map bv)) ++ ([Value.slice (some ⟨g9, 0, none⟩) 2 2]))).toArray :: .tuple [.agg ((nums .u8 ((lfP 2 zK aE).map bv))).toArray, .int .i64 (lfE 2 zK aE)].toArray :: .agg ((nums .u8 ((lfP 2 zK aE).map bv))).toArray :: .int .i64 (lfE 2 zK aE) :: .tuple [.agg (Value.int .i64 (opK (lfP 2 zK aE)) :: ((nums .u8 ((opB (lfP 2 zK aE)).map bv)) ++ ([Value.slice (some ad) ((opS (lfP 2 zK aE)).length) nc26]))).toArray, .int .i64 (opE (lfP 2 zK aE))].toArray :: .agg ((nums .u8 ((lfP 2 zK aE).map bv))).toArray :: .tuple [.agg (Value.int .i64 (opK (lfP 2 zK aE)) :: ((nums .u8 ((opB (lfP 2 zK aE)).map bv)) ++ ([Value.slice (some ad) ((opS (lfP 2 zK aE)).length) nc26]))).toArray, .int .i64 (opE (lfP 2 zK aE))].toArray :: .agg (Value.int .i64 (opK (lfP 2 zK aE)) :: ((nums .u8 ((opB (lfP 2 zK aE)).map bv)) ++ ([Value.slice (some ad) ((opS (lfP 2 zK aE)).length) nc26]))).toArray :: .int .i64 (opE (lfP 2 zK aE)) :: .slice (some ⟨g9, 0, none⟩) 2 2 :: .int .i64 0 :: .bool true :: .bool true :: .slice (some ⟨g9, 0, none⟩) 2 2 :: .int .i64 (-1) :: .bool true :: .bool true :: .bool true :: .int .i64 (lfE 2 zK aE) :: .bool true :: .bool true :: .bool true :: .int .i64 (opE (lfP 2 zK aE)) :: .bool true :: .bool true :: .bool true :: .pointer (some ⟨g28, 17, none⟩) :: .slice (some ad) ((opS (lfP 2 zK aE)).length) nc26 :: .int .i64 ((opS (lfP 2 zK aE)).length : Int) :: .bool true :: .bool true :: .bool true :: .pointer (some ⟨g28, 17, none⟩) :: .slice (some ad) ((opS (lfP 2 zK aE)).length) nc26 :: .pointer (some ((ad).add (2))) :: .agg ([.int .i64 7, .int .i64 1] : List Value).toArray :: .slice (some ⟨g9, 0, none⟩) 2 2 :: .pointer (some ⟨g9, 2, none⟩) :: .agg ([.int .i64 7, .int .i64 1] : List Value).toArray :: .bool true :: .bool true :: [])) rfl ?_
      refine hK33 _ _ ?_
      refine wp_ret ?_
      try simp only [Exit.inBlock, Exit.then]
      refine c_ret (.bool true) (r_tmp rfl rfl) ?_
      exact ⟨rfl, HS.belowOf⟩
end Go.Proofs.Ytiokdpnhaemciaa
