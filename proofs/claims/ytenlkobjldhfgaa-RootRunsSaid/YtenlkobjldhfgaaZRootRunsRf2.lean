/- The document's root: Read, Next, Put. -/
import Derived.Test.YtenlkobjldhfgaaZRootRunsRf1
import Derived.Test.YtenlkobjldhfgaaZRootRunsRlP
import Derived.Test.YtenlkobjldhfgaaZRootRunsRtS
import Derived.Test.YtenlkobjldhfgaaZRootRunsV8
set_option linter.unusedVariables false
set_option linter.unusedSimpArgs false
namespace Go.Proofs.Ytenlkobjldhfgaa
open Go.RowKit Go.Proofs.YtenlkobjldhfgaaW.PrintWords Go.Proofs.YtenlkobjldhfgaaW.PrintLast Crc
abbrev U4vrf2 (l : List Value) : List Value := undef :: undef :: undef :: undef :: l
abbrev U8vrf2 (l : List Value) : List Value := U4vrf2 (U4vrf2 l)
abbrev U16vrf2 (l : List Value) : List Value := U8vrf2 (U8vrf2 l)
abbrev U32vrf2 (l : List Value) : List Value := U16vrf2 (U16vrf2 l)
section
variable {w0 W : World} {F : Nat → Prop} {L : List Res} {vs vb vp : Value} {S : Dk} {R : Rk} {n : Nat} {q0 q1 : List UInt8}
structure RO (R : Rk) (n : Nat) : Prop where
 hT : ∀ p ∈ R.stable, p.length = 256
 hpd : ∀ x ∈ R.pending, 0 ≤ x.1 ∧ x.1 < R.stable.length ∧ x.2.length = 256
 hpn : R.pending.length ≤ n
 hsl : R.stable.length ≤ 244
 hl : R.counted = true → 0 ≤ R.left ∧ R.left < 9223372036854775808
 hb : R.bad.length = R.stable.length
theorem rd_ok {n : Nat} (h : RD S R) (hg : S.good n) : RO R n := by
 refine ⟨?_, ?_, ?_, ?_, fun hc => ?_, ?_⟩
 ·rw [h.st]; exact hg.ok.1
 ·rw [h.pd, h.st]; exact hg.ok.2.2.2.2
 ·rw [h.pd]; exact hg.pn
 ·rw [h.st]; exact hg.ok.2.1
 ·rw [h.lf hc]
  have h1 := hc
  rw [h.ct] at h1
  exact ⟨of_decide_eq_true h1, hg.ok.2.2.2.1⟩
 ·rw [h.bl, h.st]
theorem cand_split {q xs : List UInt8} {s : Nat} {g m : UInt64} (hy : okR q s = true → xs = cnU q s ∧ g = gnU q s) : (okR q s = true ∧ xs = cnU q s ∧ g = gnU q s ∧ gnU q s > m) ∨ (okR q s = true ∧ g = gnU q s ∧ ¬ gnU q s > m) ∨ (okR q s = false ∧ ¬ gnU q s > m) := by
 by_cases h : okR q s = true
 ·obtain ⟨h1, h2⟩ := hy h
  by_cases h3 : gnU q s > m
  ·exact .inl ⟨h, h1, h2, h3⟩
  ·exact .inr (.inl ⟨h, h2, h3⟩)
 ·refine .inr (.inr ⟨Bool.eq_false_iff.2 h, ?_⟩)
  have e : gnU q s = 0 := if_neg h
  rw [e]
  intro h4
  have := UInt64.lt_iff_toNat_lt.1 h4
  have h0 : (0 : UInt64).toNat = 0 := rfl
  omega
theorem lkE_ne (S : Dk) : ¬ lkE S = 51 := by
 have h : ∀ i, S.readE i = 0 ∨ S.readE i = 41 ∨ S.readE i = 43 := by
  intro i
  unfold Dk.readE
  split
  ·split <;> simp
  ·simp
 have h0 := h 0
 have h1 := h 1
 unfold lkE
 split <;> omega
theorem conv_mod (g : UInt64) : IntKind.i64.wrap (uv g % 2) = uv g % 2 := by rw [IntKind.wrap_i64]; omega
theorem hds_at {q : List UInt8} {k : Nat} (h : k < 8) : (hdsB q).getD k 0 = hdB q k := by
 unfold hdsB
 rw [List.getD_eq_getElem?_getD, List.getElem?_map, List.getElem?_range h]
 rfl
theorem top_at {q : List UInt8} {k : Nat} {t0 t : UInt64} (hk : k < 8) (ht : t = topL t0 ((hdsB q).take k)) : (if uv (hdB q k) > uv t then uv (hdB q k) else uv t) = uv (topL t0 ((hdsB q).take (k + 1))) := by
 rw [← hds_at hk]
 exact top_snoc (by rw [hdsB, List.length_map, List.length_range]; exact hk) ht
set_option maxRecDepth 10000 in
set_option maxHeartbeats 4000000 in
theorem rfread_any (HS : St w0 F W (rk vs vb vp R L)) (hRD : RD S R) (hRO : RO R n) (hn : n ≤ 900) (hp0 : S.readP 0 = q0.map bv) (hp1 : S.readP 1 = q1.map bv) (hq0 : q0.length = 256) (hq1 : q1.length = 256) : Calls Try.prog 26 #[rkV vs vb vp R] W fun e w' => ∃ v, e = .returned (.tuple #[v, .int .u64 (uv (rG S q0 q1)), .int .i64 (reE S q0 q1)]) ∧ St w0 F w' (row kByte rfl 5 v (rB S q0 q1) :: rk vs vb vp R L) := by
 refine c_enter Try.func26 rfl 46 rfl (rkV vs vb vp R :: U32vrf2 (U8vrf2 (U4vrf2 (undef :: [])))) rfl ?_
 refine wp_seq_k (fun K1 hK2 => ?_)
 refine c_region (fun ops4 hops3 => ?_)
 clear hops3
 refine St.wBox HS (cs := [vs, vb, vp, .bool R.counted, .int .i64 R.left, .bool R.down]) (rkV vs vb vp R) rfl rfl ?_
 clear HS
 intro g5 w6 hg7 HS
 refine p_run _ (x_assign (.slice none 0 0) rfl rfl) rfl ?_
 refine p_run _ (x_assign (.int .u64 0) rfl rfl) rfl ?_
 refine p_run _ (x_assign (.int .i64 0) rfl rfl) rfl ?_
 refine wpList_nil ?_
 refine hK2 _ _ ?_
 refine wp_seq_k (fun K8 hK9 => ?_)
 refine c_region (fun ops11 hops10 => ?_)
 clear hops10
 refine St.wLit0 HS kByte rfl 1 (.int .u8 0) Try.underlying24 (by kernel_rfl) ?_
 clear HS
 intro v12 w13 HS
 refine p_run _ (x_assign (v12) rfl rfl) rfl ?_
 refine wpList_nil ?_
 refine fr_at (l' := (rkV vs vb vp R :: .pointer (some ⟨g5, 0, none⟩) :: .slice none 0 0 :: .int .u64 0 :: .int .i64 0 :: v12 :: U4vrf2 (undef :: undef :: undef :: v12 :: U32vrf2 ([])))) rfl ?_
 refine hK9 _ _ ?_
 refine wp_seq_k (fun K14 hK15 => ?_)
 refine c_region (fun ops17 hops16 => ?_)
 clear hops16
 refine p_run _ (x_assign (.int .u64 0) rfl rfl) rfl ?_
 refine wpList_nil ?_
 refine hK15 _ _ ?_
 refine wp_seq_k (fun K18 hK19 => ?_)
 refine wp_seq_k (fun K20 hK21 => ?_)
 refine c_region (fun ops23 hops22 => ?_)
 clear hops22
 refine p_run _ (x_assign (.int .i64 0) rfl rfl) rfl ?_
 refine wpList_nil ?_
 refine fr_at (l' := (rkV vs vb vp R :: .pointer (some ⟨g5, 0, none⟩) :: .slice none 0 0 :: .int .u64 0 :: .int .i64 0 :: v12 :: .int .u64 0 :: .int .i64 0 :: U4vrf2 (undef :: v12 :: U32vrf2 ([])))) rfl ?_
 refine hK21 _ _ ?_
 refine wp_block ?_
 refine c_loop (ι := Nat × Value × List UInt8 × UInt64) (fun i_ a_ w_ => match i_ with | (j, v5, b, g) => ∃ (q24 : V8) (q25 : V8) (q26 : V8) (q27 : V8) (q28 : V8), a_ = fr (rkV vs vb vp R :: .pointer (some ⟨g5, 0, none⟩) :: q24.a :: q24.b :: q24.c :: v5 :: .int .u64 (uv g) :: .int .i64 (j : Int) :: q24.d :: q24.e :: q24.f :: q24.g :: q24.h :: v12 :: V8.l q25 (V8.l q26 (V8.l q27 (q28.a :: q28.b :: q28.c :: q28.d :: U4vrf2 ([]))))) ∧ St w0 F w_ (row kByte rfl 5 v5 b :: row kPg rfl 38 vs R.stable :: row Kd.bool rfl 4 vb R.bad :: row kWr rfl 87 vp R.pending :: blk g5 [vs, vb, vp, .bool R.counted, .int .i64 R.left, .bool R.down] 53 :: L) ∧ (j ≤ 2 ∧ (∀ i : Nat, i < j → S.readE (i : Int) = 0) ∧ b = bJ q0 q1 j ∧ g = gJ q0 q1 j)) (fun i_ => match i_ with | (j, v5, b, g) => 2 - j) (0, v12, [], 0) ?_ ?_
 ·exact ⟨⟨.slice none 0 0, .int .u64 0, .int .i64 0, undef, undef, undef, undef, undef⟩, ⟨undef, undef, undef, undef, undef, undef, undef, undef⟩, ⟨undef, undef, undef, undef, undef, undef, undef, undef⟩, ⟨undef, undef, undef, undef, undef, undef, undef, undef⟩, ⟨undef, undef, undef, undef, undef, undef, undef, undef⟩, rfl, (((((HS.front 1 rfl).front 4 rfl).front 4 rfl).front 4 rfl).front 4 rfl), ⟨by omega, fun i hi => absurd hi (by omega), rfl, rfl⟩⟩
 ·clear HS
  rintro ⟨j, v5, b, g⟩ a_ w31 ⟨q24, q25, q26, q27, q28, rfl, HS, hI⟩ J29 hJ30
  obtain ⟨hj, her, hb, hgg⟩ := hI
  refine wp_seq_k (fun K32 hK33 => ?_)
  refine wp_seq_k (fun K34 hK35 => ?_)
  refine c_region (fun ops37 hops36 => ?_)
  clear hops36
  refine p_run _ (x_move (.int .i64 (j : Int)) rfl rfl) rfl ?_
  refine p_run _ (x_cmp (k := .i64) (m := (j : Int)) (n := 2) .lss (decide ((j : Int) < 2)) rfl rfl rfl rfl rfl) rfl ?_
  refine wpList_nil ?_
  refine hK35 _ _ ?_
  refine c_cond (t := decide ((j : Int) < 2)) rfl (fun hc38 => ?_) (fun hc38 => ?_)
  ·have hlt : j < 2 := by have := of_decide_eq_true hc38; omega
   have hqj := rq_at hp0 hp1 hlt
   refine wp_skip ?_
   refine hK33 _ _ ?_
   refine wp_seq_k (fun K39 hK40 => ?_)
   refine wp_block ?_
   refine wp_seq_k (fun K41 hK42 => ?_)
   refine c_region (fun ops44 hops43 => ?_)
   clear hops43
   refine p_run _ (x_loads [vs, vb, vp, .bool R.counted, .int .i64 R.left, .bool R.down] 6 rfl rfl (bkCells (HS.get (.tail _ (.tail _ (.tail _ (.tail _ (.head _)))))) 0 _ rfl) (by rfl) (by kernel_rfl) rfl) rfl ?_
   refine p_run _ (x_move (.int .i64 (j : Int)) rfl rfl) rfl ?_
   refine w_call [rkV vs vb vp R, .int .i64 (j : Int)] Try.func43 (by kernel_rfl) (by rfl) rfl ?_
   replace HS := (((HS.front 3 rfl).front 3 rfl).front 3 rfl)
   refine (rkRead_any HS hRO.hb hRO.hT (Nat.le_trans hRO.hpn (by omega)) (j : Int)).mono ?_
   clear HS
   rintro e w45 ⟨he_, HS⟩
   rw [(rd_read hRD (j : Int)).1, (rd_read hRD (j : Int)).2, hqj] at he_
   subst he_
   refine ⟨_, rfl, ?_⟩
   refine p_run _ (x_move (.tuple [.agg ((nums .u8 ((pgI j q0 q1).map bv))).toArray, .int .i64 (S.readE (j : Int))].toArray) rfl rfl) rfl ?_
   refine p_run _ (x_extract (vs := [.agg ((nums .u8 ((pgI j q0 q1).map bv))).toArray, .int .i64 (S.readE (j : Int))]) 0 (.agg ((nums .u8 ((pgI j q0 q1).map bv))).toArray) rfl rfl rfl) rfl ?_
   refine p_run (l' := (rkV vs vb vp R :: .pointer (some ⟨g5, 0, none⟩) :: q24.a :: q24.b :: q24.c :: v5 :: .int .u64 (uv g) :: .int .i64 (j : Int) :: q24.d :: q24.e :: q24.f :: q24.g :: q24.h :: v12 :: .int .i64 (j : Int) :: .bool (decide ((j : Int) < 2)) :: q25.c :: q25.d :: .tuple [.agg ((nums .u8 ((pgI j q0 q1).map bv))).toArray, .int .i64 (S.readE (j : Int))].toArray :: rkV vs vb vp R :: .int .i64 (j : Int) :: .tuple [.agg ((nums .u8 ((pgI j q0 q1).map bv))).toArray, .int .i64 (S.readE (j : Int))].toArray :: .agg ((nums .u8 ((pgI j q0 q1).map bv))).toArray :: .int .i64 (S.readE (j : Int)) :: q26.c :: q26.d :: q26.e :: q26.f :: q26.g :: q26.h :: V8.l q27 (q28.a :: q28.b :: q28.c :: q28.d :: U4vrf2 ([])))) _ (x_extract (vs := [.agg ((nums .u8 ((pgI j q0 q1).map bv))).toArray, .int .i64 (S.readE (j : Int))]) 1 (.int .i64 (S.readE (j : Int))) rfl rfl rfl) rfl ?_
   refine St.wAlloc HS (cs := ((nums .u8 zpg))) (.agg ((nums .u8 zpg)).toArray) (by kernel_rfl) rfl ?_
   clear HS
   intro g46 w47 hg48 HS
   refine St.stores (cs' := ((nums .u8 ((pgI j q0 q1).map bv)))) HS ((nums .u8 ((pgI j q0 q1).map bv))) 256 rfl rfl (nums_one _ _) (by kernel_rfl) (by simp [List.length_map, nums_length, pgI_len hq0 hq1 j]) (by simp [List.length_map, nums_length, pgI_len hq0 hq1 j, zlen]) (lay_all _ _ (by simp [List.length_map, nums_length, pgI_len hq0 hq1 j, zlen])) ?_
   clear HS
   intro w49 HS
   refine p_run _ (x_assign (.int .i64 (S.readE (j : Int))) rfl rfl) rfl ?_
   refine wpList_nil ?_
   refine hK42 _ _ ?_
   refine wp_seq_k (fun K50 hK51 => ?_)
   refine wp_seq_k (fun K52 hK53 => ?_)
   by_cases hre : S.readE (j : Int) = 0
   ·refine c_region (fun ops55 hops54 => ?_)
    clear hops54
    refine p_run _ (x_move (.int .i64 (S.readE (j : Int))) rfl rfl) rfl ?_
    refine p_run _ (x_cmp (k := .i64) (m := (S.readE (j : Int))) (n := 0) .neq false rfl rfl rfl (by rw [hre]; rfl) rfl) rfl ?_
    refine wpList_nil ?_
    refine hK53 _ _ ?_
    refine c_false rfl ?_
    refine wp_skip ?_
    refine hK51 _ _ ?_
    refine wp_seq_k (fun K56 hK57 => ?_)
    refine c_region (fun ops59 hops58 => ?_)
    clear hops58
    refine p_run _ (x_loads ((nums .u8 ((pgI j q0 q1).map bv))) 256 rfl rfl (bkCells (HS.get (.head _)) 0 _ (whole _)) (by rfl) (by kernel_rfl) (by simp [List.length_map, nums_length, pgI_len hq0 hq1 j])) rfl ?_
    refine p_run _ (x_move (.int .i64 (j : Int)) rfl rfl) rfl ?_
    refine w_call [.agg ((nums .u8 ((pgI j q0 q1).map bv))).toArray, .int .i64 (j : Int)] Try.func44 (by kernel_rfl) (by rfl) rfl ?_
    refine (rtopen_any HS (pgI j q0 q1) (pgI_len hq0 hq1 j) j).mono ?_
    clear HS
    rintro e w63 ⟨v60, xs61, gg62, rfl, HS, hyes⟩
    refine ⟨_, rfl, ?_⟩
    refine p_run (l' := (rkV vs vb vp R :: .pointer (some ⟨g5, 0, none⟩) :: q24.a :: q24.b :: q24.c :: v5 :: .int .u64 (uv g) :: .int .i64 (j : Int) :: .pointer (some ⟨g46, 0, none⟩) :: .int .i64 (S.readE (j : Int)) :: q24.f :: q24.g :: q24.h :: v12 :: .int .i64 (j : Int) :: .bool (decide ((j : Int) < 2)) :: q25.c :: q25.d :: .tuple [.agg ((nums .u8 ((pgI j q0 q1).map bv))).toArray, .int .i64 (S.readE (j : Int))].toArray :: rkV vs vb vp R :: .int .i64 (j : Int) :: .tuple [.agg ((nums .u8 ((pgI j q0 q1).map bv))).toArray, .int .i64 (S.readE (j : Int))].toArray :: .agg ((nums .u8 ((pgI j q0 q1).map bv))).toArray :: .int .i64 (S.readE (j : Int)) :: .int .i64 (S.readE (j : Int)) :: .bool false :: q26.e :: .tuple [v60, .int .u64 (uv gg62), .bool (okR (pgI j q0 q1) j)].toArray :: .agg ((nums .u8 ((pgI j q0 q1).map bv))).toArray :: .int .i64 (j : Int) :: .tuple [v60, .int .u64 (uv gg62), .bool (okR (pgI j q0 q1) j)].toArray :: q27.b :: q27.c :: q27.d :: q27.e :: q27.f :: q27.g :: q27.h :: q28.a :: q28.b :: q28.c :: q28.d :: U4vrf2 ([]))) _ (x_move (.tuple [v60, .int .u64 (uv gg62), .bool (okR (pgI j q0 q1) j)].toArray) rfl rfl) rfl ?_
    refine p_run _ (x_extract (vs := [v60, .int .u64 (uv gg62), .bool (okR (pgI j q0 q1) j)]) 0 (v60) rfl rfl rfl) rfl ?_
    refine p_run _ (x_extract (vs := [v60, .int .u64 (uv gg62), .bool (okR (pgI j q0 q1) j)]) 1 (.int .u64 (uv gg62)) rfl rfl rfl) rfl ?_
    refine p_run _ (x_extract (vs := [v60, .int .u64 (uv gg62), .bool (okR (pgI j q0 q1) j)]) 2 (.bool (okR (pgI j q0 q1) j)) rfl rfl rfl) rfl ?_
    refine p_run _ (x_assign (v60) rfl rfl) rfl ?_
    refine p_run _ (x_assign (.int .u64 (uv gg62)) rfl rfl) rfl ?_
    refine p_run _ (x_assign (.bool (okR (pgI j q0 q1) j)) rfl rfl) rfl ?_
    refine wpList_nil ?_
    refine fr_at (l' := (rkV vs vb vp R :: .pointer (some ⟨g5, 0, none⟩) :: q24.a :: q24.b :: q24.c :: v5 :: .int .u64 (uv g) :: .int .i64 (j : Int) :: .pointer (some ⟨g46, 0, none⟩) :: .int .i64 (S.readE (j : Int)) :: v60 :: .int .u64 (uv gg62) :: .bool (okR (pgI j q0 q1) j) :: v12 :: .int .i64 (j : Int) :: .bool (decide ((j : Int) < 2)) :: q25.c :: q25.d :: .tuple [.agg ((nums .u8 ((pgI j q0 q1).map bv))).toArray, .int .i64 (S.readE (j : Int))].toArray :: rkV vs vb vp R :: .int .i64 (j : Int) :: .tuple [.agg ((nums .u8 ((pgI j q0 q1).map bv))).toArray, .int .i64 (S.readE (j : Int))].toArray :: .agg ((nums .u8 ((pgI j q0 q1).map bv))).toArray :: .int .i64 (S.readE (j : Int)) :: .int .i64 (S.readE (j : Int)) :: .bool false :: q26.e :: .tuple [v60, .int .u64 (uv gg62), .bool (okR (pgI j q0 q1) j)].toArray :: .agg ((nums .u8 ((pgI j q0 q1).map bv))).toArray :: .int .i64 (j : Int) :: .tuple [v60, .int .u64 (uv gg62), .bool (okR (pgI j q0 q1) j)].toArray :: v60 :: .int .u64 (uv gg62) :: .bool (okR (pgI j q0 q1) j) :: q27.e :: q27.f :: q27.g :: q27.h :: q28.a :: q28.b :: q28.c :: q28.d :: U4vrf2 ([]))) rfl ?_
    refine hK57 _ _ ?_
    refine wp_seq_k (fun K64 hK65 => ?_)
    rcases cand_split (m := gJ q0 q1 j) hyes with ⟨hok, hxe, hge, hgt⟩ | ⟨hok, hge, hgt⟩ | ⟨hok, hgt⟩
    ·rw [hok]
     refine c_region (fun ops67 hops66 => ?_)
     refine p_run _ (x_move (.bool true) rfl rfl) rfl ?_
     refine p_run _ (x_move (.bool true) rfl rfl) rfl ?_
     refine p_on rfl (by rw [hops66]; rfl) ?_
     refine p_run _ (x_move (.int .u64 (uv gg62)) rfl rfl) rfl ?_
     refine p_on rfl (by rw [hops66]; rfl) ?_
     refine p_run _ (x_move (.int .u64 (uv g)) rfl rfl) rfl ?_
     refine p_on rfl (by rw [hops66]; rfl) ?_
     refine p_run _ (x_cmp (k := .u64) (m := (uv gg62)) (n := (uv g)) .gtr true rfl rfl rfl (show decide (uv gg62 > uv g) = true from decide_eq_true (uv_gt.2 (by rw [hge, hgg]; exact hgt))) rfl) rfl ?_
     refine p_run _ (x_pick true (.bool true) (.bool false) (.bool true) rfl rfl rfl rfl rfl) rfl ?_
     clear hops66
     refine wpList_nil ?_
     refine fr_at (l' := (rkV vs vb vp R :: .pointer (some ⟨g5, 0, none⟩) :: q24.a :: q24.b :: q24.c :: v5 :: .int .u64 (uv g) :: .int .i64 (j : Int) :: .pointer (some ⟨g46, 0, none⟩) :: .int .i64 (S.readE (j : Int)) :: v60 :: .int .u64 (uv gg62) :: .bool true :: v12 :: .int .i64 (j : Int) :: .bool (decide ((j : Int) < 2)) :: q25.c :: q25.d :: .tuple [.agg ((nums .u8 ((pgI j q0 q1).map bv))).toArray, .int .i64 (S.readE (j : Int))].toArray :: rkV vs vb vp R :: .int .i64 (j : Int) :: .tuple [.agg ((nums .u8 ((pgI j q0 q1).map bv))).toArray, .int .i64 (S.readE (j : Int))].toArray :: .agg ((nums .u8 ((pgI j q0 q1).map bv))).toArray :: .int .i64 (S.readE (j : Int)) :: .int .i64 (S.readE (j : Int)) :: .bool false :: q26.e :: .tuple [v60, .int .u64 (uv gg62), .bool true].toArray :: .agg ((nums .u8 ((pgI j q0 q1).map bv))).toArray :: .int .i64 (j : Int) :: .tuple [v60, .int .u64 (uv gg62), .bool true].toArray :: v60 :: .int .u64 (uv gg62) :: .bool true :: .bool true :: .bool true :: .int .u64 (uv gg62) :: .int .u64 (uv g) :: .bool true :: .bool true :: q28.c :: q28.d :: U4vrf2 ([]))) rfl ?_
     refine hK65 _ _ ?_
     refine c_true rfl ?_
     refine wp_seq_k (fun K68 hK69 => ?_)
     refine c_region (fun ops71 hops70 => ?_)
     clear hops70
     refine p_run _ (x_move (v60) rfl rfl) rfl ?_
     refine p_run _ (x_assign (v60) rfl rfl) rfl ?_
     refine wpList_nil ?_
     refine hK69 _ _ ?_
     refine c_region (fun ops73 hops72 => ?_)
     clear hops72
     refine p_run _ (x_move (.int .u64 (uv gg62)) rfl rfl) rfl ?_
     refine p_run _ (x_assign (.int .u64 (uv gg62)) rfl rfl) rfl ?_
     refine wpList_nil ?_
     refine hK40 _ _ ?_
     refine c_region (fun ops75 hops74 => ?_)
     clear hops74
     refine p_run _ (x_move (.int .i64 (j : Int)) rfl rfl) rfl ?_
     refine p_run _ (x_arith (k := .i64) (m := (j : Int)) (n := 1) .add (((j + 1 : Nat) : Int)) rfl rfl rfl (show IntKind.i64.wrap ((j : Int) + 1) = ((j + 1 : Nat) : Int) from ((wr64' (by omega)).trans (by omega))) rfl) rfl ?_
     refine p_run _ (x_assign (.int .i64 ((j + 1 : Nat) : Int)) rfl rfl) rfl ?_
     refine wpList_nil ?_
     refine fr_at (l' := (rkV vs vb vp R :: .pointer (some ⟨g5, 0, none⟩) :: q24.a :: q24.b :: q24.c :: v60 :: .int .u64 (uv gg62) :: .int .i64 ((j + 1 : Nat) : Int) :: .pointer (some ⟨g46, 0, none⟩) :: .int .i64 (S.readE (j : Int)) :: v60 :: .int .u64 (uv gg62) :: .bool true :: v12 :: .int .i64 (j : Int) :: .bool (decide ((j : Int) < 2)) :: .int .i64 (j : Int) :: .int .i64 ((j + 1 : Nat) : Int) :: .tuple [.agg ((nums .u8 ((pgI j q0 q1).map bv))).toArray, .int .i64 (S.readE (j : Int))].toArray :: rkV vs vb vp R :: .int .i64 (j : Int) :: .tuple [.agg ((nums .u8 ((pgI j q0 q1).map bv))).toArray, .int .i64 (S.readE (j : Int))].toArray :: .agg ((nums .u8 ((pgI j q0 q1).map bv))).toArray :: .int .i64 (S.readE (j : Int)) :: .int .i64 (S.readE (j : Int)) :: .bool false :: q26.e :: .tuple [v60, .int .u64 (uv gg62), .bool true].toArray :: .agg ((nums .u8 ((pgI j q0 q1).map bv))).toArray :: .int .i64 (j : Int) :: .tuple [v60, .int .u64 (uv gg62), .bool true].toArray :: v60 :: .int .u64 (uv gg62) :: .bool true :: .bool true :: .bool true :: .int .u64 (uv gg62) :: .int .u64 (uv g) :: .bool true :: .bool true :: v60 :: .int .u64 (uv gg62) :: U4vrf2 ([]))) rfl ?_
     refine hJ30 (j + 1, v60, xs61, gg62) _ _ ?_ ?_
     ·show 2 - (j + 1) < 2 - j; omega
     ·exact ⟨⟨q24.a, q24.b, q24.c, .pointer (some ⟨g46, 0, none⟩), .int .i64 (S.readE (j : Int)), v60, .int .u64 (uv gg62), .bool true⟩, ⟨.int .i64 (j : Int), .bool (decide ((j : Int) < 2)), .int .i64 (j : Int), .int .i64 ((j + 1 : Nat) : Int), .tuple [.agg ((nums .u8 ((pgI j q0 q1).map bv))).toArray, .int .i64 (S.readE (j : Int))].toArray, rkV vs vb vp R, .int .i64 (j : Int), .tuple [.agg ((nums .u8 ((pgI j q0 q1).map bv))).toArray, .int .i64 (S.readE (j : Int))].toArray⟩, ⟨.agg ((nums .u8 ((pgI j q0 q1).map bv))).toArray, .int .i64 (S.readE (j : Int)), .int .i64 (S.readE (j : Int)), .bool false, q26.e, .tuple [v60, .int .u64 (uv gg62), .bool true].toArray, .agg ((nums .u8 ((pgI j q0 q1).map bv))).toArray, .int .i64 (j : Int)⟩, ⟨.tuple [v60, .int .u64 (uv gg62), .bool true].toArray, v60, .int .u64 (uv gg62), .bool true, .bool true, .bool true, .int .u64 (uv gg62), .int .u64 (uv g)⟩, ⟨.bool true, .bool true, v60, .int .u64 (uv gg62), undef, undef, undef, undef⟩, rfl, (((((((HS.front 1 rfl).drop.front 4 rfl).drop.front 4 rfl).front 4 rfl).front 4 rfl).front 4 rfl).front 4 rfl), ⟨(by omega), (fun i hi => (Nat.lt_or_ge i j).elim (fun h => her i h) (fun h => by obtain rfl : i = j := (by omega); exact hre)), hxe.trans (look_yes hlt hgt).1, hge.trans (look_yes hlt hgt).2⟩⟩
    ·rw [hok]
     refine c_region (fun ops77 hops76 => ?_)
     refine p_run _ (x_move (.bool true) rfl rfl) rfl ?_
     refine p_run _ (x_move (.bool true) rfl rfl) rfl ?_
     refine p_on rfl (by rw [hops76]; rfl) ?_
     refine p_run _ (x_move (.int .u64 (uv gg62)) rfl rfl) rfl ?_
     refine p_on rfl (by rw [hops76]; rfl) ?_
     refine p_run _ (x_move (.int .u64 (uv g)) rfl rfl) rfl ?_
     refine p_on rfl (by rw [hops76]; rfl) ?_
     refine p_run _ (x_cmp (k := .u64) (m := (uv gg62)) (n := (uv g)) .gtr false rfl rfl rfl (show decide (uv gg62 > uv g) = false from decide_eq_false (fun h => hgt (by have := uv_gt.1 h; rw [hge, hgg] at this; exact this))) rfl) rfl ?_
     refine p_run _ (x_pick true (.bool false) (.bool false) (.bool false) rfl rfl rfl rfl rfl) rfl ?_
     clear hops76
     refine wpList_nil ?_
     refine fr_at (l' := (rkV vs vb vp R :: .pointer (some ⟨g5, 0, none⟩) :: q24.a :: q24.b :: q24.c :: v5 :: .int .u64 (uv g) :: .int .i64 (j : Int) :: .pointer (some ⟨g46, 0, none⟩) :: .int .i64 (S.readE (j : Int)) :: v60 :: .int .u64 (uv gg62) :: .bool true :: v12 :: .int .i64 (j : Int) :: .bool (decide ((j : Int) < 2)) :: q25.c :: q25.d :: .tuple [.agg ((nums .u8 ((pgI j q0 q1).map bv))).toArray, .int .i64 (S.readE (j : Int))].toArray :: rkV vs vb vp R :: .int .i64 (j : Int) :: .tuple [.agg ((nums .u8 ((pgI j q0 q1).map bv))).toArray, .int .i64 (S.readE (j : Int))].toArray :: .agg ((nums .u8 ((pgI j q0 q1).map bv))).toArray :: .int .i64 (S.readE (j : Int)) :: .int .i64 (S.readE (j : Int)) :: .bool false :: q26.e :: .tuple [v60, .int .u64 (uv gg62), .bool true].toArray :: .agg ((nums .u8 ((pgI j q0 q1).map bv))).toArray :: .int .i64 (j : Int) :: .tuple [v60, .int .u64 (uv gg62), .bool true].toArray :: v60 :: .int .u64 (uv gg62) :: .bool true :: .bool true :: .bool true :: .int .u64 (uv gg62) :: .int .u64 (uv g) :: .bool false :: .bool false :: q28.c :: q28.d :: U4vrf2 ([]))) rfl ?_
     refine hK65 _ _ ?_
     refine c_false rfl ?_
     refine wp_skip ?_
     refine hK40 _ _ ?_
     refine c_region (fun ops79 hops78 => ?_)
     clear hops78
     refine p_run _ (x_move (.int .i64 (j : Int)) rfl rfl) rfl ?_
     refine p_run _ (x_arith (k := .i64) (m := (j : Int)) (n := 1) .add (((j + 1 : Nat) : Int)) rfl rfl rfl (show IntKind.i64.wrap ((j : Int) + 1) = ((j + 1 : Nat) : Int) from ((wr64' (by omega)).trans (by omega))) rfl) rfl ?_
     refine p_run _ (x_assign (.int .i64 ((j + 1 : Nat) : Int)) rfl rfl) rfl ?_
     refine wpList_nil ?_
     refine fr_at (l' := (rkV vs vb vp R :: .pointer (some ⟨g5, 0, none⟩) :: q24.a :: q24.b :: q24.c :: v5 :: .int .u64 (uv g) :: .int .i64 ((j + 1 : Nat) : Int) :: .pointer (some ⟨g46, 0, none⟩) :: .int .i64 (S.readE (j : Int)) :: v60 :: .int .u64 (uv gg62) :: .bool true :: v12 :: .int .i64 (j : Int) :: .bool (decide ((j : Int) < 2)) :: .int .i64 (j : Int) :: .int .i64 ((j + 1 : Nat) : Int) :: .tuple [.agg ((nums .u8 ((pgI j q0 q1).map bv))).toArray, .int .i64 (S.readE (j : Int))].toArray :: rkV vs vb vp R :: .int .i64 (j : Int) :: .tuple [.agg ((nums .u8 ((pgI j q0 q1).map bv))).toArray, .int .i64 (S.readE (j : Int))].toArray :: .agg ((nums .u8 ((pgI j q0 q1).map bv))).toArray :: .int .i64 (S.readE (j : Int)) :: .int .i64 (S.readE (j : Int)) :: .bool false :: q26.e :: .tuple [v60, .int .u64 (uv gg62), .bool true].toArray :: .agg ((nums .u8 ((pgI j q0 q1).map bv))).toArray :: .int .i64 (j : Int) :: .tuple [v60, .int .u64 (uv gg62), .bool true].toArray :: v60 :: .int .u64 (uv gg62) :: .bool true :: .bool true :: .bool true :: .int .u64 (uv gg62) :: .int .u64 (uv g) :: .bool false :: .bool false :: q28.c :: q28.d :: U4vrf2 ([]))) rfl ?_
     refine hJ30 (j + 1, v5, b, g) _ _ ?_ ?_
     ·show 2 - (j + 1) < 2 - j; omega
     ·exact ⟨⟨q24.a, q24.b, q24.c, .pointer (some ⟨g46, 0, none⟩), .int .i64 (S.readE (j : Int)), v60, .int .u64 (uv gg62), .bool true⟩, ⟨.int .i64 (j : Int), .bool (decide ((j : Int) < 2)), .int .i64 (j : Int), .int .i64 ((j + 1 : Nat) : Int), .tuple [.agg ((nums .u8 ((pgI j q0 q1).map bv))).toArray, .int .i64 (S.readE (j : Int))].toArray, rkV vs vb vp R, .int .i64 (j : Int), .tuple [.agg ((nums .u8 ((pgI j q0 q1).map bv))).toArray, .int .i64 (S.readE (j : Int))].toArray⟩, ⟨.agg ((nums .u8 ((pgI j q0 q1).map bv))).toArray, .int .i64 (S.readE (j : Int)), .int .i64 (S.readE (j : Int)), .bool false, q26.e, .tuple [v60, .int .u64 (uv gg62), .bool true].toArray, .agg ((nums .u8 ((pgI j q0 q1).map bv))).toArray, .int .i64 (j : Int)⟩, ⟨.tuple [v60, .int .u64 (uv gg62), .bool true].toArray, v60, .int .u64 (uv gg62), .bool true, .bool true, .bool true, .int .u64 (uv gg62), .int .u64 (uv g)⟩, ⟨.bool false, .bool false, q28.c, q28.d, undef, undef, undef, undef⟩, rfl, (((((HS.drop.drop.front 4 rfl).front 3 rfl).front 3 rfl).front 3 rfl).front 4 rfl), ⟨(by omega), (fun i hi => (Nat.lt_or_ge i j).elim (fun h => her i h) (fun h => by obtain rfl : i = j := (by omega); exact hre)), hb.trans (look_no hlt hgt).1, hgg.trans (look_no hlt hgt).2⟩⟩
    ·rw [hok]
     refine c_region (fun ops81 hops80 => ?_)
     refine p_run _ (x_move (.bool false) rfl rfl) rfl ?_
     refine p_run _ (x_move (.bool false) rfl rfl) rfl ?_
     refine p_off (by rw [hops80]; rfl) rfl ?_
     refine p_off (by rw [hops80]; rfl) rfl ?_
     refine p_off (by rw [hops80]; rfl) rfl ?_
     refine p_run _ (x_pick false (undef) (.bool false) (.bool false) rfl rfl rfl rfl rfl) rfl ?_
     clear hops80
     refine wpList_nil ?_
     refine fr_at (l' := (rkV vs vb vp R :: .pointer (some ⟨g5, 0, none⟩) :: q24.a :: q24.b :: q24.c :: v5 :: .int .u64 (uv g) :: .int .i64 (j : Int) :: .pointer (some ⟨g46, 0, none⟩) :: .int .i64 (S.readE (j : Int)) :: v60 :: .int .u64 (uv gg62) :: .bool false :: v12 :: .int .i64 (j : Int) :: .bool (decide ((j : Int) < 2)) :: q25.c :: q25.d :: .tuple [.agg ((nums .u8 ((pgI j q0 q1).map bv))).toArray, .int .i64 (S.readE (j : Int))].toArray :: rkV vs vb vp R :: .int .i64 (j : Int) :: .tuple [.agg ((nums .u8 ((pgI j q0 q1).map bv))).toArray, .int .i64 (S.readE (j : Int))].toArray :: .agg ((nums .u8 ((pgI j q0 q1).map bv))).toArray :: .int .i64 (S.readE (j : Int)) :: .int .i64 (S.readE (j : Int)) :: .bool false :: q26.e :: .tuple [v60, .int .u64 (uv gg62), .bool false].toArray :: .agg ((nums .u8 ((pgI j q0 q1).map bv))).toArray :: .int .i64 (j : Int) :: .tuple [v60, .int .u64 (uv gg62), .bool false].toArray :: v60 :: .int .u64 (uv gg62) :: .bool false :: .bool false :: .bool false :: undef :: undef :: undef :: .bool false :: q28.c :: q28.d :: U4vrf2 ([]))) rfl ?_
     refine hK65 _ _ ?_
     refine c_false rfl ?_
     refine wp_skip ?_
     refine hK40 _ _ ?_
     refine c_region (fun ops83 hops82 => ?_)
     clear hops82
     refine p_run _ (x_move (.int .i64 (j : Int)) rfl rfl) rfl ?_
     refine p_run _ (x_arith (k := .i64) (m := (j : Int)) (n := 1) .add (((j + 1 : Nat) : Int)) rfl rfl rfl (show IntKind.i64.wrap ((j : Int) + 1) = ((j + 1 : Nat) : Int) from ((wr64' (by omega)).trans (by omega))) rfl) rfl ?_
     refine p_run _ (x_assign (.int .i64 ((j + 1 : Nat) : Int)) rfl rfl) rfl ?_
     refine wpList_nil ?_
     refine fr_at (l' := (rkV vs vb vp R :: .pointer (some ⟨g5, 0, none⟩) :: q24.a :: q24.b :: q24.c :: v5 :: .int .u64 (uv g) :: .int .i64 ((j + 1 : Nat) : Int) :: .pointer (some ⟨g46, 0, none⟩) :: .int .i64 (S.readE (j : Int)) :: v60 :: .int .u64 (uv gg62) :: .bool false :: v12 :: .int .i64 (j : Int) :: .bool (decide ((j : Int) < 2)) :: .int .i64 (j : Int) :: .int .i64 ((j + 1 : Nat) : Int) :: .tuple [.agg ((nums .u8 ((pgI j q0 q1).map bv))).toArray, .int .i64 (S.readE (j : Int))].toArray :: rkV vs vb vp R :: .int .i64 (j : Int) :: .tuple [.agg ((nums .u8 ((pgI j q0 q1).map bv))).toArray, .int .i64 (S.readE (j : Int))].toArray :: .agg ((nums .u8 ((pgI j q0 q1).map bv))).toArray :: .int .i64 (S.readE (j : Int)) :: .int .i64 (S.readE (j : Int)) :: .bool false :: q26.e :: .tuple [v60, .int .u64 (uv gg62), .bool false].toArray :: .agg ((nums .u8 ((pgI j q0 q1).map bv))).toArray :: .int .i64 (j : Int) :: .tuple [v60, .int .u64 (uv gg62), .bool false].toArray :: v60 :: .int .u64 (uv gg62) :: .bool false :: .bool false :: .bool false :: undef :: undef :: undef :: .bool false :: q28.c :: q28.d :: U4vrf2 ([]))) rfl ?_
     refine hJ30 (j + 1, v5, b, g) _ _ ?_ ?_
     ·show 2 - (j + 1) < 2 - j; omega
     ·exact ⟨⟨q24.a, q24.b, q24.c, .pointer (some ⟨g46, 0, none⟩), .int .i64 (S.readE (j : Int)), v60, .int .u64 (uv gg62), .bool false⟩, ⟨.int .i64 (j : Int), .bool (decide ((j : Int) < 2)), .int .i64 (j : Int), .int .i64 ((j + 1 : Nat) : Int), .tuple [.agg ((nums .u8 ((pgI j q0 q1).map bv))).toArray, .int .i64 (S.readE (j : Int))].toArray, rkV vs vb vp R, .int .i64 (j : Int), .tuple [.agg ((nums .u8 ((pgI j q0 q1).map bv))).toArray, .int .i64 (S.readE (j : Int))].toArray⟩, ⟨.agg ((nums .u8 ((pgI j q0 q1).map bv))).toArray, .int .i64 (S.readE (j : Int)), .int .i64 (S.readE (j : Int)), .bool false, q26.e, .tuple [v60, .int .u64 (uv gg62), .bool false].toArray, .agg ((nums .u8 ((pgI j q0 q1).map bv))).toArray, .int .i64 (j : Int)⟩, ⟨.tuple [v60, .int .u64 (uv gg62), .bool false].toArray, v60, .int .u64 (uv gg62), .bool false, .bool false, .bool false, undef, undef⟩, ⟨undef, .bool false, q28.c, q28.d, undef, undef, undef, undef⟩, rfl, (((((HS.drop.drop.front 4 rfl).front 3 rfl).front 3 rfl).front 3 rfl).front 4 rfl), ⟨(by omega), (fun i hi => (Nat.lt_or_ge i j).elim (fun h => her i h) (fun h => by obtain rfl : i = j := (by omega); exact hre)), hb.trans (look_no hlt hgt).1, hgg.trans (look_no hlt hgt).2⟩⟩
   ·refine c_region (fun ops85 hops84 => ?_)
    clear hops84
    refine p_run _ (x_move (.int .i64 (S.readE (j : Int))) rfl rfl) rfl ?_
    refine p_run _ (x_cmp (k := .i64) (m := (S.readE (j : Int))) (n := 0) .neq true rfl rfl rfl (by simpa [cmpB] using hre) rfl) rfl ?_
    refine wpList_nil ?_
    refine hK53 _ _ ?_
    refine c_true rfl ?_
    refine wp_seq_k (fun K86 hK87 => ?_)
    refine c_region (fun ops89 hops88 => ?_)
    clear hops88
    refine p_run _ (x_move (.int .i64 (S.readE (j : Int))) rfl rfl) rfl ?_
    refine p_run _ (x_assign (.slice none 0 0) rfl rfl) rfl ?_
    refine p_run _ (x_assign (.int .u64 0) rfl rfl) rfl ?_
    refine p_run _ (x_assign (.int .i64 (S.readE (j : Int))) rfl rfl) rfl ?_
    refine wpList_nil ?_
    refine fr_at (l' := (rkV vs vb vp R :: .pointer (some ⟨g5, 0, none⟩) :: .slice none 0 0 :: .int .u64 0 :: .int .i64 (S.readE (j : Int)) :: v5 :: .int .u64 (uv g) :: .int .i64 (j : Int) :: .pointer (some ⟨g46, 0, none⟩) :: .int .i64 (S.readE (j : Int)) :: q24.f :: q24.g :: q24.h :: v12 :: .int .i64 (j : Int) :: .bool (decide ((j : Int) < 2)) :: q25.c :: q25.d :: .tuple [.agg ((nums .u8 ((pgI j q0 q1).map bv))).toArray, .int .i64 (S.readE (j : Int))].toArray :: rkV vs vb vp R :: .int .i64 (j : Int) :: .tuple [.agg ((nums .u8 ((pgI j q0 q1).map bv))).toArray, .int .i64 (S.readE (j : Int))].toArray :: .agg ((nums .u8 ((pgI j q0 q1).map bv))).toArray :: .int .i64 (S.readE (j : Int)) :: .int .i64 (S.readE (j : Int)) :: .bool true :: .int .i64 (S.readE (j : Int)) :: q26.f :: q26.g :: q26.h :: V8.l q27 (q28.a :: q28.b :: q28.c :: q28.d :: U4vrf2 ([])))) rfl ?_
    refine hK87 _ _ ?_
    refine wp_ret ?_
    try simp only [Exit.inBlock, Exit.then]
    refine c_ret (.tuple [.slice none 0 0, .int .u64 0, .int .i64 (S.readE (j : Int))].toArray) (r_tmp3 rfl rfl rfl rfl) ?_
    replace HS := HS.nil kByte rfl 5
    obtain ⟨e1, e2⟩ := lkE_bad hlt her hre
    have e3 : rB S q0 q1 = [] := if_neg e2
    have e4 : rG S q0 q1 = 0 := if_neg e2
    have e5 : reE S q0 q1 = S.readE (j : Int) := (if_neg e2).trans e1
    rw [e3, e4, e5]
    exact ⟨_, rfl, (((((((HS.front 1 rfl).drop.front 4 rfl).drop.front 4 rfl).drop.front 3 rfl).front 3 rfl).front 3 rfl).front 3 rfl)⟩
  ·have hlt : j = 2 := by have := of_decide_eq_false hc38; omega
   subst hlt
   refine wp_exit ?_
   refine hK19 _ _ ?_
   refine wp_seq_k (fun K90 hK91 => ?_)
   refine wp_seq_k (fun K92 hK93 => ?_)
   by_cases hg0 : lkG q0 q1 = 0
   ·have hz := lkE_ok her
    refine c_region (fun ops95 hops94 => ?_)
    clear hops94
    refine p_run _ (x_move (.int .u64 (uv g)) rfl rfl) rfl ?_
    refine p_run _ (x_cmp (k := .u64) (m := (uv g)) (n := 0) .eql true rfl rfl rfl (by rw [hgg, show gJ q0 q1 2 = lkG q0 q1 from rfl, hg0]; rfl) rfl) rfl ?_
    refine wpList_nil ?_
    refine hK93 _ _ ?_
    refine c_true rfl ?_
    refine wp_seq_k (fun K96 hK97 => ?_)
    refine c_region (fun ops99 hops98 => ?_)
    clear hops98
    refine p_run _ (x_assign (.slice none 0 0) rfl rfl) rfl ?_
    refine p_run _ (x_assign (.int .u64 0) rfl rfl) rfl ?_
    refine p_run _ (x_assign (.int .i64 51) rfl rfl) rfl ?_
    refine wpList_nil ?_
    refine hK97 _ _ ?_
    refine wp_ret ?_
    try simp only [Exit.inBlock, Exit.then]
    refine c_ret (.tuple [.slice none 0 0, .int .u64 0, .int .i64 51].toArray) (r_tmp3 rfl rfl rfl rfl) ?_
    replace HS := HS.nil kByte rfl 5
    have e5 : reE S q0 q1 = 51 := (if_pos hz).trans (if_pos hg0)
    have e3 : rB S q0 q1 = [] := (if_pos hz).trans (lkB_zero hg0)
    have e4 : rG S q0 q1 = 0 := (if_pos hz).trans hg0
    rw [e3, e4, e5]
    exact ⟨_, rfl, ((((((HS.front 1 rfl).drop.front 4 rfl).drop.front 3 rfl).front 3 rfl).front 3 rfl).front 3 rfl)⟩
   ·have hz := lkE_ok her
    refine c_region (fun ops101 hops100 => ?_)
    clear hops100
    refine p_run _ (x_move (.int .u64 (uv g)) rfl rfl) rfl ?_
    refine p_run _ (x_cmp (k := .u64) (m := (uv g)) (n := 0) .eql false rfl rfl rfl (by rw [hgg, show gJ q0 q1 2 = lkG q0 q1 from rfl]; simp [cmpB, uv_nz hg0]) rfl) rfl ?_
    refine wpList_nil ?_
    obtain ⟨qz102, hqz102⟩ : ∃ q_ : V8, q_ = ⟨q24.d, q24.e, q24.f, q24.g, q24.h, v12, .int .i64 (2 : Int), .bool (decide ((2 : Int) < 2))⟩ := ⟨_, rfl⟩
    obtain ⟨qz103, hqz103⟩ : ∃ q_ : V8, q_ = ⟨q25.c, q25.d, q25.e, q25.f, q25.g, q25.h, q26.a, q26.b⟩ := ⟨_, rfl⟩
    obtain ⟨qz104, hqz104⟩ : ∃ q_ : V8, q_ = ⟨q26.c, q26.d, q26.e, q26.f, q26.g, q26.h, q27.a, q27.b⟩ := ⟨_, rfl⟩
    obtain ⟨qz105, hqz105⟩ : ∃ q_ : V8, q_ = ⟨q27.c, q27.d, q27.e, q27.f, q27.g, q27.h, q28.a, q28.b⟩ := ⟨_, rfl⟩
    refine fr_at (l' := (rkV vs vb vp R :: .pointer (some ⟨g5, 0, none⟩) :: q24.a :: q24.b :: q24.c :: v5 :: .int .u64 (uv g) :: .int .i64 (2 : Int) :: V8.l qz102 (V8.l qz103 (V8.l qz104 (V8.l qz105 (q28.c :: q28.d :: .int .u64 (uv g) :: .bool false :: undef :: undef :: [])))))) (by subst hqz102 hqz103 hqz104 hqz105; rfl) ?_
    refine hK93 _ _ ?_
    refine c_false rfl ?_
    refine wp_skip ?_
    refine hK91 _ _ ?_
    refine wp_seq_k (fun K106 hK107 => ?_)
    refine c_region (fun ops109 hops108 => ?_)
    clear hops108
    refine p_run _ (x_move (v5) rfl rfl) rfl ?_
    refine p_run _ (x_move (.int .u64 (uv g)) rfl rfl) rfl ?_
    refine p_run _ (x_assign (v5) rfl rfl) rfl ?_
    refine p_run _ (x_assign (.int .u64 (uv g)) rfl rfl) rfl ?_
    refine p_run _ (x_assign (.int .i64 0) rfl rfl) rfl ?_
    refine wpList_nil ?_
    refine hK107 _ _ ?_
    refine wp_ret ?_
    try simp only [Exit.inBlock, Exit.then]
    refine c_ret (.tuple [v5, .int .u64 (uv g), .int .i64 0].toArray) (r_tmp3 rfl rfl rfl rfl) ?_
    have e5 : reE S q0 q1 = 0 := (if_pos hz).trans (if_neg hg0)
    have e3 : rB S q0 q1 = b := (if_pos hz).trans hb.symm
    have e4 : rG S q0 q1 = g := (if_pos hz).trans hgg.symm
    rw [e3, e4, e5]
    exact ⟨_, rfl, (((((HS.front 4 rfl).drop.front 3 rfl).front 3 rfl).front 3 rfl).front 3 rfl)⟩
theorem lk_three (S : Dk) (q0 q1 : List UInt8) : (¬ lkE S = 0) ∨ (lkE S = 0 ∧ lkG q0 q1 = 0) ∨ (lkE S = 0 ∧ ¬ lkG q0 q1 = 0) := by
 by_cases h : lkE S = 0 <;> by_cases h2 : lkG q0 q1 = 0 <;> simp [h, h2]
set_option maxRecDepth 10000 in
set_option maxHeartbeats 4000000 in
theorem rfnext_any (HS : St w0 F W (rk vs vb vp R L)) (hRD : RD S R) (hRO : RO R n) (hn : n ≤ 900) (hp0 : S.readP 0 = q0.map bv) (hp1 : S.readP 1 = q1.map bv) (hq0 : q0.length = 256) (hq1 : q1.length = 256) : Calls Try.prog 27 #[rkV vs vb vp R] W fun e w' => e = .returned (.tuple #[.int .u64 (uv (nG S q0 q1)), .int .i64 (nE S q0 q1)]) ∧ St w0 F w' (rk vs vb vp R L) := by
 refine c_enter Try.func27 rfl 61 rfl (rkV vs vb vp R :: U32vrf2 (U16vrf2 (U8vrf2 (U4vrf2 ([]))))) rfl ?_
 refine wp_seq_k (fun K1 hK2 => ?_)
 refine c_region (fun ops4 hops3 => ?_)
 clear hops3
 refine St.wBox HS (cs := [vs, vb, vp, .bool R.counted, .int .i64 R.left, .bool R.down]) (rkV vs vb vp R) rfl rfl ?_
 clear HS
 intro g5 w6 hg7 HS
 refine p_run _ (x_assign (.int .u64 0) rfl rfl) rfl ?_
 refine p_run _ (x_assign (.int .i64 0) rfl rfl) rfl ?_
 refine wpList_nil ?_
 refine hK2 _ _ ?_
 refine wp_seq_k (fun K8 hK9 => ?_)
 refine c_region (fun ops11 hops10 => ?_)
 clear hops10
 refine p_run _ (x_loads [vs, vb, vp, .bool R.counted, .int .i64 R.left, .bool R.down] 6 rfl rfl (bkCells (HS.get (.head _)) 0 _ rfl) (by rfl) (by kernel_rfl) rfl) rfl ?_
 refine w_call [rkV vs vb vp R] Try.func26 (by kernel_rfl) (by rfl) rfl ?_
 replace HS := (((HS.front 3 rfl).front 3 rfl).front 3 rfl)
 refine (rfread_any HS hRD hRO hn hp0 hp1 hq0 hq1).mono ?_
 clear HS
 rintro e w13 ⟨v12, rfl, HS⟩
 refine ⟨_, rfl, ?_⟩
 refine p_run _ (x_move (.tuple [v12, .int .u64 (uv (rG S q0 q1)), .int .i64 (reE S q0 q1)].toArray) rfl rfl) rfl ?_
 refine p_run _ (x_extract (vs := [v12, .int .u64 (uv (rG S q0 q1)), .int .i64 (reE S q0 q1)]) 0 (v12) rfl rfl rfl) rfl ?_
 refine p_run (l' := (rkV vs vb vp R :: .pointer (some ⟨g5, 0, none⟩) :: .int .u64 0 :: .int .i64 0 :: U8vrf2 (undef :: .tuple [v12, .int .u64 (uv (rG S q0 q1)), .int .i64 (reE S q0 q1)].toArray :: rkV vs vb vp R :: .tuple [v12, .int .u64 (uv (rG S q0 q1)), .int .i64 (reE S q0 q1)].toArray :: v12 :: .int .u64 (uv (rG S q0 q1)) :: U32vrf2 (U8vrf2 (undef :: undef :: undef :: []))))) _ (x_extract (vs := [v12, .int .u64 (uv (rG S q0 q1)), .int .i64 (reE S q0 q1)]) 1 (.int .u64 (uv (rG S q0 q1))) rfl rfl rfl) rfl ?_
 refine p_run _ (x_extract (vs := [v12, .int .u64 (uv (rG S q0 q1)), .int .i64 (reE S q0 q1)]) 2 (.int .i64 (reE S q0 q1)) rfl rfl rfl) rfl ?_
 refine p_run _ (x_assign (v12) rfl rfl) rfl ?_
 refine p_run _ (x_assign (.int .u64 (uv (rG S q0 q1))) rfl rfl) rfl ?_
 refine p_run _ (x_assign (.int .i64 (reE S q0 q1)) rfl rfl) rfl ?_
 refine wpList_nil ?_
 refine hK9 _ _ ?_
 refine wp_seq_k (fun K14 hK15 => ?_)
 have hT16 : ∀ (q17 : V8) (q18 : V8) (w19 : World), St w0 F w19 (row kByte rfl 5 v12 (rB S q0 q1) :: row kPg rfl 38 vs R.stable :: row Kd.bool rfl 4 vb R.bad :: row kWr rfl 87 vp R.pending :: blk g5 [vs, vb, vp, .bool R.counted, .int .i64 R.left, .bool R.down] 53 :: L) → (lkE S = 0) → K14 (fr (rkV vs vb vp R :: .pointer (some ⟨g5, 0, none⟩) :: q17.a :: q17.b :: v12 :: .int .u64 (uv (rG S q0 q1)) :: .int .i64 (reE S q0 q1) :: U4vrf2 (undef :: undef :: .tuple [v12, .int .u64 (uv (rG S q0 q1)), .int .i64 (reE S q0 q1)].toArray :: rkV vs vb vp R :: .tuple [v12, .int .u64 (uv (rG S q0 q1)), .int .i64 (reE S q0 q1)].toArray :: v12 :: .int .u64 (uv (rG S q0 q1)) :: .int .i64 (reE S q0 q1) :: q17.c :: q17.d :: q17.e :: q17.f :: q17.g :: q17.h :: q18.a :: U32vrf2 (undef :: undef :: undef :: [])))) w19 := by
  clear HS
  intro q17 q18 w19 HS hJ
  refine hK15 _ _ ?_
  have hz := hJ
  have eT : rT S q0 q1 = lkT q0 q1 := if_pos hz
  have eG : rG S q0 q1 = lkG q0 q1 := if_pos hz
  refine wp_seq_k (fun K20 hK21 => ?_)
  refine c_region (fun ops23 hops22 => ?_)
  clear hops22
  refine p_run _ (x_assign (.int .u64 0) rfl rfl) rfl ?_
  refine wpList_nil ?_
  refine hK21 _ _ ?_
  refine wp_seq_k (fun K24 hK25 => ?_)
  refine wp_seq_k (fun K26 hK27 => ?_)
  refine c_region (fun ops29 hops28 => ?_)
  clear hops28
  refine p_run _ (x_assign (.int .i64 0) rfl rfl) rfl ?_
  refine wpList_nil ?_
  obtain ⟨qz30, hqz30⟩ : ∃ q_ : V8, q_ = ⟨v12, .int .u64 (uv (rG S q0 q1)), .int .i64 (reE S q0 q1), q17.c, q17.d, q17.e, q17.f, q17.g⟩ := ⟨_, rfl⟩
  refine fr_at (l' := (rkV vs vb vp R :: .pointer (some ⟨g5, 0, none⟩) :: q17.a :: q17.b :: v12 :: .int .u64 (uv (rG S q0 q1)) :: .int .i64 (reE S q0 q1) :: .int .u64 0 :: .int .i64 0 :: U4vrf2 (.tuple [v12, .int .u64 (uv (rG S q0 q1)), .int .i64 (reE S q0 q1)].toArray :: rkV vs vb vp R :: .tuple [v12, .int .u64 (uv (rG S q0 q1)), .int .i64 (reE S q0 q1)].toArray :: V8.l qz30 (q17.h :: q18.a :: U32vrf2 (undef :: undef :: undef :: []))))) (by subst hqz30; rfl) ?_
  refine hK27 _ _ ?_
  refine wp_block ?_
  refine c_loop (ι := Nat × UInt64) (fun i_ a_ w_ => match i_ with | (j, t) => ∃ (u9 : Value) (u10 : Value) (u11 : Value) (u26 : Value) (u27 : Value) (u28 : Value) (u29 : Value) (u30 : Value) (u31 : Value) (u32 : Value) (u33 : Value) (u34 : Value) (u35 : Value) (u36 : Value) (u37 : Value) (u38 : Value) (u39 : Value) (u40 : Value) (u41 : Value) (u42 : Value) (u43 : Value) (u44 : Value), a_ = fr (rkV vs vb vp R :: .pointer (some ⟨g5, 0, none⟩) :: q17.a :: q17.b :: v12 :: .int .u64 (uv (rG S q0 q1)) :: .int .i64 (reE S q0 q1) :: .int .u64 (uv t) :: .int .i64 (j : Int) :: u9 :: u10 :: u11 :: undef :: .tuple [v12, .int .u64 (uv (rG S q0 q1)), .int .i64 (reE S q0 q1)].toArray :: rkV vs vb vp R :: .tuple [v12, .int .u64 (uv (rG S q0 q1)), .int .i64 (reE S q0 q1)].toArray :: V8.l qz30 (q17.h :: q18.a :: u26 :: u27 :: u28 :: u29 :: u30 :: u31 :: u32 :: u33 :: u34 :: u35 :: u36 :: u37 :: u38 :: u39 :: u40 :: u41 :: u42 :: u43 :: u44 :: U16vrf2 ([]))) ∧ St w0 F w_ (row kByte rfl 5 v12 (rB S q0 q1) :: row kPg rfl 38 vs R.stable :: row Kd.bool rfl 4 vb R.bad :: row kWr rfl 87 vp R.pending :: blk g5 [vs, vb, vp, .bool R.counted, .int .i64 R.left, .bool R.down] 53 :: L) ∧ (j ≤ 2 ∧ t = tJ q0 q1 j)) (fun i_ => match i_ with | (j, t) => 2 - j) (0, 0) ?_ ?_
  ·exact ⟨_, _, _, _, _, _, _, _, _, _, _, _, _, _, _, _, _, _, _, _, _, _, rfl, (((((HS.front 4 rfl).front 4 rfl).front 4 rfl).front 4 rfl).front 4 rfl), ⟨by omega, rfl⟩⟩
  ·clear HS
   rintro ⟨j, t⟩ a_ w33 ⟨u9, u10, u11, u26, u27, u28, u29, u30, u31, u32, u33, u34, u35, u36, u37, u38, u39, u40, u41, u42, u43, u44, rfl, HS, hI⟩ J31 hJ32
   obtain ⟨hj, ht2⟩ := hI
   refine wp_seq_k (fun K34 hK35 => ?_)
   refine wp_seq_k (fun K36 hK37 => ?_)
   refine c_region (fun ops39 hops38 => ?_)
   clear hops38
   refine p_run _ (x_move (.int .i64 (j : Int)) rfl rfl) rfl ?_
   refine p_run _ (x_cmp (k := .i64) (m := (j : Int)) (n := 2) .lss (decide ((j : Int) < 2)) rfl rfl rfl rfl rfl) rfl ?_
   refine wpList_nil ?_
   refine hK37 _ _ ?_
   refine c_cond (t := decide ((j : Int) < 2)) rfl (fun hc40 => ?_) (fun hc40 => ?_)
   ·have hlt : j < 2 := by have := of_decide_eq_true hc40; omega
    have hqj := rq_at hp0 hp1 hlt
    refine wp_skip ?_
    refine hK35 _ _ ?_
    refine wp_seq_k (fun K41 hK42 => ?_)
    refine wp_block ?_
    refine wp_seq_k (fun K43 hK44 => ?_)
    refine c_region (fun ops46 hops45 => ?_)
    clear hops45
    refine p_run _ (x_loads [vs, vb, vp, .bool R.counted, .int .i64 R.left, .bool R.down] 6 rfl rfl (bkCells (HS.get (.tail _ (.tail _ (.tail _ (.tail _ (.head _)))))) 0 _ rfl) (by rfl) (by kernel_rfl) rfl) rfl ?_
    refine p_run _ (x_move (.int .i64 (j : Int)) rfl rfl) rfl ?_
    refine w_call [rkV vs vb vp R, .int .i64 (j : Int)] Try.func43 (by kernel_rfl) (by rfl) rfl ?_
    replace HS := (((HS.front 3 rfl).front 3 rfl).front 3 rfl)
    refine (rkRead_any HS hRO.hb hRO.hT (Nat.le_trans hRO.hpn (by omega)) (j : Int)).mono ?_
    clear HS
    rintro e w47 ⟨he_, HS⟩
    rw [(rd_read hRD (j : Int)).1, (rd_read hRD (j : Int)).2, hqj] at he_
    subst he_
    refine ⟨_, rfl, ?_⟩
    refine p_run _ (x_move (.tuple [.agg ((nums .u8 ((pgI j q0 q1).map bv))).toArray, .int .i64 (S.readE (j : Int))].toArray) rfl rfl) rfl ?_
    refine p_run _ (x_extract (vs := [.agg ((nums .u8 ((pgI j q0 q1).map bv))).toArray, .int .i64 (S.readE (j : Int))]) 0 (.agg ((nums .u8 ((pgI j q0 q1).map bv))).toArray) rfl rfl rfl) rfl ?_
    refine p_run (l' := (rkV vs vb vp R :: .pointer (some ⟨g5, 0, none⟩) :: q17.a :: q17.b :: v12 :: .int .u64 (uv (rG S q0 q1)) :: .int .i64 (reE S q0 q1) :: .int .u64 (uv t) :: .int .i64 (j : Int) :: u9 :: u10 :: u11 :: undef :: .tuple [v12, .int .u64 (uv (rG S q0 q1)), .int .i64 (reE S q0 q1)].toArray :: rkV vs vb vp R :: .tuple [v12, .int .u64 (uv (rG S q0 q1)), .int .i64 (reE S q0 q1)].toArray :: V8.l qz30 (q17.h :: q18.a :: .int .i64 (j : Int) :: .bool (decide ((j : Int) < 2)) :: u28 :: u29 :: .tuple [.agg ((nums .u8 ((pgI j q0 q1).map bv))).toArray, .int .i64 (S.readE (j : Int))].toArray :: rkV vs vb vp R :: .int .i64 (j : Int) :: .tuple [.agg ((nums .u8 ((pgI j q0 q1).map bv))).toArray, .int .i64 (S.readE (j : Int))].toArray :: .agg ((nums .u8 ((pgI j q0 q1).map bv))).toArray :: .int .i64 (S.readE (j : Int)) :: u36 :: u37 :: u38 :: u39 :: u40 :: u41 :: u42 :: u43 :: u44 :: U16vrf2 ([])))) _ (x_extract (vs := [.agg ((nums .u8 ((pgI j q0 q1).map bv))).toArray, .int .i64 (S.readE (j : Int))]) 1 (.int .i64 (S.readE (j : Int))) rfl rfl rfl) rfl ?_
    refine St.wAlloc HS (cs := ((nums .u8 zpg))) (.agg ((nums .u8 zpg)).toArray) (by kernel_rfl) rfl ?_
    clear HS
    intro g48 w49 hg50 HS
    refine St.stores (cs' := ((nums .u8 ((pgI j q0 q1).map bv)))) HS ((nums .u8 ((pgI j q0 q1).map bv))) 256 rfl rfl (nums_one _ _) (by kernel_rfl) (by simp [List.length_map, nums_length, pgI_len hq0 hq1 j]) (by simp [List.length_map, nums_length, pgI_len hq0 hq1 j, zlen]) (lay_all _ _ (by simp [List.length_map, nums_length, pgI_len hq0 hq1 j, zlen])) ?_
    clear HS
    intro w51 HS
    refine p_run _ (x_assign (.int .i64 (S.readE (j : Int))) rfl rfl) rfl ?_
    refine wpList_nil ?_
    refine hK44 _ _ ?_
    refine wp_seq_k (fun K52 hK53 => ?_)
    refine c_region (fun ops55 hops54 => ?_)
    clear hops54
    refine p_run _ (x_assign (.int .i64 0) rfl rfl) rfl ?_
    refine wpList_nil ?_
    refine fr_at (l' := (rkV vs vb vp R :: .pointer (some ⟨g5, 0, none⟩) :: q17.a :: q17.b :: v12 :: .int .u64 (uv (rG S q0 q1)) :: .int .i64 (reE S q0 q1) :: .int .u64 (uv t) :: .int .i64 (j : Int) :: .pointer (some ⟨g48, 0, none⟩) :: .int .i64 (S.readE (j : Int)) :: .int .i64 0 :: undef :: .tuple [v12, .int .u64 (uv (rG S q0 q1)), .int .i64 (reE S q0 q1)].toArray :: rkV vs vb vp R :: .tuple [v12, .int .u64 (uv (rG S q0 q1)), .int .i64 (reE S q0 q1)].toArray :: V8.l qz30 (q17.h :: q18.a :: .int .i64 (j : Int) :: .bool (decide ((j : Int) < 2)) :: u28 :: u29 :: .tuple [.agg ((nums .u8 ((pgI j q0 q1).map bv))).toArray, .int .i64 (S.readE (j : Int))].toArray :: rkV vs vb vp R :: .int .i64 (j : Int) :: .tuple [.agg ((nums .u8 ((pgI j q0 q1).map bv))).toArray, .int .i64 (S.readE (j : Int))].toArray :: .agg ((nums .u8 ((pgI j q0 q1).map bv))).toArray :: .int .i64 (S.readE (j : Int)) :: u36 :: u37 :: u38 :: u39 :: u40 :: u41 :: u42 :: u43 :: u44 :: U16vrf2 ([])))) rfl ?_
    refine hK53 _ _ ?_
    refine wp_block ?_
    refine c_loop (ι := Nat × UInt64) (fun i_ a_ w_ => match i_ with | (k, tt) => ∃ (u36 : Value) (u37 : Value) (u38 : Value) (u39 : Value) (u40 : Value) (u41 : Value) (u42 : Value) (u43 : Value) (u44 : Value), a_ = fr (rkV vs vb vp R :: .pointer (some ⟨g5, 0, none⟩) :: q17.a :: q17.b :: v12 :: .int .u64 (uv (rG S q0 q1)) :: .int .i64 (reE S q0 q1) :: .int .u64 (uv tt) :: .int .i64 (j : Int) :: .pointer (some ⟨g48, 0, none⟩) :: .int .i64 (S.readE (j : Int)) :: .int .i64 ((32 * k : Nat) : Int) :: undef :: .tuple [v12, .int .u64 (uv (rG S q0 q1)), .int .i64 (reE S q0 q1)].toArray :: rkV vs vb vp R :: .tuple [v12, .int .u64 (uv (rG S q0 q1)), .int .i64 (reE S q0 q1)].toArray :: V8.l qz30 (q17.h :: q18.a :: .int .i64 (j : Int) :: .bool (decide ((j : Int) < 2)) :: u28 :: u29 :: .tuple [.agg ((nums .u8 ((pgI j q0 q1).map bv))).toArray, .int .i64 (S.readE (j : Int))].toArray :: rkV vs vb vp R :: .int .i64 (j : Int) :: .tuple [.agg ((nums .u8 ((pgI j q0 q1).map bv))).toArray, .int .i64 (S.readE (j : Int))].toArray :: .agg ((nums .u8 ((pgI j q0 q1).map bv))).toArray :: .int .i64 (S.readE (j : Int)) :: u36 :: u37 :: u38 :: u39 :: u40 :: u41 :: u42 :: u43 :: u44 :: U16vrf2 ([]))) ∧ St w0 F w_ (blk g48 ((nums .u8 ((pgI j q0 q1).map bv))) 38 :: row kPg rfl 38 vs R.stable :: row Kd.bool rfl 4 vb R.bad :: row kWr rfl 87 vp R.pending :: row kByte rfl 5 v12 (rB S q0 q1) :: blk g5 [vs, vb, vp, .bool R.counted, .int .i64 R.left, .bool R.down] 53 :: L) ∧ (k ≤ 8 ∧ tt = topL t ((hdsB (pgI j q0 q1)).take k))) (fun i_ => match i_ with | (k, tt) => 8 - k) (0, t) ?_ ?_
    ·exact ⟨_, _, _, _, _, _, _, _, _, rfl, ((((((HS.front 5 rfl).front 5 rfl).front 5 rfl).front 5 rfl).front 5 rfl).front 5 rfl), ⟨by omega, rfl⟩⟩
    ·clear HS
     rintro ⟨k, tt⟩ a_ w58 ⟨u36, u37, u38, u39, u40, u41, u42, u43, u44, rfl, HS, hI⟩ J56 hJ57
     obtain ⟨hkk, htt⟩ := hI
     refine wp_seq_k (fun K59 hK60 => ?_)
     refine wp_seq_k (fun K61 hK62 => ?_)
     refine c_region (fun ops64 hops63 => ?_)
     clear hops63
     refine p_run _ (x_move (.int .i64 ((32 * k : Nat) : Int)) rfl rfl) rfl ?_
     refine p_run _ (x_cmp (k := .i64) (m := ((32 * k : Nat) : Int)) (n := 256) .lss (decide (((32 * k : Nat) : Int) < 256)) rfl rfl rfl rfl rfl) rfl ?_
     refine wpList_nil ?_
     refine hK62 _ _ ?_
     refine c_cond (t := decide (((32 * k : Nat) : Int) < 256)) rfl (fun hc65 => ?_) (fun hc65 => ?_)
     ·have hk8 : k < 8 := by have := of_decide_eq_true hc65; omega
      refine wp_skip ?_
      refine hK60 _ _ ?_
      refine wp_seq_k (fun K66 hK67 => ?_)
      refine wp_block ?_
      refine c_region (fun ops69 hops68 => ?_)
      clear hops68
      refine p_run _ (x_move (.int .u64 (uv tt)) rfl rfl) rfl ?_
      refine p_run _ (x_loads ((nums .u8 ((pgI j q0 q1).map bv))) 256 rfl rfl (bkCells (HS.get (.head _)) 0 _ (whole _)) (by rfl) (by kernel_rfl) (by simp [List.length_map, nums_length, pgI_len hq0 hq1 j])) rfl ?_
      refine p_run _ (x_move (.int .i64 ((32 * k : Nat) : Int)) rfl rfl) rfl ?_
      refine w_call [.agg ((nums .u8 ((pgI j q0 q1).map bv))).toArray, .int .i64 ((32 * k : Nat) : Int)] Try.func45 (by kernel_rfl) (by rfl) rfl ?_
      refine (rthd_any HS (pgI j q0 q1) (pgI_len hq0 hq1 j) (a := 32 * k) k hk8 rfl).mono ?_
      clear HS
      rintro e w70 ⟨rfl, HS⟩
      refine ⟨_, rfl, ?_⟩
      refine p_run _ (x_max (m := (uv tt)) (n := (uv (hdB (pgI j q0 q1) k))) ((uv (topL t ((hdsB (pgI j q0 q1)).take (k + 1))))) rfl rfl rfl (top_at hk8 htt)) rfl ?_
      refine p_run (l' := (rkV vs vb vp R :: .pointer (some ⟨g5, 0, none⟩) :: q17.a :: q17.b :: v12 :: .int .u64 (uv (rG S q0 q1)) :: .int .i64 (reE S q0 q1) :: .int .u64 (uv (topL t ((hdsB (pgI j q0 q1)).take (k + 1)))) :: .int .i64 (j : Int) :: .pointer (some ⟨g48, 0, none⟩) :: .int .i64 (S.readE (j : Int)) :: .int .i64 ((32 * k : Nat) : Int) :: undef :: .tuple [v12, .int .u64 (uv (rG S q0 q1)), .int .i64 (reE S q0 q1)].toArray :: rkV vs vb vp R :: .tuple [v12, .int .u64 (uv (rG S q0 q1)), .int .i64 (reE S q0 q1)].toArray :: V8.l qz30 (q17.h :: q18.a :: .int .i64 (j : Int) :: .bool (decide ((j : Int) < 2)) :: u28 :: u29 :: .tuple [.agg ((nums .u8 ((pgI j q0 q1).map bv))).toArray, .int .i64 (S.readE (j : Int))].toArray :: rkV vs vb vp R :: .int .i64 (j : Int) :: .tuple [.agg ((nums .u8 ((pgI j q0 q1).map bv))).toArray, .int .i64 (S.readE (j : Int))].toArray :: .agg ((nums .u8 ((pgI j q0 q1).map bv))).toArray :: .int .i64 (S.readE (j : Int)) :: .int .i64 ((32 * k : Nat) : Int) :: .bool (decide (((32 * k : Nat) : Int) < 256)) :: u38 :: u39 :: .int .u64 (uv tt) :: .agg ((nums .u8 ((pgI j q0 q1).map bv))).toArray :: .int .i64 ((32 * k : Nat) : Int) :: .int .u64 (uv (hdB (pgI j q0 q1) k)) :: .int .u64 (uv (topL t ((hdsB (pgI j q0 q1)).take (k + 1)))) :: U16vrf2 ([])))) _ (x_assign (.int .u64 (uv (topL t ((hdsB (pgI j q0 q1)).take (k + 1))))) rfl rfl) rfl ?_
      refine wpList_nil ?_
      refine hK67 _ _ ?_
      refine c_region (fun ops72 hops71 => ?_)
      clear hops71
      refine p_run _ (x_move (.int .i64 ((32 * k : Nat) : Int)) rfl rfl) rfl ?_
      refine p_run _ (x_arith (k := .i64) (m := ((32 * k : Nat) : Int)) (n := 32) .add (((32 * (k + 1) : Nat) : Int)) rfl rfl rfl (show IntKind.i64.wrap (((32 * k : Nat) : Int) + 32) = ((32 * (k + 1) : Nat) : Int) from ((wr64' (by omega)).trans (by omega))) rfl) rfl ?_
      refine p_run _ (x_assign (.int .i64 ((32 * (k + 1) : Nat) : Int)) rfl rfl) rfl ?_
      refine wpList_nil ?_
      refine fr_at (l' := (rkV vs vb vp R :: .pointer (some ⟨g5, 0, none⟩) :: q17.a :: q17.b :: v12 :: .int .u64 (uv (rG S q0 q1)) :: .int .i64 (reE S q0 q1) :: .int .u64 (uv (topL t ((hdsB (pgI j q0 q1)).take (k + 1)))) :: .int .i64 (j : Int) :: .pointer (some ⟨g48, 0, none⟩) :: .int .i64 (S.readE (j : Int)) :: .int .i64 ((32 * (k + 1) : Nat) : Int) :: undef :: .tuple [v12, .int .u64 (uv (rG S q0 q1)), .int .i64 (reE S q0 q1)].toArray :: rkV vs vb vp R :: .tuple [v12, .int .u64 (uv (rG S q0 q1)), .int .i64 (reE S q0 q1)].toArray :: V8.l qz30 (q17.h :: q18.a :: .int .i64 (j : Int) :: .bool (decide ((j : Int) < 2)) :: u28 :: u29 :: .tuple [.agg ((nums .u8 ((pgI j q0 q1).map bv))).toArray, .int .i64 (S.readE (j : Int))].toArray :: rkV vs vb vp R :: .int .i64 (j : Int) :: .tuple [.agg ((nums .u8 ((pgI j q0 q1).map bv))).toArray, .int .i64 (S.readE (j : Int))].toArray :: .agg ((nums .u8 ((pgI j q0 q1).map bv))).toArray :: .int .i64 (S.readE (j : Int)) :: .int .i64 ((32 * k : Nat) : Int) :: .bool (decide (((32 * k : Nat) : Int) < 256)) :: .int .i64 ((32 * k : Nat) : Int) :: .int .i64 ((32 * (k + 1) : Nat) : Int) :: .int .u64 (uv tt) :: .agg ((nums .u8 ((pgI j q0 q1).map bv))).toArray :: .int .i64 ((32 * k : Nat) : Int) :: .int .u64 (uv (hdB (pgI j q0 q1) k)) :: .int .u64 (uv (topL t ((hdsB (pgI j q0 q1)).take (k + 1)))) :: U16vrf2 ([])))) rfl ?_
      refine hJ57 (k + 1, topL t ((hdsB (pgI j q0 q1)).take (k + 1))) _ _ ?_ ?_
      ·show 8 - (k + 1) < 8 - k; omega
      ·exact ⟨_, _, _, _, _, _, _, _, _, rfl, ((((((HS.front 5 rfl).front 5 rfl).front 5 rfl).front 5 rfl).front 5 rfl).front 5 rfl), ⟨(by omega), rfl⟩⟩
     ·have hk8 : k = 8 := by have := of_decide_eq_false hc65; omega
      subst hk8
      rw [List.take_of_length_le (by rw [hdsB, List.length_map, List.length_range]; decide)] at htt
      refine wp_exit ?_
      refine hK42 _ _ ?_
      refine c_region (fun ops74 hops73 => ?_)
      clear hops73
      refine p_run _ (x_move (.int .i64 (j : Int)) rfl rfl) rfl ?_
      refine p_run _ (x_arith (k := .i64) (m := (j : Int)) (n := 1) .add (((j + 1 : Nat) : Int)) rfl rfl rfl (show IntKind.i64.wrap ((j : Int) + 1) = ((j + 1 : Nat) : Int) from ((wr64' (by omega)).trans (by omega))) rfl) rfl ?_
      refine p_run _ (x_assign (.int .i64 ((j + 1 : Nat) : Int)) rfl rfl) rfl ?_
      refine wpList_nil ?_
      refine fr_at (l' := (rkV vs vb vp R :: .pointer (some ⟨g5, 0, none⟩) :: q17.a :: q17.b :: v12 :: .int .u64 (uv (rG S q0 q1)) :: .int .i64 (reE S q0 q1) :: .int .u64 (uv tt) :: .int .i64 ((j + 1 : Nat) : Int) :: .pointer (some ⟨g48, 0, none⟩) :: .int .i64 (S.readE (j : Int)) :: .int .i64 ((32 * 8 : Nat) : Int) :: undef :: .tuple [v12, .int .u64 (uv (rG S q0 q1)), .int .i64 (reE S q0 q1)].toArray :: rkV vs vb vp R :: .tuple [v12, .int .u64 (uv (rG S q0 q1)), .int .i64 (reE S q0 q1)].toArray :: V8.l qz30 (q17.h :: q18.a :: .int .i64 (j : Int) :: .bool (decide ((j : Int) < 2)) :: .int .i64 (j : Int) :: .int .i64 ((j + 1 : Nat) : Int) :: .tuple [.agg ((nums .u8 ((pgI j q0 q1).map bv))).toArray, .int .i64 (S.readE (j : Int))].toArray :: rkV vs vb vp R :: .int .i64 (j : Int) :: .tuple [.agg ((nums .u8 ((pgI j q0 q1).map bv))).toArray, .int .i64 (S.readE (j : Int))].toArray :: .agg ((nums .u8 ((pgI j q0 q1).map bv))).toArray :: .int .i64 (S.readE (j : Int)) :: .int .i64 ((32 * 8 : Nat) : Int) :: .bool (decide (((32 * 8 : Nat) : Int) < 256)) :: u38 :: u39 :: u40 :: u41 :: u42 :: u43 :: u44 :: U16vrf2 ([])))) rfl ?_
      refine hJ32 (j + 1, tt) _ _ ?_ ?_
      ·show 2 - (j + 1) < 2 - j; omega
      ·exact ⟨_, _, _, _, _, _, _, _, _, _, _, _, _, _, _, _, _, _, _, _, _, _, rfl, (((((HS.drop.front 4 rfl).front 3 rfl).front 3 rfl).front 3 rfl).front 4 rfl), ⟨(by omega), by rw [htt, ht2]; exact look_top hlt⟩⟩
   ·have hlt : j = 2 := by have := of_decide_eq_false hc40; omega
    subst hlt
    obtain rfl : t = lkT q0 q1 := ht2
    refine wp_exit ?_
    refine hK25 _ _ ?_
    refine wp_seq_k (fun K75 hK76 => ?_)
    refine wp_seq_k (fun K77 hK78 => ?_)
    rcases next_split S q0 q1 with h | ⟨-, ht⟩ | ⟨-, ht, hg0⟩ | ⟨-, ht, hg0, hpar⟩ | ⟨-, ht, hg0, hpar⟩
    ·exact absurd hz h
    ·refine c_region (fun ops80 hops79 => ?_)
     clear hops79
     refine p_run _ (x_move (.int .u64 (uv (lkT q0 q1))) rfl rfl) rfl ?_
     refine p_run _ (x_cmp (k := .u64) (m := (uv (lkT q0 q1))) (n := 18446744073709551612) .gtr true rfl rfl rfl (show decide (uv (lkT q0 q1) > 18446744073709551612) = true from decide_eq_true (by unfold uv; omega)) rfl) rfl ?_
     refine wpList_nil ?_
     refine hK78 _ _ ?_
     refine c_true rfl ?_
     refine wp_seq_k (fun K81 hK82 => ?_)
     refine c_region (fun ops84 hops83 => ?_)
     clear hops83
     refine p_run _ (x_assign (.int .u64 0) rfl rfl) rfl ?_
     refine p_run _ (x_assign (.int .i64 51) rfl rfl) rfl ?_
     refine wpList_nil ?_
     refine hK82 _ _ ?_
     refine wp_ret ?_
     try simp only [Exit.inBlock, Exit.then]
     refine c_ret (.tuple [.int .u64 0, .int .i64 51].toArray) (r_tmp2 rfl rfl rfl) ?_
     have e1 : nE S q0 q1 = 51 := (if_pos hz).trans (if_pos ht)
     have e2 : nG S q0 q1 = 0 := if_neg (by rw [e1]; decide)
     rw [e1, e2]
     exact ⟨rfl, ((((HS.drop.front 3 rfl).drop.front 2 rfl).front 2 rfl).front 2 rfl)⟩
    ·refine c_region (fun ops86 hops85 => ?_)
     clear hops85
     refine p_run _ (x_move (.int .u64 (uv (lkT q0 q1))) rfl rfl) rfl ?_
     refine p_run _ (x_cmp (k := .u64) (m := (uv (lkT q0 q1))) (n := 18446744073709551612) .gtr false rfl rfl rfl (show decide (uv (lkT q0 q1) > 18446744073709551612) = false from decide_eq_false (by unfold uv; omega)) rfl) rfl ?_
     refine wpList_nil ?_
     obtain ⟨qz87, hqz87⟩ : ∃ q_ : V8, q_ = ⟨q17.h, q18.a, .int .i64 (2 : Int), .bool (decide ((2 : Int) < 2)), u28, u29, u30, u31⟩ := ⟨_, rfl⟩
     obtain ⟨qz88, hqz88⟩ : ∃ q_ : V8, q_ = ⟨u32, u33, u34, u35, u36, u37, u38, u39⟩ := ⟨_, rfl⟩
     refine fr_at (l' := (rkV vs vb vp R :: .pointer (some ⟨g5, 0, none⟩) :: q17.a :: q17.b :: v12 :: .int .u64 (uv (rG S q0 q1)) :: .int .i64 (reE S q0 q1) :: .int .u64 (uv (lkT q0 q1)) :: .int .i64 (2 : Int) :: u9 :: u10 :: u11 :: undef :: .tuple [v12, .int .u64 (uv (rG S q0 q1)), .int .i64 (reE S q0 q1)].toArray :: rkV vs vb vp R :: .tuple [v12, .int .u64 (uv (rG S q0 q1)), .int .i64 (reE S q0 q1)].toArray :: V8.l qz30 (V8.l qz87 (V8.l qz88 (u40 :: u41 :: u42 :: u43 :: u44 :: .int .u64 (uv (lkT q0 q1)) :: .bool false :: U8vrf2 (U4vrf2 (undef :: undef :: []))))))) (by subst hqz87 hqz88; rfl) ?_
     refine hK78 _ _ ?_
     refine c_false rfl ?_
     refine wp_skip ?_
     refine hK76 _ _ ?_
     refine wp_seq_k (fun K89 hK90 => ?_)
     refine c_region (fun ops92 hops91 => ?_)
     clear hops91
     refine p_run _ (x_move (.int .u64 (uv (lkT q0 q1))) rfl rfl) rfl ?_
     refine p_run _ (x_arith (k := .u64) (m := (uv (lkT q0 q1))) (n := 1) .add ((uv (UInt64.ofNat ((lkT q0 q1).toNat + 1)))) rfl rfl rfl (show IntKind.u64.wrap ((uv (lkT q0 q1)) + 1) = (uv (UInt64.ofNat ((lkT q0 q1).toNat + 1))) from (add_one (by omega))) rfl) rfl ?_
     refine p_run _ (x_assign (.int .u64 (uv (UInt64.ofNat ((lkT q0 q1).toNat + 1)))) rfl rfl) rfl ?_
     refine wpList_nil ?_
     refine hK90 _ _ ?_
     refine wp_seq_k (fun K93 hK94 => ?_)
     refine wp_seq_k (fun K95 hK96 => ?_)
     refine c_region (fun ops98 hops97 => ?_)
     refine p_run _ (x_move (.int .u64 (uv (rG S q0 q1))) rfl rfl) rfl ?_
     refine p_run _ (x_cmp (k := .u64) (m := (uv (rG S q0 q1))) (n := 0) .gtr false rfl rfl rfl (by rw [eG, hg0]; decide) rfl) rfl ?_
     refine p_run _ (x_move (.bool false) rfl rfl) rfl ?_
     refine p_off (by rw [hops97]; rfl) rfl ?_
     refine p_off (l' := (rkV vs vb vp R :: .pointer (some ⟨g5, 0, none⟩) :: q17.a :: q17.b :: v12 :: .int .u64 (uv (rG S q0 q1)) :: .int .i64 (reE S q0 q1) :: .int .u64 (uv (lkT q0 q1)) :: .int .i64 (2 : Int) :: u9 :: u10 :: u11 :: .int .u64 (uv (UInt64.ofNat ((lkT q0 q1).toNat + 1))) :: .tuple [v12, .int .u64 (uv (rG S q0 q1)), .int .i64 (reE S q0 q1)].toArray :: rkV vs vb vp R :: .tuple [v12, .int .u64 (uv (rG S q0 q1)), .int .i64 (reE S q0 q1)].toArray :: V8.l qz30 (V8.l qz87 (V8.l qz88 (u40 :: u41 :: u42 :: u43 :: u44 :: .int .u64 (uv (lkT q0 q1)) :: .bool false :: .int .u64 (uv (lkT q0 q1)) :: .int .u64 (uv (UInt64.ofNat ((lkT q0 q1).toNat + 1))) :: .int .u64 (uv (rG S q0 q1)) :: .bool false :: .bool false :: U8vrf2 (undef :: [])))))) (by rw [hops97]; rfl) rfl ?_
     refine p_off (by rw [hops97]; rfl) rfl ?_
     refine p_off (by rw [hops97]; rfl) rfl ?_
     refine p_off (by rw [hops97]; rfl) rfl ?_
     refine p_run _ (x_pick false (undef) (.bool false) (.bool false) rfl rfl rfl rfl rfl) rfl ?_
     clear hops97
     refine wpList_nil ?_
     refine hK96 _ _ ?_
     refine c_false rfl ?_
     refine wp_skip ?_
     refine hK94 _ _ ?_
     refine wp_seq_k (fun K99 hK100 => ?_)
     refine c_region (fun ops102 hops101 => ?_)
     clear hops101
     refine p_run _ (x_move (.int .u64 (uv (UInt64.ofNat ((lkT q0 q1).toNat + 1)))) rfl rfl) rfl ?_
     refine p_run _ (x_assign (.int .u64 (uv (UInt64.ofNat ((lkT q0 q1).toNat + 1)))) rfl rfl) rfl ?_
     refine p_run _ (x_assign (.int .i64 0) rfl rfl) rfl ?_
     refine wpList_nil ?_
     obtain ⟨qz103, hqz103⟩ : ∃ q_ : V8, q_ = ⟨.int .i64 (2 : Int), u9, u10, u11, .int .u64 (uv (UInt64.ofNat ((lkT q0 q1).toNat + 1))), .tuple [v12, .int .u64 (uv (rG S q0 q1)), .int .i64 (reE S q0 q1)].toArray, rkV vs vb vp R, .tuple [v12, .int .u64 (uv (rG S q0 q1)), .int .i64 (reE S q0 q1)].toArray⟩ := ⟨_, rfl⟩
     obtain ⟨qz104, hqz104⟩ : ∃ q_ : V8, q_ = ⟨u40, u41, u42, u43, u44, .int .u64 (uv (lkT q0 q1)), .bool false, .int .u64 (uv (lkT q0 q1))⟩ := ⟨_, rfl⟩
     obtain ⟨qz105, hqz105⟩ : ∃ q_ : V8, q_ = ⟨.int .u64 (uv (UInt64.ofNat ((lkT q0 q1).toNat + 1))), .int .u64 (uv (rG S q0 q1)), .bool false, .bool false, undef, undef, undef, undef⟩ := ⟨_, rfl⟩
     refine fr_at (l' := (rkV vs vb vp R :: .pointer (some ⟨g5, 0, none⟩) :: .int .u64 (uv (UInt64.ofNat ((lkT q0 q1).toNat + 1))) :: .int .i64 0 :: v12 :: .int .u64 (uv (rG S q0 q1)) :: .int .i64 (reE S q0 q1) :: .int .u64 (uv (lkT q0 q1)) :: V8.l qz103 (V8.l qz30 (V8.l qz87 (V8.l qz88 (V8.l qz104 (V8.l qz105 (undef :: .bool false :: undef :: undef :: .int .u64 (uv (UInt64.ofNat ((lkT q0 q1).toNat + 1))) :: [])))))))) (by subst hqz103 hqz104 hqz105; rfl) ?_
     refine hK100 _ _ ?_
     refine wp_ret ?_
     try simp only [Exit.inBlock, Exit.then]
     refine c_ret (.tuple [.int .u64 (uv (UInt64.ofNat ((lkT q0 q1).toNat + 1))), .int .i64 0].toArray) (r_tmp2 rfl rfl rfl) ?_
     have e1 : nE S q0 q1 = 0 := (if_pos hz).trans (if_neg (by omega))
     have e3 : nxN (lkG q0 q1).toNat (lkT q0 q1).toNat = (lkT q0 q1).toNat + 1 := if_neg (fun h => by rw [hg0] at h; exact absurd h.1 (by decide))
     have e2 : nG S q0 q1 = UInt64.ofNat ((lkT q0 q1).toNat + 1) := by unfold nG; rw [if_pos e1, e3]
     rw [e1, e2]
     exact ⟨rfl, ((((HS.drop.front 3 rfl).drop.front 2 rfl).front 2 rfl).front 2 rfl)⟩
    ·refine c_region (fun ops107 hops106 => ?_)
     clear hops106
     refine p_run _ (x_move (.int .u64 (uv (lkT q0 q1))) rfl rfl) rfl ?_
     refine p_run _ (x_cmp (k := .u64) (m := (uv (lkT q0 q1))) (n := 18446744073709551612) .gtr false rfl rfl rfl (show decide (uv (lkT q0 q1) > 18446744073709551612) = false from decide_eq_false (by unfold uv; omega)) rfl) rfl ?_
     refine wpList_nil ?_
     refine hK78 _ _ ?_
     refine c_false rfl ?_
     refine wp_skip ?_
     refine hK76 _ _ ?_
     refine wp_seq_k (fun K108 hK109 => ?_)
     refine c_region (fun ops111 hops110 => ?_)
     clear hops110
     refine p_run _ (x_move (.int .u64 (uv (lkT q0 q1))) rfl rfl) rfl ?_
     refine p_run _ (x_arith (k := .u64) (m := (uv (lkT q0 q1))) (n := 1) .add ((uv (UInt64.ofNat ((lkT q0 q1).toNat + 1)))) rfl rfl rfl (show IntKind.u64.wrap ((uv (lkT q0 q1)) + 1) = (uv (UInt64.ofNat ((lkT q0 q1).toNat + 1))) from (add_one (by omega))) rfl) rfl ?_
     refine p_run _ (x_assign (.int .u64 (uv (UInt64.ofNat ((lkT q0 q1).toNat + 1)))) rfl rfl) rfl ?_
     refine wpList_nil ?_
     refine hK109 _ _ ?_
     refine wp_seq_k (fun K112 hK113 => ?_)
     refine wp_seq_k (fun K114 hK115 => ?_)
     refine c_region (fun ops117 hops116 => ?_)
     refine p_run _ (x_move (.int .u64 (uv (rG S q0 q1))) rfl rfl) rfl ?_
     refine p_run _ (x_cmp (k := .u64) (m := (uv (rG S q0 q1))) (n := 0) .gtr true rfl rfl rfl (show decide (uv (rG S q0 q1) > 0) = true from decide_eq_true (by rw [eG]; exact uv_pos hg0)) rfl) rfl ?_
     refine p_run (l' := (rkV vs vb vp R :: .pointer (some ⟨g5, 0, none⟩) :: q17.a :: q17.b :: v12 :: .int .u64 (uv (rG S q0 q1)) :: .int .i64 (reE S q0 q1) :: .int .u64 (uv (lkT q0 q1)) :: .int .i64 (2 : Int) :: u9 :: u10 :: u11 :: .int .u64 (uv (UInt64.ofNat ((lkT q0 q1).toNat + 1))) :: .tuple [v12, .int .u64 (uv (rG S q0 q1)), .int .i64 (reE S q0 q1)].toArray :: rkV vs vb vp R :: .tuple [v12, .int .u64 (uv (rG S q0 q1)), .int .i64 (reE S q0 q1)].toArray :: V8.l qz30 (q17.h :: q18.a :: .int .i64 (2 : Int) :: .bool (decide ((2 : Int) < 2)) :: u28 :: u29 :: u30 :: u31 :: u32 :: u33 :: u34 :: u35 :: u36 :: u37 :: u38 :: u39 :: u40 :: u41 :: u42 :: u43 :: u44 :: .int .u64 (uv (lkT q0 q1)) :: .bool false :: .int .u64 (uv (lkT q0 q1)) :: .int .u64 (uv (UInt64.ofNat ((lkT q0 q1).toNat + 1))) :: .int .u64 (uv (rG S q0 q1)) :: .bool true :: .bool true :: U8vrf2 (undef :: [])))) _ (x_move (.bool true) rfl rfl) rfl ?_
     refine p_on rfl (by rw [hops116]; rfl) ?_
     refine p_run _ (x_move (.int .u64 (uv (UInt64.ofNat ((lkT q0 q1).toNat + 1)))) rfl rfl) rfl ?_
     refine p_on rfl (by rw [hops116]; rfl) ?_
     refine p_run _ (x_rem (k := .u64) (m := (uv (UInt64.ofNat ((lkT q0 q1).toNat + 1)))) (n := 2) ((uv (UInt64.ofNat ((lkT q0 q1).toNat + 1)) % 2)) rfl rfl rfl (by decide) (mod2 _)) rfl ?_
     refine p_on rfl (by rw [hops116]; rfl) ?_
     refine p_run _ (x_move (.int .u64 (uv (rG S q0 q1))) rfl rfl) rfl ?_
     refine p_on rfl (by rw [hops116]; rfl) ?_
     refine p_run _ (x_rem (k := .u64) (m := (uv (rG S q0 q1))) (n := 2) ((uv (rG S q0 q1) % 2)) rfl rfl rfl (by decide) (mod2 _)) rfl ?_
     refine p_on rfl (by rw [hops116]; rfl) ?_
     refine p_run _ (x_cmp (k := .u64) (m := (uv (UInt64.ofNat ((lkT q0 q1).toNat + 1)) % 2)) (n := (uv (rG S q0 q1) % 2)) .eql true rfl rfl rfl (by rw [eG, ofN_mod (by omega), uv_mod, hpar]; simp [cmpB]) rfl) rfl ?_
     refine p_run _ (x_pick true (.bool true) (.bool false) (.bool true) rfl rfl rfl rfl rfl) rfl ?_
     clear hops116
     refine wpList_nil ?_
     obtain ⟨qz118, hqz118⟩ : ∃ q_ : V8, q_ = ⟨q17.h, q18.a, .int .i64 (2 : Int), .bool (decide ((2 : Int) < 2)), u28, u29, u30, u31⟩ := ⟨_, rfl⟩
     obtain ⟨qz119, hqz119⟩ : ∃ q_ : V8, q_ = ⟨u32, u33, u34, u35, u36, u37, u38, u39⟩ := ⟨_, rfl⟩
     obtain ⟨qz120, hqz120⟩ : ∃ q_ : V8, q_ = ⟨u40, u41, u42, u43, u44, .int .u64 (uv (lkT q0 q1)), .bool false, .int .u64 (uv (lkT q0 q1))⟩ := ⟨_, rfl⟩
     obtain ⟨qz121, hqz121⟩ : ∃ q_ : V8, q_ = ⟨.int .u64 (uv (UInt64.ofNat ((lkT q0 q1).toNat + 1))), .int .u64 (uv (rG S q0 q1)), .bool true, .bool true, .int .u64 (uv (UInt64.ofNat ((lkT q0 q1).toNat + 1))), .int .u64 (uv (UInt64.ofNat ((lkT q0 q1).toNat + 1)) % 2), .int .u64 (uv (rG S q0 q1)), .int .u64 (uv (rG S q0 q1) % 2)⟩ := ⟨_, rfl⟩
     refine fr_at (l' := (rkV vs vb vp R :: .pointer (some ⟨g5, 0, none⟩) :: q17.a :: q17.b :: v12 :: .int .u64 (uv (rG S q0 q1)) :: .int .i64 (reE S q0 q1) :: .int .u64 (uv (lkT q0 q1)) :: .int .i64 (2 : Int) :: u9 :: u10 :: u11 :: .int .u64 (uv (UInt64.ofNat ((lkT q0 q1).toNat + 1))) :: .tuple [v12, .int .u64 (uv (rG S q0 q1)), .int .i64 (reE S q0 q1)].toArray :: rkV vs vb vp R :: .tuple [v12, .int .u64 (uv (rG S q0 q1)), .int .i64 (reE S q0 q1)].toArray :: V8.l qz30 (V8.l qz118 (V8.l qz119 (V8.l qz120 (V8.l qz121 (.bool true :: .bool true :: undef :: undef :: undef :: []))))))) (by subst hqz118 hqz119 hqz120 hqz121; rfl) ?_
     refine hK115 _ _ ?_
     refine c_true rfl ?_
     refine c_region (fun ops123 hops122 => ?_)
     clear hops122
     refine p_run _ (x_move (.int .u64 (uv (UInt64.ofNat ((lkT q0 q1).toNat + 1)))) rfl rfl) rfl ?_
     refine p_run _ (x_arith (k := .u64) (m := (uv (UInt64.ofNat ((lkT q0 q1).toNat + 1)))) (n := 1) .add ((uv (UInt64.ofNat ((lkT q0 q1).toNat + 1 + 1)))) rfl rfl rfl (show IntKind.u64.wrap ((uv (UInt64.ofNat ((lkT q0 q1).toNat + 1))) + 1) = (uv (UInt64.ofNat ((lkT q0 q1).toNat + 1 + 1))) from (add_two (by omega))) rfl) rfl ?_
     refine p_run _ (x_assign (.int .u64 (uv (UInt64.ofNat ((lkT q0 q1).toNat + 1 + 1)))) rfl rfl) rfl ?_
     refine wpList_nil ?_
     refine hK113 _ _ ?_
     refine wp_seq_k (fun K124 hK125 => ?_)
     refine c_region (fun ops127 hops126 => ?_)
     clear hops126
     refine p_run _ (x_move (.int .u64 (uv (UInt64.ofNat ((lkT q0 q1).toNat + 1 + 1)))) rfl rfl) rfl ?_
     refine p_run _ (x_assign (.int .u64 (uv (UInt64.ofNat ((lkT q0 q1).toNat + 1 + 1)))) rfl rfl) rfl ?_
     refine p_run _ (x_assign (.int .i64 0) rfl rfl) rfl ?_
     refine wpList_nil ?_
     obtain ⟨qz128, hqz128⟩ : ∃ q_ : V8, q_ = ⟨.int .i64 (2 : Int), u9, u10, u11, .int .u64 (uv (UInt64.ofNat ((lkT q0 q1).toNat + 1 + 1))), .tuple [v12, .int .u64 (uv (rG S q0 q1)), .int .i64 (reE S q0 q1)].toArray, rkV vs vb vp R, .tuple [v12, .int .u64 (uv (rG S q0 q1)), .int .i64 (reE S q0 q1)].toArray⟩ := ⟨_, rfl⟩
     refine fr_at (l' := (rkV vs vb vp R :: .pointer (some ⟨g5, 0, none⟩) :: .int .u64 (uv (UInt64.ofNat ((lkT q0 q1).toNat + 1 + 1))) :: .int .i64 0 :: v12 :: .int .u64 (uv (rG S q0 q1)) :: .int .i64 (reE S q0 q1) :: .int .u64 (uv (lkT q0 q1)) :: V8.l qz128 (V8.l qz30 (V8.l qz118 (V8.l qz119 (V8.l qz120 (V8.l qz121 (.bool true :: .bool true :: .int .u64 (uv (UInt64.ofNat ((lkT q0 q1).toNat + 1))) :: .int .u64 (uv (UInt64.ofNat ((lkT q0 q1).toNat + 1 + 1))) :: .int .u64 (uv (UInt64.ofNat ((lkT q0 q1).toNat + 1 + 1))) :: [])))))))) (by subst hqz128; rfl) ?_
     refine hK125 _ _ ?_
     refine wp_ret ?_
     try simp only [Exit.inBlock, Exit.then]
     refine c_ret (.tuple [.int .u64 (uv (UInt64.ofNat ((lkT q0 q1).toNat + 1 + 1))), .int .i64 0].toArray) (r_tmp2 rfl rfl rfl) ?_
     have e1 : nE S q0 q1 = 0 := (if_pos hz).trans (if_neg (by omega))
     have e3 : nxN (lkG q0 q1).toNat (lkT q0 q1).toNat = (lkT q0 q1).toNat + 1 + 1 := if_pos ⟨toN_pos hg0, hpar⟩
     have e2 : nG S q0 q1 = UInt64.ofNat ((lkT q0 q1).toNat + 1 + 1) := by unfold nG; rw [if_pos e1, e3]
     rw [e1, e2]
     exact ⟨rfl, ((((HS.drop.front 3 rfl).drop.front 2 rfl).front 2 rfl).front 2 rfl)⟩
    ·refine c_region (fun ops130 hops129 => ?_)
     clear hops129
     refine p_run _ (x_move (.int .u64 (uv (lkT q0 q1))) rfl rfl) rfl ?_
     refine p_run _ (x_cmp (k := .u64) (m := (uv (lkT q0 q1))) (n := 18446744073709551612) .gtr false rfl rfl rfl (show decide (uv (lkT q0 q1) > 18446744073709551612) = false from decide_eq_false (by unfold uv; omega)) rfl) rfl ?_
     refine wpList_nil ?_
     refine hK78 _ _ ?_
     refine c_false rfl ?_
     refine wp_skip ?_
     refine hK76 _ _ ?_
     refine wp_seq_k (fun K131 hK132 => ?_)
     refine c_region (fun ops134 hops133 => ?_)
     clear hops133
     refine p_run _ (x_move (.int .u64 (uv (lkT q0 q1))) rfl rfl) rfl ?_
     refine p_run _ (x_arith (k := .u64) (m := (uv (lkT q0 q1))) (n := 1) .add ((uv (UInt64.ofNat ((lkT q0 q1).toNat + 1)))) rfl rfl rfl (show IntKind.u64.wrap ((uv (lkT q0 q1)) + 1) = (uv (UInt64.ofNat ((lkT q0 q1).toNat + 1))) from (add_one (by omega))) rfl) rfl ?_
     refine p_run _ (x_assign (.int .u64 (uv (UInt64.ofNat ((lkT q0 q1).toNat + 1)))) rfl rfl) rfl ?_
     refine wpList_nil ?_
     refine hK132 _ _ ?_
     refine wp_seq_k (fun K135 hK136 => ?_)
     refine wp_seq_k (fun K137 hK138 => ?_)
     refine c_region (fun ops140 hops139 => ?_)
     refine p_run _ (x_move (.int .u64 (uv (rG S q0 q1))) rfl rfl) rfl ?_
     refine p_run _ (x_cmp (k := .u64) (m := (uv (rG S q0 q1))) (n := 0) .gtr true rfl rfl rfl (show decide (uv (rG S q0 q1) > 0) = true from decide_eq_true (by rw [eG]; exact uv_pos hg0)) rfl) rfl ?_
     refine p_run (l' := (rkV vs vb vp R :: .pointer (some ⟨g5, 0, none⟩) :: q17.a :: q17.b :: v12 :: .int .u64 (uv (rG S q0 q1)) :: .int .i64 (reE S q0 q1) :: .int .u64 (uv (lkT q0 q1)) :: .int .i64 (2 : Int) :: u9 :: u10 :: u11 :: .int .u64 (uv (UInt64.ofNat ((lkT q0 q1).toNat + 1))) :: .tuple [v12, .int .u64 (uv (rG S q0 q1)), .int .i64 (reE S q0 q1)].toArray :: rkV vs vb vp R :: .tuple [v12, .int .u64 (uv (rG S q0 q1)), .int .i64 (reE S q0 q1)].toArray :: V8.l qz30 (q17.h :: q18.a :: .int .i64 (2 : Int) :: .bool (decide ((2 : Int) < 2)) :: u28 :: u29 :: u30 :: u31 :: u32 :: u33 :: u34 :: u35 :: u36 :: u37 :: u38 :: u39 :: u40 :: u41 :: u42 :: u43 :: u44 :: .int .u64 (uv (lkT q0 q1)) :: .bool false :: .int .u64 (uv (lkT q0 q1)) :: .int .u64 (uv (UInt64.ofNat ((lkT q0 q1).toNat + 1))) :: .int .u64 (uv (rG S q0 q1)) :: .bool true :: .bool true :: U8vrf2 (undef :: [])))) _ (x_move (.bool true) rfl rfl) rfl ?_
     refine p_on rfl (by rw [hops139]; rfl) ?_
     refine p_run _ (x_move (.int .u64 (uv (UInt64.ofNat ((lkT q0 q1).toNat + 1)))) rfl rfl) rfl ?_
     refine p_on rfl (by rw [hops139]; rfl) ?_
     refine p_run _ (x_rem (k := .u64) (m := (uv (UInt64.ofNat ((lkT q0 q1).toNat + 1)))) (n := 2) ((uv (UInt64.ofNat ((lkT q0 q1).toNat + 1)) % 2)) rfl rfl rfl (by decide) (mod2 _)) rfl ?_
     refine p_on rfl (by rw [hops139]; rfl) ?_
     refine p_run _ (x_move (.int .u64 (uv (rG S q0 q1))) rfl rfl) rfl ?_
     refine p_on rfl (by rw [hops139]; rfl) ?_
     refine p_run _ (x_rem (k := .u64) (m := (uv (rG S q0 q1))) (n := 2) ((uv (rG S q0 q1) % 2)) rfl rfl rfl (by decide) (mod2 _)) rfl ?_
     refine p_on rfl (by rw [hops139]; rfl) ?_
     refine p_run _ (x_cmp (k := .u64) (m := (uv (UInt64.ofNat ((lkT q0 q1).toNat + 1)) % 2)) (n := (uv (rG S q0 q1) % 2)) .eql false rfl rfl rfl (by rw [eG, ofN_mod (by omega), uv_mod]; simp [cmpB]; omega) rfl) rfl ?_
     refine p_run _ (x_pick true (.bool false) (.bool false) (.bool false) rfl rfl rfl rfl rfl) rfl ?_
     clear hops139
     refine wpList_nil ?_
     obtain ⟨qz141, hqz141⟩ : ∃ q_ : V8, q_ = ⟨q17.h, q18.a, .int .i64 (2 : Int), .bool (decide ((2 : Int) < 2)), u28, u29, u30, u31⟩ := ⟨_, rfl⟩
     obtain ⟨qz142, hqz142⟩ : ∃ q_ : V8, q_ = ⟨u32, u33, u34, u35, u36, u37, u38, u39⟩ := ⟨_, rfl⟩
     obtain ⟨qz143, hqz143⟩ : ∃ q_ : V8, q_ = ⟨u40, u41, u42, u43, u44, .int .u64 (uv (lkT q0 q1)), .bool false, .int .u64 (uv (lkT q0 q1))⟩ := ⟨_, rfl⟩
     obtain ⟨qz144, hqz144⟩ : ∃ q_ : V8, q_ = ⟨.int .u64 (uv (UInt64.ofNat ((lkT q0 q1).toNat + 1))), .int .u64 (uv (rG S q0 q1)), .bool true, .bool true, .int .u64 (uv (UInt64.ofNat ((lkT q0 q1).toNat + 1))), .int .u64 (uv (UInt64.ofNat ((lkT q0 q1).toNat + 1)) % 2), .int .u64 (uv (rG S q0 q1)), .int .u64 (uv (rG S q0 q1) % 2)⟩ := ⟨_, rfl⟩
     refine fr_at (l' := (rkV vs vb vp R :: .pointer (some ⟨g5, 0, none⟩) :: q17.a :: q17.b :: v12 :: .int .u64 (uv (rG S q0 q1)) :: .int .i64 (reE S q0 q1) :: .int .u64 (uv (lkT q0 q1)) :: .int .i64 (2 : Int) :: u9 :: u10 :: u11 :: .int .u64 (uv (UInt64.ofNat ((lkT q0 q1).toNat + 1))) :: .tuple [v12, .int .u64 (uv (rG S q0 q1)), .int .i64 (reE S q0 q1)].toArray :: rkV vs vb vp R :: .tuple [v12, .int .u64 (uv (rG S q0 q1)), .int .i64 (reE S q0 q1)].toArray :: V8.l qz30 (V8.l qz141 (V8.l qz142 (V8.l qz143 (V8.l qz144 (.bool false :: .bool false :: undef :: undef :: undef :: []))))))) (by subst hqz141 hqz142 hqz143 hqz144; rfl) ?_
     refine hK138 _ _ ?_
     refine c_false rfl ?_
     refine wp_skip ?_
     refine hK136 _ _ ?_
     refine wp_seq_k (fun K145 hK146 => ?_)
     refine c_region (fun ops148 hops147 => ?_)
     clear hops147
     refine p_run _ (x_move (.int .u64 (uv (UInt64.ofNat ((lkT q0 q1).toNat + 1)))) rfl rfl) rfl ?_
     refine p_run _ (x_assign (.int .u64 (uv (UInt64.ofNat ((lkT q0 q1).toNat + 1)))) rfl rfl) rfl ?_
     refine p_run _ (x_assign (.int .i64 0) rfl rfl) rfl ?_
     refine wpList_nil ?_
     refine hK146 _ _ ?_
     refine wp_ret ?_
     try simp only [Exit.inBlock, Exit.then]
     refine c_ret (.tuple [.int .u64 (uv (UInt64.ofNat ((lkT q0 q1).toNat + 1))), .int .i64 0].toArray) (r_tmp2 rfl rfl rfl) ?_
     have e1 : nE S q0 q1 = 0 := (if_pos hz).trans (if_neg (by omega))
     have e3 : nxN (lkG q0 q1).toNat (lkT q0 q1).toNat = (lkT q0 q1).toNat + 1 := if_neg (fun h => hpar h.2)
     have e2 : nG S q0 q1 = UInt64.ofNat ((lkT q0 q1).toNat + 1) := by unfold nG; rw [if_pos e1, e3]
     rw [e1, e2]
     exact ⟨rfl, ((((HS.drop.front 3 rfl).drop.front 2 rfl).front 2 rfl).front 2 rfl)⟩
 clear hK15
 refine wp_seq_k (fun K149 hK150 => ?_)
 rcases lk_three S q0 q1 with hz | ⟨hz, hg0⟩ | ⟨hz, hg0⟩
 ·have eE : reE S q0 q1 = lkE S := if_neg hz
  refine c_region (fun ops152 hops151 => ?_)
  refine p_run _ (x_move (.int .i64 (reE S q0 q1)) rfl rfl) rfl ?_
  refine p_run _ (x_cmp (k := .i64) (m := (reE S q0 q1)) (n := 0) .neq true rfl rfl rfl (by rw [eE]; simpa [cmpB] using hz) rfl) rfl ?_
  refine p_run _ (x_move (.bool true) rfl rfl) rfl ?_
  refine p_on rfl (by rw [hops151]; rfl) ?_
  refine p_run _ (x_move (.int .i64 (reE S q0 q1)) rfl rfl) rfl ?_
  refine p_on rfl (by rw [hops151]; rfl) ?_
  refine p_run (l' := (rkV vs vb vp R :: .pointer (some ⟨g5, 0, none⟩) :: .int .u64 0 :: .int .i64 0 :: v12 :: .int .u64 (uv (rG S q0 q1)) :: .int .i64 (reE S q0 q1) :: U4vrf2 (undef :: undef :: .tuple [v12, .int .u64 (uv (rG S q0 q1)), .int .i64 (reE S q0 q1)].toArray :: rkV vs vb vp R :: .tuple [v12, .int .u64 (uv (rG S q0 q1)), .int .i64 (reE S q0 q1)].toArray :: v12 :: .int .u64 (uv (rG S q0 q1)) :: .int .i64 (reE S q0 q1) :: .int .i64 (reE S q0 q1) :: .bool true :: .bool true :: .int .i64 (reE S q0 q1) :: .bool true :: U32vrf2 (U4vrf2 (undef :: []))))) _ (x_cmp (k := .i64) (m := (reE S q0 q1)) (n := 51) .neq true rfl rfl rfl (by rw [eE]; simpa [cmpB] using lkE_ne S) rfl) rfl ?_
  refine p_run _ (x_pick true (.bool true) (.bool false) (.bool true) rfl rfl rfl rfl rfl) rfl ?_
  clear hops151
  refine wpList_nil ?_
  refine hK150 _ _ ?_
  refine c_true rfl ?_
  refine wp_seq_k (fun K153 hK154 => ?_)
  refine c_region (fun ops156 hops155 => ?_)
  clear hops155
  refine p_run _ (x_move (.int .i64 (reE S q0 q1)) rfl rfl) rfl ?_
  refine p_run _ (x_assign (.int .u64 0) rfl rfl) rfl ?_
  refine p_run _ (x_assign (.int .i64 (reE S q0 q1)) rfl rfl) rfl ?_
  refine wpList_nil ?_
  refine hK154 _ _ ?_
  refine wp_ret ?_
  try simp only [Exit.inBlock, Exit.then]
  refine c_ret (.tuple [.int .u64 0, .int .i64 (reE S q0 q1)].toArray) (r_tmp2 rfl rfl rfl) ?_
  have e1 : nE S q0 q1 = lkE S := if_neg hz
  have e2 : nG S q0 q1 = 0 := if_neg (by rw [e1]; exact hz)
  rw [eE, e1, e2]
  exact ⟨rfl, ((((HS.drop.front 3 rfl).drop.front 2 rfl).front 2 rfl).front 2 rfl)⟩
 ·have eE : reE S q0 q1 = 51 := (if_pos hz).trans (if_pos hg0)
  refine c_region (fun ops158 hops157 => ?_)
  refine p_run _ (x_move (.int .i64 (reE S q0 q1)) rfl rfl) rfl ?_
  refine p_run _ (x_cmp (k := .i64) (m := (reE S q0 q1)) (n := 0) .neq true rfl rfl rfl (by rw [eE]; rfl) rfl) rfl ?_
  refine p_run _ (x_move (.bool true) rfl rfl) rfl ?_
  refine p_on rfl (by rw [hops157]; rfl) ?_
  refine p_run (l' := (rkV vs vb vp R :: .pointer (some ⟨g5, 0, none⟩) :: .int .u64 0 :: .int .i64 0 :: v12 :: .int .u64 (uv (rG S q0 q1)) :: .int .i64 (reE S q0 q1) :: U4vrf2 (undef :: undef :: .tuple [v12, .int .u64 (uv (rG S q0 q1)), .int .i64 (reE S q0 q1)].toArray :: rkV vs vb vp R :: .tuple [v12, .int .u64 (uv (rG S q0 q1)), .int .i64 (reE S q0 q1)].toArray :: v12 :: .int .u64 (uv (rG S q0 q1)) :: .int .i64 (reE S q0 q1) :: .int .i64 (reE S q0 q1) :: .bool true :: .bool true :: .int .i64 (reE S q0 q1) :: U32vrf2 (U4vrf2 (undef :: undef :: []))))) _ (x_move (.int .i64 (reE S q0 q1)) rfl rfl) rfl ?_
  refine p_on rfl (by rw [hops157]; rfl) ?_
  refine p_run _ (x_cmp (k := .i64) (m := (reE S q0 q1)) (n := 51) .neq false rfl rfl rfl (by rw [eE]; rfl) rfl) rfl ?_
  refine p_run _ (x_pick true (.bool false) (.bool false) (.bool false) rfl rfl rfl rfl rfl) rfl ?_
  clear hops157
  refine wpList_nil ?_
  refine hK150 _ _ ?_
  refine c_false rfl ?_
  refine wp_skip ?_
  exact hT16 ⟨.int .u64 0, .int .i64 0, .int .i64 (reE S q0 q1), .bool true, .bool true, .int .i64 (reE S q0 q1), .bool false, .bool false⟩ ⟨undef, undef, undef, undef, undef, undef, undef, undef⟩ _ (((((HS.front 4 rfl).front 4 rfl).front 4 rfl).front 4 rfl).front 4 rfl) hz
 ·have eE : reE S q0 q1 = 0 := (if_pos hz).trans (if_neg hg0)
  refine c_region (fun ops160 hops159 => ?_)
  refine p_run _ (x_move (.int .i64 (reE S q0 q1)) rfl rfl) rfl ?_
  refine p_run _ (x_cmp (k := .i64) (m := (reE S q0 q1)) (n := 0) .neq false rfl rfl rfl (by rw [eE]; rfl) rfl) rfl ?_
  refine p_run _ (x_move (.bool false) rfl rfl) rfl ?_
  refine p_off (by rw [hops159]; rfl) rfl ?_
  refine p_off (by rw [hops159]; rfl) rfl ?_
  refine p_run (l' := (rkV vs vb vp R :: .pointer (some ⟨g5, 0, none⟩) :: .int .u64 0 :: .int .i64 0 :: v12 :: .int .u64 (uv (rG S q0 q1)) :: .int .i64 (reE S q0 q1) :: U4vrf2 (undef :: undef :: .tuple [v12, .int .u64 (uv (rG S q0 q1)), .int .i64 (reE S q0 q1)].toArray :: rkV vs vb vp R :: .tuple [v12, .int .u64 (uv (rG S q0 q1)), .int .i64 (reE S q0 q1)].toArray :: v12 :: .int .u64 (uv (rG S q0 q1)) :: .int .i64 (reE S q0 q1) :: .int .i64 (reE S q0 q1) :: .bool false :: .bool false :: undef :: undef :: .bool false :: U32vrf2 (U4vrf2 ([]))))) _ (x_pick false (undef) (.bool false) (.bool false) rfl rfl rfl rfl rfl) rfl ?_
  clear hops159
  refine wpList_nil ?_
  refine hK150 _ _ ?_
  refine c_false rfl ?_
  refine wp_skip ?_
  exact hT16 ⟨.int .u64 0, .int .i64 0, .int .i64 (reE S q0 q1), .bool false, .bool false, undef, undef, .bool false⟩ ⟨undef, undef, undef, undef, undef, undef, undef, undef⟩ _ (((((HS.front 4 rfl).front 4 rfl).front 4 rfl).front 4 rfl).front 4 rfl) hz
def w1R (S : Dk) (R : Rk) (q0 q1 xs : List UInt8) : Rk := R.put (wI S q0 q1 : Int) ((wP S q0 q1 xs).map bv)
def wR (S : Dk) (R : Rk) (q0 q1 xs : List UInt8) : Rk := if xs.length ≤ 186 ∧ nE S q0 q1 = 0 then (if S.writeE (wI S q0 q1 : Int) = 0 then (w1R S R q0 q1 xs).sync else w1R S R q0 q1 xs) else R
theorem rd_w1 (hRD : RD S R) (xs : List UInt8) : RD (w1S S q0 q1 xs) (w1R S R q0 q1 xs) := (rd_write hRD _ _).1
theorem rd_wS (hRD : RD S R) (hg : S.good n) (xs : List UInt8) : RD (wS S q0 q1 xs) (wR S R q0 q1 xs) := by
 unfold wS wR
 split
 ·split
  ·exact rd_sync (rd_w1 hRD xs) (good_w1 hg xs)
  ·exact rd_w1 hRD xs
 ·exact hRD
set_option maxRecDepth 10000 in
set_option maxHeartbeats 2000000 in
theorem rfput_any (HS : St w0 F W (rk vs vb vp R L)) (hRD : RD S R) (hRO : RO R n) (hn : n ≤ 900) (hp0 : S.readP 0 = q0.map bv) (hp1 : S.readP 1 = q1.map bv) (hq0 : q0.length = 256) (hq1 : q1.length = 256) (hG : S.good n) {A : Option Addr} {c : Nat} (xs : List UInt8) (hc : ∀ w X, St w0 F w (X ++ L) → Rd w A xs ∧ xs.length ≤ c) : Calls Try.prog 19 #[rkV vs vb vp R, .slice A xs.length c] W fun e w' => ∃ vs' vb' vp', e = .returned (.tuple #[rkV vs' vb' vp' (wR S R q0 q1 xs), .int .u64 (uv (wG S q0 q1 xs)), .int .i64 (wE S q0 q1 xs)]) ∧ St w0 F w' (rk vs' vb' vp' (wR S R q0 q1 xs) L) := by
 by_cases hl : xs.length ≤ 186
 ·refine c_enter Try.func19 rfl 50 rfl (rkV vs vb vp R :: .slice A xs.length c :: U32vrf2 (U16vrf2 ([]))) rfl ?_
  refine wp_seq_k (fun K1 hK2 => ?_)
  refine c_region (fun ops4 hops3 => ?_)
  clear hops3
  refine St.wBox HS (cs := [vs, vb, vp, .bool R.counted, .int .i64 R.left, .bool R.down]) (rkV vs vb vp R) rfl rfl ?_
  clear HS
  intro g5 w6 hg7 HS
  refine St.wAlloc HS (cs := [.slice none 0 0, .slice none 0 0, .slice none 0 0, .bool false, .int .i64 0, .bool false]) (.agg [.slice none 0 0, .slice none 0 0, .slice none 0 0, .bool false, .int .i64 0, .bool false].toArray) (by kernel_rfl) rfl ?_
  clear HS
  intro g8 w9 hg10 HS
  refine p_run _ (x_assign (.int .u64 0) rfl rfl) rfl ?_
  refine p_run _ (x_assign (.int .i64 0) rfl rfl) rfl ?_
  refine wpList_nil ?_
  refine hK2 _ _ ?_
  refine wp_seq_k (fun K11 hK12 => ?_)
  refine wp_seq_k (fun K13 hK14 => ?_)
  refine c_region (fun ops16 hops15 => ?_)
  clear hops15
  refine p_run _ (x_move (.slice A xs.length c) rfl rfl) rfl ?_
  refine p_run _ (x_len rfl rfl Try.underlying24) rfl ?_
  refine p_run _ (x_cmp (k := .i64) (m := (xs.length : Int)) (n := 186) .gtr false rfl rfl rfl (show decide ((xs.length : Int) > 186) = false from decide_eq_false (by omega)) rfl) rfl ?_
  refine wpList_nil ?_
  refine fr_at (l' := (rkV vs vb vp R :: .slice A xs.length c :: .pointer (some ⟨g5, 0, none⟩) :: undef :: .pointer (some ⟨g8, 0, none⟩) :: .int .u64 0 :: .int .i64 0 :: U4vrf2 (.slice A xs.length c :: .int .i64 (xs.length : Int) :: .bool false :: U32vrf2 (U4vrf2 ([]))))) rfl ?_
  refine hK14 _ _ ?_
  refine c_false rfl ?_
  refine wp_skip ?_
  refine hK12 _ _ ?_
  refine wp_seq_k (fun K17 hK18 => ?_)
  refine c_region (fun ops20 hops19 => ?_)
  clear hops19
  refine p_run _ (x_loads [vs, vb, vp, .bool R.counted, .int .i64 R.left, .bool R.down] 6 rfl rfl (bkCells (HS.get (.tail _ (.head _))) 0 _ rfl) (by rfl) (by kernel_rfl) rfl) rfl ?_
  refine w_call [rkV vs vb vp R] Try.func27 (by kernel_rfl) (by rfl) rfl ?_
  replace HS := (((HS.front 4 rfl).front 4 rfl).front 4 rfl)
  refine (rfnext_any HS hRD hRO hn hp0 hp1 hq0 hq1).mono ?_
  clear HS
  rintro e w21 ⟨rfl, HS⟩
  refine ⟨_, rfl, ?_⟩
  refine p_run _ (x_move (.tuple [.int .u64 (uv (nG S q0 q1)), .int .i64 (nE S q0 q1)].toArray) rfl rfl) rfl ?_
  refine p_run _ (x_extract (vs := [.int .u64 (uv (nG S q0 q1)), .int .i64 (nE S q0 q1)]) 0 (.int .u64 (uv (nG S q0 q1))) rfl rfl rfl) rfl ?_
  refine p_run _ (x_extract (vs := [.int .u64 (uv (nG S q0 q1)), .int .i64 (nE S q0 q1)]) 1 (.int .i64 (nE S q0 q1)) rfl rfl rfl) rfl ?_
  refine p_run _ (x_assign (.int .u64 (uv (nG S q0 q1))) rfl rfl) rfl ?_
  refine p_run _ (x_assign (.int .i64 (nE S q0 q1)) rfl rfl) rfl ?_
  refine wpList_nil ?_
  refine fr_at (l' := (rkV vs vb vp R :: .slice A xs.length c :: .pointer (some ⟨g5, 0, none⟩) :: undef :: .pointer (some ⟨g8, 0, none⟩) :: .int .u64 0 :: .int .i64 0 :: .int .u64 (uv (nG S q0 q1)) :: .int .i64 (nE S q0 q1) :: undef :: undef :: .slice A xs.length c :: .int .i64 (xs.length : Int) :: .bool false :: undef :: .tuple [.int .u64 (uv (nG S q0 q1)), .int .i64 (nE S q0 q1)].toArray :: rkV vs vb vp R :: .tuple [.int .u64 (uv (nG S q0 q1)), .int .i64 (nE S q0 q1)].toArray :: .int .u64 (uv (nG S q0 q1)) :: .int .i64 (nE S q0 q1) :: U16vrf2 (U8vrf2 (U4vrf2 (undef :: undef :: []))))) rfl ?_
  refine hK18 _ _ ?_
  refine wp_seq_k (fun K22 hK23 => ?_)
  refine wp_seq_k (fun K24 hK25 => ?_)
  by_cases hnz : nE S q0 q1 = 0
  ·refine c_region (fun ops27 hops26 => ?_)
   clear hops26
   refine p_run _ (x_move (.int .i64 (nE S q0 q1)) rfl rfl) rfl ?_
   refine p_run _ (x_cmp (k := .i64) (m := (nE S q0 q1)) (n := 0) .neq false rfl rfl rfl (by rw [hnz]; rfl) rfl) rfl ?_
   refine wpList_nil ?_
   refine hK25 _ _ ?_
   refine c_false rfl ?_
   refine wp_skip ?_
   refine hK23 _ _ ?_
   refine wp_seq_k (fun K28 hK29 => ?_)
   refine free_frame (n := 13) (T := _) [0, 0, 2, 6, 0, 0, 48, 127, 255, 511, 511, 1023, 4095] [(0, 25), (1, 26), (2, 27), (3, 28), (4, 29), (5, 30), (6, 31), (7, 32), (8, 24), (9, 33), (10, 34), (12, 9)] (fun bq_ vq_ w_ => qv ((fun i_ => match i_ with | 0 => some (rkV vs vb vp R) | 1 => some (.int .u64 (uv (nG S q0 q1))) | 2 => some (.int .u64 (uv (nG S q0 q1) % 2)) | 3 => some (.int .i64 (wI S q0 q1 : Int)) | 4 => some (.int .u64 (uv (nG S q0 q1))) | 5 => some (.slice A xs.length c) | 10 => some (.int .i64 (S.writeE (wI S q0 q1 : Int))) | 12 => some (.int .i64 (S.writeE (wI S q0 q1 : Int))) | _ => none) : Nat → Option Value) bq_ vq_ ∧ cond (bq_ 11) (∃ (v33 : Value), vq_ 6 = .agg ((nums .u8 ((wP S q0 q1 xs).map bv))).toArray ∧ vq_ 7 = .tuple [rkV vs vb v33 (w1R S R q0 q1 xs), .int .i64 (S.writeE (wI S q0 q1 : Int))].toArray ∧ vq_ 8 = .tuple [rkV vs vb v33 (w1R S R q0 q1 xs), .int .i64 (S.writeE (wI S q0 q1 : Int))].toArray ∧ vq_ 9 = rkV vs vb v33 (w1R S R q0 q1 xs) ∧ St w0 F w_ (blk g5 [vs, vb, v33, .bool ((w1R S R q0 q1 xs).counted), .int .i64 ((w1R S R q0 q1 xs).left), .bool ((w1R S R q0 q1 xs).down)] 53 :: row kPg rfl 38 vs ((w1R S R q0 q1 xs).stable) :: row Kd.bool rfl 4 vb ((w1R S R q0 q1 xs).bad) :: row kWr rfl 87 v33 ((w1R S R q0 q1 xs).pending) :: blk g8 [.slice none 0 0, .slice none 0 0, .slice none 0 0, .bool false, .int .i64 0, .bool false] 53 :: L)) (cond (bq_ 9) (∃ (v33 : Value), vq_ 6 = .agg ((nums .u8 ((wP S q0 q1 xs).map bv))).toArray ∧ vq_ 7 = .tuple [rkV vs vb v33 (w1R S R q0 q1 xs), .int .i64 (S.writeE (wI S q0 q1 : Int))].toArray ∧ vq_ 8 = .tuple [rkV vs vb v33 (w1R S R q0 q1 xs), .int .i64 (S.writeE (wI S q0 q1 : Int))].toArray ∧ vq_ 9 = rkV vs vb v33 (w1R S R q0 q1 xs) ∧ St w0 F w_ (row kPg rfl 38 vs ((w1R S R q0 q1 xs).stable) :: row Kd.bool rfl 4 vb ((w1R S R q0 q1 xs).bad) :: row kWr rfl 87 v33 ((w1R S R q0 q1 xs).pending) :: blk g8 [.slice none 0 0, .slice none 0 0, .slice none 0 0, .bool false, .int .i64 0, .bool false] 53 :: blk g5 [vs, vb, vp, .bool R.counted, .int .i64 R.left, .bool R.down] 53 :: L)) (cond (bq_ 8) (∃ (v33 : Value), vq_ 6 = .agg ((nums .u8 ((wP S q0 q1 xs).map bv))).toArray ∧ vq_ 7 = .tuple [rkV vs vb v33 (w1R S R q0 q1 xs), .int .i64 (S.writeE (wI S q0 q1 : Int))].toArray ∧ vq_ 8 = .tuple [rkV vs vb v33 (w1R S R q0 q1 xs), .int .i64 (S.writeE (wI S q0 q1 : Int))].toArray ∧ St w0 F w_ (row kPg rfl 38 vs ((w1R S R q0 q1 xs).stable) :: row Kd.bool rfl 4 vb ((w1R S R q0 q1 xs).bad) :: row kWr rfl 87 v33 ((w1R S R q0 q1 xs).pending) :: blk g8 [.slice none 0 0, .slice none 0 0, .slice none 0 0, .bool false, .int .i64 0, .bool false] 53 :: blk g5 [vs, vb, vp, .bool R.counted, .int .i64 R.left, .bool R.down] 53 :: L)) (cond (bq_ 7) (∃ (v33 : Value), vq_ 6 = .agg ((nums .u8 ((wP S q0 q1 xs).map bv))).toArray ∧ vq_ 7 = .tuple [rkV vs vb v33 (w1R S R q0 q1 xs), .int .i64 (S.writeE (wI S q0 q1 : Int))].toArray ∧ St w0 F w_ (row kPg rfl 38 vs ((w1R S R q0 q1 xs).stable) :: row Kd.bool rfl 4 vb ((w1R S R q0 q1 xs).bad) :: row kWr rfl 87 v33 ((w1R S R q0 q1 xs).pending) :: blk g8 [.slice none 0 0, .slice none 0 0, .slice none 0 0, .bool false, .int .i64 0, .bool false] 53 :: blk g5 [vs, vb, vp, .bool R.counted, .int .i64 R.left, .bool R.down] 53 :: L)) (cond (bq_ 6) (vq_ 6 = .agg ((nums .u8 ((wP S q0 q1 xs).map bv))).toArray ∧ St w0 F w_ (row kPg rfl 38 vs R.stable :: row Kd.bool rfl 4 vb R.bad :: row kWr rfl 87 vp R.pending :: blk g8 [.slice none 0 0, .slice none 0 0, .slice none 0 0, .bool false, .int .i64 0, .bool false] 53 :: blk g5 [vs, vb, vp, .bool R.counted, .int .i64 R.left, .bool R.down] 53 :: L)) ((St w0 F w_ (row kPg rfl 38 vs R.stable :: row Kd.bool rfl 4 vb R.bad :: row kWr rfl 87 vp R.pending :: blk g8 [.slice none 0 0, .slice none 0 0, .slice none 0 0, .bool false, .int .i64 0, .bool false] 53 :: blk g5 [vs, vb, vp, .bool R.counted, .int .i64 R.left, .bool R.down] 53 :: L)))))))) (by kernel_rfl) rfl rfl (by kernel_rfl) (by kernel_rfl) rfl (by kernel_rfl) (by kernel_rfl) ⟨qv_none, HS.draw⟩ ?_ ?_
   ·clear HS
    intro i_ hi_ bq_ vq_ a_ w_ hG hb_ hon hoff hfr hel hval
    obtain ⟨hV, hE⟩ := hG
    have hi_ := List.mem_range.1 hi_
    obtain ⟨l_, rfl⟩ := hfr
    have hv_ := fun (j t : Nat) (v : Value) (h1 : (j, t) ∈ [(0, 25), (1, 26), (2, 27), (3, 28), (4, 29), (5, 30), (6, 31), (7, 32), (8, 24), (9, 33), (10, 34), (12, 9)]) h2 h3 => (hval (j, t) h1 h3).trans (congrArg some (hV j v h2 h3))
    have hcs : i_ = 0 ∨ i_ = 1 ∨ i_ = 2 ∨ i_ = 3 ∨ i_ = 4 ∨ i_ = 5 ∨ i_ = 6 ∨ i_ = 7 ∨ i_ = 8 ∨ i_ = 9 ∨ i_ = 10 ∨ i_ = 11 ∨ i_ = 12 := by omega
    rcases hcs with rfl | rfl | rfl | rfl | rfl | rfl | rfl | rfl | rfl | rfl | rfl | rfl | rfl
    ·rcases hq6 : bq_ 6 with _ | _
     ·have hE0 := hE
      rw [show bq_ 11 = false from (hoff 11 (by decide))] at hE0
      rw [show bq_ 9 = false from (hoff 9 (by decide))] at hE0
      rw [show bq_ 8 = false from (hoff 8 (by decide))] at hE0
      rw [show bq_ 7 = false from (hoff 7 (by decide))] at hE0
      rw [show bq_ 6 = false from hq6] at hE0
      simp only [cond_true, cond_false] at hE0
      have HS := hE0
      have e2 : evl l_ (.tmp 2) = .pointer (some ⟨g5, 0, none⟩) := evl_of ((hel 2 (by decide)).trans rfl)
      exact ⟨_, rfl, fun K_ hK_ => q_op _ (x_loads [vs, vb, vp, .bool R.counted, .int .i64 R.left, .bool R.down] 6 rfl e2 (bkCells (HS.get (.tail _ (.tail _ (.tail _ (.tail _ (.head _)))))) 0 _ rfl) (by rfl) (by kernel_rfl) rfl) (hK_ _ _ ⟨qv_up hV (fun _ h => Option.some.inj h), hE⟩)⟩
     ·have hE0 := hE
      rw [show bq_ 11 = false from (hoff 11 (by decide))] at hE0
      rw [show bq_ 9 = false from (hoff 9 (by decide))] at hE0
      rw [show bq_ 8 = false from (hoff 8 (by decide))] at hE0
      rw [show bq_ 7 = false from (hoff 7 (by decide))] at hE0
      rw [show bq_ 6 = true from hq6] at hE0
      simp only [cond_true, cond_false] at hE0
      obtain ⟨hv6, HS⟩ := hE0
      have e2 : evl l_ (.tmp 2) = .pointer (some ⟨g5, 0, none⟩) := evl_of ((hel 2 (by decide)).trans rfl)
      exact ⟨_, rfl, fun K_ hK_ => q_op _ (x_loads [vs, vb, vp, .bool R.counted, .int .i64 R.left, .bool R.down] 6 rfl e2 (bkCells (HS.get (.tail _ (.tail _ (.tail _ (.tail _ (.head _)))))) 0 _ rfl) (by rfl) (by kernel_rfl) rfl) (hK_ _ _ ⟨qv_up hV (fun _ h => Option.some.inj h), hE⟩)⟩
    ·have e7 : evl l_ (.tmp 7) = .int .u64 (uv (nG S q0 q1)) := evl_of ((hel 7 (by decide)).trans rfl)
     exact ⟨_, rfl, fun K_ hK_ => q_op _ (x_move (.int .u64 (uv (nG S q0 q1))) rfl e7) (hK_ _ _ ⟨qv_up hV (fun _ h => Option.some.inj h), hE⟩)⟩
    ·have e26 : evl l_ (.tmp 26) = .int .u64 (uv (nG S q0 q1)) := evl_of (hv_ 1 26 _ (by decide) rfl (hon 1 (by decide)))
     exact ⟨_, rfl, fun K_ hK_ => q_op _ (x_rem (k := .u64) (m := (uv (nG S q0 q1))) (n := 2) ((uv (nG S q0 q1) % 2)) rfl e26 rfl (by decide) (mod2 _)) (hK_ _ _ ⟨qv_up hV (fun _ h => Option.some.inj h), hE⟩)⟩
    ·have e27 : evl l_ (.tmp 27) = .int .u64 (uv (nG S q0 q1) % 2) := evl_of (hv_ 2 27 _ (by decide) rfl (hon 2 (by decide)))
     exact ⟨_, rfl, fun K_ hK_ => q_op _ (x_conv (k := .u64) (m := (uv (nG S q0 q1) % 2)) .i64 ((wI S q0 q1 : Int)) rfl (by rw [Try.underlying25]; rfl) Try.underlying3 e27 ((conv_mod _).trans (uv_mod _))) (hK_ _ _ ⟨qv_up hV (fun _ h => Option.some.inj h), hE⟩)⟩
    ·have e7 : evl l_ (.tmp 7) = .int .u64 (uv (nG S q0 q1)) := evl_of ((hel 7 (by decide)).trans rfl)
     exact ⟨_, rfl, fun K_ hK_ => q_op _ (x_move (.int .u64 (uv (nG S q0 q1))) rfl e7) (hK_ _ _ ⟨qv_up hV (fun _ h => Option.some.inj h), hE⟩)⟩
    ·have e1 : evl l_ (.tmp 1) = .slice A xs.length c := evl_of ((hel 1 (by decide)).trans rfl)
     exact ⟨_, rfl, fun K_ hK_ => q_op _ (x_move (.slice A xs.length c) rfl e1) (hK_ _ _ ⟨qv_up hV (fun _ h => Option.some.inj h), hE⟩)⟩
    ·have h29 : (fr l_).tmps[29]? = some (.int .u64 (uv (nG S q0 q1))) := hv_ 4 29 _ (by decide) rfl (hon 4 (by decide))
     have h30 : (fr l_).tmps[30]? = some (.slice A xs.length c) := hv_ 5 30 _ (by decide) rfl (hon 5 (by decide))
     have hE0 := hE
     rw [show bq_ 11 = false from (hoff 11 (by decide))] at hE0
     rw [show bq_ 9 = false from (hoff 9 (by decide))] at hE0
     rw [show bq_ 8 = false from (hoff 8 (by decide))] at hE0
     rw [show bq_ 7 = false from (hoff 7 (by decide))] at hE0
     rw [show bq_ 6 = false from hb_] at hE0
     simp only [cond_true, cond_false] at hE0
     have HS := hE0
     have e29 : evl l_ (.tmp 29) = .int .u64 (uv (nG S q0 q1)) := evl_of h29
     have e30 : evl l_ (.tmp 30) = .slice A xs.length c := evl_of h30
     refine ⟨_, rfl, fun K_ hK_ => wp_of_list rfl ?_⟩
     intro ops_
     refine w_call [.int .u64 (uv (nG S q0 q1)), .slice A xs.length c] Try.func20 (by kernel_rfl) (by rfl) (by simp only [List.map_cons, List.map_nil, e29, e30] <;> rfl) ?_
     refine (rtpage_any HS (nG S q0 q1) xs (fun w X hX => hc w (X ++ [row kPg rfl 38 vs R.stable, row Kd.bool rfl 4 vb R.bad, row kWr rfl 87 vp R.pending, blk g8 [.slice none 0 0, .slice none 0 0, .slice none 0 0, .bool false, .int .i64 0, .bool false] 53, blk g5 [vs, vb, vp, .bool R.counted, .int .i64 R.left, .bool R.down] 53]) (by rw [List.append_assoc]; exact hX)) (by omega)).mono ?_
     clear HS
     rintro e w900601 ⟨rfl, HS⟩
     refine ⟨_, rfl, ?_⟩
     refine wpList_nil ?_
     refine norm_put (hK_ (.agg ((nums .u8 ((wP S q0 q1 xs).map bv))).toArray) _ ⟨qv_up hV (by intro _ h; cases h), ?_⟩)
     show cond (bq_ 11) _ _
     rw [show bq_ 11 = false from hoff 11 (by decide), cond_false]
     show cond (bq_ 9) _ _
     rw [show bq_ 9 = false from hoff 9 (by decide), cond_false]
     show cond (bq_ 8) _ _
     rw [show bq_ 8 = false from hoff 8 (by decide), cond_false]
     show cond (bq_ 7) _ _
     rw [show bq_ 7 = false from hoff 7 (by decide), cond_false]
     show cond true _ _
     rw [cond_true]
     exact ⟨rfl, (((((HS.front 4 rfl).front 4 rfl).front 4 rfl).front 4 rfl).front 4 rfl)⟩
    ·have h25 : (fr l_).tmps[25]? = some (rkV vs vb vp R) := hv_ 0 25 _ (by decide) rfl (hon 0 (by decide))
     have h28 : (fr l_).tmps[28]? = some (.int .i64 (wI S q0 q1 : Int)) := hv_ 3 28 _ (by decide) rfl (hon 3 (by decide))
     have h31 := hval (6, 31) (by decide) (hon 6 (by decide))
     have hE0 := hE
     rw [show bq_ 11 = false from (hoff 11 (by decide))] at hE0
     rw [show bq_ 9 = false from (hoff 9 (by decide))] at hE0
     rw [show bq_ 8 = false from (hoff 8 (by decide))] at hE0
     rw [show bq_ 7 = false from hb_] at hE0
     rw [show bq_ 6 = true from (hon 6 (by decide))] at hE0
     simp only [cond_true, cond_false] at hE0
     obtain ⟨hv6, HS⟩ := hE0
     rw [hv6] at h31
     have e25 : evl l_ (.tmp 25) = rkV vs vb vp R := evl_of h25
     have e28 : evl l_ (.tmp 28) = .int .i64 (wI S q0 q1 : Int) := evl_of h28
     have e31 : evl l_ (.tmp 31) = .agg ((nums .u8 ((wP S q0 q1 xs).map bv))).toArray := evl_of h31
     refine ⟨_, rfl, fun K_ hK_ => wp_of_list rfl ?_⟩
     intro ops_
     refine w_call [rkV vs vb vp R, .int .i64 (wI S q0 q1 : Int), .agg ((nums .u8 ((wP S q0 q1 xs).map bv))).toArray] Try.func21 (by kernel_rfl) (by rfl) (by simp only [List.map_cons, List.map_nil, e25, e28, e31] <;> rfl) ?_
     replace HS := (((HS.front 2 rfl).front 2 rfl).front 2 rfl)
     refine (rkPut_any HS hRO.hl (Nat.le_trans hRO.hpn (by omega)) (wI S q0 q1 : Int) ((wP S q0 q1 xs).map bv) (wP_len S q0 q1 xs)).mono ?_
     clear HS
     rintro e w900702 ⟨v900701, he_, HS⟩
     rw [(rd_write hRD (wI S q0 q1 : Int) ((wP S q0 q1 xs).map bv)).2] at he_
     subst he_
     refine ⟨_, rfl, ?_⟩
     refine wpList_nil ?_
     refine norm_put (hK_ (.tuple ([rkV vs vb v900701 (w1R S R q0 q1 xs), .int .i64 (S.writeE (wI S q0 q1 : Int))] : List Value).toArray) _ ⟨qv_up hV (by intro _ h; cases h), ?_⟩)
     show cond (bq_ 11) _ _
     rw [show bq_ 11 = false from hoff 11 (by decide), cond_false]
     show cond (bq_ 9) _ _
     rw [show bq_ 9 = false from hoff 9 (by decide), cond_false]
     show cond (bq_ 8) _ _
     rw [show bq_ 8 = false from hoff 8 (by decide), cond_false]
     show cond true _ _
     rw [cond_true]
     exact ⟨v900701, hv6, rfl, (((((HS.front 4 rfl).front 4 rfl).front 4 rfl).front 4 rfl).front 4 rfl)⟩
    ·have h32 := hval (7, 32) (by decide) (hon 7 (by decide))
     have hE0 := hE
     rw [show bq_ 11 = false from (hoff 11 (by decide))] at hE0
     rw [show bq_ 9 = false from (hoff 9 (by decide))] at hE0
     rw [show bq_ 8 = false from hb_] at hE0
     rw [show bq_ 7 = true from (hon 7 (by decide))] at hE0
     simp only [cond_true, cond_false] at hE0
     obtain ⟨v33, hv6, hv7, HS⟩ := hE0
     rw [hv7] at h32
     have e32 : evl l_ (.tmp 32) = .tuple [rkV vs vb v33 (w1R S R q0 q1 xs), .int .i64 (S.writeE (wI S q0 q1 : Int))].toArray := evl_of h32
     refine ⟨_, rfl, fun K_ hK_ => wp_of_list rfl ?_⟩
     intro ops_
     refine p_run _ (x_move (.tuple [rkV vs vb v33 (w1R S R q0 q1 xs), .int .i64 (S.writeE (wI S q0 q1 : Int))].toArray) rfl e32) rfl ?_
     refine wpList_nil ?_
     refine norm_put (hK_ (.tuple ([rkV vs vb v33 (w1R S R q0 q1 xs), .int .i64 (S.writeE (wI S q0 q1 : Int))] : List Value).toArray) _ ⟨qv_up hV (by intro _ h; cases h), ?_⟩)
     show cond (bq_ 11) _ _
     rw [show bq_ 11 = false from hoff 11 (by decide), cond_false]
     show cond (bq_ 9) _ _
     rw [show bq_ 9 = false from hoff 9 (by decide), cond_false]
     show cond true _ _
     rw [cond_true]
     exact ⟨v33, hv6, hv7, rfl, (((((HS.front 4 rfl).front 4 rfl).front 4 rfl).front 4 rfl).front 4 rfl)⟩
    ·have h24 := hval (8, 24) (by decide) (hon 8 (by decide))
     have hE0 := hE
     rw [show bq_ 11 = false from (hoff 11 (by decide))] at hE0
     rw [show bq_ 9 = false from hb_] at hE0
     rw [show bq_ 8 = true from (hon 8 (by decide))] at hE0
     simp only [cond_true, cond_false] at hE0
     obtain ⟨v33, hv6, hv7, hv8, HS⟩ := hE0
     rw [hv8] at h24
     have e24 : evl l_ (.tmp 24) = .tuple [rkV vs vb v33 (w1R S R q0 q1 xs), .int .i64 (S.writeE (wI S q0 q1 : Int))].toArray := evl_of h24
     refine ⟨_, rfl, fun K_ hK_ => wp_of_list rfl ?_⟩
     intro ops_
     refine p_run _ (x_extract (vs := [rkV vs vb v33 (w1R S R q0 q1 xs), .int .i64 (S.writeE (wI S q0 q1 : Int))]) 0 (rkV vs vb v33 (w1R S R q0 q1 xs)) rfl e24 rfl) rfl ?_
     refine wpList_nil ?_
     refine norm_put (hK_ (rkV vs vb v33 (w1R S R q0 q1 xs)) _ ⟨qv_up hV (by intro _ h; cases h), ?_⟩)
     show cond (bq_ 11) _ _
     rw [show bq_ 11 = false from hoff 11 (by decide), cond_false]
     show cond true _ _
     rw [cond_true]
     exact ⟨v33, hv6, hv7, hv8, rfl, (((((HS.front 4 rfl).front 4 rfl).front 4 rfl).front 4 rfl).front 4 rfl)⟩
    ·have h24 := hval (8, 24) (by decide) (hon 8 (by decide))
     rcases hq11 : bq_ 11 with _ | _
     ·rcases hq9 : bq_ 9 with _ | _
      ·have hE0 := hE
       rw [show bq_ 11 = false from hq11] at hE0
       rw [show bq_ 9 = false from hq9] at hE0
       rw [show bq_ 8 = true from (hon 8 (by decide))] at hE0
       simp only [cond_true, cond_false] at hE0
       obtain ⟨v33, hv6, hv7, hv8, HS⟩ := hE0
       rw [hv8] at h24
       have e24 : evl l_ (.tmp 24) = .tuple [rkV vs vb v33 (w1R S R q0 q1 xs), .int .i64 (S.writeE (wI S q0 q1 : Int))].toArray := evl_of h24
       exact ⟨_, rfl, fun K_ hK_ => q_op _ (x_extract (vs := [rkV vs vb v33 (w1R S R q0 q1 xs), .int .i64 (S.writeE (wI S q0 q1 : Int))]) 1 (.int .i64 (S.writeE (wI S q0 q1 : Int))) rfl e24 rfl) (hK_ _ _ ⟨qv_up hV (fun _ h => Option.some.inj h), hE⟩)⟩
      ·have hE0 := hE
       rw [show bq_ 11 = false from hq11] at hE0
       rw [show bq_ 9 = true from hq9] at hE0
       simp only [cond_true, cond_false] at hE0
       obtain ⟨v33, hv6, hv7, hv8, hv9, HS⟩ := hE0
       rw [hv8] at h24
       have e24 : evl l_ (.tmp 24) = .tuple [rkV vs vb v33 (w1R S R q0 q1 xs), .int .i64 (S.writeE (wI S q0 q1 : Int))].toArray := evl_of h24
       exact ⟨_, rfl, fun K_ hK_ => q_op _ (x_extract (vs := [rkV vs vb v33 (w1R S R q0 q1 xs), .int .i64 (S.writeE (wI S q0 q1 : Int))]) 1 (.int .i64 (S.writeE (wI S q0 q1 : Int))) rfl e24 rfl) (hK_ _ _ ⟨qv_up hV (fun _ h => Option.some.inj h), hE⟩)⟩
     ·have hE0 := hE
      rw [show bq_ 11 = true from hq11] at hE0
      simp only [cond_true, cond_false] at hE0
      obtain ⟨v33, hv6, hv7, hv8, hv9, HS⟩ := hE0
      rw [hv8] at h24
      have e24 : evl l_ (.tmp 24) = .tuple [rkV vs vb v33 (w1R S R q0 q1 xs), .int .i64 (S.writeE (wI S q0 q1 : Int))].toArray := evl_of h24
      exact ⟨_, rfl, fun K_ hK_ => q_op _ (x_extract (vs := [rkV vs vb v33 (w1R S R q0 q1 xs), .int .i64 (S.writeE (wI S q0 q1 : Int))]) 1 (.int .i64 (S.writeE (wI S q0 q1 : Int))) rfl e24 rfl) (hK_ _ _ ⟨qv_up hV (fun _ h => Option.some.inj h), hE⟩)⟩
    ·have h2 : (fr l_).tmps[2]? = some (.pointer (some ⟨g5, 0, none⟩)) := (hel 2 (by decide)).trans rfl
     have h33 := hval (9, 33) (by decide) (hon 9 (by decide))
     have hE0 := hE
     rw [show bq_ 11 = false from hb_] at hE0
     rw [show bq_ 9 = true from (hon 9 (by decide))] at hE0
     simp only [cond_true, cond_false] at hE0
     obtain ⟨v33, hv6, hv7, hv8, hv9, HS⟩ := hE0
     rw [hv9] at h33
     have e2 : evl l_ (.tmp 2) = .pointer (some ⟨g5, 0, none⟩) := evl_of h2
     have e33 : evl l_ (.tmp 33) = rkV vs vb v33 (w1R S R q0 q1 xs) := evl_of h33
     refine ⟨_, rfl, fun K_ hK_ => wp_of_list rfl ?_⟩
     intro ops_
     refine St.stores (cs' := [vs, vb, v33, .bool ((w1R S R q0 q1 xs).counted), .int .i64 ((w1R S R q0 q1 xs).left), .bool ((w1R S R q0 q1 xs).down)]) (HS.front 4 rfl) [vs, vb, v33, .bool ((w1R S R q0 q1 xs).counted), .int .i64 ((w1R S R q0 q1 xs).left), .bool ((w1R S R q0 q1 xs).down)] 6 e2 e33 (all1 (row_one (HS.get (.head _))) (all1 (row_one (HS.get (.tail _ (.head _)))) (all1 (row_one (HS.get (.tail _ (.tail _ (.head _))))) (all1 rfl (all1 rfl (all1 rfl rfl)))))) (by kernel_rfl) rfl (by simp) rfl ?_
     clear HS
     intro w901101 HS
     refine wpList_nil ?_
     refine norm_none (hK_ undef _ ⟨qv_up hV (by intro _ h; cases h), ?_⟩)
     show cond true _ _
     rw [cond_true]
     exact ⟨v33, hv6, hv7, hv8, hv9, (((((HS.front 4 rfl).front 4 rfl).front 4 rfl).front 4 rfl).front 4 rfl)⟩
    ·have e34 : evl l_ (.tmp 34) = .int .i64 (S.writeE (wI S q0 q1 : Int)) := evl_of (hv_ 10 34 _ (by decide) rfl (hon 10 (by decide)))
     exact ⟨_, rfl, fun K_ hK_ => q_op _ (x_assign (.int .i64 (S.writeE (wI S q0 q1 : Int))) rfl e34) (hK_ _ _ ⟨qv_up hV (fun _ h => Option.some.inj h), hE⟩)⟩
   intro bq_ vq_ w_ hall hG
   obtain ⟨hV, hE⟩ := hG
   clear HS
   rw [show bq_ 11 = true from hall 11 (by decide)] at hE
   simp only [cond_true] at hE
   obtain ⟨v33, hv6, hv7, hv8, hv9, HS⟩ := hE
   have hv0 := hV 0 _ rfl (hall 0 (by decide))
   have hv1 := hV 1 _ rfl (hall 1 (by decide))
   have hv2 := hV 2 _ rfl (hall 2 (by decide))
   have hv3 := hV 3 _ rfl (hall 3 (by decide))
   have hv4 := hV 4 _ rfl (hall 4 (by decide))
   have hv5 := hV 5 _ rfl (hall 5 (by decide))
   have hv10 := hV 10 _ rfl (hall 10 (by decide))
   have hv12 := hV 12 _ rfl (hall 12 (by decide))
   clear hV hall
   rw [putSel_fr]
   simp only [tells, List.map_cons, List.map_nil, setAll, List.set_cons_succ, List.set_cons_zero, hv0, hv1, hv2, hv3, hv4, hv5, hv6, hv7, hv8, hv9, hv10, hv12]
   clear hv0 hv1 hv2 hv3 hv4 hv5 hv6 hv7 hv8 hv9 hv10 hv12
   generalize w_ = w901102 at HS ⊢
   refine fr_at (l' := (rkV vs vb vp R :: .slice A xs.length c :: .pointer (some ⟨g5, 0, none⟩) :: undef :: .pointer (some ⟨g8, 0, none⟩) :: .int .u64 0 :: .int .i64 0 :: .int .u64 (uv (nG S q0 q1)) :: .int .i64 (nE S q0 q1) :: .int .i64 (S.writeE (wI S q0 q1 : Int)) :: undef :: .slice A xs.length c :: .int .i64 (xs.length : Int) :: .bool false :: undef :: .tuple [.int .u64 (uv (nG S q0 q1)), .int .i64 (nE S q0 q1)].toArray :: rkV vs vb vp R :: .tuple [.int .u64 (uv (nG S q0 q1)), .int .i64 (nE S q0 q1)].toArray :: .int .u64 (uv (nG S q0 q1)) :: .int .i64 (nE S q0 q1) :: .int .i64 (nE S q0 q1) :: .bool false :: undef :: undef :: .tuple [rkV vs vb v33 (w1R S R q0 q1 xs), .int .i64 (S.writeE (wI S q0 q1 : Int))].toArray :: rkV vs vb vp R :: .int .u64 (uv (nG S q0 q1)) :: .int .u64 (uv (nG S q0 q1) % 2) :: .int .i64 (wI S q0 q1 : Int) :: .int .u64 (uv (nG S q0 q1)) :: .slice A xs.length c :: .agg ((nums .u8 ((wP S q0 q1 xs).map bv))).toArray :: .tuple [rkV vs vb v33 (w1R S R q0 q1 xs), .int .i64 (S.writeE (wI S q0 q1 : Int))].toArray :: rkV vs vb v33 (w1R S R q0 q1 xs) :: .int .i64 (S.writeE (wI S q0 q1 : Int)) :: U8vrf2 (U4vrf2 (undef :: undef :: undef :: [])))) rfl ?_
   refine hK29 _ _ ?_
   refine wp_seq_k (fun K901103 hK901104 => ?_)
   refine wp_seq_k (fun K901105 hK901106 => ?_)
   by_cases hwz : S.writeE (wI S q0 q1 : Int) = 0
   ·refine c_region (fun ops901108 hops901107 => ?_)
    clear hops901107
    refine p_run _ (x_move (.int .i64 (S.writeE (wI S q0 q1 : Int))) rfl rfl) rfl ?_
    refine p_run _ (x_cmp (k := .i64) (m := (S.writeE (wI S q0 q1 : Int))) (n := 0) .neq false rfl rfl rfl (by rw [hwz]; rfl) rfl) rfl ?_
    refine wpList_nil ?_
    refine hK901106 _ _ ?_
    refine c_false rfl ?_
    refine wp_skip ?_
    refine hK901104 _ _ ?_
    refine wp_seq_k (fun K901109 hK901110 => ?_)
    refine c_region (fun ops901112 hops901111 => ?_)
    clear hops901111
    refine p_run _ (x_loads [vs, vb, v33, .bool ((w1R S R q0 q1 xs).counted), .int .i64 ((w1R S R q0 q1 xs).left), .bool ((w1R S R q0 q1 xs).down)] 6 rfl rfl (bkCells (HS.get (.head _)) 0 _ rfl) (by rfl) (by kernel_rfl) rfl) rfl ?_
    refine w_call [rkV vs vb v33 (w1R S R q0 q1 xs)] Try.func37 (by kernel_rfl) (by rfl) rfl ?_
    replace HS := (((HS.front 3 rfl).front 3 rfl).front 3 rfl)
    have hO1 := rd_ok (rd_w1 (q0 := q0) (q1 := q1) hRD xs) (good_w1 hG xs)
    refine (rkSync_any HS hO1.hT hO1.hpd (Nat.le_trans hO1.hpn (by omega)) hO1.hsl hO1.hl).mono ?_
    clear HS
    rintro e w901115 ⟨v901113, v901114, he_, HS⟩
    rw [rd_actE (rd_w1 hRD xs)] at he_
    subst he_
    refine ⟨_, rfl, ?_⟩
    refine p_run _ (x_move (.tuple [.agg ([v901113, vb, v901114, .bool (((w1R S R q0 q1 xs).sync).counted), .int .i64 (((w1R S R q0 q1 xs).sync).left), .bool (((w1R S R q0 q1 xs).sync).down)] : List Value).toArray, .int .i64 ((w1S S q0 q1 xs).actE)].toArray) rfl rfl) rfl ?_
    refine p_run _ (x_extract (vs := [.agg ([v901113, vb, v901114, .bool (((w1R S R q0 q1 xs).sync).counted), .int .i64 (((w1R S R q0 q1 xs).sync).left), .bool (((w1R S R q0 q1 xs).sync).down)] : List Value).toArray, .int .i64 ((w1S S q0 q1 xs).actE)]) 0 (.agg ([v901113, vb, v901114, .bool (((w1R S R q0 q1 xs).sync).counted), .int .i64 (((w1R S R q0 q1 xs).sync).left), .bool (((w1R S R q0 q1 xs).sync).down)] : List Value).toArray) rfl rfl rfl) rfl ?_
    refine p_run _ (x_extract (vs := [.agg ([v901113, vb, v901114, .bool (((w1R S R q0 q1 xs).sync).counted), .int .i64 (((w1R S R q0 q1 xs).sync).left), .bool (((w1R S R q0 q1 xs).sync).down)] : List Value).toArray, .int .i64 ((w1S S q0 q1 xs).actE)]) 1 (.int .i64 ((w1S S q0 q1 xs).actE)) rfl rfl rfl) rfl ?_
    refine St.stores (cs' := [v901113, vb, v901114, .bool (((w1R S R q0 q1 xs).sync).counted), .int .i64 (((w1R S R q0 q1 xs).sync).left), .bool (((w1R S R q0 q1 xs).sync).down)]) (HS.front 3 rfl) [v901113, vb, v901114, .bool (((w1R S R q0 q1 xs).sync).counted), .int .i64 (((w1R S R q0 q1 xs).sync).left), .bool (((w1R S R q0 q1 xs).sync).down)] 6 rfl rfl (all1 (row_one (HS.get (.head _))) (all1 (row_one (HS.get (.tail _ (.head _)))) (all1 (row_one (HS.get (.tail _ (.tail _ (.head _))))) (all1 rfl (all1 rfl (all1 rfl rfl)))))) (by kernel_rfl) rfl (by simp) rfl ?_
    clear HS
    intro w901116 HS
    refine p_run (l' := (rkV vs vb vp R :: .slice A xs.length c :: .pointer (some ⟨g5, 0, none⟩) :: undef :: .pointer (some ⟨g8, 0, none⟩) :: .int .u64 0 :: .int .i64 0 :: .int .u64 (uv (nG S q0 q1)) :: .int .i64 (nE S q0 q1) :: .int .i64 (S.writeE (wI S q0 q1 : Int)) :: .int .i64 ((w1S S q0 q1 xs).actE) :: .slice A xs.length c :: .int .i64 (xs.length : Int) :: .bool false :: undef :: .tuple [.int .u64 (uv (nG S q0 q1)), .int .i64 (nE S q0 q1)].toArray :: rkV vs vb vp R :: .tuple [.int .u64 (uv (nG S q0 q1)), .int .i64 (nE S q0 q1)].toArray :: .int .u64 (uv (nG S q0 q1)) :: .int .i64 (nE S q0 q1) :: .int .i64 (nE S q0 q1) :: .bool false :: undef :: undef :: .tuple [rkV vs vb v33 (w1R S R q0 q1 xs), .int .i64 (S.writeE (wI S q0 q1 : Int))].toArray :: rkV vs vb vp R :: .int .u64 (uv (nG S q0 q1)) :: .int .u64 (uv (nG S q0 q1) % 2) :: .int .i64 (wI S q0 q1 : Int) :: .int .u64 (uv (nG S q0 q1)) :: .slice A xs.length c :: .agg ((nums .u8 ((wP S q0 q1 xs).map bv))).toArray :: .tuple [rkV vs vb v33 (w1R S R q0 q1 xs), .int .i64 (S.writeE (wI S q0 q1 : Int))].toArray :: rkV vs vb v33 (w1R S R q0 q1 xs) :: .int .i64 (S.writeE (wI S q0 q1 : Int)) :: .int .i64 (S.writeE (wI S q0 q1 : Int)) :: .bool false :: undef :: undef :: .tuple [.agg ([v901113, vb, v901114, .bool (((w1R S R q0 q1 xs).sync).counted), .int .i64 (((w1R S R q0 q1 xs).sync).left), .bool (((w1R S R q0 q1 xs).sync).down)] : List Value).toArray, .int .i64 ((w1S S q0 q1 xs).actE)].toArray :: rkV vs vb v33 (w1R S R q0 q1 xs) :: .tuple [.agg ([v901113, vb, v901114, .bool (((w1R S R q0 q1 xs).sync).counted), .int .i64 (((w1R S R q0 q1 xs).sync).left), .bool (((w1R S R q0 q1 xs).sync).down)] : List Value).toArray, .int .i64 ((w1S S q0 q1 xs).actE)].toArray :: .agg ([v901113, vb, v901114, .bool (((w1R S R q0 q1 xs).sync).counted), .int .i64 (((w1R S R q0 q1 xs).sync).left), .bool (((w1R S R q0 q1 xs).sync).down)] : List Value).toArray :: .int .i64 ((w1S S q0 q1 xs).actE) :: U4vrf2 (undef :: undef :: []))) _ (x_assign (.int .i64 ((w1S S q0 q1 xs).actE)) rfl rfl) rfl ?_
    refine wpList_nil ?_
    refine hK901110 _ _ ?_
    refine wp_seq_k (fun K901117 hK901118 => ?_)
    refine wp_seq_k (fun K901119 hK901120 => ?_)
    by_cases haz : (w1S S q0 q1 xs).actE = 0
    ·refine c_region (fun ops901122 hops901121 => ?_)
     clear hops901121
     refine p_run _ (x_move (.int .i64 ((w1S S q0 q1 xs).actE)) rfl rfl) rfl ?_
     refine p_run _ (x_cmp (k := .i64) (m := (w1S S q0 q1 xs).actE) (n := 0) .neq false rfl rfl rfl (by rw [haz]; rfl) rfl) rfl ?_
     refine wpList_nil ?_
     refine hK901120 _ _ ?_
     refine c_false rfl ?_
     refine wp_skip ?_
     refine hK901118 _ _ ?_
     refine wp_seq_k (fun K901123 hK901124 => ?_)
     refine c_region (fun ops901126 hops901125 => ?_)
     clear hops901125
     refine p_run _ (x_loads [v901113, vb, v901114, .bool (((w1R S R q0 q1 xs).sync).counted), .int .i64 (((w1R S R q0 q1 xs).sync).left), .bool (((w1R S R q0 q1 xs).sync).down)] 6 rfl rfl (bkCells (HS.get (.head _)) 0 _ rfl) (by rfl) (by kernel_rfl) rfl) rfl ?_
     refine p_run _ (x_move (.int .u64 (uv (nG S q0 q1))) rfl rfl) rfl ?_
     refine St.stores (cs' := [v901113, vb, v901114, .bool (((w1R S R q0 q1 xs).sync).counted), .int .i64 (((w1R S R q0 q1 xs).sync).left), .bool (((w1R S R q0 q1 xs).sync).down)]) (HS.front 4 rfl) [v901113, vb, v901114, .bool (((w1R S R q0 q1 xs).sync).counted), .int .i64 (((w1R S R q0 q1 xs).sync).left), .bool (((w1R S R q0 q1 xs).sync).down)] 6 rfl rfl (all1 (row_one (HS.get (.tail _ (.head _)))) (all1 (row_one (HS.get (.tail _ (.tail _ (.head _))))) (all1 (row_one (HS.get (.tail _ (.tail _ (.tail _ (.head _)))))) (all1 rfl (all1 rfl (all1 rfl rfl)))))) (by kernel_rfl) rfl (by simp) rfl ?_
     clear HS
     intro w901127 HS
     refine p_run _ (x_assign (.int .u64 (uv (nG S q0 q1))) rfl rfl) rfl ?_
     refine p_run _ (x_assign (.int .i64 0) rfl rfl) rfl ?_
     refine wpList_nil ?_
     obtain ⟨qz901128, hqz901128⟩ : ∃ q_ : V8, q_ = ⟨.int .i64 (nE S q0 q1), .int .i64 (S.writeE (wI S q0 q1 : Int)), .int .i64 ((w1S S q0 q1 xs).actE), .slice A xs.length c, .int .i64 (xs.length : Int), .bool false, undef, .tuple [.int .u64 (uv (nG S q0 q1)), .int .i64 (nE S q0 q1)].toArray⟩ := ⟨_, rfl⟩
     obtain ⟨qz901129, hqz901129⟩ : ∃ q_ : V8, q_ = ⟨rkV vs vb vp R, .tuple [.int .u64 (uv (nG S q0 q1)), .int .i64 (nE S q0 q1)].toArray, .int .u64 (uv (nG S q0 q1)), .int .i64 (nE S q0 q1), .int .i64 (nE S q0 q1), .bool false, undef, undef⟩ := ⟨_, rfl⟩
     obtain ⟨qz901130, hqz901130⟩ : ∃ q_ : V8, q_ = ⟨.tuple [rkV vs vb v33 (w1R S R q0 q1 xs), .int .i64 (S.writeE (wI S q0 q1 : Int))].toArray, rkV vs vb vp R, .int .u64 (uv (nG S q0 q1)), .int .u64 (uv (nG S q0 q1) % 2), .int .i64 (wI S q0 q1 : Int), .int .u64 (uv (nG S q0 q1)), .slice A xs.length c, .agg ((nums .u8 ((wP S q0 q1 xs).map bv))).toArray⟩ := ⟨_, rfl⟩
     obtain ⟨qz901131, hqz901131⟩ : ∃ q_ : V8, q_ = ⟨.tuple [rkV vs vb v33 (w1R S R q0 q1 xs), .int .i64 (S.writeE (wI S q0 q1 : Int))].toArray, rkV vs vb v33 (w1R S R q0 q1 xs), .int .i64 (S.writeE (wI S q0 q1 : Int)), .int .i64 (S.writeE (wI S q0 q1 : Int)), .bool false, undef, undef, .tuple [.agg ([v901113, vb, v901114, .bool (((w1R S R q0 q1 xs).sync).counted), .int .i64 (((w1R S R q0 q1 xs).sync).left), .bool (((w1R S R q0 q1 xs).sync).down)] : List Value).toArray, .int .i64 ((w1S S q0 q1 xs).actE)].toArray⟩ := ⟨_, rfl⟩
     obtain ⟨qz901132, hqz901132⟩ : ∃ q_ : V8, q_ = ⟨rkV vs vb v33 (w1R S R q0 q1 xs), .tuple [.agg ([v901113, vb, v901114, .bool (((w1R S R q0 q1 xs).sync).counted), .int .i64 (((w1R S R q0 q1 xs).sync).left), .bool (((w1R S R q0 q1 xs).sync).down)] : List Value).toArray, .int .i64 ((w1S S q0 q1 xs).actE)].toArray, .agg ([v901113, vb, v901114, .bool (((w1R S R q0 q1 xs).sync).counted), .int .i64 (((w1R S R q0 q1 xs).sync).left), .bool (((w1R S R q0 q1 xs).sync).down)] : List Value).toArray, .int .i64 ((w1S S q0 q1 xs).actE), .int .i64 ((w1S S q0 q1 xs).actE), .bool false, undef, undef⟩ := ⟨_, rfl⟩
     refine fr_at (l' := (rkV vs vb vp R :: .slice A xs.length c :: .pointer (some ⟨g5, 0, none⟩) :: undef :: .pointer (some ⟨g8, 0, none⟩) :: .int .u64 (uv (nG S q0 q1)) :: .int .i64 0 :: .int .u64 (uv (nG S q0 q1)) :: V8.l qz901128 (V8.l qz901129 (V8.l qz901130 (V8.l qz901131 (V8.l qz901132 (.agg ([v901113, vb, v901114, .bool (((w1R S R q0 q1 xs).sync).counted), .int .i64 (((w1R S R q0 q1 xs).sync).left), .bool (((w1R S R q0 q1 xs).sync).down)] : List Value).toArray :: .int .u64 (uv (nG S q0 q1)) :: []))))))) (by subst hqz901128 hqz901129 hqz901130 hqz901131 hqz901132; rfl) ?_
     refine hK901124 _ _ ?_
     refine wp_ret ?_
     try simp only [Exit.inBlock, Exit.then]
     refine c_ret (.tuple [.agg ([v901113, vb, v901114, .bool (((w1R S R q0 q1 xs).sync).counted), .int .i64 (((w1R S R q0 q1 xs).sync).left), .bool (((w1R S R q0 q1 xs).sync).down)] : List Value).toArray, .int .u64 (uv (nG S q0 q1)), .int .i64 0].toArray) (r_ctt rfl rfl (run_loadVar_aggn (by rfl) [v901113, vb, v901114, .bool (((w1R S R q0 q1 xs).sync).counted), .int .i64 (((w1R S R q0 q1 xs).sync).left), .bool (((w1R S R q0 q1 xs).sync).down)] 6 (by kernel_rfl) rfl (bkCells (HS.get (.head _)) 0 _ (whole _))) rfl rfl) ?_
     have e1 : wE S q0 q1 xs = 0 := ((if_pos hl).trans ((if_pos hnz).trans (if_pos hwz))).trans haz
     have e2 : wR S R q0 q1 xs = (w1R S R q0 q1 xs).sync := (if_pos ⟨hl, hnz⟩).trans (if_pos hwz)
     have e3 : wG S q0 q1 xs = nG S q0 q1 := if_pos e1
     rw [e1, e2, e3]
     exact ⟨_, _, _, rfl, (((HS.drop.drop.front 2 rfl).front 2 rfl).front 2 rfl)⟩
    ·refine c_region (fun ops901134 hops901133 => ?_)
     clear hops901133
     refine p_run _ (x_move (.int .i64 ((w1S S q0 q1 xs).actE)) rfl rfl) rfl ?_
     refine p_run _ (x_cmp (k := .i64) (m := (w1S S q0 q1 xs).actE) (n := 0) .neq true rfl rfl rfl (by simpa [cmpB] using haz) rfl) rfl ?_
     refine wpList_nil ?_
     refine hK901120 _ _ ?_
     refine c_true rfl ?_
     refine wp_seq_k (fun K901135 hK901136 => ?_)
     refine c_region (fun ops901138 hops901137 => ?_)
     clear hops901137
     refine p_run _ (x_loads [v901113, vb, v901114, .bool (((w1R S R q0 q1 xs).sync).counted), .int .i64 (((w1R S R q0 q1 xs).sync).left), .bool (((w1R S R q0 q1 xs).sync).down)] 6 rfl rfl (bkCells (HS.get (.head _)) 0 _ rfl) (by rfl) (by kernel_rfl) rfl) rfl ?_
     refine p_run _ (x_move (.int .i64 ((w1S S q0 q1 xs).actE)) rfl rfl) rfl ?_
     refine St.stores (cs' := [v901113, vb, v901114, .bool (((w1R S R q0 q1 xs).sync).counted), .int .i64 (((w1R S R q0 q1 xs).sync).left), .bool (((w1R S R q0 q1 xs).sync).down)]) (HS.front 4 rfl) [v901113, vb, v901114, .bool (((w1R S R q0 q1 xs).sync).counted), .int .i64 (((w1R S R q0 q1 xs).sync).left), .bool (((w1R S R q0 q1 xs).sync).down)] 6 rfl rfl (all1 (row_one (HS.get (.tail _ (.head _)))) (all1 (row_one (HS.get (.tail _ (.tail _ (.head _))))) (all1 (row_one (HS.get (.tail _ (.tail _ (.tail _ (.head _)))))) (all1 rfl (all1 rfl (all1 rfl rfl)))))) (by kernel_rfl) rfl (by simp) rfl ?_
     clear HS
     intro w901139 HS
     refine p_run _ (x_assign (.int .u64 0) rfl rfl) rfl ?_
     refine p_run _ (x_assign (.int .i64 ((w1S S q0 q1 xs).actE)) rfl rfl) rfl ?_
     refine wpList_nil ?_
     obtain ⟨qz901140, hqz901140⟩ : ∃ q_ : V8, q_ = ⟨.int .i64 (nE S q0 q1), .int .i64 (S.writeE (wI S q0 q1 : Int)), .int .i64 ((w1S S q0 q1 xs).actE), .slice A xs.length c, .int .i64 (xs.length : Int), .bool false, undef, .tuple [.int .u64 (uv (nG S q0 q1)), .int .i64 (nE S q0 q1)].toArray⟩ := ⟨_, rfl⟩
     obtain ⟨qz901141, hqz901141⟩ : ∃ q_ : V8, q_ = ⟨rkV vs vb vp R, .tuple [.int .u64 (uv (nG S q0 q1)), .int .i64 (nE S q0 q1)].toArray, .int .u64 (uv (nG S q0 q1)), .int .i64 (nE S q0 q1), .int .i64 (nE S q0 q1), .bool false, undef, undef⟩ := ⟨_, rfl⟩
     obtain ⟨qz901142, hqz901142⟩ : ∃ q_ : V8, q_ = ⟨.tuple [rkV vs vb v33 (w1R S R q0 q1 xs), .int .i64 (S.writeE (wI S q0 q1 : Int))].toArray, rkV vs vb vp R, .int .u64 (uv (nG S q0 q1)), .int .u64 (uv (nG S q0 q1) % 2), .int .i64 (wI S q0 q1 : Int), .int .u64 (uv (nG S q0 q1)), .slice A xs.length c, .agg ((nums .u8 ((wP S q0 q1 xs).map bv))).toArray⟩ := ⟨_, rfl⟩
     obtain ⟨qz901143, hqz901143⟩ : ∃ q_ : V8, q_ = ⟨.tuple [rkV vs vb v33 (w1R S R q0 q1 xs), .int .i64 (S.writeE (wI S q0 q1 : Int))].toArray, rkV vs vb v33 (w1R S R q0 q1 xs), .int .i64 (S.writeE (wI S q0 q1 : Int)), .int .i64 (S.writeE (wI S q0 q1 : Int)), .bool false, undef, undef, .tuple [.agg ([v901113, vb, v901114, .bool (((w1R S R q0 q1 xs).sync).counted), .int .i64 (((w1R S R q0 q1 xs).sync).left), .bool (((w1R S R q0 q1 xs).sync).down)] : List Value).toArray, .int .i64 ((w1S S q0 q1 xs).actE)].toArray⟩ := ⟨_, rfl⟩
     obtain ⟨qz901144, hqz901144⟩ : ∃ q_ : V8, q_ = ⟨rkV vs vb v33 (w1R S R q0 q1 xs), .tuple [.agg ([v901113, vb, v901114, .bool (((w1R S R q0 q1 xs).sync).counted), .int .i64 (((w1R S R q0 q1 xs).sync).left), .bool (((w1R S R q0 q1 xs).sync).down)] : List Value).toArray, .int .i64 ((w1S S q0 q1 xs).actE)].toArray, .agg ([v901113, vb, v901114, .bool (((w1R S R q0 q1 xs).sync).counted), .int .i64 (((w1R S R q0 q1 xs).sync).left), .bool (((w1R S R q0 q1 xs).sync).down)] : List Value).toArray, .int .i64 ((w1S S q0 q1 xs).actE), .int .i64 ((w1S S q0 q1 xs).actE), .bool true, .agg ([v901113, vb, v901114, .bool (((w1R S R q0 q1 xs).sync).counted), .int .i64 (((w1R S R q0 q1 xs).sync).left), .bool (((w1R S R q0 q1 xs).sync).down)] : List Value).toArray, .int .i64 ((w1S S q0 q1 xs).actE)⟩ := ⟨_, rfl⟩
     refine fr_at (l' := (rkV vs vb vp R :: .slice A xs.length c :: .pointer (some ⟨g5, 0, none⟩) :: undef :: .pointer (some ⟨g8, 0, none⟩) :: .int .u64 0 :: .int .i64 ((w1S S q0 q1 xs).actE) :: .int .u64 (uv (nG S q0 q1)) :: V8.l qz901140 (V8.l qz901141 (V8.l qz901142 (V8.l qz901143 (V8.l qz901144 (undef :: undef :: []))))))) (by subst hqz901140 hqz901141 hqz901142 hqz901143 hqz901144; rfl) ?_
     refine hK901136 _ _ ?_
     refine wp_ret ?_
     try simp only [Exit.inBlock, Exit.then]
     refine c_ret (.tuple [.agg ([v901113, vb, v901114, .bool (((w1R S R q0 q1 xs).sync).counted), .int .i64 (((w1R S R q0 q1 xs).sync).left), .bool (((w1R S R q0 q1 xs).sync).down)] : List Value).toArray, .int .u64 0, .int .i64 ((w1S S q0 q1 xs).actE)].toArray) (r_ctt rfl rfl (run_loadVar_aggn (by rfl) [v901113, vb, v901114, .bool (((w1R S R q0 q1 xs).sync).counted), .int .i64 (((w1R S R q0 q1 xs).sync).left), .bool (((w1R S R q0 q1 xs).sync).down)] 6 (by kernel_rfl) rfl (bkCells (HS.get (.head _)) 0 _ (whole _))) rfl rfl) ?_
     have e1 : wE S q0 q1 xs = (w1S S q0 q1 xs).actE := (if_pos hl).trans ((if_pos hnz).trans (if_pos hwz))
     have e2 : wR S R q0 q1 xs = (w1R S R q0 q1 xs).sync := (if_pos ⟨hl, hnz⟩).trans (if_pos hwz)
     have e3 : wG S q0 q1 xs = 0 := if_neg (by rw [e1]; exact haz)
     rw [e1, e2, e3]
     exact ⟨_, _, _, rfl, (((HS.drop.drop.front 2 rfl).front 2 rfl).front 2 rfl)⟩
   ·refine c_region (fun ops901146 hops901145 => ?_)
    clear hops901145
    refine p_run _ (x_move (.int .i64 (S.writeE (wI S q0 q1 : Int))) rfl rfl) rfl ?_
    refine p_run _ (x_cmp (k := .i64) (m := (S.writeE (wI S q0 q1 : Int))) (n := 0) .neq true rfl rfl rfl (by simpa [cmpB] using hwz) rfl) rfl ?_
    refine wpList_nil ?_
    refine hK901106 _ _ ?_
    refine c_true rfl ?_
    refine wp_seq_k (fun K901147 hK901148 => ?_)
    refine c_region (fun ops901150 hops901149 => ?_)
    clear hops901149
    refine p_run _ (x_loads [vs, vb, v33, .bool ((w1R S R q0 q1 xs).counted), .int .i64 ((w1R S R q0 q1 xs).left), .bool ((w1R S R q0 q1 xs).down)] 6 rfl rfl (bkCells (HS.get (.head _)) 0 _ rfl) (by rfl) (by kernel_rfl) rfl) rfl ?_
    refine p_run _ (x_move (.int .i64 (S.writeE (wI S q0 q1 : Int))) rfl rfl) rfl ?_
    refine St.stores (cs' := [vs, vb, v33, .bool ((w1R S R q0 q1 xs).counted), .int .i64 ((w1R S R q0 q1 xs).left), .bool ((w1R S R q0 q1 xs).down)]) (HS.front 4 rfl) [vs, vb, v33, .bool ((w1R S R q0 q1 xs).counted), .int .i64 ((w1R S R q0 q1 xs).left), .bool ((w1R S R q0 q1 xs).down)] 6 rfl rfl (all1 (row_one (HS.get (.tail _ (.head _)))) (all1 (row_one (HS.get (.tail _ (.tail _ (.head _))))) (all1 (row_one (HS.get (.tail _ (.tail _ (.tail _ (.head _)))))) (all1 rfl (all1 rfl (all1 rfl rfl)))))) (by kernel_rfl) rfl (by simp) rfl ?_
    clear HS
    intro w901151 HS
    refine p_run _ (x_assign (.int .u64 0) rfl rfl) rfl ?_
    refine p_run _ (x_assign (.int .i64 (S.writeE (wI S q0 q1 : Int))) rfl rfl) rfl ?_
    refine wpList_nil ?_
    obtain ⟨qz901152, hqz901152⟩ : ∃ q_ : V8, q_ = ⟨rkV vs vb vp R, .tuple [.int .u64 (uv (nG S q0 q1)), .int .i64 (nE S q0 q1)].toArray, .int .u64 (uv (nG S q0 q1)), .int .i64 (nE S q0 q1), .int .i64 (nE S q0 q1), .bool false, undef, undef⟩ := ⟨_, rfl⟩
    obtain ⟨qz901153, hqz901153⟩ : ∃ q_ : V8, q_ = ⟨.tuple [rkV vs vb v33 (w1R S R q0 q1 xs), .int .i64 (S.writeE (wI S q0 q1 : Int))].toArray, rkV vs vb vp R, .int .u64 (uv (nG S q0 q1)), .int .u64 (uv (nG S q0 q1) % 2), .int .i64 (wI S q0 q1 : Int), .int .u64 (uv (nG S q0 q1)), .slice A xs.length c, .agg ((nums .u8 ((wP S q0 q1 xs).map bv))).toArray⟩ := ⟨_, rfl⟩
    refine fr_at (l' := (rkV vs vb vp R :: .slice A xs.length c :: .pointer (some ⟨g5, 0, none⟩) :: undef :: .pointer (some ⟨g8, 0, none⟩) :: .int .u64 0 :: .int .i64 (S.writeE (wI S q0 q1 : Int)) :: .int .u64 (uv (nG S q0 q1)) :: .int .i64 (nE S q0 q1) :: .int .i64 (S.writeE (wI S q0 q1 : Int)) :: undef :: .slice A xs.length c :: .int .i64 (xs.length : Int) :: .bool false :: undef :: .tuple [.int .u64 (uv (nG S q0 q1)), .int .i64 (nE S q0 q1)].toArray :: V8.l qz901152 (V8.l qz901153 (.tuple [rkV vs vb v33 (w1R S R q0 q1 xs), .int .i64 (S.writeE (wI S q0 q1 : Int))].toArray :: rkV vs vb v33 (w1R S R q0 q1 xs) :: .int .i64 (S.writeE (wI S q0 q1 : Int)) :: .int .i64 (S.writeE (wI S q0 q1 : Int)) :: .bool true :: rkV vs vb v33 (w1R S R q0 q1 xs) :: .int .i64 (S.writeE (wI S q0 q1 : Int)) :: U8vrf2 (undef :: undef :: undef :: []))))) (by subst hqz901152 hqz901153; rfl) ?_
    refine hK901148 _ _ ?_
    refine wp_ret ?_
    try simp only [Exit.inBlock, Exit.then]
    refine c_ret (.tuple [rkV vs vb v33 (w1R S R q0 q1 xs), .int .u64 0, .int .i64 (S.writeE (wI S q0 q1 : Int))].toArray) (r_ctt rfl rfl (run_loadVar_aggn (by rfl) [vs, vb, v33, .bool ((w1R S R q0 q1 xs).counted), .int .i64 ((w1R S R q0 q1 xs).left), .bool ((w1R S R q0 q1 xs).down)] 6 (by kernel_rfl) rfl (bkCells (HS.get (.head _)) 0 _ (whole _))) rfl rfl) ?_
    have e1 : wE S q0 q1 xs = S.writeE (wI S q0 q1 : Int) := (if_pos hl).trans ((if_pos hnz).trans (if_neg hwz))
    have e2 : wR S R q0 q1 xs = w1R S R q0 q1 xs := (if_pos ⟨hl, hnz⟩).trans (if_neg hwz)
    have e3 : wG S q0 q1 xs = 0 := if_neg (by rw [e1]; exact hwz)
    rw [e1, e2, e3]
    exact ⟨_, _, _, rfl, (((HS.drop.drop.front 2 rfl).front 2 rfl).front 2 rfl)⟩
  ·refine c_region (fun ops901155 hops901154 => ?_)
   clear hops901154
   refine p_run _ (x_move (.int .i64 (nE S q0 q1)) rfl rfl) rfl ?_
   refine p_run _ (x_cmp (k := .i64) (m := (nE S q0 q1)) (n := 0) .neq true rfl rfl rfl (by simpa [cmpB] using hnz) rfl) rfl ?_
   refine wpList_nil ?_
   refine hK25 _ _ ?_
   refine c_true rfl ?_
   refine wp_seq_k (fun K901156 hK901157 => ?_)
   refine c_region (fun ops901159 hops901158 => ?_)
   clear hops901158
   refine p_run _ (x_loads [vs, vb, vp, .bool R.counted, .int .i64 R.left, .bool R.down] 6 rfl rfl (bkCells (HS.get (.tail _ (.tail _ (.tail _ (.tail _ (.head _)))))) 0 _ rfl) (by rfl) (by kernel_rfl) rfl) rfl ?_
   refine p_run _ (x_move (.int .i64 (nE S q0 q1)) rfl rfl) rfl ?_
   refine St.stores (cs' := [vs, vb, vp, .bool R.counted, .int .i64 R.left, .bool R.down]) (HS.front 3 rfl) [vs, vb, vp, .bool R.counted, .int .i64 R.left, .bool R.down] 6 rfl rfl (all1 (row_one (HS.get (.head _))) (all1 (row_one (HS.get (.tail _ (.head _)))) (all1 (row_one (HS.get (.tail _ (.tail _ (.head _))))) (all1 rfl (all1 rfl (all1 rfl rfl)))))) (by kernel_rfl) rfl (by simp) rfl ?_
   clear HS
   intro w901160 HS
   refine p_run _ (x_assign (.int .u64 0) rfl rfl) rfl ?_
   refine p_run _ (x_assign (.int .i64 (nE S q0 q1)) rfl rfl) rfl ?_
   refine wpList_nil ?_
   obtain ⟨qz901161, hqz901161⟩ : ∃ q_ : V8, q_ = ⟨rkV vs vb vp R, .tuple [.int .u64 (uv (nG S q0 q1)), .int .i64 (nE S q0 q1)].toArray, .int .u64 (uv (nG S q0 q1)), .int .i64 (nE S q0 q1), .int .i64 (nE S q0 q1), .bool true, rkV vs vb vp R, .int .i64 (nE S q0 q1)⟩ := ⟨_, rfl⟩
   refine fr_at (l' := (rkV vs vb vp R :: .slice A xs.length c :: .pointer (some ⟨g5, 0, none⟩) :: undef :: .pointer (some ⟨g8, 0, none⟩) :: .int .u64 0 :: .int .i64 (nE S q0 q1) :: .int .u64 (uv (nG S q0 q1)) :: .int .i64 (nE S q0 q1) :: undef :: undef :: .slice A xs.length c :: .int .i64 (xs.length : Int) :: .bool false :: undef :: .tuple [.int .u64 (uv (nG S q0 q1)), .int .i64 (nE S q0 q1)].toArray :: V8.l qz901161 (U16vrf2 (U8vrf2 (undef :: undef :: []))))) (by subst hqz901161; rfl) ?_
   refine hK901157 _ _ ?_
   refine wp_ret ?_
   try simp only [Exit.inBlock, Exit.then]
   refine c_ret (.tuple [rkV vs vb vp R, .int .u64 0, .int .i64 (nE S q0 q1)].toArray) (r_ctt rfl rfl (run_loadVar_aggn (by rfl) [vs, vb, vp, .bool R.counted, .int .i64 R.left, .bool R.down] 6 (by kernel_rfl) rfl (bkCells (HS.get (.head _)) 0 _ (whole _))) rfl rfl) ?_
   have e1 : wE S q0 q1 xs = nE S q0 q1 := (if_pos hl).trans (if_neg hnz)
   have e2 : wR S R q0 q1 xs = R := if_neg (fun h => hnz h.2)
   have e3 : wG S q0 q1 xs = 0 := if_neg (by rw [e1]; exact hnz)
   rw [e1, e2, e3]
   exact ⟨_, _, _, rfl, ((((HS.drop.front 3 rfl).drop.front 2 rfl).front 2 rfl).front 2 rfl)⟩
 ·have hsm := (hc _ [row kPg rfl 38 vs R.stable, row Kd.bool rfl 4 vb R.bad, row kWr rfl 87 vp R.pending] HS).1.2.1
  refine c_enter Try.func19 rfl 50 rfl (rkV vs vb vp R :: .slice A xs.length c :: U32vrf2 (U16vrf2 ([]))) rfl ?_
  refine wp_seq_k (fun K1 hK2 => ?_)
  refine c_region (fun ops4 hops3 => ?_)
  clear hops3
  refine St.wBox HS (cs := [vs, vb, vp, .bool R.counted, .int .i64 R.left, .bool R.down]) (rkV vs vb vp R) rfl rfl ?_
  clear HS
  intro g5 w6 hg7 HS
  refine St.wAlloc HS (cs := [.slice none 0 0, .slice none 0 0, .slice none 0 0, .bool false, .int .i64 0, .bool false]) (.agg [.slice none 0 0, .slice none 0 0, .slice none 0 0, .bool false, .int .i64 0, .bool false].toArray) (by kernel_rfl) rfl ?_
  clear HS
  intro g8 w9 hg10 HS
  refine p_run _ (x_assign (.int .u64 0) rfl rfl) rfl ?_
  refine p_run _ (x_assign (.int .i64 0) rfl rfl) rfl ?_
  refine wpList_nil ?_
  refine hK2 _ _ ?_
  refine wp_seq_k (fun K11 hK12 => ?_)
  refine wp_seq_k (fun K13 hK14 => ?_)
  refine c_region (fun ops16 hops15 => ?_)
  clear hops15
  refine p_run _ (x_move (.slice A xs.length c) rfl rfl) rfl ?_
  refine p_run _ (x_len rfl rfl Try.underlying24) rfl ?_
  refine p_run _ (x_cmp (k := .i64) (m := (xs.length : Int)) (n := 186) .gtr true rfl rfl rfl (show decide ((xs.length : Int) > 186) = true from decide_eq_true (by omega)) rfl) rfl ?_
  refine wpList_nil ?_
  refine fr_at (l' := (rkV vs vb vp R :: .slice A xs.length c :: .pointer (some ⟨g5, 0, none⟩) :: undef :: .pointer (some ⟨g8, 0, none⟩) :: .int .u64 0 :: .int .i64 0 :: U4vrf2 (.slice A xs.length c :: .int .i64 (xs.length : Int) :: .bool true :: U32vrf2 (U4vrf2 ([]))))) rfl ?_
  refine hK14 _ _ ?_
  refine c_true rfl ?_
  refine wp_seq_k (fun K17 hK18 => ?_)
  refine c_region (fun ops20 hops19 => ?_)
  clear hops19
  refine p_run _ (x_loads [vs, vb, vp, .bool R.counted, .int .i64 R.left, .bool R.down] 6 rfl rfl (bkCells (HS.get (.tail _ (.head _))) 0 _ rfl) (by rfl) (by kernel_rfl) rfl) rfl ?_
  refine St.stores (cs' := [vs, vb, vp, .bool R.counted, .int .i64 R.left, .bool R.down]) HS [vs, vb, vp, .bool R.counted, .int .i64 R.left, .bool R.down] 6 rfl rfl (all1 (row_one (HS.get (.tail _ (.tail _ (.head _))))) (all1 (row_one (HS.get (.tail _ (.tail _ (.tail _ (.head _)))))) (all1 (row_one (HS.get (.tail _ (.tail _ (.tail _ (.tail _ (.head _))))))) (all1 rfl (all1 rfl (all1 rfl rfl)))))) (by kernel_rfl) rfl (by simp) rfl ?_
  clear HS
  intro w21 HS
  refine p_run _ (x_assign (.int .u64 0) rfl rfl) rfl ?_
  refine p_run _ (x_assign (.int .i64 51) rfl rfl) rfl ?_
  refine wpList_nil ?_
  refine hK18 _ _ ?_
  refine wp_ret ?_
  try simp only [Exit.inBlock, Exit.then]
  refine c_ret (.tuple [rkV vs vb vp R, .int .u64 0, .int .i64 51].toArray) (r_ctt rfl rfl (run_loadVar_aggn (by rfl) [vs, vb, vp, .bool R.counted, .int .i64 R.left, .bool R.down] 6 (by kernel_rfl) rfl (bkCells (HS.get (.head _)) 0 _ (whole _))) rfl rfl) ?_
  have e1 : wE S q0 q1 xs = 51 := if_neg hl
  have e2 : wR S R q0 q1 xs = R := if_neg (fun h => hl h.1)
  have e3 : wG S q0 q1 xs = 0 := if_neg (by rw [e1]; decide)
  rw [e1, e2, e3]
  exact ⟨_, _, _, rfl, (((HS.drop.drop.front 2 rfl).front 2 rfl).front 2 rfl)⟩
end
end Go.Proofs.Ytenlkobjldhfgaa
