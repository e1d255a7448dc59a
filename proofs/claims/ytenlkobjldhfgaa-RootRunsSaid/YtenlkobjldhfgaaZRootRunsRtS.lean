/- Several texts in one: Rt3, Rt4. -/
import Derived.Test.YtenlkobjldhfgaaZRootRunsRt2
import Derived.Test.YtenlkobjldhfgaaZRootRunsRtD
import Derived.Test.YtenlkobjldhfgaaZRootRunsV8
set_option linter.unusedVariables false
set_option linter.unusedSimpArgs false
namespace Go.Proofs.Ytenlkobjldhfgaa
open Go.RowKit Go.Proofs.YtenlkobjldhfgaaW.PrintWords Go.Proofs.YtenlkobjldhfgaaW.PrintLast Crc
abbrev U4r3 (l : List Value) : List Value := undef :: undef :: undef :: undef :: l
abbrev U8r3 (l : List Value) : List Value := U4r3 (U4r3 l)
abbrev U16r3 (l : List Value) : List Value := U8r3 (U8r3 l)
abbrev U32r3 (l : List Value) : List Value := U16r3 (U16r3 l)
section
variable {w0 W : World} {F : Nat → Prop} {L : List Res} {D gs gm n : Nat} {v : Value} {S : Dk} {q0 q1 : List UInt8}
def lkE (S : Dk) : Int := if S.readE 0 = 0 then S.readE 1 else S.readE 0
def rB (S : Dk) (q0 q1 : List UInt8) : List UInt8 := if lkE S = 0 then lkB q0 q1 else []
def rG (S : Dk) (q0 q1 : List UInt8) : UInt64 := if lkE S = 0 then lkG q0 q1 else 0
def rT (S : Dk) (q0 q1 : List UInt8) : UInt64 := if lkE S = 0 then lkT q0 q1 else 0
theorem rq_at (hp0 : S.readP 0 = q0.map bv) (hp1 : S.readP 1 = q1.map bv) {j : Nat} (hj : j < 2) : S.readP (j : Int) = (pgI j q0 q1).map bv := by
 match j, hj with
 | 0, _ => exact hp0
 | 1, _ => exact hp1
theorem pgI_len (hq0 : q0.length = 256) (hq1 : q1.length = 256) (j : Nat) : (pgI j q0 q1).length = 256 := by unfold pgI; split; exact hq0; exact hq1
def bJ (q0 q1 : List UInt8) (j : Nat) : List UInt8 := if j = 0 then [] else if j = 1 then cnU q0 0 else lkB q0 q1
def gJ (q0 q1 : List UInt8) (j : Nat) : UInt64 := if j = 0 then 0 else if j = 1 then gnU q0 0 else lkG q0 q1
def tJ (q0 q1 : List UInt8) (j : Nat) : UInt64 := if j = 0 then 0 else if j = 1 then topL 0 (hdsB q0) else lkT q0 q1
theorem cn_zero {q : List UInt8} {s : Nat} (h : gnU q s = 0) : cnU q s = [] := by
 unfold gnU at h
 unfold cnU
 split
 ·rename_i hok
  rw [if_pos hok] at h
  exact absurd h (ok_of hok).1
 ·rfl
theorem u_zero {g : UInt64} (h : ¬ g > 0) : g = 0 := by
 apply UInt64.toNat_inj.1
 have : ¬ (0 : UInt64).toNat < g.toNat := fun h' => h (UInt64.lt_iff_toNat_lt.2 h')
 have h0 : (0 : UInt64).toNat = 0 := rfl
 omega
theorem look_yes {j : Nat} (hj : j < 2) (h : gnU (pgI j q0 q1) j > gJ q0 q1 j) : cnU (pgI j q0 q1) j = bJ q0 q1 (j + 1) ∧ gnU (pgI j q0 q1) j = gJ q0 q1 (j + 1) := by
 match j, hj, h with
 | 0, _, _ => exact ⟨rfl, rfl⟩
 | 1, _, h =>
  have h' : gnU q1 1 > gnU q0 0 := h
  refine ⟨?_, ?_⟩
  ·show cnU q1 1 = lkB q0 q1
   unfold lkB
   rw [if_pos h']
  ·show gnU q1 1 = lkG q0 q1
   unfold lkG
   rw [if_pos h']
theorem look_no {j : Nat} (hj : j < 2) (h : ¬ gnU (pgI j q0 q1) j > gJ q0 q1 j) : bJ q0 q1 j = bJ q0 q1 (j + 1) ∧ gJ q0 q1 j = gJ q0 q1 (j + 1) := by
 match j, hj, h with
 | 0, _, h =>
  have h0 : gnU q0 0 = 0 := u_zero h
  exact ⟨(cn_zero h0).symm, h0.symm⟩
 | 1, _, h =>
  have h' : ¬ gnU q1 1 > gnU q0 0 := h
  refine ⟨?_, ?_⟩
  ·show cnU q0 0 = lkB q0 q1
   unfold lkB
   rw [if_neg h']
  ·show gnU q0 0 = lkG q0 q1
   unfold lkG
   rw [if_neg h']
theorem look_top {j : Nat} (hj : j < 2) : topL (tJ q0 q1 j) (hdsB (pgI j q0 q1)) = tJ q0 q1 (j + 1) := by
 match j, hj with
 | 0, _ => rfl
 | 1, _ => rfl
theorem lkE_bad {j : Nat} (hj : j < 2) (he : ∀ i, i < j → S.readE (i : Int) = 0) (h : ¬ S.readE (j : Int) = 0) : lkE S = S.readE (j : Int) ∧ ¬ lkE S = 0 := by
 match j, hj, he, h with
 | 0, _, _, h =>
  have e : lkE S = S.readE 0 := if_neg h
  rw [e]
  exact ⟨rfl, h⟩
 | 1, _, he, h =>
  have e : lkE S = S.readE 1 := if_pos (he 0 (by decide))
  rw [e]
  exact ⟨rfl, h⟩
theorem lkE_ok (he : ∀ i : Nat, i < 2 → S.readE (i : Int) = 0) : lkE S = 0 := (if_pos (he 0 (by decide))).trans (he 1 (by decide))
theorem uv_gt {a b : UInt64} : (uv a > uv b) ↔ a > b := by
 unfold uv
 constructor
 ·intro h
  exact UInt64.lt_iff_toNat_lt.2 (by omega)
 ·intro h
  have := UInt64.lt_iff_toNat_lt.1 h
  omega
theorem top_snoc {l : List UInt64} {k : Nat} {t0 t : UInt64} (hk : k < l.length) (ht : t = topL t0 (l.take k)) : (if uv (l.getD k 0) > uv t then uv (l.getD k 0) else uv t) = uv (topL t0 (l.take (k + 1))) := by
 have e : l.getD k 0 = l[k] := by rw [List.getD_eq_getElem?_getD, List.getElem?_eq_getElem hk]; rfl
 have e2 : topL t0 (l.take (k + 1)) = (if l[k] > t then l[k] else t) := by
  rw [List.take_succ_eq_append_getElem hk, ht]
  unfold topL
  rw [List.foldl_append]
  rfl
 rw [e2, e]
 by_cases h : l[k] > t
 ·rw [if_pos h, if_pos (uv_gt.2 h)]
 ·rw [if_neg h, if_neg (fun h' => h (uv_gt.1 h'))]
theorem r_tttt {P : Program} {w : World} {l : List Value} {fn : Func} {t u s x : Nat} {v v' v'' v3 : Value} (h : fn.results = #[.tmp t, .tmp u, .tmp s, .tmp x]) (hv : nth l t = v) (hv' : nth l u = v') (hv'' : nth l s = v'') (hv3 : nth l x = v3) : (results fn l.toArray).run P w = .ok (.tuple #[v, v', v'', v3]) w := by
 have e1 := nth_getD l t
 have e2 := nth_getD l u
 have e3 := nth_getD l s
 have e4 := nth_getD l x
 rw [hv] at e1
 rw [hv'] at e2
 rw [hv''] at e3
 rw [hv3] at e4
 simp only [Array.getD_eq_getD_getElem?, List.getElem?_toArray] at e1 e2 e3 e4
 simp [results, h, e1, e2, e3, e4]
theorem wru64 {x : Int} (h : 0 ≤ x ∧ x < 18446744073709551616) : IntKind.u64.wrap x = x := by rw [IntKind.wrap_u64]; omega
set_option maxRecDepth 10000 in
set_option maxHeartbeats 4000000 in
theorem look_root (HS : St w0 F W (dsk D gs gm v S L)) (hg : S.good n) (hn : n ≤ 100000) (hp0 : S.readP 0 = q0.map bv) (hp1 : S.readP 1 = q1.map bv) (hq0 : q0.length = 256) (hq1 : q1.length = 256) : Calls Try.prog 29 #[.pointer (some ⟨D, 0, none⟩)] W fun e w' => ∃ A c, e = .returned (.tuple #[.slice A (rB S q0 q1).length c, .int .u64 (uv (rG S q0 q1)), .int .u64 (uv (rT S q0 q1)), .int .i64 (lkE S)]) ∧ St w0 F w' (rdp A c (rB S q0 q1) :: dsk D gs gm v S L) := by
 refine c_enter Try.func29 rfl 55 rfl (.pointer (some ⟨D, 0, none⟩) :: U32r3 (U16r3 (U4r3 (undef :: undef :: [])))) rfl ?_
 refine wp_seq_k (fun K1 hK2 => ?_)
 refine c_region (fun ops4 hops3 => ?_)
 clear hops3
 refine p_run _ (x_assign (.slice none 0 0) rfl rfl) rfl ?_
 refine p_run _ (x_assign (.int .u64 0) rfl rfl) rfl ?_
 refine p_run _ (x_assign (.int .u64 0) rfl rfl) rfl ?_
 refine p_run _ (x_assign (.int .i64 0) rfl rfl) rfl ?_
 refine wpList_nil ?_
 refine hK2 _ _ ?_
 refine wp_seq_k (fun K5 hK6 => ?_)
 refine c_region (fun ops8 hops7 => ?_)
 clear hops7
 refine p_run _ (x_assign (.slice none 0 0) rfl rfl) rfl ?_
 refine wpList_nil ?_
 refine hK6 _ _ ?_
 refine wp_seq_k (fun K9 hK10 => ?_)
 refine c_region (fun ops12 hops11 => ?_)
 clear hops11
 refine p_run _ (x_assign (.int .u64 0) rfl rfl) rfl ?_
 refine p_run _ (x_assign (.int .u64 0) rfl rfl) rfl ?_
 refine wpList_nil ?_
 refine fr_at (l' := (.pointer (some ⟨D, 0, none⟩) :: undef :: .slice none 0 0 :: .int .u64 0 :: .int .u64 0 :: .int .i64 0 :: .slice none 0 0 :: .int .u64 0 :: .int .u64 0 :: U32r3 (U8r3 (U4r3 (undef :: undef :: []))))) rfl ?_
 refine hK10 _ _ ?_
 refine wp_seq_k (fun K13 hK14 => ?_)
 refine wp_seq_k (fun K15 hK16 => ?_)
 refine c_region (fun ops18 hops17 => ?_)
 clear hops17
 refine p_run _ (x_move (.int .u64 0) rfl rfl) rfl ?_
 refine wpList_nil ?_
 refine fr_at (l' := (.pointer (some ⟨D, 0, none⟩) :: undef :: .slice none 0 0 :: .int .u64 0 :: .int .u64 0 :: .int .i64 0 :: .slice none 0 0 :: .int .u64 0 :: .int .u64 0 :: U4r3 (undef :: undef :: undef :: .int .u64 0 :: U32r3 (U4r3 (undef :: undef :: []))))) rfl ?_
 refine hK16 _ _ ?_
 refine wp_block ?_
 replace HS := HS.rdpNil
 refine c_loop (ι := Nat × Option Addr × Nat × List UInt8 × UInt64 × UInt64) (fun i_ a_ w_ => match i_ with | (j, A, c, b, g, t) => ∃ (q19 : V8) (q20 : V8) (q21 : V8) (q22 : V8) (q23 : V8) (q24 : V8), a_ = fr (.pointer (some ⟨D, 0, none⟩) :: undef :: q19.a :: q19.b :: q19.c :: q19.d :: .slice A b.length c :: .int .u64 (uv g) :: .int .u64 (uv t) :: q19.e :: q19.f :: q19.g :: undef :: q19.h :: q20.a :: q20.b :: .int .u64 (j : Int) :: q20.c :: q20.d :: q20.e :: q20.f :: q20.g :: q20.h :: V8.l q21 (V8.l q22 (V8.l q23 (q24.a :: q24.b :: q24.c :: q24.d :: q24.e :: undef :: undef :: undef :: [])))) ∧ St w0 F w_ (rdp A c b :: blk D (dskC gs gm v S) 72 :: blk gs (pgs S.stable) 38 :: mapR gm S.cnt S.bad :: row kWr rfl 78 v S.pending :: L) ∧ (j ≤ 2 ∧ (∀ i, i < j → S.readE (i : Int) = 0) ∧ b = bJ q0 q1 j ∧ g = gJ q0 q1 j ∧ t = tJ q0 q1 j)) (fun i_ => match i_ with | (j, A, c, b, g, t) => 2 - j) (0, none, 0, [], 0, 0) ?_ ?_
 ·exact ⟨⟨.slice none 0 0, .int .u64 0, .int .u64 0, .int .i64 0, undef, undef, undef, undef⟩, ⟨undef, undef, undef, undef, undef, undef, undef, undef⟩, ⟨undef, undef, undef, undef, undef, undef, undef, undef⟩, ⟨undef, undef, undef, undef, undef, undef, undef, undef⟩, ⟨undef, undef, undef, undef, undef, undef, undef, undef⟩, ⟨undef, undef, undef, undef, undef, undef, undef, undef⟩, rfl, (((((HS.front 4 rfl).front 4 rfl).front 4 rfl).front 4 rfl).front 4 rfl), ⟨by omega, fun i hi => absurd hi (by omega), rfl, rfl, rfl⟩⟩
 ·clear HS
  rintro ⟨j, A, c, b, g, t⟩ a_ w27 ⟨q19, q20, q21, q22, q23, q24, rfl, HS, hI⟩ J25 hJ26
  obtain ⟨hj, her, hb, hgg, ht⟩ := hI
  refine wp_seq_k (fun K28 hK29 => ?_)
  refine c_region (fun ops31 hops30 => ?_)
  clear hops30
  refine p_run _ (x_cmp (k := .u64) (m := (j : Int)) (n := 2) .lss (decide ((j : Int) < 2)) rfl rfl rfl rfl rfl) rfl ?_
  refine wpList_nil ?_
  refine hK29 _ _ ?_
  refine wp_seq_k (fun K32 hK33 => ?_)
  refine c_cond (t := decide ((j : Int) < 2)) rfl (fun hc34 => ?_) (fun hc34 => ?_)
  ·have hlt : j < 2 := by have := of_decide_eq_true hc34; omega
   have hqj := rq_at hp0 hp1 hlt
   refine wp_skip ?_
   refine hK33 _ _ ?_
   refine wp_seq_k (fun K35 hK36 => ?_)
   refine wp_block ?_
   refine wp_seq_k (fun K37 hK38 => ?_)
   refine c_region (fun ops40 hops39 => ?_)
   clear hops39
   refine p_run _ (x_move (.int .u64 (j : Int)) rfl rfl) rfl ?_
   refine p_run _ (x_assign (.int .u64 (j : Int)) rfl rfl) rfl ?_
   refine wpList_nil ?_
   refine hK38 _ _ ?_
   refine wp_seq_k (fun K41 hK42 => ?_)
   refine c_region (fun ops44 hops43 => ?_)
   clear hops43
   refine p_run _ (x_move (.pointer (some ⟨D, 0, none⟩)) rfl rfl) rfl ?_
   refine p_run _ (x_move (.int .u64 (j : Int)) rfl rfl) rfl ?_
   refine p_run _ (x_conv (k := .u64) (m := (j : Int)) .i64 ((j : Int)) rfl (by rw [Try.underlying25]; rfl) Try.underlying3 rfl (wr64' (by omega))) rfl ?_
   refine w_call [.pointer (some ⟨D, 0, none⟩), .int .i64 (j : Int)] Try.func13 (by kernel_rfl) (by rfl) rfl ?_
   replace HS := ((((HS.front 4 rfl).front 4 rfl).front 4 rfl).front 4 rfl)
   refine (read_any HS hg.ok (by have := hg.pn; omega) (j : Int)).mono ?_
   clear HS
   rintro e w45 ⟨he_, HS⟩
   rw [hqj] at he_
   subst he_
   refine ⟨_, rfl, ?_⟩
   refine p_run _ (x_move (.tuple [.agg ((nums .u8 ((pgI j q0 q1).map bv))).toArray, .int .i64 (S.readE (j : Int))].toArray) rfl rfl) rfl ?_
   refine p_run (l' := (.pointer (some ⟨D, 0, none⟩) :: undef :: q19.a :: q19.b :: q19.c :: q19.d :: .slice A b.length c :: .int .u64 (uv g) :: .int .u64 (uv t) :: .int .u64 (j : Int) :: q19.f :: q19.g :: undef :: q19.h :: q20.a :: q20.b :: .int .u64 (j : Int) :: .bool (decide ((j : Int) < 2)) :: .int .u64 (j : Int) :: .tuple [.agg ((nums .u8 ((pgI j q0 q1).map bv))).toArray, .int .i64 (S.readE (j : Int))].toArray :: .pointer (some ⟨D, 0, none⟩) :: .int .u64 (j : Int) :: .int .i64 (j : Int) :: .tuple [.agg ((nums .u8 ((pgI j q0 q1).map bv))).toArray, .int .i64 (S.readE (j : Int))].toArray :: .agg ((nums .u8 ((pgI j q0 q1).map bv))).toArray :: q21.c :: q21.d :: q21.e :: q21.f :: q21.g :: q21.h :: V8.l q22 (V8.l q23 (q24.a :: q24.b :: q24.c :: q24.d :: q24.e :: undef :: undef :: undef :: [])))) _ (x_extract (vs := [.agg ((nums .u8 ((pgI j q0 q1).map bv))).toArray, .int .i64 (S.readE (j : Int))]) 0 (.agg ((nums .u8 ((pgI j q0 q1).map bv))).toArray) rfl rfl rfl) rfl ?_
   refine p_run _ (x_extract (vs := [.agg ((nums .u8 ((pgI j q0 q1).map bv))).toArray, .int .i64 (S.readE (j : Int))]) 1 (.int .i64 (S.readE (j : Int))) rfl rfl rfl) rfl ?_
   refine St.wAlloc HS (cs := ((nums .u8 zpg))) (.agg ((nums .u8 zpg)).toArray) (by kernel_rfl) rfl ?_
   clear HS
   intro g46 w47 hg48 HS
   refine St.stores (cs' := ((nums .u8 ((pgI j q0 q1).map bv)))) HS ((nums .u8 ((pgI j q0 q1).map bv))) 256 rfl rfl (nums_one _ _) (by kernel_rfl) (by simp [List.length_map, nums_length, pgI_len hq0 hq1 j]) (by simp [List.length_map, nums_length, pgI_len hq0 hq1 j, zlen]) (lay_all _ _ (by simp [List.length_map, nums_length, pgI_len hq0 hq1 j, zlen])) ?_
   clear HS
   intro w49 HS
   refine p_run _ (x_assign (.int .i64 (S.readE (j : Int))) rfl rfl) rfl ?_
   refine wpList_nil ?_
   refine hK42 _ _ ?_
   refine wp_seq_k (fun K50 hK51 => ?_)
   refine wp_seq_k (fun K52 hK53 => ?_)
   by_cases hre : S.readE (j : Int) = 0
   ·refine c_region (fun ops55 hops54 => ?_)
    clear hops54
    refine p_run _ (x_move (.int .i64 (S.readE (j : Int))) rfl rfl) rfl ?_
    refine p_run _ (x_cmp (k := .i64) (m := (S.readE (j : Int))) (n := 0) .neq false rfl rfl rfl (by rw [hre]; rfl) rfl) rfl ?_
    refine wpList_nil ?_
    refine hK53 _ _ ?_
    refine c_false rfl ?_
    refine wp_skip ?_
    refine hK51 _ _ ?_
    refine wp_seq_k (fun K56 hK57 => ?_)
    refine wp_seq_k (fun K58 hK59 => ?_)
    refine c_region (fun ops61 hops60 => ?_)
    clear hops60
    refine p_run _ (x_loads ((nums .u8 ((pgI j q0 q1).map bv))) 256 rfl rfl (bkCells (HS.get (.head _)) 0 _ (whole _)) (by rfl) (by kernel_rfl) (by simp [List.length_map, nums_length, pgI_len hq0 hq1 j])) rfl ?_
    refine w_call [.agg ((nums .u8 ((pgI j q0 q1).map bv))).toArray] Try.func46 (by kernel_rfl) (by rfl) rfl ?_
    refine (gens_root _ (pgI j q0 q1) (pgI_len hq0 hq1 j)).mono ?_
    rintro e w64 ⟨oa62, nc63, rfl, hk_⟩
    replace HS := HS.more hk_
    clear hk_
    refine ⟨_, rfl, ?_⟩
    refine p_run _ (x_len rfl rfl Try.underlying93) rfl ?_
    refine p_run (l' := (.pointer (some ⟨D, 0, none⟩) :: undef :: q19.a :: q19.b :: q19.c :: q19.d :: .slice A b.length c :: .int .u64 (uv g) :: .int .u64 (uv t) :: .int .u64 (j : Int) :: .pointer (some ⟨g46, 0, none⟩) :: .int .i64 (S.readE (j : Int)) :: undef :: q19.h :: q20.a :: q20.b :: .int .u64 (j : Int) :: .bool (decide ((j : Int) < 2)) :: .int .u64 (j : Int) :: .tuple [.agg ((nums .u8 ((pgI j q0 q1).map bv))).toArray, .int .i64 (S.readE (j : Int))].toArray :: .pointer (some ⟨D, 0, none⟩) :: .int .u64 (j : Int) :: .int .i64 (j : Int) :: .tuple [.agg ((nums .u8 ((pgI j q0 q1).map bv))).toArray, .int .i64 (S.readE (j : Int))].toArray :: .agg ((nums .u8 ((pgI j q0 q1).map bv))).toArray :: .int .i64 (S.readE (j : Int)) :: .int .i64 (S.readE (j : Int)) :: .bool false :: q21.f :: .agg ((nums .u8 ((pgI j q0 q1).map bv))).toArray :: .slice oa62 8 nc63 :: .int .i64 8 :: .int .i64 0 :: q22.c :: q22.d :: q22.e :: q22.f :: q22.g :: q22.h :: V8.l q23 (q24.a :: q24.b :: q24.c :: q24.d :: q24.e :: undef :: undef :: undef :: []))) _ (x_move (.int .i64 0) rfl rfl) rfl ?_
    refine wpList_nil ?_
    refine hK59 _ _ ?_
    refine wp_block ?_
    refine c_loop (ι := Nat × UInt64) (fun i_ a_ w_ => match i_ with | (k, tt) => ∃ (u13 : Value) (u33 : Value) (u34 : Value) (u35 : Value) (u36 : Value) (u37 : Value) (u38 : Value) (u39 : Value), a_ = fr (.pointer (some ⟨D, 0, none⟩) :: undef :: q19.a :: q19.b :: q19.c :: q19.d :: .slice A b.length c :: .int .u64 (uv g) :: .int .u64 (uv tt) :: .int .u64 (j : Int) :: .pointer (some ⟨g46, 0, none⟩) :: .int .i64 (S.readE (j : Int)) :: undef :: u13 :: q20.a :: q20.b :: .int .u64 (j : Int) :: .bool (decide ((j : Int) < 2)) :: .int .u64 (j : Int) :: .tuple [.agg ((nums .u8 ((pgI j q0 q1).map bv))).toArray, .int .i64 (S.readE (j : Int))].toArray :: .pointer (some ⟨D, 0, none⟩) :: .int .u64 (j : Int) :: .int .i64 (j : Int) :: .tuple [.agg ((nums .u8 ((pgI j q0 q1).map bv))).toArray, .int .i64 (S.readE (j : Int))].toArray :: .agg ((nums .u8 ((pgI j q0 q1).map bv))).toArray :: .int .i64 (S.readE (j : Int)) :: .int .i64 (S.readE (j : Int)) :: .bool false :: q21.f :: .agg ((nums .u8 ((pgI j q0 q1).map bv))).toArray :: .slice oa62 8 nc63 :: .int .i64 8 :: .int .i64 (k : Int) :: u33 :: u34 :: u35 :: u36 :: u37 :: u38 :: u39 :: q23.b :: q23.c :: q23.d :: q23.e :: q23.f :: q23.g :: q23.h :: q24.a :: q24.b :: q24.c :: q24.d :: q24.e :: undef :: undef :: undef :: []) ∧ St w0 F w_ (row kU64 rfl 25 (.slice oa62 8 nc63) (hdsB (pgI j q0 q1)) :: blk g46 ((nums .u8 ((pgI j q0 q1).map bv))) 38 :: blk D (dskC gs gm v S) 72 :: blk gs (pgs S.stable) 38 :: mapR gm S.cnt S.bad :: row kWr rfl 78 v S.pending :: rdp A c b :: L) ∧ (k ≤ 8 ∧ tt = topL t ((hdsB (pgI j q0 q1)).take k))) (fun i_ => match i_ with | (k, tt) => 8 - k) (0, t) ?_ ?_
    ·exact ⟨_, _, _, _, _, _, _, _, rfl, (((((((HS.front 6 rfl).front 6 rfl).front 6 rfl).front 6 rfl).front 6 rfl).front 6 rfl).front 6 rfl), ⟨by omega, rfl⟩⟩
    ·clear HS
     rintro ⟨k, tt⟩ a_ w67 ⟨u13, u33, u34, u35, u36, u37, u38, u39, rfl, HS, hI⟩ J65 hJ66
     obtain ⟨hkk, htt⟩ := hI
     refine wp_seq_k (fun K68 hK69 => ?_)
     refine c_region (fun ops71 hops70 => ?_)
     clear hops70
     refine p_run _ (x_cmp (k := .i64) (m := (k : Int)) (n := 8) .lss (decide ((k : Int) < 8)) rfl rfl rfl rfl rfl) rfl ?_
     refine wpList_nil ?_
     refine hK69 _ _ ?_
     refine wp_seq_k (fun K72 hK73 => ?_)
     refine c_cond (t := decide ((k : Int) < 8)) rfl (fun hc74 => ?_) (fun hc74 => ?_)
     ·have hk8 : k < 8 := by have := of_decide_eq_true hc74; omega
      have hkl : k < (hdsB (pgI j q0 q1)).length := by rw [hdsB, List.length_map, List.length_range]; exact hk8
      obtain ⟨ag_, hag, hcg⟩ := cells_of (HS.get (.head _)) hkl
      subst hag
      refine wp_skip ?_
      refine hK73 _ _ ?_
      refine wp_seq_k (fun K75 hK76 => ?_)
      refine wp_block ?_
      refine wp_seq_k (fun K77 hK78 => ?_)
      refine c_region (fun ops80 hops79 => ?_)
      clear hops79
      refine p_run _ (x_index (A := ag_) (j := k * 1) (sz := 1) rfl rfl rfl Try.underlying93 (by kernel_rfl) (by omega) rfl) rfl ?_
      refine p_run _ (x_load (.int .u64 (uv ((hdsB (pgI j q0 q1)).getD k 0))) rfl rfl hcg (by rfl)) rfl ?_
      refine p_run _ (x_assign (.int .u64 (uv ((hdsB (pgI j q0 q1)).getD k 0))) rfl rfl) rfl ?_
      refine wpList_nil ?_
      refine hK78 _ _ ?_
      refine c_region (fun ops82 hops81 => ?_)
      clear hops81
      refine p_run _ (x_move (.int .u64 (uv tt)) rfl rfl) rfl ?_
      refine p_run _ (x_move (.int .u64 (uv ((hdsB (pgI j q0 q1)).getD k 0))) rfl rfl) rfl ?_
      refine p_run _ (x_max (m := (uv tt)) (n := (uv ((hdsB (pgI j q0 q1)).getD k 0))) ((uv (topL t ((hdsB (pgI j q0 q1)).take (k + 1))))) rfl rfl rfl (top_snoc hkl htt)) rfl ?_
      refine p_run _ (x_assign (.int .u64 (uv (topL t ((hdsB (pgI j q0 q1)).take (k + 1))))) rfl rfl) rfl ?_
      refine wpList_nil ?_
      refine fr_at (l' := (.pointer (some ⟨D, 0, none⟩) :: undef :: q19.a :: q19.b :: q19.c :: q19.d :: .slice A b.length c :: .int .u64 (uv g) :: .int .u64 (uv (topL t ((hdsB (pgI j q0 q1)).take (k + 1)))) :: .int .u64 (j : Int) :: .pointer (some ⟨g46, 0, none⟩) :: .int .i64 (S.readE (j : Int)) :: undef :: .int .u64 (uv ((hdsB (pgI j q0 q1)).getD k 0)) :: q20.a :: q20.b :: .int .u64 (j : Int) :: .bool (decide ((j : Int) < 2)) :: .int .u64 (j : Int) :: .tuple [.agg ((nums .u8 ((pgI j q0 q1).map bv))).toArray, .int .i64 (S.readE (j : Int))].toArray :: .pointer (some ⟨D, 0, none⟩) :: .int .u64 (j : Int) :: .int .i64 (j : Int) :: .tuple [.agg ((nums .u8 ((pgI j q0 q1).map bv))).toArray, .int .i64 (S.readE (j : Int))].toArray :: .agg ((nums .u8 ((pgI j q0 q1).map bv))).toArray :: .int .i64 (S.readE (j : Int)) :: .int .i64 (S.readE (j : Int)) :: .bool false :: q21.f :: .agg ((nums .u8 ((pgI j q0 q1).map bv))).toArray :: .slice (some ag_) 8 nc63 :: .int .i64 8 :: .int .i64 (k : Int) :: .bool (decide ((k : Int) < 8)) :: .pointer (some ((ag_).add (k * 1))) :: .int .u64 (uv ((hdsB (pgI j q0 q1)).getD k 0)) :: .int .u64 (uv tt) :: .int .u64 (uv ((hdsB (pgI j q0 q1)).getD k 0)) :: .int .u64 (uv (topL t ((hdsB (pgI j q0 q1)).take (k + 1)))) :: u39 :: q23.b :: q23.c :: q23.d :: q23.e :: q23.f :: q23.g :: q23.h :: q24.a :: q24.b :: q24.c :: q24.d :: q24.e :: undef :: undef :: undef :: [])) rfl ?_
      refine hK76 _ _ ?_
      refine c_region (fun ops84 hops83 => ?_)
      clear hops83
      refine p_run _ (x_arith (k := .i64) (m := (k : Int)) (n := 1) .add (((k + 1 : Nat) : Int)) rfl rfl rfl (show IntKind.i64.wrap ((k : Int) + 1) = ((k + 1 : Nat) : Int) from ((wr64' (by omega)).trans (by omega))) rfl) rfl ?_
      refine p_run _ (x_move (.int .i64 ((k + 1 : Nat) : Int)) rfl rfl) rfl ?_
      refine wpList_nil ?_
      refine fr_at (l' := (.pointer (some ⟨D, 0, none⟩) :: undef :: q19.a :: q19.b :: q19.c :: q19.d :: .slice A b.length c :: .int .u64 (uv g) :: .int .u64 (uv (topL t ((hdsB (pgI j q0 q1)).take (k + 1)))) :: .int .u64 (j : Int) :: .pointer (some ⟨g46, 0, none⟩) :: .int .i64 (S.readE (j : Int)) :: undef :: .int .u64 (uv ((hdsB (pgI j q0 q1)).getD k 0)) :: q20.a :: q20.b :: .int .u64 (j : Int) :: .bool (decide ((j : Int) < 2)) :: .int .u64 (j : Int) :: .tuple [.agg ((nums .u8 ((pgI j q0 q1).map bv))).toArray, .int .i64 (S.readE (j : Int))].toArray :: .pointer (some ⟨D, 0, none⟩) :: .int .u64 (j : Int) :: .int .i64 (j : Int) :: .tuple [.agg ((nums .u8 ((pgI j q0 q1).map bv))).toArray, .int .i64 (S.readE (j : Int))].toArray :: .agg ((nums .u8 ((pgI j q0 q1).map bv))).toArray :: .int .i64 (S.readE (j : Int)) :: .int .i64 (S.readE (j : Int)) :: .bool false :: q21.f :: .agg ((nums .u8 ((pgI j q0 q1).map bv))).toArray :: .slice (some ag_) 8 nc63 :: .int .i64 8 :: .int .i64 ((k + 1 : Nat) : Int) :: .bool (decide ((k : Int) < 8)) :: .pointer (some ((ag_).add (k * 1))) :: .int .u64 (uv ((hdsB (pgI j q0 q1)).getD k 0)) :: .int .u64 (uv tt) :: .int .u64 (uv ((hdsB (pgI j q0 q1)).getD k 0)) :: .int .u64 (uv (topL t ((hdsB (pgI j q0 q1)).take (k + 1)))) :: .int .i64 ((k + 1 : Nat) : Int) :: q23.b :: q23.c :: q23.d :: q23.e :: q23.f :: q23.g :: q23.h :: q24.a :: q24.b :: q24.c :: q24.d :: q24.e :: undef :: undef :: undef :: [])) rfl ?_
      refine hJ66 (k + 1, topL t ((hdsB (pgI j q0 q1)).take (k + 1))) _ _ ?_ ?_
      ·show 8 - (k + 1) < 8 - k; omega
      ·exact ⟨_, _, _, _, _, _, _, _, rfl, (((((((HS.front 6 rfl).front 6 rfl).front 6 rfl).front 6 rfl).front 6 rfl).front 6 rfl).front 6 rfl), ⟨(by omega), rfl⟩⟩
     ·have hk8 : k = 8 := by have := of_decide_eq_false hc74; omega
      subst hk8
      rw [List.take_of_length_le (by rw [hdsB, List.length_map, List.length_range]; decide)] at htt
      refine wp_exit ?_
      refine hK57 _ _ ?_
      refine wp_seq_k (fun K85 hK86 => ?_)
      refine c_region (fun ops88 hops87 => ?_)
      clear hops87
      refine p_run _ (x_loads ((nums .u8 ((pgI j q0 q1).map bv))) 256 rfl rfl (bkCells (HS.get (.tail _ (.head _))) 0 _ (whole _)) (by rfl) (by kernel_rfl) (by simp [List.length_map, nums_length, pgI_len hq0 hq1 j])) rfl ?_
      refine p_run _ (x_move (.int .u64 (j : Int)) rfl rfl) rfl ?_
      refine w_call [.agg ((nums .u8 ((pgI j q0 q1).map bv))).toArray, .int .u64 (j : Int)] Try.func47 (by kernel_rfl) (by rfl) rfl ?_
      refine (open_root _ (pgI j q0 q1) (pgI_len hq0 hq1 j) j).mono ?_
      rintro e w91 ⟨oa89, nc90, rfl, hk_⟩
      replace HS := HS.more hk_
      clear hk_
      refine ⟨_, rfl, ?_⟩
      refine p_run _ (x_move (.tuple [.slice oa89 ((cnU (pgI j q0 q1) j).length) nc90, .int .u64 (uv (gnU (pgI j q0 q1) j))].toArray) rfl rfl) rfl ?_
      refine p_run _ (x_extract (vs := [.slice oa89 ((cnU (pgI j q0 q1) j).length) nc90, .int .u64 (uv (gnU (pgI j q0 q1) j))]) 0 (.slice oa89 ((cnU (pgI j q0 q1) j).length) nc90) rfl rfl rfl) rfl ?_
      refine p_run _ (x_extract (vs := [.slice oa89 ((cnU (pgI j q0 q1) j).length) nc90, .int .u64 (uv (gnU (pgI j q0 q1) j))]) 1 (.int .u64 (uv (gnU (pgI j q0 q1) j))) rfl rfl rfl) rfl ?_
      refine p_run _ (x_assign (.slice oa89 ((cnU (pgI j q0 q1) j).length) nc90) rfl rfl) rfl ?_
      refine p_run _ (x_assign (.int .u64 (uv (gnU (pgI j q0 q1) j))) rfl rfl) rfl ?_
      refine wpList_nil ?_
      refine fr_at (l' := (.pointer (some ⟨D, 0, none⟩) :: undef :: q19.a :: q19.b :: q19.c :: q19.d :: .slice A b.length c :: .int .u64 (uv g) :: .int .u64 (uv tt) :: .int .u64 (j : Int) :: .pointer (some ⟨g46, 0, none⟩) :: .int .i64 (S.readE (j : Int)) :: undef :: u13 :: .slice oa89 ((cnU (pgI j q0 q1) j).length) nc90 :: .int .u64 (uv (gnU (pgI j q0 q1) j)) :: .int .u64 (j : Int) :: .bool (decide ((j : Int) < 2)) :: .int .u64 (j : Int) :: .tuple [.agg ((nums .u8 ((pgI j q0 q1).map bv))).toArray, .int .i64 (S.readE (j : Int))].toArray :: .pointer (some ⟨D, 0, none⟩) :: .int .u64 (j : Int) :: .int .i64 (j : Int) :: .tuple [.agg ((nums .u8 ((pgI j q0 q1).map bv))).toArray, .int .i64 (S.readE (j : Int))].toArray :: .agg ((nums .u8 ((pgI j q0 q1).map bv))).toArray :: .int .i64 (S.readE (j : Int)) :: .int .i64 (S.readE (j : Int)) :: .bool false :: q21.f :: .agg ((nums .u8 ((pgI j q0 q1).map bv))).toArray :: .slice oa62 8 nc63 :: .int .i64 8 :: .int .i64 (8 : Int) :: .bool (decide ((8 : Int) < 8)) :: u34 :: u35 :: u36 :: u37 :: u38 :: u39 :: .tuple [.slice oa89 ((cnU (pgI j q0 q1) j).length) nc90, .int .u64 (uv (gnU (pgI j q0 q1) j))].toArray :: .agg ((nums .u8 ((pgI j q0 q1).map bv))).toArray :: .int .u64 (j : Int) :: .tuple [.slice oa89 ((cnU (pgI j q0 q1) j).length) nc90, .int .u64 (uv (gnU (pgI j q0 q1) j))].toArray :: .slice oa89 ((cnU (pgI j q0 q1) j).length) nc90 :: .int .u64 (uv (gnU (pgI j q0 q1) j)) :: q23.h :: q24.a :: q24.b :: q24.c :: q24.d :: q24.e :: undef :: undef :: undef :: [])) rfl ?_
      refine hK86 _ _ ?_
      refine wp_seq_k (fun K92 hK93 => ?_)
      by_cases hgt : gnU (pgI j q0 q1) j > gJ q0 q1 j
      ·refine c_region (fun ops95 hops94 => ?_)
       clear hops94
       refine p_run _ (x_move (.int .u64 (uv (gnU (pgI j q0 q1) j))) rfl rfl) rfl ?_
       refine p_run _ (x_move (.int .u64 (uv g)) rfl rfl) rfl ?_
       refine p_run _ (x_cmp (k := .u64) (m := (uv (gnU (pgI j q0 q1) j))) (n := (uv g)) .gtr true rfl rfl rfl (show decide _ = true from decide_eq_true (uv_gt.2 (hgg ▸ hgt))) rfl) rfl ?_
       refine wpList_nil ?_
       refine hK93 _ _ ?_
       refine c_true rfl ?_
       refine c_region (fun ops97 hops96 => ?_)
       clear hops96
       refine p_run _ (x_move (.slice oa89 ((cnU (pgI j q0 q1) j).length) nc90) rfl rfl) rfl ?_
       refine p_run _ (x_move (.int .u64 (uv (gnU (pgI j q0 q1) j))) rfl rfl) rfl ?_
       refine p_run _ (x_assign (.slice oa89 ((cnU (pgI j q0 q1) j).length) nc90) rfl rfl) rfl ?_
       refine p_run _ (x_assign (.int .u64 (uv (gnU (pgI j q0 q1) j))) rfl rfl) rfl ?_
       refine wpList_nil ?_
       refine fr_at (l' := (.pointer (some ⟨D, 0, none⟩) :: undef :: q19.a :: q19.b :: q19.c :: q19.d :: .slice oa89 ((cnU (pgI j q0 q1) j).length) nc90 :: .int .u64 (uv (gnU (pgI j q0 q1) j)) :: .int .u64 (uv tt) :: .int .u64 (j : Int) :: .pointer (some ⟨g46, 0, none⟩) :: .int .i64 (S.readE (j : Int)) :: undef :: u13 :: .slice oa89 ((cnU (pgI j q0 q1) j).length) nc90 :: .int .u64 (uv (gnU (pgI j q0 q1) j)) :: .int .u64 (j : Int) :: .bool (decide ((j : Int) < 2)) :: .int .u64 (j : Int) :: .tuple [.agg ((nums .u8 ((pgI j q0 q1).map bv))).toArray, .int .i64 (S.readE (j : Int))].toArray :: .pointer (some ⟨D, 0, none⟩) :: .int .u64 (j : Int) :: .int .i64 (j : Int) :: .tuple [.agg ((nums .u8 ((pgI j q0 q1).map bv))).toArray, .int .i64 (S.readE (j : Int))].toArray :: .agg ((nums .u8 ((pgI j q0 q1).map bv))).toArray :: .int .i64 (S.readE (j : Int)) :: .int .i64 (S.readE (j : Int)) :: .bool false :: q21.f :: .agg ((nums .u8 ((pgI j q0 q1).map bv))).toArray :: .slice oa62 8 nc63 :: .int .i64 8 :: .int .i64 (8 : Int) :: .bool (decide ((8 : Int) < 8)) :: u34 :: u35 :: u36 :: u37 :: u38 :: u39 :: .tuple [.slice oa89 ((cnU (pgI j q0 q1) j).length) nc90, .int .u64 (uv (gnU (pgI j q0 q1) j))].toArray :: .agg ((nums .u8 ((pgI j q0 q1).map bv))).toArray :: .int .u64 (j : Int) :: .tuple [.slice oa89 ((cnU (pgI j q0 q1) j).length) nc90, .int .u64 (uv (gnU (pgI j q0 q1) j))].toArray :: .slice oa89 ((cnU (pgI j q0 q1) j).length) nc90 :: .int .u64 (uv (gnU (pgI j q0 q1) j)) :: .int .u64 (uv (gnU (pgI j q0 q1) j)) :: .int .u64 (uv g) :: .bool true :: .slice oa89 ((cnU (pgI j q0 q1) j).length) nc90 :: .int .u64 (uv (gnU (pgI j q0 q1) j)) :: q24.e :: undef :: undef :: undef :: [])) rfl ?_
       refine hK36 _ _ ?_
       refine c_region (fun ops99 hops98 => ?_)
       clear hops98
       refine p_run _ (x_arith (k := .u64) (m := (j : Int)) (n := 1) .add (((j + 1 : Nat) : Int)) rfl rfl rfl (show IntKind.u64.wrap ((j : Int) + 1) = ((j + 1 : Nat) : Int) from ((wru64 (by omega)).trans (by omega))) rfl) rfl ?_
       refine p_run _ (x_move (.int .u64 ((j + 1 : Nat) : Int)) rfl rfl) rfl ?_
       refine wpList_nil ?_
       refine fr_at (l' := (.pointer (some ⟨D, 0, none⟩) :: undef :: q19.a :: q19.b :: q19.c :: q19.d :: .slice oa89 ((cnU (pgI j q0 q1) j).length) nc90 :: .int .u64 (uv (gnU (pgI j q0 q1) j)) :: .int .u64 (uv tt) :: .int .u64 (j : Int) :: .pointer (some ⟨g46, 0, none⟩) :: .int .i64 (S.readE (j : Int)) :: undef :: u13 :: .slice oa89 ((cnU (pgI j q0 q1) j).length) nc90 :: .int .u64 (uv (gnU (pgI j q0 q1) j)) :: .int .u64 ((j + 1 : Nat) : Int) :: .bool (decide ((j : Int) < 2)) :: .int .u64 (j : Int) :: .tuple [.agg ((nums .u8 ((pgI j q0 q1).map bv))).toArray, .int .i64 (S.readE (j : Int))].toArray :: .pointer (some ⟨D, 0, none⟩) :: .int .u64 (j : Int) :: .int .i64 (j : Int) :: .tuple [.agg ((nums .u8 ((pgI j q0 q1).map bv))).toArray, .int .i64 (S.readE (j : Int))].toArray :: .agg ((nums .u8 ((pgI j q0 q1).map bv))).toArray :: .int .i64 (S.readE (j : Int)) :: .int .i64 (S.readE (j : Int)) :: .bool false :: q21.f :: .agg ((nums .u8 ((pgI j q0 q1).map bv))).toArray :: .slice oa62 8 nc63 :: .int .i64 8 :: .int .i64 (8 : Int) :: .bool (decide ((8 : Int) < 8)) :: u34 :: u35 :: u36 :: u37 :: u38 :: u39 :: .tuple [.slice oa89 ((cnU (pgI j q0 q1) j).length) nc90, .int .u64 (uv (gnU (pgI j q0 q1) j))].toArray :: .agg ((nums .u8 ((pgI j q0 q1).map bv))).toArray :: .int .u64 (j : Int) :: .tuple [.slice oa89 ((cnU (pgI j q0 q1) j).length) nc90, .int .u64 (uv (gnU (pgI j q0 q1) j))].toArray :: .slice oa89 ((cnU (pgI j q0 q1) j).length) nc90 :: .int .u64 (uv (gnU (pgI j q0 q1) j)) :: .int .u64 (uv (gnU (pgI j q0 q1) j)) :: .int .u64 (uv g) :: .bool true :: .slice oa89 ((cnU (pgI j q0 q1) j).length) nc90 :: .int .u64 (uv (gnU (pgI j q0 q1) j)) :: .int .u64 ((j + 1 : Nat) : Int) :: undef :: undef :: undef :: [])) rfl ?_
       refine hJ26 (j + 1, oa89, nc90, cnU (pgI j q0 q1) j, gnU (pgI j q0 q1) j, tt) _ _ ?_ ?_
       ·show 2 - (j + 1) < 2 - j; omega
       ·exact ⟨⟨q19.a, q19.b, q19.c, q19.d, .int .u64 (j : Int), .pointer (some ⟨g46, 0, none⟩), .int .i64 (S.readE (j : Int)), u13⟩, ⟨.slice oa89 ((cnU (pgI j q0 q1) j).length) nc90, .int .u64 (uv (gnU (pgI j q0 q1) j)), .bool (decide ((j : Int) < 2)), .int .u64 (j : Int), .tuple [.agg ((nums .u8 ((pgI j q0 q1).map bv))).toArray, .int .i64 (S.readE (j : Int))].toArray, .pointer (some ⟨D, 0, none⟩), .int .u64 (j : Int), .int .i64 (j : Int)⟩, ⟨.tuple [.agg ((nums .u8 ((pgI j q0 q1).map bv))).toArray, .int .i64 (S.readE (j : Int))].toArray, .agg ((nums .u8 ((pgI j q0 q1).map bv))).toArray, .int .i64 (S.readE (j : Int)), .int .i64 (S.readE (j : Int)), .bool false, q21.f, .agg ((nums .u8 ((pgI j q0 q1).map bv))).toArray, .slice oa62 8 nc63⟩, ⟨.int .i64 8, .int .i64 (8 : Int), .bool (decide ((8 : Int) < 8)), u34, u35, u36, u37, u38⟩, ⟨u39, .tuple [.slice oa89 ((cnU (pgI j q0 q1) j).length) nc90, .int .u64 (uv (gnU (pgI j q0 q1) j))].toArray, .agg ((nums .u8 ((pgI j q0 q1).map bv))).toArray, .int .u64 (j : Int), .tuple [.slice oa89 ((cnU (pgI j q0 q1) j).length) nc90, .int .u64 (uv (gnU (pgI j q0 q1) j))].toArray, .slice oa89 ((cnU (pgI j q0 q1) j).length) nc90, .int .u64 (uv (gnU (pgI j q0 q1) j)), .int .u64 (uv (gnU (pgI j q0 q1) j))⟩, ⟨.int .u64 (uv g), .bool true, .slice oa89 ((cnU (pgI j q0 q1) j).length) nc90, .int .u64 (uv (gnU (pgI j q0 q1) j)), .int .u64 ((j + 1 : Nat) : Int), undef, undef, undef⟩, rfl, ((((((((HS.front 1 rfl).drop.front 1 rfl).drop.front 5 rfl).drop.front 4 rfl).front 4 rfl).front 4 rfl).front 4 rfl).front 4 rfl), ⟨(by omega), (fun i hi => (Nat.lt_or_ge i j).elim (fun h => her i h) (fun h => by obtain rfl : i = j := (by omega); exact hre)), (look_yes hlt hgt).1, (look_yes hlt hgt).2, by rw [htt, ht]; exact look_top hlt⟩⟩
      ·refine c_region (fun ops101 hops100 => ?_)
       clear hops100
       refine p_run _ (x_move (.int .u64 (uv (gnU (pgI j q0 q1) j))) rfl rfl) rfl ?_
       refine p_run _ (x_move (.int .u64 (uv g)) rfl rfl) rfl ?_
       refine p_run _ (x_cmp (k := .u64) (m := (uv (gnU (pgI j q0 q1) j))) (n := (uv g)) .gtr false rfl rfl rfl (show decide _ = false from decide_eq_false (fun h => hgt (hgg ▸ uv_gt.1 h))) rfl) rfl ?_
       refine wpList_nil ?_
       refine hK93 _ _ ?_
       refine c_false rfl ?_
       refine wp_skip ?_
       refine hK36 _ _ ?_
       refine c_region (fun ops103 hops102 => ?_)
       clear hops102
       refine p_run _ (x_arith (k := .u64) (m := (j : Int)) (n := 1) .add (((j + 1 : Nat) : Int)) rfl rfl rfl (show IntKind.u64.wrap ((j : Int) + 1) = ((j + 1 : Nat) : Int) from ((wru64 (by omega)).trans (by omega))) rfl) rfl ?_
       refine p_run _ (x_move (.int .u64 ((j + 1 : Nat) : Int)) rfl rfl) rfl ?_
       refine wpList_nil ?_
       refine fr_at (l' := (.pointer (some ⟨D, 0, none⟩) :: undef :: q19.a :: q19.b :: q19.c :: q19.d :: .slice A b.length c :: .int .u64 (uv g) :: .int .u64 (uv tt) :: .int .u64 (j : Int) :: .pointer (some ⟨g46, 0, none⟩) :: .int .i64 (S.readE (j : Int)) :: undef :: u13 :: .slice oa89 ((cnU (pgI j q0 q1) j).length) nc90 :: .int .u64 (uv (gnU (pgI j q0 q1) j)) :: .int .u64 ((j + 1 : Nat) : Int) :: .bool (decide ((j : Int) < 2)) :: .int .u64 (j : Int) :: .tuple [.agg ((nums .u8 ((pgI j q0 q1).map bv))).toArray, .int .i64 (S.readE (j : Int))].toArray :: .pointer (some ⟨D, 0, none⟩) :: .int .u64 (j : Int) :: .int .i64 (j : Int) :: .tuple [.agg ((nums .u8 ((pgI j q0 q1).map bv))).toArray, .int .i64 (S.readE (j : Int))].toArray :: .agg ((nums .u8 ((pgI j q0 q1).map bv))).toArray :: .int .i64 (S.readE (j : Int)) :: .int .i64 (S.readE (j : Int)) :: .bool false :: q21.f :: .agg ((nums .u8 ((pgI j q0 q1).map bv))).toArray :: .slice oa62 8 nc63 :: .int .i64 8 :: .int .i64 (8 : Int) :: .bool (decide ((8 : Int) < 8)) :: u34 :: u35 :: u36 :: u37 :: u38 :: u39 :: .tuple [.slice oa89 ((cnU (pgI j q0 q1) j).length) nc90, .int .u64 (uv (gnU (pgI j q0 q1) j))].toArray :: .agg ((nums .u8 ((pgI j q0 q1).map bv))).toArray :: .int .u64 (j : Int) :: .tuple [.slice oa89 ((cnU (pgI j q0 q1) j).length) nc90, .int .u64 (uv (gnU (pgI j q0 q1) j))].toArray :: .slice oa89 ((cnU (pgI j q0 q1) j).length) nc90 :: .int .u64 (uv (gnU (pgI j q0 q1) j)) :: .int .u64 (uv (gnU (pgI j q0 q1) j)) :: .int .u64 (uv g) :: .bool false :: q24.c :: q24.d :: .int .u64 ((j + 1 : Nat) : Int) :: undef :: undef :: undef :: [])) rfl ?_
       refine hJ26 (j + 1, A, c, b, g, tt) _ _ ?_ ?_
       ·show 2 - (j + 1) < 2 - j; omega
       ·exact ⟨⟨q19.a, q19.b, q19.c, q19.d, .int .u64 (j : Int), .pointer (some ⟨g46, 0, none⟩), .int .i64 (S.readE (j : Int)), u13⟩, ⟨.slice oa89 ((cnU (pgI j q0 q1) j).length) nc90, .int .u64 (uv (gnU (pgI j q0 q1) j)), .bool (decide ((j : Int) < 2)), .int .u64 (j : Int), .tuple [.agg ((nums .u8 ((pgI j q0 q1).map bv))).toArray, .int .i64 (S.readE (j : Int))].toArray, .pointer (some ⟨D, 0, none⟩), .int .u64 (j : Int), .int .i64 (j : Int)⟩, ⟨.tuple [.agg ((nums .u8 ((pgI j q0 q1).map bv))).toArray, .int .i64 (S.readE (j : Int))].toArray, .agg ((nums .u8 ((pgI j q0 q1).map bv))).toArray, .int .i64 (S.readE (j : Int)), .int .i64 (S.readE (j : Int)), .bool false, q21.f, .agg ((nums .u8 ((pgI j q0 q1).map bv))).toArray, .slice oa62 8 nc63⟩, ⟨.int .i64 8, .int .i64 (8 : Int), .bool (decide ((8 : Int) < 8)), u34, u35, u36, u37, u38⟩, ⟨u39, .tuple [.slice oa89 ((cnU (pgI j q0 q1) j).length) nc90, .int .u64 (uv (gnU (pgI j q0 q1) j))].toArray, .agg ((nums .u8 ((pgI j q0 q1).map bv))).toArray, .int .u64 (j : Int), .tuple [.slice oa89 ((cnU (pgI j q0 q1) j).length) nc90, .int .u64 (uv (gnU (pgI j q0 q1) j))].toArray, .slice oa89 ((cnU (pgI j q0 q1) j).length) nc90, .int .u64 (uv (gnU (pgI j q0 q1) j)), .int .u64 (uv (gnU (pgI j q0 q1) j))⟩, ⟨.int .u64 (uv g), .bool false, q24.c, q24.d, .int .u64 ((j + 1 : Nat) : Int), undef, undef, undef⟩, rfl, (((((HS.drop.drop.drop.front 3 rfl).front 3 rfl).front 3 rfl).front 3 rfl).front 4 rfl), ⟨(by omega), (fun i hi => (Nat.lt_or_ge i j).elim (fun h => her i h) (fun h => by obtain rfl : i = j := (by omega); exact hre)), hb.trans (look_no hlt hgt).1, hgg.trans (look_no hlt hgt).2, by rw [htt, ht]; exact look_top hlt⟩⟩
   ·refine c_region (fun ops105 hops104 => ?_)
    clear hops104
    refine p_run _ (x_move (.int .i64 (S.readE (j : Int))) rfl rfl) rfl ?_
    refine p_run _ (x_cmp (k := .i64) (m := (S.readE (j : Int))) (n := 0) .neq true rfl rfl rfl (by simpa [cmpB] using hre) rfl) rfl ?_
    refine wpList_nil ?_
    refine hK53 _ _ ?_
    refine c_true rfl ?_
    refine wp_seq_k (fun K106 hK107 => ?_)
    refine c_region (fun ops109 hops108 => ?_)
    clear hops108
    refine p_run _ (x_move (.int .i64 (S.readE (j : Int))) rfl rfl) rfl ?_
    refine p_run _ (x_assign (.slice none 0 0) rfl rfl) rfl ?_
    refine p_run _ (x_assign (.int .u64 0) rfl rfl) rfl ?_
    refine p_run _ (x_assign (.int .u64 0) rfl rfl) rfl ?_
    refine p_run _ (x_assign (.int .i64 (S.readE (j : Int))) rfl rfl) rfl ?_
    refine wpList_nil ?_
    refine fr_at (l' := (.pointer (some ⟨D, 0, none⟩) :: undef :: .slice none 0 0 :: .int .u64 0 :: .int .u64 0 :: .int .i64 (S.readE (j : Int)) :: .slice A b.length c :: .int .u64 (uv g) :: .int .u64 (uv t) :: .int .u64 (j : Int) :: .pointer (some ⟨g46, 0, none⟩) :: .int .i64 (S.readE (j : Int)) :: undef :: q19.h :: q20.a :: q20.b :: .int .u64 (j : Int) :: .bool (decide ((j : Int) < 2)) :: .int .u64 (j : Int) :: .tuple [.agg ((nums .u8 ((pgI j q0 q1).map bv))).toArray, .int .i64 (S.readE (j : Int))].toArray :: .pointer (some ⟨D, 0, none⟩) :: .int .u64 (j : Int) :: .int .i64 (j : Int) :: .tuple [.agg ((nums .u8 ((pgI j q0 q1).map bv))).toArray, .int .i64 (S.readE (j : Int))].toArray :: .agg ((nums .u8 ((pgI j q0 q1).map bv))).toArray :: .int .i64 (S.readE (j : Int)) :: .int .i64 (S.readE (j : Int)) :: .bool true :: .int .i64 (S.readE (j : Int)) :: q21.g :: q21.h :: V8.l q22 (V8.l q23 (q24.a :: q24.b :: q24.c :: q24.d :: q24.e :: undef :: undef :: undef :: [])))) rfl ?_
    refine hK107 _ _ ?_
    refine wp_ret ?_
    try simp only [Exit.inBlock, Exit.then]
    refine c_ret (.tuple [.slice none 0 0, .int .u64 0, .int .u64 0, .int .i64 (S.readE (j : Int))].toArray) (r_tttt rfl rfl rfl rfl rfl) ?_
    obtain ⟨e1, e2⟩ := lkE_bad hlt her hre
    replace HS := HS.rdpNil
    have e3 : rB S q0 q1 = [] := if_neg e2
    have e4 : rG S q0 q1 = 0 := if_neg e2
    have e5 : rT S q0 q1 = 0 := if_neg e2
    rw [e3, e4, e5, e1]
    exact ⟨none, 0, rfl, (((((((HS.front 1 rfl).drop.front 5 rfl).drop.front 4 rfl).front 4 rfl).front 4 rfl).front 4 rfl).front 4 rfl)⟩
  ·have hlt : j = 2 := by have := of_decide_eq_false hc34; omega
   subst hlt
   refine wp_exit ?_
   refine hK14 _ _ ?_
   refine wp_seq_k (fun K110 hK111 => ?_)
   refine c_region (fun ops113 hops112 => ?_)
   clear hops112
   refine p_run _ (x_move (.slice A b.length c) rfl rfl) rfl ?_
   refine p_run _ (x_move (.int .u64 (uv g)) rfl rfl) rfl ?_
   refine p_run _ (x_move (.int .u64 (uv t)) rfl rfl) rfl ?_
   refine p_run _ (x_assign (.slice A b.length c) rfl rfl) rfl ?_
   refine p_run _ (x_assign (.int .u64 (uv g)) rfl rfl) rfl ?_
   refine p_run _ (x_assign (.int .u64 (uv t)) rfl rfl) rfl ?_
   refine p_run _ (x_assign (.int .i64 0) rfl rfl) rfl ?_
   refine wpList_nil ?_
   obtain ⟨qz114, hqz114⟩ : ∃ q_ : V8, q_ = ⟨.int .u64 (uv t), q19.e, q19.f, q19.g, undef, q19.h, q20.a, q20.b⟩ := ⟨_, rfl⟩
   obtain ⟨qz115, hqz115⟩ : ∃ q_ : V8, q_ = ⟨.int .u64 (2 : Int), .bool (decide ((2 : Int) < 2)), q20.d, q20.e, q20.f, q20.g, q20.h, q21.a⟩ := ⟨_, rfl⟩
   obtain ⟨qz116, hqz116⟩ : ∃ q_ : V8, q_ = ⟨q21.b, q21.c, q21.d, q21.e, q21.f, q21.g, q21.h, q22.a⟩ := ⟨_, rfl⟩
   obtain ⟨qz117, hqz117⟩ : ∃ q_ : V8, q_ = ⟨q22.b, q22.c, q22.d, q22.e, q22.f, q22.g, q22.h, q23.a⟩ := ⟨_, rfl⟩
   obtain ⟨qz118, hqz118⟩ : ∃ q_ : V8, q_ = ⟨q23.b, q23.c, q23.d, q23.e, q23.f, q23.g, q23.h, q24.a⟩ := ⟨_, rfl⟩
   refine fr_at (l' := (.pointer (some ⟨D, 0, none⟩) :: undef :: .slice A b.length c :: .int .u64 (uv g) :: .int .u64 (uv t) :: .int .i64 0 :: .slice A b.length c :: .int .u64 (uv g) :: V8.l qz114 (V8.l qz115 (V8.l qz116 (V8.l qz117 (V8.l qz118 (q24.b :: q24.c :: q24.d :: q24.e :: .slice A b.length c :: .int .u64 (uv g) :: .int .u64 (uv t) :: []))))))) (by subst hqz114 hqz115 hqz116 hqz117 hqz118; rfl) ?_
   refine hK111 _ _ ?_
   refine wp_ret ?_
   try simp only [Exit.inBlock, Exit.then]
   refine c_ret (.tuple [.slice A b.length c, .int .u64 (uv g), .int .u64 (uv t), .int .i64 0].toArray) (r_tttt rfl rfl rfl rfl rfl) ?_
   have hz := lkE_ok her
   have e3 : rB S q0 q1 = b := (if_pos hz).trans hb.symm
   have e4 : rG S q0 q1 = g := (if_pos hz).trans hgg.symm
   have e5 : rT S q0 q1 = t := (if_pos hz).trans ht.symm
   rw [e3, e4, e5, hz]
   exact ⟨A, c, rfl, (((((HS.front 4 rfl).front 4 rfl).front 4 rfl).front 4 rfl).front 4 rfl)⟩
end
end Go.Proofs.Ytenlkobjldhfgaa
set_option linter.unusedVariables false
set_option linter.unusedSimpArgs false
namespace Go.Proofs.Ytenlkobjldhfgaa
open Go.RowKit Go.Proofs.YtenlkobjldhfgaaW.PrintWords Go.Proofs.YtenlkobjldhfgaaW.PrintLast Crc
abbrev U4r4 (l : List Value) : List Value := undef :: undef :: undef :: undef :: l
abbrev U8r4 (l : List Value) : List Value := U4r4 (U4r4 l)
abbrev U16r4 (l : List Value) : List Value := U8r4 (U8r4 l)
abbrev U32r4 (l : List Value) : List Value := U16r4 (U16r4 l)
section
variable {w0 W : World} {F : Nat → Prop} {L : List Res} {D gs gm n : Nat} {v : Value} {S : Dk} {q0 q1 : List UInt8}
def reE (S : Dk) (q0 q1 : List UInt8) : Int := if lkE S = 0 then (if lkG q0 q1 = 0 then 51 else 0) else lkE S
def nE (S : Dk) (q0 q1 : List UInt8) : Int := if lkE S = 0 then (if 18446744073709551612 < (lkT q0 q1).toNat then 51 else 0) else lkE S
def nG (S : Dk) (q0 q1 : List UInt8) : UInt64 := if nE S q0 q1 = 0 then UInt64.ofNat (nxN (lkG q0 q1).toNat (lkT q0 q1).toNat) else 0
theorem lkB_zero (h : lkG q0 q1 = 0) : lkB q0 q1 = [] := by
 unfold lkG at h
 unfold lkB
 split
 ·rename_i h1
  rw [if_pos h1] at h
  rw [h] at h1
  exact absurd h1 (UInt64.lt_irrefl 0 |> fun hh => fun h2 => by
   have := UInt64.lt_iff_toNat_lt.1 h2
   have h0 : (0 : UInt64).toNat = 0 := rfl
   omega)
 ·rename_i h1
  rw [if_neg h1] at h
  exact cn_zero h
theorem add_one {t : UInt64} (h : t.toNat ≤ 18446744073709551614) : IntKind.u64.wrap (uv t + 1) = uv (UInt64.ofNat (t.toNat + 1)) := by
 unfold uv
 rw [IntKind.wrap_u64, UInt64.toNat_ofNat']
 omega
theorem add_two {k : Nat} (h : k ≤ 18446744073709551614) : IntKind.u64.wrap (uv (UInt64.ofNat k) + 1) = uv (UInt64.ofNat (k + 1)) := by
 unfold uv
 rw [IntKind.wrap_u64, UInt64.toNat_ofNat', UInt64.toNat_ofNat']
 omega
theorem ofN_mod {k : Nat} (h : k ≤ 18446744073709551615) : uv (UInt64.ofNat k) % 2 = ((k % 2 : Nat) : Int) := by
 unfold uv
 rw [UInt64.toNat_ofNat']
 omega
theorem uv_pos {g : UInt64} (h : ¬ g = 0) : uv g > 0 := by
 have := uv_nz h
 have := uv_lo g
 omega
theorem toN_pos {g : UInt64} (h : ¬ g = 0) : 0 < g.toNat := by
 have := uv_pos h
 unfold uv at this
 omega
set_option maxRecDepth 10000 in
set_option maxHeartbeats 2000000 in
theorem read_root (HS : St w0 F W (dsk D gs gm v S L)) (hg : S.good n) (hn : n ≤ 100000) (hp0 : S.readP 0 = q0.map bv) (hp1 : S.readP 1 = q1.map bv) (hq0 : q0.length = 256) (hq1 : q1.length = 256) : Calls Try.prog 9 #[.pointer (some ⟨D, 0, none⟩)] W fun e w' => ∃ A c, e = .returned (.tuple #[.slice A (rB S q0 q1).length c, .int .u64 (uv (rG S q0 q1)), .int .i64 (reE S q0 q1)]) ∧ St w0 F w' (rdp A c (rB S q0 q1) :: dsk D gs gm v S L) := by
 refine c_enter Try.func9 rfl 25 rfl (.pointer (some ⟨D, 0, none⟩) :: U16r4 (U8r4 ([]))) rfl ?_
 refine wp_seq_k (fun K1 hK2 => ?_)
 refine c_region (fun ops4 hops3 => ?_)
 clear hops3
 refine p_run _ (x_assign (.slice none 0 0) rfl rfl) rfl ?_
 refine p_run _ (x_assign (.int .u64 0) rfl rfl) rfl ?_
 refine p_run _ (x_assign (.int .i64 0) rfl rfl) rfl ?_
 refine wpList_nil ?_
 refine hK2 _ _ ?_
 refine wp_seq_k (fun K5 hK6 => ?_)
 refine c_region (fun ops8 hops7 => ?_)
 clear hops7
 refine p_run _ (x_move (.pointer (some ⟨D, 0, none⟩)) rfl rfl) rfl ?_
 refine w_call [.pointer (some ⟨D, 0, none⟩)] Try.func29 (by kernel_rfl) (by rfl) rfl ?_
 replace HS := ((((HS.front 3 rfl).front 3 rfl).front 3 rfl).front 3 rfl)
 refine (look_root HS hg hn hp0 hp1 hq0 hq1).mono ?_
 clear HS
 rintro e w11 ⟨oa9, nc10, rfl, HS⟩
 refine ⟨_, rfl, ?_⟩
 refine p_run _ (x_move (.tuple [.slice oa9 ((rB S q0 q1).length) nc10, .int .u64 (uv (rG S q0 q1)), .int .u64 (uv (rT S q0 q1)), .int .i64 (lkE S)].toArray) rfl rfl) rfl ?_
 refine p_run _ (x_extract (vs := [.slice oa9 ((rB S q0 q1).length) nc10, .int .u64 (uv (rG S q0 q1)), .int .u64 (uv (rT S q0 q1)), .int .i64 (lkE S)]) 0 (.slice oa9 ((rB S q0 q1).length) nc10) rfl rfl rfl) rfl ?_
 refine p_run _ (x_extract (vs := [.slice oa9 ((rB S q0 q1).length) nc10, .int .u64 (uv (rG S q0 q1)), .int .u64 (uv (rT S q0 q1)), .int .i64 (lkE S)]) 1 (.int .u64 (uv (rG S q0 q1))) rfl rfl rfl) rfl ?_
 refine p_run (l' := (.pointer (some ⟨D, 0, none⟩) :: undef :: .slice none 0 0 :: .int .u64 0 :: .int .i64 0 :: U4r4 (.tuple [.slice oa9 ((rB S q0 q1).length) nc10, .int .u64 (uv (rG S q0 q1)), .int .u64 (uv (rT S q0 q1)), .int .i64 (lkE S)].toArray :: .pointer (some ⟨D, 0, none⟩) :: .tuple [.slice oa9 ((rB S q0 q1).length) nc10, .int .u64 (uv (rG S q0 q1)), .int .u64 (uv (rT S q0 q1)), .int .i64 (lkE S)].toArray :: .slice oa9 ((rB S q0 q1).length) nc10 :: .int .u64 (uv (rG S q0 q1)) :: .int .u64 (uv (rT S q0 q1)) :: U8r4 (undef :: undef :: [])))) _ (x_extract (vs := [.slice oa9 ((rB S q0 q1).length) nc10, .int .u64 (uv (rG S q0 q1)), .int .u64 (uv (rT S q0 q1)), .int .i64 (lkE S)]) 2 (.int .u64 (uv (rT S q0 q1))) rfl rfl rfl) rfl ?_
 refine p_run _ (x_extract (vs := [.slice oa9 ((rB S q0 q1).length) nc10, .int .u64 (uv (rG S q0 q1)), .int .u64 (uv (rT S q0 q1)), .int .i64 (lkE S)]) 3 (.int .i64 (lkE S)) rfl rfl rfl) rfl ?_
 refine p_run _ (x_assign (.slice oa9 ((rB S q0 q1).length) nc10) rfl rfl) rfl ?_
 refine p_run _ (x_assign (.int .u64 (uv (rG S q0 q1))) rfl rfl) rfl ?_
 refine p_run _ (x_assign (.int .u64 (uv (rT S q0 q1))) rfl rfl) rfl ?_
 refine p_run _ (x_assign (.int .i64 (lkE S)) rfl rfl) rfl ?_
 refine wpList_nil ?_
 refine hK6 _ _ ?_
 refine wp_seq_k (fun K12 hK13 => ?_)
 refine wp_block ?_
 refine wp_seq_k (fun K14 hK15 => ?_)
 rcases (show ¬ lkE S = 0 ∨ (lkE S = 0 ∧ lkG q0 q1 = 0) ∨ (lkE S = 0 ∧ ¬ lkG q0 q1 = 0) from by by_cases h : lkE S = 0 <;> by_cases h2 : lkG q0 q1 = 0 <;> simp [h, h2]) with hz | ⟨hz, hg0⟩ | ⟨hz, hg0⟩
 ·refine c_region (fun ops17 hops16 => ?_)
  clear hops16
  refine p_run _ (x_move (.int .i64 (lkE S)) rfl rfl) rfl ?_
  refine p_run _ (x_cmp (k := .i64) (m := (lkE S)) (n := 0) .neq true rfl rfl rfl (by simpa [cmpB] using hz) rfl) rfl ?_
  refine p_run _ (x_assign (.bool true) rfl rfl) rfl ?_
  refine wpList_nil ?_
  refine fr_at (l' := (.pointer (some ⟨D, 0, none⟩) :: undef :: .slice none 0 0 :: .int .u64 0 :: .int .i64 0 :: .slice oa9 ((rB S q0 q1).length) nc10 :: .int .u64 (uv (rG S q0 q1)) :: .int .u64 (uv (rT S q0 q1)) :: .int .i64 (lkE S) :: .tuple [.slice oa9 ((rB S q0 q1).length) nc10, .int .u64 (uv (rG S q0 q1)), .int .u64 (uv (rT S q0 q1)), .int .i64 (lkE S)].toArray :: .pointer (some ⟨D, 0, none⟩) :: .tuple [.slice oa9 ((rB S q0 q1).length) nc10, .int .u64 (uv (rG S q0 q1)), .int .u64 (uv (rT S q0 q1)), .int .i64 (lkE S)].toArray :: .slice oa9 ((rB S q0 q1).length) nc10 :: .int .u64 (uv (rG S q0 q1)) :: .int .u64 (uv (rT S q0 q1)) :: .int .i64 (lkE S) :: .bool true :: .int .i64 (lkE S) :: .bool true :: U4r4 (undef :: undef :: []))) rfl ?_
  refine hK15 _ _ ?_
  refine c_true rfl ?_
  refine wp_seq_k (fun K18 hK19 => ?_)
  refine c_region (fun ops21 hops20 => ?_)
  clear hops20
  refine p_run _ (x_move (.int .i64 (lkE S)) rfl rfl) rfl ?_
  refine p_run _ (x_assign (.slice none 0 0) rfl rfl) rfl ?_
  refine p_run _ (x_assign (.int .u64 0) rfl rfl) rfl ?_
  refine p_run _ (x_assign (.int .i64 (lkE S)) rfl rfl) rfl ?_
  refine wpList_nil ?_
  refine hK19 _ _ ?_
  refine wp_ret ?_
  try simp only [Exit.inBlock, Exit.then]
  refine c_ret (.tuple [.slice none 0 0, .int .u64 0, .int .i64 (lkE S)].toArray) (r_tmp3 rfl rfl rfl rfl) ?_
  replace HS := HS.rdpNil
  have e1 : reE S q0 q1 = lkE S := if_neg hz
  have e2 : rB S q0 q1 = [] := if_neg hz
  have e3 : rG S q0 q1 = 0 := if_neg hz
  rw [e1, e2, e3]
  exact ⟨none, 0, rfl, ((((((HS.front 1 rfl).drop.front 4 rfl).front 4 rfl).front 4 rfl).front 4 rfl).front 4 rfl)⟩
 ·refine c_region (fun ops23 hops22 => ?_)
  clear hops22
  refine p_run _ (x_move (.int .i64 (lkE S)) rfl rfl) rfl ?_
  refine p_run _ (x_cmp (k := .i64) (m := (lkE S)) (n := 0) .neq false rfl rfl rfl (by rw [hz]; rfl) rfl) rfl ?_
  refine p_run _ (x_assign (.bool false) rfl rfl) rfl ?_
  refine wpList_nil ?_
  refine fr_at (l' := (.pointer (some ⟨D, 0, none⟩) :: undef :: .slice none 0 0 :: .int .u64 0 :: .int .i64 0 :: .slice oa9 ((rB S q0 q1).length) nc10 :: .int .u64 (uv (rG S q0 q1)) :: .int .u64 (uv (rT S q0 q1)) :: .int .i64 (lkE S) :: .tuple [.slice oa9 ((rB S q0 q1).length) nc10, .int .u64 (uv (rG S q0 q1)), .int .u64 (uv (rT S q0 q1)), .int .i64 (lkE S)].toArray :: .pointer (some ⟨D, 0, none⟩) :: .tuple [.slice oa9 ((rB S q0 q1).length) nc10, .int .u64 (uv (rG S q0 q1)), .int .u64 (uv (rT S q0 q1)), .int .i64 (lkE S)].toArray :: .slice oa9 ((rB S q0 q1).length) nc10 :: .int .u64 (uv (rG S q0 q1)) :: .int .u64 (uv (rT S q0 q1)) :: .int .i64 (lkE S) :: .bool false :: .int .i64 (lkE S) :: .bool false :: U4r4 (undef :: undef :: []))) rfl ?_
  refine hK15 _ _ ?_
  refine c_false rfl ?_
  refine wp_seq_k (fun K24 hK25 => ?_)
  refine c_region (fun ops27 hops26 => ?_)
  clear hops26
  refine p_run _ (x_move (.int .u64 (uv (rG S q0 q1))) rfl rfl) rfl ?_
  refine p_run _ (x_cmp (k := .u64) (m := (uv (rG S q0 q1))) (n := 0) .eql true rfl rfl rfl (by rw [show rG S q0 q1 = 0 from (if_pos hz).trans hg0]; rfl) rfl) rfl ?_
  refine p_run _ (x_assign (.bool true) rfl rfl) rfl ?_
  refine wpList_nil ?_
  refine hK25 _ _ ?_
  refine c_true rfl ?_
  refine wp_seq_k (fun K28 hK29 => ?_)
  refine c_region (fun ops31 hops30 => ?_)
  clear hops30
  refine p_run _ (x_assign (.slice none 0 0) rfl rfl) rfl ?_
  refine p_run _ (x_assign (.int .u64 0) rfl rfl) rfl ?_
  refine p_run _ (x_assign (.int .i64 51) rfl rfl) rfl ?_
  refine wpList_nil ?_
  refine hK29 _ _ ?_
  refine wp_ret ?_
  try simp only [Exit.inBlock, Exit.then]
  refine c_ret (.tuple [.slice none 0 0, .int .u64 0, .int .i64 51].toArray) (r_tmp3 rfl rfl rfl rfl) ?_
  replace HS := HS.rdpNil
  have e1 : reE S q0 q1 = 51 := (if_pos hz).trans (if_pos hg0)
  have e2 : rB S q0 q1 = [] := (if_pos hz).trans (lkB_zero hg0)
  have e3 : rG S q0 q1 = 0 := (if_pos hz).trans hg0
  rw [e1, e2, e3]
  exact ⟨none, 0, rfl, ((((((HS.front 1 rfl).drop.front 4 rfl).front 4 rfl).front 4 rfl).front 4 rfl).front 4 rfl)⟩
 ·refine c_region (fun ops33 hops32 => ?_)
  clear hops32
  refine p_run _ (x_move (.int .i64 (lkE S)) rfl rfl) rfl ?_
  refine p_run _ (x_cmp (k := .i64) (m := (lkE S)) (n := 0) .neq false rfl rfl rfl (by rw [hz]; rfl) rfl) rfl ?_
  refine p_run (l' := (.pointer (some ⟨D, 0, none⟩) :: undef :: .slice none 0 0 :: .int .u64 0 :: .int .i64 0 :: .slice oa9 ((rB S q0 q1).length) nc10 :: .int .u64 (uv (rG S q0 q1)) :: .int .u64 (uv (rT S q0 q1)) :: .int .i64 (lkE S) :: .tuple [.slice oa9 ((rB S q0 q1).length) nc10, .int .u64 (uv (rG S q0 q1)), .int .u64 (uv (rT S q0 q1)), .int .i64 (lkE S)].toArray :: .pointer (some ⟨D, 0, none⟩) :: .tuple [.slice oa9 ((rB S q0 q1).length) nc10, .int .u64 (uv (rG S q0 q1)), .int .u64 (uv (rT S q0 q1)), .int .i64 (lkE S)].toArray :: .slice oa9 ((rB S q0 q1).length) nc10 :: .int .u64 (uv (rG S q0 q1)) :: .int .u64 (uv (rT S q0 q1)) :: .int .i64 (lkE S) :: .bool false :: .int .i64 (lkE S) :: .bool false :: U4r4 (undef :: undef :: []))) _ (x_assign (.bool false) rfl rfl) rfl ?_
  refine wpList_nil ?_
  refine hK15 _ _ ?_
  refine c_false rfl ?_
  refine wp_seq_k (fun K34 hK35 => ?_)
  refine c_region (fun ops37 hops36 => ?_)
  clear hops36
  refine p_run _ (x_move (.int .u64 (uv (rG S q0 q1))) rfl rfl) rfl ?_
  refine p_run _ (x_cmp (k := .u64) (m := (uv (rG S q0 q1))) (n := 0) .eql false rfl rfl rfl (by rw [show rG S q0 q1 = lkG q0 q1 from if_pos hz]; simp [cmpB, uv_nz hg0]) rfl) rfl ?_
  refine p_run _ (x_assign (.bool false) rfl rfl) rfl ?_
  refine wpList_nil ?_
  refine hK35 _ _ ?_
  refine c_false rfl ?_
  refine wp_skip ?_
  refine hK13 _ _ ?_
  refine wp_seq_k (fun K38 hK39 => ?_)
  refine c_region (fun ops41 hops40 => ?_)
  clear hops40
  refine p_run _ (x_move (.slice oa9 ((rB S q0 q1).length) nc10) rfl rfl) rfl ?_
  refine p_run _ (x_move (.int .u64 (uv (rG S q0 q1))) rfl rfl) rfl ?_
  refine p_run _ (x_assign (.slice oa9 ((rB S q0 q1).length) nc10) rfl rfl) rfl ?_
  refine p_run _ (x_assign (.int .u64 (uv (rG S q0 q1))) rfl rfl) rfl ?_
  refine p_run _ (x_assign (.int .i64 0) rfl rfl) rfl ?_
  refine wpList_nil ?_
  obtain ⟨qz42, hqz42⟩ : ∃ q_ : V8, q_ = ⟨.int .i64 (lkE S), .tuple [.slice oa9 ((rB S q0 q1).length) nc10, .int .u64 (uv (rG S q0 q1)), .int .u64 (uv (rT S q0 q1)), .int .i64 (lkE S)].toArray, .pointer (some ⟨D, 0, none⟩), .tuple [.slice oa9 ((rB S q0 q1).length) nc10, .int .u64 (uv (rG S q0 q1)), .int .u64 (uv (rT S q0 q1)), .int .i64 (lkE S)].toArray, .slice oa9 ((rB S q0 q1).length) nc10, .int .u64 (uv (rG S q0 q1)), .int .u64 (uv (rT S q0 q1)), .int .i64 (lkE S)⟩ := ⟨_, rfl⟩
  obtain ⟨qz43, hqz43⟩ : ∃ q_ : V8, q_ = ⟨.bool false, .int .i64 (lkE S), .bool false, undef, .bool false, .int .u64 (uv (rG S q0 q1)), .bool false, .slice oa9 ((rB S q0 q1).length) nc10⟩ := ⟨_, rfl⟩
  refine fr_at (l' := (.pointer (some ⟨D, 0, none⟩) :: undef :: .slice oa9 ((rB S q0 q1).length) nc10 :: .int .u64 (uv (rG S q0 q1)) :: .int .i64 0 :: .slice oa9 ((rB S q0 q1).length) nc10 :: .int .u64 (uv (rG S q0 q1)) :: .int .u64 (uv (rT S q0 q1)) :: V8.l qz42 (V8.l qz43 (.int .u64 (uv (rG S q0 q1)) :: [])))) (by subst hqz42 hqz43; rfl) ?_
  refine hK39 _ _ ?_
  refine wp_ret ?_
  try simp only [Exit.inBlock, Exit.then]
  refine c_ret (.tuple [.slice oa9 ((rB S q0 q1).length) nc10, .int .u64 (uv (rG S q0 q1)), .int .i64 0].toArray) (r_tmp3 rfl rfl rfl rfl) ?_
  have e1 : reE S q0 q1 = 0 := (if_pos hz).trans (if_neg hg0)
  rw [e1]
  exact ⟨_, _, rfl, (((((HS.front 4 rfl).front 4 rfl).front 4 rfl).front 4 rfl).front 4 rfl)⟩
theorem next_split (S : Dk) (q0 q1 : List UInt8) : (¬ lkE S = 0) ∨ (lkE S = 0 ∧ 18446744073709551612 < (lkT q0 q1).toNat) ∨ (lkE S = 0 ∧ (lkT q0 q1).toNat ≤ 18446744073709551612 ∧ lkG q0 q1 = 0) ∨
  (lkE S = 0 ∧ (lkT q0 q1).toNat ≤ 18446744073709551612 ∧ ¬ lkG q0 q1 = 0 ∧ ((lkT q0 q1).toNat + 1) % 2 = (lkG q0 q1).toNat % 2) ∨ (lkE S = 0 ∧ (lkT q0 q1).toNat ≤ 18446744073709551612 ∧ ¬ lkG q0 q1 = 0 ∧ ¬ ((lkT q0 q1).toNat + 1) % 2 = (lkG q0 q1).toNat % 2) := by
 by_cases h1 : lkE S = 0
 ·rcases Nat.lt_or_ge 18446744073709551612 (lkT q0 q1).toNat with h2 | h2
  ·exact .inr (.inl ⟨h1, h2⟩)
  ·by_cases h3 : lkG q0 q1 = 0
   ·exact .inr (.inr (.inl ⟨h1, h2, h3⟩))
   ·by_cases h4 : ((lkT q0 q1).toNat + 1) % 2 = (lkG q0 q1).toNat % 2
    ·exact .inr (.inr (.inr (.inl ⟨h1, h2, h3, h4⟩)))
    ·exact .inr (.inr (.inr (.inr ⟨h1, h2, h3, h4⟩)))
 ·exact .inl h1
set_option maxRecDepth 10000 in
set_option maxHeartbeats 2000000 in
theorem next_root (HS : St w0 F W (dsk D gs gm v S L)) (hg : S.good n) (hn : n ≤ 100000) (hp0 : S.readP 0 = q0.map bv) (hp1 : S.readP 1 = q1.map bv) (hq0 : q0.length = 256) (hq1 : q1.length = 256) : Calls Try.prog 11 #[.pointer (some ⟨D, 0, none⟩)] W fun e w' => e = .returned (.tuple #[.int .u64 (uv (nG S q0 q1)), .int .i64 (nE S q0 q1)]) ∧ St w0 F w' (dsk D gs gm v S L) := by
 refine c_enter Try.func11 rfl 37 rfl (.pointer (some ⟨D, 0, none⟩) :: U32r4 (U4r4 ([]))) rfl ?_
 refine wp_seq_k (fun K1 hK2 => ?_)
 refine c_region (fun ops4 hops3 => ?_)
 clear hops3
 refine p_run _ (x_assign (.int .u64 0) rfl rfl) rfl ?_
 refine p_run _ (x_assign (.int .i64 0) rfl rfl) rfl ?_
 refine wpList_nil ?_
 refine hK2 _ _ ?_
 refine wp_seq_k (fun K5 hK6 => ?_)
 refine c_region (fun ops8 hops7 => ?_)
 clear hops7
 refine p_run _ (x_move (.pointer (some ⟨D, 0, none⟩)) rfl rfl) rfl ?_
 refine w_call [.pointer (some ⟨D, 0, none⟩)] Try.func29 (by kernel_rfl) (by rfl) rfl ?_
 replace HS := ((((HS.front 3 rfl).front 3 rfl).front 3 rfl).front 3 rfl)
 refine (look_root HS hg hn hp0 hp1 hq0 hq1).mono ?_
 clear HS
 rintro e w11 ⟨oa9, nc10, rfl, HS⟩
 refine ⟨_, rfl, ?_⟩
 refine p_run _ (x_move (.tuple [.slice oa9 ((rB S q0 q1).length) nc10, .int .u64 (uv (rG S q0 q1)), .int .u64 (uv (rT S q0 q1)), .int .i64 (lkE S)].toArray) rfl rfl) rfl ?_
 refine p_run _ (x_extract (vs := [.slice oa9 ((rB S q0 q1).length) nc10, .int .u64 (uv (rG S q0 q1)), .int .u64 (uv (rT S q0 q1)), .int .i64 (lkE S)]) 0 (.slice oa9 ((rB S q0 q1).length) nc10) rfl rfl rfl) rfl ?_
 refine p_run _ (x_extract (vs := [.slice oa9 ((rB S q0 q1).length) nc10, .int .u64 (uv (rG S q0 q1)), .int .u64 (uv (rT S q0 q1)), .int .i64 (lkE S)]) 1 (.int .u64 (uv (rG S q0 q1))) rfl rfl rfl) rfl ?_
 refine p_run _ (x_extract (vs := [.slice oa9 ((rB S q0 q1).length) nc10, .int .u64 (uv (rG S q0 q1)), .int .u64 (uv (rT S q0 q1)), .int .i64 (lkE S)]) 2 (.int .u64 (uv (rT S q0 q1))) rfl rfl rfl) rfl ?_
 refine p_run (l' := (.pointer (some ⟨D, 0, none⟩) :: undef :: .int .u64 0 :: .int .i64 0 :: U4r4 (undef :: .tuple [.slice oa9 ((rB S q0 q1).length) nc10, .int .u64 (uv (rG S q0 q1)), .int .u64 (uv (rT S q0 q1)), .int .i64 (lkE S)].toArray :: .pointer (some ⟨D, 0, none⟩) :: .tuple [.slice oa9 ((rB S q0 q1).length) nc10, .int .u64 (uv (rG S q0 q1)), .int .u64 (uv (rT S q0 q1)), .int .i64 (lkE S)].toArray :: .slice oa9 ((rB S q0 q1).length) nc10 :: .int .u64 (uv (rG S q0 q1)) :: .int .u64 (uv (rT S q0 q1)) :: .int .i64 (lkE S) :: U16r4 (U4r4 (undef :: []))))) _ (x_extract (vs := [.slice oa9 ((rB S q0 q1).length) nc10, .int .u64 (uv (rG S q0 q1)), .int .u64 (uv (rT S q0 q1)), .int .i64 (lkE S)]) 3 (.int .i64 (lkE S)) rfl rfl rfl) rfl ?_
 refine p_run _ (x_assign (.slice oa9 ((rB S q0 q1).length) nc10) rfl rfl) rfl ?_
 refine p_run _ (x_assign (.int .u64 (uv (rG S q0 q1))) rfl rfl) rfl ?_
 refine p_run _ (x_assign (.int .u64 (uv (rT S q0 q1))) rfl rfl) rfl ?_
 refine p_run _ (x_assign (.int .i64 (lkE S)) rfl rfl) rfl ?_
 refine wpList_nil ?_
 refine hK6 _ _ ?_
 refine wp_seq_k (fun K12 hK13 => ?_)
 refine wp_block ?_
 refine wp_seq_k (fun K14 hK15 => ?_)
 rcases next_split S q0 q1 with hz | ⟨hz, ht⟩ | ⟨hz, ht, hg0⟩ | ⟨hz, ht, hg0, hpar⟩ | ⟨hz, ht, hg0, hpar⟩
 ·refine c_region (fun ops17 hops16 => ?_)
  clear hops16
  refine p_run _ (x_move (.int .i64 (lkE S)) rfl rfl) rfl ?_
  refine p_run _ (x_cmp (k := .i64) (m := (lkE S)) (n := 0) .neq true rfl rfl rfl (by simpa [cmpB] using hz) rfl) rfl ?_
  refine p_run _ (x_assign (.bool true) rfl rfl) rfl ?_
  refine wpList_nil ?_
  refine fr_at (l' := (.pointer (some ⟨D, 0, none⟩) :: undef :: .int .u64 0 :: .int .i64 0 :: .slice oa9 ((rB S q0 q1).length) nc10 :: .int .u64 (uv (rG S q0 q1)) :: .int .u64 (uv (rT S q0 q1)) :: .int .i64 (lkE S) :: undef :: .tuple [.slice oa9 ((rB S q0 q1).length) nc10, .int .u64 (uv (rG S q0 q1)), .int .u64 (uv (rT S q0 q1)), .int .i64 (lkE S)].toArray :: .pointer (some ⟨D, 0, none⟩) :: .tuple [.slice oa9 ((rB S q0 q1).length) nc10, .int .u64 (uv (rG S q0 q1)), .int .u64 (uv (rT S q0 q1)), .int .i64 (lkE S)].toArray :: .slice oa9 ((rB S q0 q1).length) nc10 :: .int .u64 (uv (rG S q0 q1)) :: .int .u64 (uv (rT S q0 q1)) :: .int .i64 (lkE S) :: .bool true :: .int .i64 (lkE S) :: .bool true :: U16r4 (undef :: undef :: []))) rfl ?_
  refine hK15 _ _ ?_
  refine c_true rfl ?_
  refine wp_seq_k (fun K18 hK19 => ?_)
  refine c_region (fun ops21 hops20 => ?_)
  clear hops20
  refine p_run _ (x_move (.int .i64 (lkE S)) rfl rfl) rfl ?_
  refine p_run _ (x_assign (.int .u64 0) rfl rfl) rfl ?_
  refine p_run _ (x_assign (.int .i64 (lkE S)) rfl rfl) rfl ?_
  refine wpList_nil ?_
  refine hK19 _ _ ?_
  refine wp_ret ?_
  try simp only [Exit.inBlock, Exit.then]
  refine c_ret (.tuple [.int .u64 0, .int .i64 (lkE S)].toArray) (r_tmp2 rfl rfl rfl) ?_
  have e1 : nE S q0 q1 = lkE S := if_neg hz
  have e2 : nG S q0 q1 = 0 := if_neg (by rw [e1]; exact hz)
  rw [e1, e2]
  exact ⟨rfl, ((((HS.drop.front 3 rfl).front 3 rfl).front 3 rfl).front 3 rfl)⟩
 ·have eT : rT S q0 q1 = lkT q0 q1 := if_pos hz
  have eG : rG S q0 q1 = lkG q0 q1 := if_pos hz
  refine c_region (fun ops23 hops22 => ?_)
  clear hops22
  refine p_run _ (x_move (.int .i64 (lkE S)) rfl rfl) rfl ?_
  refine p_run _ (x_cmp (k := .i64) (m := (lkE S)) (n := 0) .neq false rfl rfl rfl (by rw [hz]; rfl) rfl) rfl ?_
  refine p_run _ (x_assign (.bool false) rfl rfl) rfl ?_
  refine wpList_nil ?_
  refine hK15 _ _ ?_
  refine c_false rfl ?_
  refine wp_seq_k (fun K24 hK25 => ?_)
  refine c_region (fun ops27 hops26 => ?_)
  clear hops26
  refine p_run _ (x_move (.int .u64 (uv (rT S q0 q1))) rfl rfl) rfl ?_
  refine p_run _ (x_cmp (k := .u64) (m := (uv (rT S q0 q1))) (n := 18446744073709551612) .gtr true rfl rfl rfl (show decide _ = true from decide_eq_true (by rw [eT]; unfold uv; omega)) rfl) rfl ?_
  refine p_run (l' := (.pointer (some ⟨D, 0, none⟩) :: undef :: .int .u64 0 :: .int .i64 0 :: .slice oa9 ((rB S q0 q1).length) nc10 :: .int .u64 (uv (rG S q0 q1)) :: .int .u64 (uv (rT S q0 q1)) :: .int .i64 (lkE S) :: undef :: .tuple [.slice oa9 ((rB S q0 q1).length) nc10, .int .u64 (uv (rG S q0 q1)), .int .u64 (uv (rT S q0 q1)), .int .i64 (lkE S)].toArray :: .pointer (some ⟨D, 0, none⟩) :: .tuple [.slice oa9 ((rB S q0 q1).length) nc10, .int .u64 (uv (rG S q0 q1)), .int .u64 (uv (rT S q0 q1)), .int .i64 (lkE S)].toArray :: .slice oa9 ((rB S q0 q1).length) nc10 :: .int .u64 (uv (rG S q0 q1)) :: .int .u64 (uv (rT S q0 q1)) :: .int .i64 (lkE S) :: .bool false :: .int .i64 (lkE S) :: .bool false :: undef :: .bool true :: .int .u64 (uv (rT S q0 q1)) :: .bool true :: U8r4 (U4r4 (undef :: undef :: [])))) _ (x_assign (.bool true) rfl rfl) rfl ?_
  refine wpList_nil ?_
  refine hK25 _ _ ?_
  refine c_true rfl ?_
  refine wp_seq_k (fun K28 hK29 => ?_)
  refine c_region (fun ops31 hops30 => ?_)
  clear hops30
  refine p_run _ (x_assign (.int .u64 0) rfl rfl) rfl ?_
  refine p_run _ (x_assign (.int .i64 51) rfl rfl) rfl ?_
  refine wpList_nil ?_
  refine hK29 _ _ ?_
  refine wp_ret ?_
  try simp only [Exit.inBlock, Exit.then]
  refine c_ret (.tuple [.int .u64 0, .int .i64 51].toArray) (r_tmp2 rfl rfl rfl) ?_
  have e1 : nE S q0 q1 = 51 := (if_pos hz).trans (if_pos ht)
  have e2 : nG S q0 q1 = 0 := if_neg (by rw [e1]; decide)
  rw [e1, e2]
  exact ⟨rfl, ((((HS.drop.front 3 rfl).front 3 rfl).front 3 rfl).front 3 rfl)⟩
 ·have eT : rT S q0 q1 = lkT q0 q1 := if_pos hz
  have eG : rG S q0 q1 = lkG q0 q1 := if_pos hz
  refine c_region (fun ops33 hops32 => ?_)
  clear hops32
  refine p_run _ (x_move (.int .i64 (lkE S)) rfl rfl) rfl ?_
  refine p_run _ (x_cmp (k := .i64) (m := (lkE S)) (n := 0) .neq false rfl rfl rfl (by rw [hz]; rfl) rfl) rfl ?_
  refine p_run _ (x_assign (.bool false) rfl rfl) rfl ?_
  refine wpList_nil ?_
  refine hK15 _ _ ?_
  refine c_false rfl ?_
  refine wp_seq_k (fun K34 hK35 => ?_)
  refine c_region (fun ops37 hops36 => ?_)
  clear hops36
  refine p_run _ (x_move (.int .u64 (uv (rT S q0 q1))) rfl rfl) rfl ?_
  refine p_run _ (x_cmp (k := .u64) (m := (uv (rT S q0 q1))) (n := 18446744073709551612) .gtr false rfl rfl rfl (show decide _ = false from decide_eq_false (by rw [eT]; unfold uv; omega)) rfl) rfl ?_
  refine p_run _ (x_assign (.bool false) rfl rfl) rfl ?_
  refine wpList_nil ?_
  refine fr_at (l' := (.pointer (some ⟨D, 0, none⟩) :: undef :: .int .u64 0 :: .int .i64 0 :: .slice oa9 ((rB S q0 q1).length) nc10 :: .int .u64 (uv (rG S q0 q1)) :: .int .u64 (uv (rT S q0 q1)) :: .int .i64 (lkE S) :: undef :: .tuple [.slice oa9 ((rB S q0 q1).length) nc10, .int .u64 (uv (rG S q0 q1)), .int .u64 (uv (rT S q0 q1)), .int .i64 (lkE S)].toArray :: .pointer (some ⟨D, 0, none⟩) :: .tuple [.slice oa9 ((rB S q0 q1).length) nc10, .int .u64 (uv (rG S q0 q1)), .int .u64 (uv (rT S q0 q1)), .int .i64 (lkE S)].toArray :: .slice oa9 ((rB S q0 q1).length) nc10 :: .int .u64 (uv (rG S q0 q1)) :: .int .u64 (uv (rT S q0 q1)) :: .int .i64 (lkE S) :: .bool false :: .int .i64 (lkE S) :: .bool false :: undef :: .bool false :: .int .u64 (uv (rT S q0 q1)) :: .bool false :: U8r4 (U4r4 (undef :: undef :: [])))) rfl ?_
  refine hK35 _ _ ?_
  refine c_false rfl ?_
  refine wp_skip ?_
  refine hK13 _ _ ?_
  refine wp_seq_k (fun K38 hK39 => ?_)
  refine c_region (fun ops41 hops40 => ?_)
  clear hops40
  refine p_run _ (x_move (.int .u64 (uv (rT S q0 q1))) rfl rfl) rfl ?_
  refine p_run _ (x_arith (k := .u64) (m := (uv (rT S q0 q1))) (n := 1) .add ((uv (UInt64.ofNat ((lkT q0 q1).toNat + 1)))) rfl rfl rfl (show IntKind.u64.wrap ((uv (rT S q0 q1)) + 1) = (uv (UInt64.ofNat ((lkT q0 q1).toNat + 1))) from (by rw [eT]; exact add_one (by omega))) rfl) rfl ?_
  refine p_run _ (x_assign (.int .u64 (uv (UInt64.ofNat ((lkT q0 q1).toNat + 1)))) rfl rfl) rfl ?_
  refine wpList_nil ?_
  refine hK39 _ _ ?_
  refine wp_seq_k (fun K42 hK43 => ?_)
  refine wp_seq_k (fun K44 hK45 => ?_)
  refine c_region (fun ops47 hops46 => ?_)
  refine p_run _ (x_move (.int .u64 (uv (rG S q0 q1))) rfl rfl) rfl ?_
  refine p_run _ (x_cmp (k := .u64) (m := (uv (rG S q0 q1))) (n := 0) .gtr false rfl rfl rfl (show decide _ = false from decide_eq_false (by rw [eG, hg0]; decide)) rfl) rfl ?_
  refine p_run _ (x_move (.bool false) rfl rfl) rfl ?_
  refine p_off (by rw [hops46]; rfl) rfl ?_
  refine p_off (by rw [hops46]; rfl) rfl ?_
  refine p_off (l' := (.pointer (some ⟨D, 0, none⟩) :: undef :: .int .u64 0 :: .int .i64 0 :: .slice oa9 ((rB S q0 q1).length) nc10 :: .int .u64 (uv (rG S q0 q1)) :: .int .u64 (uv (rT S q0 q1)) :: .int .i64 (lkE S) :: .int .u64 (uv (UInt64.ofNat ((lkT q0 q1).toNat + 1))) :: .tuple [.slice oa9 ((rB S q0 q1).length) nc10, .int .u64 (uv (rG S q0 q1)), .int .u64 (uv (rT S q0 q1)), .int .i64 (lkE S)].toArray :: .pointer (some ⟨D, 0, none⟩) :: .tuple [.slice oa9 ((rB S q0 q1).length) nc10, .int .u64 (uv (rG S q0 q1)), .int .u64 (uv (rT S q0 q1)), .int .i64 (lkE S)].toArray :: .slice oa9 ((rB S q0 q1).length) nc10 :: .int .u64 (uv (rG S q0 q1)) :: .int .u64 (uv (rT S q0 q1)) :: .int .i64 (lkE S) :: .bool false :: .int .i64 (lkE S) :: .bool false :: undef :: .bool false :: .int .u64 (uv (rT S q0 q1)) :: .bool false :: .int .u64 (uv (rT S q0 q1)) :: .int .u64 (uv (UInt64.ofNat ((lkT q0 q1).toNat + 1))) :: .int .u64 (uv (rG S q0 q1)) :: .bool false :: .bool false :: U8r4 (undef :: []))) (by rw [hops46]; rfl) rfl ?_
  refine p_off (by rw [hops46]; rfl) rfl ?_
  refine p_off (by rw [hops46]; rfl) rfl ?_
  refine p_run _ (x_pick false (undef) (.bool false) (.bool false) rfl rfl rfl rfl rfl) rfl ?_
  clear hops46
  refine wpList_nil ?_
  refine hK45 _ _ ?_
  refine c_false rfl ?_
  refine wp_skip ?_
  refine hK43 _ _ ?_
  refine wp_seq_k (fun K48 hK49 => ?_)
  refine c_region (fun ops51 hops50 => ?_)
  clear hops50
  refine p_run _ (x_move (.int .u64 (uv (UInt64.ofNat ((lkT q0 q1).toNat + 1)))) rfl rfl) rfl ?_
  refine p_run _ (x_assign (.int .u64 (uv (UInt64.ofNat ((lkT q0 q1).toNat + 1)))) rfl rfl) rfl ?_
  refine p_run _ (x_assign (.int .i64 0) rfl rfl) rfl ?_
  refine wpList_nil ?_
  refine hK49 _ _ ?_
  refine wp_ret ?_
  try simp only [Exit.inBlock, Exit.then]
  refine c_ret (.tuple [.int .u64 (uv (UInt64.ofNat ((lkT q0 q1).toNat + 1))), .int .i64 0].toArray) (r_tmp2 rfl rfl rfl) ?_
  have e1 : nE S q0 q1 = 0 := (if_pos hz).trans (if_neg (by omega))
  have e3 : nxN (lkG q0 q1).toNat (lkT q0 q1).toNat = (lkT q0 q1).toNat + 1 := if_neg (fun h => by rw [hg0] at h; exact absurd h.1 (by decide))
  have e2 : nG S q0 q1 = UInt64.ofNat ((lkT q0 q1).toNat + 1) := by unfold nG; rw [if_pos e1, e3]
  rw [e1, e2]
  exact ⟨rfl, ((((HS.drop.front 3 rfl).front 3 rfl).front 3 rfl).front 3 rfl)⟩
 ·have eT : rT S q0 q1 = lkT q0 q1 := if_pos hz
  have eG : rG S q0 q1 = lkG q0 q1 := if_pos hz
  refine c_region (fun ops53 hops52 => ?_)
  clear hops52
  refine p_run _ (x_move (.int .i64 (lkE S)) rfl rfl) rfl ?_
  refine p_run _ (x_cmp (k := .i64) (m := (lkE S)) (n := 0) .neq false rfl rfl rfl (by rw [hz]; rfl) rfl) rfl ?_
  refine p_run (l' := (.pointer (some ⟨D, 0, none⟩) :: undef :: .int .u64 0 :: .int .i64 0 :: .slice oa9 ((rB S q0 q1).length) nc10 :: .int .u64 (uv (rG S q0 q1)) :: .int .u64 (uv (rT S q0 q1)) :: .int .i64 (lkE S) :: undef :: .tuple [.slice oa9 ((rB S q0 q1).length) nc10, .int .u64 (uv (rG S q0 q1)), .int .u64 (uv (rT S q0 q1)), .int .i64 (lkE S)].toArray :: .pointer (some ⟨D, 0, none⟩) :: .tuple [.slice oa9 ((rB S q0 q1).length) nc10, .int .u64 (uv (rG S q0 q1)), .int .u64 (uv (rT S q0 q1)), .int .i64 (lkE S)].toArray :: .slice oa9 ((rB S q0 q1).length) nc10 :: .int .u64 (uv (rG S q0 q1)) :: .int .u64 (uv (rT S q0 q1)) :: .int .i64 (lkE S) :: .bool false :: .int .i64 (lkE S) :: .bool false :: U16r4 (undef :: undef :: []))) _ (x_assign (.bool false) rfl rfl) rfl ?_
  refine wpList_nil ?_
  refine hK15 _ _ ?_
  refine c_false rfl ?_
  refine wp_seq_k (fun K54 hK55 => ?_)
  refine c_region (fun ops57 hops56 => ?_)
  clear hops56
  refine p_run _ (x_move (.int .u64 (uv (rT S q0 q1))) rfl rfl) rfl ?_
  refine p_run _ (x_cmp (k := .u64) (m := (uv (rT S q0 q1))) (n := 18446744073709551612) .gtr false rfl rfl rfl (show decide _ = false from decide_eq_false (by rw [eT]; unfold uv; omega)) rfl) rfl ?_
  refine p_run _ (x_assign (.bool false) rfl rfl) rfl ?_
  refine wpList_nil ?_
  refine hK55 _ _ ?_
  refine c_false rfl ?_
  refine wp_skip ?_
  refine hK13 _ _ ?_
  refine wp_seq_k (fun K58 hK59 => ?_)
  refine c_region (fun ops61 hops60 => ?_)
  clear hops60
  refine p_run _ (x_move (.int .u64 (uv (rT S q0 q1))) rfl rfl) rfl ?_
  refine p_run _ (x_arith (k := .u64) (m := (uv (rT S q0 q1))) (n := 1) .add ((uv (UInt64.ofNat ((lkT q0 q1).toNat + 1)))) rfl rfl rfl (show IntKind.u64.wrap ((uv (rT S q0 q1)) + 1) = (uv (UInt64.ofNat ((lkT q0 q1).toNat + 1))) from (by rw [eT]; exact add_one (by omega))) rfl) rfl ?_
  refine p_run _ (x_assign (.int .u64 (uv (UInt64.ofNat ((lkT q0 q1).toNat + 1)))) rfl rfl) rfl ?_
  refine wpList_nil ?_
  refine hK59 _ _ ?_
  refine wp_seq_k (fun K62 hK63 => ?_)
  refine wp_seq_k (fun K64 hK65 => ?_)
  refine c_region (fun ops67 hops66 => ?_)
  refine p_run _ (x_move (.int .u64 (uv (rG S q0 q1))) rfl rfl) rfl ?_
  refine p_run _ (x_cmp (k := .u64) (m := (uv (rG S q0 q1))) (n := 0) .gtr true rfl rfl rfl (show decide _ = true from decide_eq_true (by rw [eG]; exact uv_pos hg0)) rfl) rfl ?_
  refine p_run (l' := (.pointer (some ⟨D, 0, none⟩) :: undef :: .int .u64 0 :: .int .i64 0 :: .slice oa9 ((rB S q0 q1).length) nc10 :: .int .u64 (uv (rG S q0 q1)) :: .int .u64 (uv (rT S q0 q1)) :: .int .i64 (lkE S) :: .int .u64 (uv (UInt64.ofNat ((lkT q0 q1).toNat + 1))) :: .tuple [.slice oa9 ((rB S q0 q1).length) nc10, .int .u64 (uv (rG S q0 q1)), .int .u64 (uv (rT S q0 q1)), .int .i64 (lkE S)].toArray :: .pointer (some ⟨D, 0, none⟩) :: .tuple [.slice oa9 ((rB S q0 q1).length) nc10, .int .u64 (uv (rG S q0 q1)), .int .u64 (uv (rT S q0 q1)), .int .i64 (lkE S)].toArray :: .slice oa9 ((rB S q0 q1).length) nc10 :: .int .u64 (uv (rG S q0 q1)) :: .int .u64 (uv (rT S q0 q1)) :: .int .i64 (lkE S) :: .bool false :: .int .i64 (lkE S) :: .bool false :: undef :: .bool false :: .int .u64 (uv (rT S q0 q1)) :: .bool false :: .int .u64 (uv (rT S q0 q1)) :: .int .u64 (uv (UInt64.ofNat ((lkT q0 q1).toNat + 1))) :: .int .u64 (uv (rG S q0 q1)) :: .bool true :: .bool true :: U8r4 (undef :: []))) _ (x_move (.bool true) rfl rfl) rfl ?_
  refine p_on rfl (by rw [hops66]; rfl) ?_
  refine p_run _ (x_move (.int .u64 (uv (UInt64.ofNat ((lkT q0 q1).toNat + 1)))) rfl rfl) rfl ?_
  refine p_on rfl (by rw [hops66]; rfl) ?_
  refine p_run _ (x_rem (k := .u64) (m := (uv (UInt64.ofNat ((lkT q0 q1).toNat + 1)))) (n := 2) ((uv (UInt64.ofNat ((lkT q0 q1).toNat + 1)) % 2)) rfl rfl rfl (by decide) (mod2 _)) rfl ?_
  refine p_on rfl (by rw [hops66]; rfl) ?_
  refine p_run _ (x_move (.int .u64 (uv (rG S q0 q1))) rfl rfl) rfl ?_
  refine p_on rfl (by rw [hops66]; rfl) ?_
  refine p_run _ (x_rem (k := .u64) (m := (uv (rG S q0 q1))) (n := 2) ((uv (rG S q0 q1) % 2)) rfl rfl rfl (by decide) (mod2 _)) rfl ?_
  refine p_on rfl (by rw [hops66]; rfl) ?_
  refine p_run _ (x_cmp (k := .u64) (m := (uv (UInt64.ofNat ((lkT q0 q1).toNat + 1)) % 2)) (n := (uv (rG S q0 q1) % 2)) .eql true rfl rfl rfl (by rw [eG, ofN_mod (by omega), uv_mod, hpar]; simp [cmpB]) rfl) rfl ?_
  refine p_run _ (x_pick true (.bool true) (.bool false) (.bool true) rfl rfl rfl rfl rfl) rfl ?_
  clear hops66
  refine wpList_nil ?_
  refine hK65 _ _ ?_
  refine c_true rfl ?_
  refine c_region (fun ops69 hops68 => ?_)
  clear hops68
  refine p_run _ (x_move (.int .u64 (uv (UInt64.ofNat ((lkT q0 q1).toNat + 1)))) rfl rfl) rfl ?_
  refine p_run _ (x_arith (k := .u64) (m := (uv (UInt64.ofNat ((lkT q0 q1).toNat + 1)))) (n := 1) .add ((uv (UInt64.ofNat ((lkT q0 q1).toNat + 1 + 1)))) rfl rfl rfl (show IntKind.u64.wrap ((uv (UInt64.ofNat ((lkT q0 q1).toNat + 1))) + 1) = (uv (UInt64.ofNat ((lkT q0 q1).toNat + 1 + 1))) from (add_two (by omega))) rfl) rfl ?_
  refine p_run (l' := (.pointer (some ⟨D, 0, none⟩) :: undef :: .int .u64 0 :: .int .i64 0 :: .slice oa9 ((rB S q0 q1).length) nc10 :: .int .u64 (uv (rG S q0 q1)) :: .int .u64 (uv (rT S q0 q1)) :: .int .i64 (lkE S) :: .int .u64 (uv (UInt64.ofNat ((lkT q0 q1).toNat + 1 + 1))) :: .tuple [.slice oa9 ((rB S q0 q1).length) nc10, .int .u64 (uv (rG S q0 q1)), .int .u64 (uv (rT S q0 q1)), .int .i64 (lkE S)].toArray :: .pointer (some ⟨D, 0, none⟩) :: .tuple [.slice oa9 ((rB S q0 q1).length) nc10, .int .u64 (uv (rG S q0 q1)), .int .u64 (uv (rT S q0 q1)), .int .i64 (lkE S)].toArray :: .slice oa9 ((rB S q0 q1).length) nc10 :: .int .u64 (uv (rG S q0 q1)) :: .int .u64 (uv (rT S q0 q1)) :: .int .i64 (lkE S) :: .bool false :: .int .i64 (lkE S) :: .bool false :: undef :: .bool false :: .int .u64 (uv (rT S q0 q1)) :: .bool false :: .int .u64 (uv (rT S q0 q1)) :: .int .u64 (uv (UInt64.ofNat ((lkT q0 q1).toNat + 1))) :: .int .u64 (uv (rG S q0 q1)) :: .bool true :: .bool true :: .int .u64 (uv (UInt64.ofNat ((lkT q0 q1).toNat + 1))) :: .int .u64 (uv (UInt64.ofNat ((lkT q0 q1).toNat + 1)) % 2) :: .int .u64 (uv (rG S q0 q1)) :: .int .u64 (uv (rG S q0 q1) % 2) :: .bool true :: .bool true :: .int .u64 (uv (UInt64.ofNat ((lkT q0 q1).toNat + 1))) :: .int .u64 (uv (UInt64.ofNat ((lkT q0 q1).toNat + 1 + 1))) :: undef :: [])) _ (x_assign (.int .u64 (uv (UInt64.ofNat ((lkT q0 q1).toNat + 1 + 1)))) rfl rfl) rfl ?_
  refine wpList_nil ?_
  refine hK63 _ _ ?_
  refine wp_seq_k (fun K70 hK71 => ?_)
  refine c_region (fun ops73 hops72 => ?_)
  clear hops72
  refine p_run _ (x_move (.int .u64 (uv (UInt64.ofNat ((lkT q0 q1).toNat + 1 + 1)))) rfl rfl) rfl ?_
  refine p_run _ (x_assign (.int .u64 (uv (UInt64.ofNat ((lkT q0 q1).toNat + 1 + 1)))) rfl rfl) rfl ?_
  refine p_run _ (x_assign (.int .i64 0) rfl rfl) rfl ?_
  refine wpList_nil ?_
  refine hK71 _ _ ?_
  refine wp_ret ?_
  try simp only [Exit.inBlock, Exit.then]
  refine c_ret (.tuple [.int .u64 (uv (UInt64.ofNat ((lkT q0 q1).toNat + 1 + 1))), .int .i64 0].toArray) (r_tmp2 rfl rfl rfl) ?_
  have e1 : nE S q0 q1 = 0 := (if_pos hz).trans (if_neg (by omega))
  have e3 : nxN (lkG q0 q1).toNat (lkT q0 q1).toNat = (lkT q0 q1).toNat + 1 + 1 := if_pos ⟨toN_pos hg0, hpar⟩
  have e2 : nG S q0 q1 = UInt64.ofNat ((lkT q0 q1).toNat + 1 + 1) := by unfold nG; rw [if_pos e1, e3]
  rw [e1, e2]
  exact ⟨rfl, ((((HS.drop.front 3 rfl).front 3 rfl).front 3 rfl).front 3 rfl)⟩
 ·have eT : rT S q0 q1 = lkT q0 q1 := if_pos hz
  have eG : rG S q0 q1 = lkG q0 q1 := if_pos hz
  refine c_region (fun ops75 hops74 => ?_)
  clear hops74
  refine p_run _ (x_move (.int .i64 (lkE S)) rfl rfl) rfl ?_
  refine p_run _ (x_cmp (k := .i64) (m := (lkE S)) (n := 0) .neq false rfl rfl rfl (by rw [hz]; rfl) rfl) rfl ?_
  refine p_run _ (x_assign (.bool false) rfl rfl) rfl ?_
  refine wpList_nil ?_
  refine hK15 _ _ ?_
  refine c_false rfl ?_
  refine wp_seq_k (fun K76 hK77 => ?_)
  refine c_region (fun ops79 hops78 => ?_)
  clear hops78
  refine p_run _ (x_move (.int .u64 (uv (rT S q0 q1))) rfl rfl) rfl ?_
  refine p_run _ (x_cmp (k := .u64) (m := (uv (rT S q0 q1))) (n := 18446744073709551612) .gtr false rfl rfl rfl (show decide _ = false from decide_eq_false (by rw [eT]; unfold uv; omega)) rfl) rfl ?_
  refine p_run (l' := (.pointer (some ⟨D, 0, none⟩) :: undef :: .int .u64 0 :: .int .i64 0 :: .slice oa9 ((rB S q0 q1).length) nc10 :: .int .u64 (uv (rG S q0 q1)) :: .int .u64 (uv (rT S q0 q1)) :: .int .i64 (lkE S) :: undef :: .tuple [.slice oa9 ((rB S q0 q1).length) nc10, .int .u64 (uv (rG S q0 q1)), .int .u64 (uv (rT S q0 q1)), .int .i64 (lkE S)].toArray :: .pointer (some ⟨D, 0, none⟩) :: .tuple [.slice oa9 ((rB S q0 q1).length) nc10, .int .u64 (uv (rG S q0 q1)), .int .u64 (uv (rT S q0 q1)), .int .i64 (lkE S)].toArray :: .slice oa9 ((rB S q0 q1).length) nc10 :: .int .u64 (uv (rG S q0 q1)) :: .int .u64 (uv (rT S q0 q1)) :: .int .i64 (lkE S) :: .bool false :: .int .i64 (lkE S) :: .bool false :: undef :: .bool false :: .int .u64 (uv (rT S q0 q1)) :: .bool false :: U8r4 (U4r4 (undef :: undef :: [])))) _ (x_assign (.bool false) rfl rfl) rfl ?_
  refine wpList_nil ?_
  refine hK77 _ _ ?_
  refine c_false rfl ?_
  refine wp_skip ?_
  refine hK13 _ _ ?_
  refine wp_seq_k (fun K80 hK81 => ?_)
  refine c_region (fun ops83 hops82 => ?_)
  clear hops82
  refine p_run _ (x_move (.int .u64 (uv (rT S q0 q1))) rfl rfl) rfl ?_
  refine p_run _ (x_arith (k := .u64) (m := (uv (rT S q0 q1))) (n := 1) .add ((uv (UInt64.ofNat ((lkT q0 q1).toNat + 1)))) rfl rfl rfl (show IntKind.u64.wrap ((uv (rT S q0 q1)) + 1) = (uv (UInt64.ofNat ((lkT q0 q1).toNat + 1))) from (by rw [eT]; exact add_one (by omega))) rfl) rfl ?_
  refine p_run _ (x_assign (.int .u64 (uv (UInt64.ofNat ((lkT q0 q1).toNat + 1)))) rfl rfl) rfl ?_
  refine wpList_nil ?_
  refine hK81 _ _ ?_
  refine wp_seq_k (fun K84 hK85 => ?_)
  refine wp_seq_k (fun K86 hK87 => ?_)
  refine c_region (fun ops89 hops88 => ?_)
  refine p_run _ (x_move (.int .u64 (uv (rG S q0 q1))) rfl rfl) rfl ?_
  refine p_run _ (x_cmp (k := .u64) (m := (uv (rG S q0 q1))) (n := 0) .gtr true rfl rfl rfl (show decide _ = true from decide_eq_true (by rw [eG]; exact uv_pos hg0)) rfl) rfl ?_
  refine p_run _ (x_move (.bool true) rfl rfl) rfl ?_
  refine p_on rfl (by rw [hops88]; rfl) ?_
  refine p_run _ (x_move (.int .u64 (uv (UInt64.ofNat ((lkT q0 q1).toNat + 1)))) rfl rfl) rfl ?_
  refine p_on rfl (by rw [hops88]; rfl) ?_
  refine p_run _ (x_rem (k := .u64) (m := (uv (UInt64.ofNat ((lkT q0 q1).toNat + 1)))) (n := 2) ((uv (UInt64.ofNat ((lkT q0 q1).toNat + 1)) % 2)) rfl rfl rfl (by decide) (mod2 _)) rfl ?_
  refine p_on rfl (by rw [hops88]; rfl) ?_
  refine p_run (l' := (.pointer (some ⟨D, 0, none⟩) :: undef :: .int .u64 0 :: .int .i64 0 :: .slice oa9 ((rB S q0 q1).length) nc10 :: .int .u64 (uv (rG S q0 q1)) :: .int .u64 (uv (rT S q0 q1)) :: .int .i64 (lkE S) :: .int .u64 (uv (UInt64.ofNat ((lkT q0 q1).toNat + 1))) :: .tuple [.slice oa9 ((rB S q0 q1).length) nc10, .int .u64 (uv (rG S q0 q1)), .int .u64 (uv (rT S q0 q1)), .int .i64 (lkE S)].toArray :: .pointer (some ⟨D, 0, none⟩) :: .tuple [.slice oa9 ((rB S q0 q1).length) nc10, .int .u64 (uv (rG S q0 q1)), .int .u64 (uv (rT S q0 q1)), .int .i64 (lkE S)].toArray :: .slice oa9 ((rB S q0 q1).length) nc10 :: .int .u64 (uv (rG S q0 q1)) :: .int .u64 (uv (rT S q0 q1)) :: .int .i64 (lkE S) :: .bool false :: .int .i64 (lkE S) :: .bool false :: undef :: .bool false :: .int .u64 (uv (rT S q0 q1)) :: .bool false :: .int .u64 (uv (rT S q0 q1)) :: .int .u64 (uv (UInt64.ofNat ((lkT q0 q1).toNat + 1))) :: .int .u64 (uv (rG S q0 q1)) :: .bool true :: .bool true :: .int .u64 (uv (UInt64.ofNat ((lkT q0 q1).toNat + 1))) :: .int .u64 (uv (UInt64.ofNat ((lkT q0 q1).toNat + 1)) % 2) :: .int .u64 (uv (rG S q0 q1)) :: U4r4 (undef :: undef :: []))) _ (x_move (.int .u64 (uv (rG S q0 q1))) rfl rfl) rfl ?_
  refine p_on rfl (by rw [hops88]; rfl) ?_
  refine p_run _ (x_rem (k := .u64) (m := (uv (rG S q0 q1))) (n := 2) ((uv (rG S q0 q1) % 2)) rfl rfl rfl (by decide) (mod2 _)) rfl ?_
  refine p_on rfl (by rw [hops88]; rfl) ?_
  refine p_run _ (x_cmp (k := .u64) (m := (uv (UInt64.ofNat ((lkT q0 q1).toNat + 1)) % 2)) (n := (uv (rG S q0 q1) % 2)) .eql false rfl rfl rfl (by rw [eG, ofN_mod (by omega), uv_mod]; simp [cmpB]; omega) rfl) rfl ?_
  refine p_run _ (x_pick true (.bool false) (.bool false) (.bool false) rfl rfl rfl rfl rfl) rfl ?_
  clear hops88
  refine wpList_nil ?_
  refine hK87 _ _ ?_
  refine c_false rfl ?_
  refine wp_skip ?_
  refine hK85 _ _ ?_
  refine wp_seq_k (fun K90 hK91 => ?_)
  refine c_region (fun ops93 hops92 => ?_)
  clear hops92
  refine p_run _ (x_move (.int .u64 (uv (UInt64.ofNat ((lkT q0 q1).toNat + 1)))) rfl rfl) rfl ?_
  refine p_run _ (x_assign (.int .u64 (uv (UInt64.ofNat ((lkT q0 q1).toNat + 1)))) rfl rfl) rfl ?_
  refine p_run _ (x_assign (.int .i64 0) rfl rfl) rfl ?_
  refine wpList_nil ?_
  refine hK91 _ _ ?_
  refine wp_ret ?_
  try simp only [Exit.inBlock, Exit.then]
  refine c_ret (.tuple [.int .u64 (uv (UInt64.ofNat ((lkT q0 q1).toNat + 1))), .int .i64 0].toArray) (r_tmp2 rfl rfl rfl) ?_
  have e1 : nE S q0 q1 = 0 := (if_pos hz).trans (if_neg (by omega))
  have e3 : nxN (lkG q0 q1).toNat (lkT q0 q1).toNat = (lkT q0 q1).toNat + 1 := if_neg (fun h => hpar h.2)
  have e2 : nG S q0 q1 = UInt64.ofNat ((lkT q0 q1).toNat + 1) := by unfold nG; rw [if_pos e1, e3]
  rw [e1, e2]
  exact ⟨rfl, ((((HS.drop.front 3 rfl).front 3 rfl).front 3 rfl).front 3 rfl)⟩
def wI (S : Dk) (q0 q1 : List UInt8) : Nat := (nG S q0 q1).toNat % 2
def wP (S : Dk) (q0 q1 xs : List UInt8) : List UInt8 := pgB (nG S q0 q1) (rtS xs)
def w1S (S : Dk) (q0 q1 xs : List UInt8) : Dk := S.write (wI S q0 q1 : Int) ((wP S q0 q1 xs).map bv)
def wS (S : Dk) (q0 q1 xs : List UInt8) : Dk := if xs.length ≤ 186 ∧ nE S q0 q1 = 0 then (if S.writeE (wI S q0 q1 : Int) = 0 then (w1S S q0 q1 xs).sync else w1S S q0 q1 xs) else S
def wE (S : Dk) (q0 q1 xs : List UInt8) : Int := if xs.length ≤ 186 then (if nE S q0 q1 = 0 then (if S.writeE (wI S q0 q1 : Int) = 0 then (w1S S q0 q1 xs).actE else S.writeE (wI S q0 q1 : Int)) else nE S q0 q1) else 51
def wG (S : Dk) (q0 q1 xs : List UInt8) : UInt64 := if wE S q0 q1 xs = 0 then nG S q0 q1 else 0
theorem wP_len (S : Dk) (q0 q1 xs : List UInt8) : ((wP S q0 q1 xs).map bv).length = 256 := by rw [List.length_map]; exact pgB_len _ _
theorem good_w1 (h : S.good n) (xs : List UInt8) : (w1S S q0 q1 xs).good (n + 1) := good_write h _ (wP_len S q0 q1 xs)
theorem good_wS (h : S.good n) (xs : List UInt8) : (wS S q0 q1 xs).good (n + 1) := by
 unfold wS
 split
 ·split
  ·exact good_sync (good_w1 h xs)
  ·exact good_w1 h xs
 ·exact h.mono (Nat.le_succ _)
set_option maxRecDepth 10000 in
set_option maxHeartbeats 2000000 in
theorem write_root (HS : St w0 F W (dsk D gs gm v S L)) (hg : S.good n) (hn : n ≤ 100000) (hp0 : S.readP 0 = q0.map bv) (hp1 : S.readP 1 = q1.map bv) (hq0 : q0.length = 256) (hq1 : q1.length = 256) {A : Option Addr} {c : Nat} (xs : List UInt8) (hc : ∀ w X, St w0 F w (X ++ L) → Rd w A xs ∧ xs.length ≤ c) : Calls Try.prog 10 #[.pointer (some ⟨D, 0, none⟩), .slice A xs.length c] W fun e w' => ∃ v', e = .returned (.tuple #[.int .u64 (uv (wG S q0 q1 xs)), .int .i64 (wE S q0 q1 xs)]) ∧ St w0 F w' (dsk D gs gm v' (wS S q0 q1 xs) L) := by
 by_cases hl : xs.length ≤ 186
 ·refine c_enter Try.func10 rfl 39 rfl (.pointer (some ⟨D, 0, none⟩) :: .slice A xs.length c :: U32r4 (U4r4 (undef :: []))) rfl ?_
  refine wp_seq_k (fun K1 hK2 => ?_)
  refine c_region (fun ops4 hops3 => ?_)
  clear hops3
  refine p_run _ (x_assign (.int .u64 0) rfl rfl) rfl ?_
  refine p_run _ (x_assign (.int .i64 0) rfl rfl) rfl ?_
  refine wpList_nil ?_
  refine hK2 _ _ ?_
  refine wp_seq_k (fun K5 hK6 => ?_)
  refine wp_seq_k (fun K7 hK8 => ?_)
  refine c_region (fun ops10 hops9 => ?_)
  clear hops9
  refine p_run _ (x_move (.slice A xs.length c) rfl rfl) rfl ?_
  refine p_run _ (x_len rfl rfl Try.underlying24) rfl ?_
  refine p_run _ (x_cmp (k := .i64) (m := (xs.length : Int)) (n := 186) .gtr false rfl rfl rfl (show decide _ = false from decide_eq_false (by omega)) rfl) rfl ?_
  refine wpList_nil ?_
  refine hK8 _ _ ?_
  refine c_false rfl ?_
  refine wp_skip ?_
  refine hK6 _ _ ?_
  refine wp_seq_k (fun K11 hK12 => ?_)
  refine c_region (fun ops14 hops13 => ?_)
  clear hops13
  refine p_run _ (x_move (.pointer (some ⟨D, 0, none⟩)) rfl rfl) rfl ?_
  refine w_call [.pointer (some ⟨D, 0, none⟩)] Try.func11 (by kernel_rfl) (by rfl) rfl ?_
  replace HS := ((((HS.front 3 rfl).front 3 rfl).front 3 rfl).front 3 rfl)
  refine (next_root HS hg hn hp0 hp1 hq0 hq1).mono ?_
  clear HS
  rintro e w15 ⟨rfl, HS⟩
  refine ⟨_, rfl, ?_⟩
  refine p_run _ (x_move (.tuple [.int .u64 (uv (nG S q0 q1)), .int .i64 (nE S q0 q1)].toArray) rfl rfl) rfl ?_
  refine p_run (l' := (.pointer (some ⟨D, 0, none⟩) :: .slice A xs.length c :: undef :: undef :: .int .u64 0 :: .int .i64 0 :: U4r4 (.slice A xs.length c :: .int .i64 (xs.length : Int) :: .bool false :: .tuple [.int .u64 (uv (nG S q0 q1)), .int .i64 (nE S q0 q1)].toArray :: .pointer (some ⟨D, 0, none⟩) :: .tuple [.int .u64 (uv (nG S q0 q1)), .int .i64 (nE S q0 q1)].toArray :: .int .u64 (uv (nG S q0 q1)) :: U16r4 (U4r4 (undef :: undef :: []))))) _ (x_extract (vs := [.int .u64 (uv (nG S q0 q1)), .int .i64 (nE S q0 q1)]) 0 (.int .u64 (uv (nG S q0 q1))) rfl rfl rfl) rfl ?_
  refine p_run _ (x_extract (vs := [.int .u64 (uv (nG S q0 q1)), .int .i64 (nE S q0 q1)]) 1 (.int .i64 (nE S q0 q1)) rfl rfl rfl) rfl ?_
  refine p_run _ (x_assign (.int .u64 (uv (nG S q0 q1))) rfl rfl) rfl ?_
  refine p_run _ (x_assign (.int .i64 (nE S q0 q1)) rfl rfl) rfl ?_
  refine wpList_nil ?_
  refine hK12 _ _ ?_
  refine wp_seq_k (fun K16 hK17 => ?_)
  refine wp_seq_k (fun K18 hK19 => ?_)
  by_cases hnz : nE S q0 q1 = 0
  ·refine c_region (fun ops21 hops20 => ?_)
   clear hops20
   refine p_run _ (x_move (.int .i64 (nE S q0 q1)) rfl rfl) rfl ?_
   refine p_run _ (x_cmp (k := .i64) (m := (nE S q0 q1)) (n := 0) .neq false rfl rfl rfl (by rw [hnz]; rfl) rfl) rfl ?_
   refine wpList_nil ?_
   refine hK19 _ _ ?_
   refine c_false rfl ?_
   refine wp_skip ?_
   refine hK17 _ _ ?_
   refine wp_seq_k (fun K22 hK23 => ?_)
   refine wp_seq_k (fun K24 hK25 => ?_)
   refine c_region (fun ops27 hops26 => ?_)
   clear hops26
   refine p_run _ (x_move (.pointer (some ⟨D, 0, none⟩)) rfl rfl) rfl ?_
   refine p_run _ (x_move (.int .u64 (uv (nG S q0 q1))) rfl rfl) rfl ?_
   refine p_run _ (x_rem (k := .u64) (m := (uv (nG S q0 q1))) (n := 2) ((uv (nG S q0 q1) % 2)) rfl rfl rfl (by decide) (mod2 _)) rfl ?_
   refine p_run (l' := (.pointer (some ⟨D, 0, none⟩) :: .slice A xs.length c :: undef :: undef :: .int .u64 0 :: .int .i64 0 :: .int .u64 (uv (nG S q0 q1)) :: .int .i64 (nE S q0 q1) :: undef :: undef :: .slice A xs.length c :: .int .i64 (xs.length : Int) :: .bool false :: .tuple [.int .u64 (uv (nG S q0 q1)), .int .i64 (nE S q0 q1)].toArray :: .pointer (some ⟨D, 0, none⟩) :: .tuple [.int .u64 (uv (nG S q0 q1)), .int .i64 (nE S q0 q1)].toArray :: .int .u64 (uv (nG S q0 q1)) :: .int .i64 (nE S q0 q1) :: .int .i64 (nE S q0 q1) :: .bool false :: undef :: .pointer (some ⟨D, 0, none⟩) :: .int .u64 (uv (nG S q0 q1)) :: .int .u64 (uv (nG S q0 q1) % 2) :: .int .i64 (wI S q0 q1 : Int) :: U8r4 (U4r4 (undef :: undef :: [])))) _ (x_conv (k := .u64) (m := (uv (nG S q0 q1) % 2)) .i64 ((wI S q0 q1 : Int)) rfl (by rw [Try.underlying25]; rfl) Try.underlying3 rfl (by rw [uv_mod]; exact wr64' (by have : wI S q0 q1 < 2 := Nat.mod_lt _ (by decide); unfold wI at this; omega))) rfl ?_
   refine p_run _ (x_move (.int .u64 (uv (nG S q0 q1))) rfl rfl) rfl ?_
   refine p_run _ (x_move (.slice A xs.length c) rfl rfl) rfl ?_
   refine w_call [.slice A xs.length c] Try.func31 (by kernel_rfl) (by rfl) rfl ?_
   replace HS := ((((HS.front 3 rfl).front 3 rfl).front 3 rfl).front 3 rfl)
   refine (seal_root _ A c xs (hc _ [blk D (dskC gs gm v S) 72, blk gs (pgs S.stable) 38, mapR gm S.cnt S.bad, row kWr rfl 78 v S.pending] HS).1 (hc _ [blk D (dskC gs gm v S) 72, blk gs (pgs S.stable) 38, mapR gm S.cnt S.bad, row kWr rfl 78 v S.pending] HS).2 (by omega)).mono ?_
   rintro e w30 ⟨oa28, nc29, rfl, hk_⟩
   replace HS := HS.more hk_
   clear hk_
   refine ⟨_, rfl, ?_⟩
   refine w_call [.int .u64 (uv (nG S q0 q1)), .slice oa28 ((rtS xs).length) nc29] Try.func30 (by kernel_rfl) (by rfl) rfl ?_
   refine (page_root _ (nG S q0 q1) _ _ (rtS xs) (row_rd (HS.get (.head _))).2.2 (row_rd (HS.get (.head _))).2.1 (by rw [rtS_len]; omega)).mono ?_
   rintro e w31 ⟨rfl, hb_⟩
   replace HS := HS.here hb_
   clear hb_
   refine ⟨_, rfl, ?_⟩
   refine w_call [.pointer (some ⟨D, 0, none⟩), .int .i64 (wI S q0 q1 : Int), .agg ((nums .u8 ((wP S q0 q1 xs).map bv))).toArray] Try.func14 (by kernel_rfl) (by rfl) rfl ?_
   replace HS := ((((HS.front 4 rfl).front 4 rfl).front 4 rfl).front 4 rfl)
   refine (write_any HS hg.lft (by have := hg.pn; omega) (wI S q0 q1 : Int) ((wP S q0 q1 xs).map bv) (wP_len S q0 q1 xs)).mono ?_
   clear HS
   rintro e w33 ⟨v32, rfl, HS⟩
   have hgd34 : Dk.good (S.write (wI S q0 q1 : Int) ((wP S q0 q1 xs).map bv)) (n + 1) := good_write hg (wI S q0 q1 : Int) (wP_len S q0 q1 xs)
   refine ⟨_, rfl, ?_⟩
   refine p_run _ (x_assign (.int .i64 (S.writeE (wI S q0 q1 : Int))) rfl rfl) rfl ?_
   refine wpList_nil ?_
   refine hK25 _ _ ?_
   refine wp_seq_k (fun K35 hK36 => ?_)
   by_cases hwz : S.writeE (wI S q0 q1 : Int) = 0
   ·refine c_region (fun ops38 hops37 => ?_)
    clear hops37
    refine p_run _ (x_move (.int .i64 (S.writeE (wI S q0 q1 : Int))) rfl rfl) rfl ?_
    refine p_run _ (x_cmp (k := .i64) (m := (S.writeE (wI S q0 q1 : Int))) (n := 0) .neq false rfl rfl rfl (by rw [hwz]; rfl) rfl) rfl ?_
    refine wpList_nil ?_
    obtain ⟨qz39, hqz39⟩ : ∃ q_ : V8, q_ = ⟨.int .u64 (uv (nG S q0 q1)), .int .i64 (nE S q0 q1), .int .i64 (nE S q0 q1), .bool false, undef, .pointer (some ⟨D, 0, none⟩), .int .u64 (uv (nG S q0 q1)), .int .u64 (uv (nG S q0 q1) % 2)⟩ := ⟨_, rfl⟩
    refine fr_at (l' := (.pointer (some ⟨D, 0, none⟩) :: .slice A xs.length c :: undef :: undef :: .int .u64 0 :: .int .i64 0 :: .int .u64 (uv (nG S q0 q1)) :: .int .i64 (nE S q0 q1) :: .int .i64 (S.writeE (wI S q0 q1 : Int)) :: undef :: .slice A xs.length c :: .int .i64 (xs.length : Int) :: .bool false :: .tuple [.int .u64 (uv (nG S q0 q1)), .int .i64 (nE S q0 q1)].toArray :: .pointer (some ⟨D, 0, none⟩) :: .tuple [.int .u64 (uv (nG S q0 q1)), .int .i64 (nE S q0 q1)].toArray :: V8.l qz39 (.int .i64 (wI S q0 q1 : Int) :: .int .u64 (uv (nG S q0 q1)) :: .slice A xs.length c :: .slice oa28 ((rtS xs).length) nc29 :: .agg ((nums .u8 ((wP S q0 q1 xs).map bv))).toArray :: .int .i64 (S.writeE (wI S q0 q1 : Int)) :: .int .i64 (S.writeE (wI S q0 q1 : Int)) :: .bool false :: U4r4 (undef :: undef :: undef :: [])))) (by subst hqz39; rfl) ?_
    refine hK36 _ _ ?_
    refine c_false rfl ?_
    refine wp_skip ?_
    refine hK23 _ _ ?_
    refine wp_seq_k (fun K40 hK41 => ?_)
    refine wp_seq_k (fun K42 hK43 => ?_)
    refine c_region (fun ops45 hops44 => ?_)
    clear hops44
    refine p_run _ (x_move (.pointer (some ⟨D, 0, none⟩)) rfl rfl) rfl ?_
    refine w_call [.pointer (some ⟨D, 0, none⟩)] Try.func32 (by kernel_rfl) (by rfl) rfl ?_
    replace HS := ((((HS.front 3 rfl).front 3 rfl).front 3 rfl).front 3 rfl)
    refine (sync_any HS hgd34.ok (by have := hgd34.pn; omega)).mono ?_
    clear HS
    rintro e w47 ⟨v46, rfl, HS⟩
    have hgd48 : Dk.good ((S.write (wI S q0 q1 : Int) ((wP S q0 q1 xs).map bv)).sync) (n + 1) := good_sync hgd34
    refine ⟨_, rfl, ?_⟩
    refine p_run _ (x_assign (.int .i64 ((S.write (wI S q0 q1 : Int) ((wP S q0 q1 xs).map bv)).actE)) rfl rfl) rfl ?_
    refine wpList_nil ?_
    refine hK43 _ _ ?_
    refine wp_seq_k (fun K49 hK50 => ?_)
    by_cases haz : (w1S S q0 q1 xs).actE = 0
    ·refine c_region (fun ops52 hops51 => ?_)
     clear hops51
     refine p_run _ (x_move (.int .i64 ((S.write (wI S q0 q1 : Int) ((wP S q0 q1 xs).map bv)).actE)) rfl rfl) rfl ?_
     refine p_run _ (x_cmp (k := .i64) (m := (S.write (wI S q0 q1 : Int) ((wP S q0 q1 xs).map bv)).actE) (n := 0) .neq false rfl rfl rfl (by have h := haz; unfold w1S at h; rw [h]; rfl) rfl) rfl ?_
     refine wpList_nil ?_
     refine hK50 _ _ ?_
     refine c_false rfl ?_
     refine wp_skip ?_
     refine hK41 _ _ ?_
     refine wp_seq_k (fun K53 hK54 => ?_)
     refine c_region (fun ops56 hops55 => ?_)
     clear hops55
     refine p_run _ (x_move (.int .u64 (uv (nG S q0 q1))) rfl rfl) rfl ?_
     refine p_run _ (x_assign (.int .u64 (uv (nG S q0 q1))) rfl rfl) rfl ?_
     refine p_run _ (x_assign (.int .i64 0) rfl rfl) rfl ?_
     refine wpList_nil ?_
     obtain ⟨qz57, hqz57⟩ : ∃ q_ : V8, q_ = ⟨.int .i64 (S.writeE (wI S q0 q1 : Int)), .int .i64 ((S.write (wI S q0 q1 : Int) ((wP S q0 q1 xs).map bv)).actE), .slice A xs.length c, .int .i64 (xs.length : Int), .bool false, .tuple [.int .u64 (uv (nG S q0 q1)), .int .i64 (nE S q0 q1)].toArray, .pointer (some ⟨D, 0, none⟩), .tuple [.int .u64 (uv (nG S q0 q1)), .int .i64 (nE S q0 q1)].toArray⟩ := ⟨_, rfl⟩
     obtain ⟨qz58, hqz58⟩ : ∃ q_ : V8, q_ = ⟨.int .i64 (wI S q0 q1 : Int), .int .u64 (uv (nG S q0 q1)), .slice A xs.length c, .slice oa28 ((rtS xs).length) nc29, .agg ((nums .u8 ((wP S q0 q1 xs).map bv))).toArray, .int .i64 (S.writeE (wI S q0 q1 : Int)), .int .i64 (S.writeE (wI S q0 q1 : Int)), .bool false⟩ := ⟨_, rfl⟩
     refine fr_at (l' := (.pointer (some ⟨D, 0, none⟩) :: .slice A xs.length c :: undef :: undef :: .int .u64 (uv (nG S q0 q1)) :: .int .i64 0 :: .int .u64 (uv (nG S q0 q1)) :: .int .i64 (nE S q0 q1) :: V8.l qz57 (V8.l qz39 (V8.l qz58 (undef :: .pointer (some ⟨D, 0, none⟩) :: .int .i64 ((S.write (wI S q0 q1 : Int) ((wP S q0 q1 xs).map bv)).actE) :: .int .i64 ((S.write (wI S q0 q1 : Int) ((wP S q0 q1 xs).map bv)).actE) :: .bool false :: undef :: .int .u64 (uv (nG S q0 q1)) :: []))))) (by subst hqz57 hqz58; rfl) ?_
     refine hK54 _ _ ?_
     refine wp_ret ?_
     try simp only [Exit.inBlock, Exit.then]
     refine c_ret (.tuple [.int .u64 (uv (nG S q0 q1)), .int .i64 0].toArray) (r_tmp2 rfl rfl rfl) ?_
     have e1 : wE S q0 q1 xs = 0 := ((if_pos hl).trans ((if_pos hnz).trans (if_pos hwz))).trans haz
     have e2 : wS S q0 q1 xs = (w1S S q0 q1 xs).sync := (if_pos ⟨hl, hnz⟩).trans (if_pos hwz)
     have e3 : wG S q0 q1 xs = nG S q0 q1 := if_pos e1
     rw [e1, e2, e3]
     exact ⟨_, rfl, (((((HS.front 4 rfl).drop.front 3 rfl).front 3 rfl).front 3 rfl).front 3 rfl)⟩
    ·refine c_region (fun ops60 hops59 => ?_)
     clear hops59
     refine p_run _ (x_move (.int .i64 ((S.write (wI S q0 q1 : Int) ((wP S q0 q1 xs).map bv)).actE)) rfl rfl) rfl ?_
     refine p_run _ (x_cmp (k := .i64) (m := (S.write (wI S q0 q1 : Int) ((wP S q0 q1 xs).map bv)).actE) (n := 0) .neq true rfl rfl rfl (by simpa [cmpB, w1S] using haz) rfl) rfl ?_
     refine wpList_nil ?_
     refine hK50 _ _ ?_
     refine c_true rfl ?_
     refine wp_seq_k (fun K61 hK62 => ?_)
     refine c_region (fun ops64 hops63 => ?_)
     clear hops63
     refine p_run _ (x_move (.int .i64 ((S.write (wI S q0 q1 : Int) ((wP S q0 q1 xs).map bv)).actE)) rfl rfl) rfl ?_
     refine p_run _ (x_assign (.int .u64 0) rfl rfl) rfl ?_
     refine p_run _ (x_assign (.int .i64 ((S.write (wI S q0 q1 : Int) ((wP S q0 q1 xs).map bv)).actE)) rfl rfl) rfl ?_
     refine wpList_nil ?_
     refine hK62 _ _ ?_
     refine wp_ret ?_
     try simp only [Exit.inBlock, Exit.then]
     refine c_ret (.tuple [.int .u64 0, .int .i64 ((S.write (wI S q0 q1 : Int) ((wP S q0 q1 xs).map bv)).actE)].toArray) (r_tmp2 rfl rfl rfl) ?_
     have e1 : wE S q0 q1 xs = (w1S S q0 q1 xs).actE := (if_pos hl).trans ((if_pos hnz).trans (if_pos hwz))
     have e2 : wS S q0 q1 xs = (w1S S q0 q1 xs).sync := (if_pos ⟨hl, hnz⟩).trans (if_pos hwz)
     have e3 : wG S q0 q1 xs = 0 := if_neg (by rw [e1]; exact haz)
     rw [e1, e2, e3]
     exact ⟨_, rfl, (((((HS.front 4 rfl).drop.front 3 rfl).front 3 rfl).front 3 rfl).front 3 rfl)⟩
   ·refine c_region (fun ops66 hops65 => ?_)
    clear hops65
    refine p_run _ (x_move (.int .i64 (S.writeE (wI S q0 q1 : Int))) rfl rfl) rfl ?_
    refine p_run _ (x_cmp (k := .i64) (m := (S.writeE (wI S q0 q1 : Int))) (n := 0) .neq true rfl rfl rfl (by simpa [cmpB] using hwz) rfl) rfl ?_
    refine wpList_nil ?_
    obtain ⟨qz67, hqz67⟩ : ∃ q_ : V8, q_ = ⟨.int .u64 (uv (nG S q0 q1)), .int .i64 (nE S q0 q1), .int .i64 (nE S q0 q1), .bool false, undef, .pointer (some ⟨D, 0, none⟩), .int .u64 (uv (nG S q0 q1)), .int .u64 (uv (nG S q0 q1) % 2)⟩ := ⟨_, rfl⟩
    refine fr_at (l' := (.pointer (some ⟨D, 0, none⟩) :: .slice A xs.length c :: undef :: undef :: .int .u64 0 :: .int .i64 0 :: .int .u64 (uv (nG S q0 q1)) :: .int .i64 (nE S q0 q1) :: .int .i64 (S.writeE (wI S q0 q1 : Int)) :: undef :: .slice A xs.length c :: .int .i64 (xs.length : Int) :: .bool false :: .tuple [.int .u64 (uv (nG S q0 q1)), .int .i64 (nE S q0 q1)].toArray :: .pointer (some ⟨D, 0, none⟩) :: .tuple [.int .u64 (uv (nG S q0 q1)), .int .i64 (nE S q0 q1)].toArray :: V8.l qz67 (.int .i64 (wI S q0 q1 : Int) :: .int .u64 (uv (nG S q0 q1)) :: .slice A xs.length c :: .slice oa28 ((rtS xs).length) nc29 :: .agg ((nums .u8 ((wP S q0 q1 xs).map bv))).toArray :: .int .i64 (S.writeE (wI S q0 q1 : Int)) :: .int .i64 (S.writeE (wI S q0 q1 : Int)) :: .bool true :: U4r4 (undef :: undef :: undef :: [])))) (by subst hqz67; rfl) ?_
    refine hK36 _ _ ?_
    refine c_true rfl ?_
    refine wp_seq_k (fun K68 hK69 => ?_)
    refine c_region (fun ops71 hops70 => ?_)
    clear hops70
    refine p_run _ (x_move (.int .i64 (S.writeE (wI S q0 q1 : Int))) rfl rfl) rfl ?_
    refine p_run _ (x_assign (.int .u64 0) rfl rfl) rfl ?_
    refine p_run _ (x_assign (.int .i64 (S.writeE (wI S q0 q1 : Int))) rfl rfl) rfl ?_
    refine wpList_nil ?_
    refine hK69 _ _ ?_
    refine wp_ret ?_
    try simp only [Exit.inBlock, Exit.then]
    refine c_ret (.tuple [.int .u64 0, .int .i64 (S.writeE (wI S q0 q1 : Int))].toArray) (r_tmp2 rfl rfl rfl) ?_
    have e1 : wE S q0 q1 xs = S.writeE (wI S q0 q1 : Int) := (if_pos hl).trans ((if_pos hnz).trans (if_neg hwz))
    have e2 : wS S q0 q1 xs = w1S S q0 q1 xs := (if_pos ⟨hl, hnz⟩).trans (if_neg hwz)
    have e3 : wG S q0 q1 xs = 0 := if_neg (by rw [e1]; exact hwz)
    rw [e1, e2, e3]
    exact ⟨_, rfl, (((((HS.front 4 rfl).drop.front 3 rfl).front 3 rfl).front 3 rfl).front 3 rfl)⟩
  ·refine c_region (fun ops73 hops72 => ?_)
   clear hops72
   refine p_run _ (x_move (.int .i64 (nE S q0 q1)) rfl rfl) rfl ?_
   refine p_run _ (x_cmp (k := .i64) (m := (nE S q0 q1)) (n := 0) .neq true rfl rfl rfl (by simpa [cmpB] using hnz) rfl) rfl ?_
   refine wpList_nil ?_
   refine hK19 _ _ ?_
   refine c_true rfl ?_
   refine wp_seq_k (fun K74 hK75 => ?_)
   refine c_region (fun ops77 hops76 => ?_)
   clear hops76
   refine p_run _ (x_move (.int .i64 (nE S q0 q1)) rfl rfl) rfl ?_
   refine p_run _ (x_assign (.int .u64 0) rfl rfl) rfl ?_
   refine p_run _ (x_assign (.int .i64 (nE S q0 q1)) rfl rfl) rfl ?_
   refine wpList_nil ?_
   refine fr_at (l' := (.pointer (some ⟨D, 0, none⟩) :: .slice A xs.length c :: undef :: undef :: .int .u64 0 :: .int .i64 (nE S q0 q1) :: .int .u64 (uv (nG S q0 q1)) :: .int .i64 (nE S q0 q1) :: undef :: undef :: .slice A xs.length c :: .int .i64 (xs.length : Int) :: .bool false :: .tuple [.int .u64 (uv (nG S q0 q1)), .int .i64 (nE S q0 q1)].toArray :: .pointer (some ⟨D, 0, none⟩) :: .tuple [.int .u64 (uv (nG S q0 q1)), .int .i64 (nE S q0 q1)].toArray :: .int .u64 (uv (nG S q0 q1)) :: .int .i64 (nE S q0 q1) :: .int .i64 (nE S q0 q1) :: .bool true :: .int .i64 (nE S q0 q1) :: U16r4 (undef :: undef :: []))) rfl ?_
   refine hK75 _ _ ?_
   refine wp_ret ?_
   try simp only [Exit.inBlock, Exit.then]
   refine c_ret (.tuple [.int .u64 0, .int .i64 (nE S q0 q1)].toArray) (r_tmp2 rfl rfl rfl) ?_
   have e1 : wE S q0 q1 xs = nE S q0 q1 := (if_pos hl).trans (if_neg hnz)
   have e2 : wS S q0 q1 xs = S := if_neg (fun h => hnz h.2)
   have e3 : wG S q0 q1 xs = 0 := if_neg (by rw [e1]; exact hnz)
   rw [e1, e2, e3]
   exact ⟨_, rfl, ((((HS.front 3 rfl).front 3 rfl).front 3 rfl).front 3 rfl)⟩
 ·have hsm := (hc _ [blk D (dskC gs gm v S) 72, blk gs (pgs S.stable) 38, mapR gm S.cnt S.bad, row kWr rfl 78 v S.pending] HS).1.2.1
  refine c_enter Try.func10 rfl 39 rfl (.pointer (some ⟨D, 0, none⟩) :: .slice A xs.length c :: U32r4 (U4r4 (undef :: []))) rfl ?_
  refine wp_seq_k (fun K1 hK2 => ?_)
  refine c_region (fun ops4 hops3 => ?_)
  clear hops3
  refine p_run _ (x_assign (.int .u64 0) rfl rfl) rfl ?_
  refine p_run _ (x_assign (.int .i64 0) rfl rfl) rfl ?_
  refine wpList_nil ?_
  refine hK2 _ _ ?_
  refine wp_seq_k (fun K5 hK6 => ?_)
  refine wp_seq_k (fun K7 hK8 => ?_)
  refine c_region (fun ops10 hops9 => ?_)
  clear hops9
  refine p_run _ (x_move (.slice A xs.length c) rfl rfl) rfl ?_
  refine p_run _ (x_len rfl rfl Try.underlying24) rfl ?_
  refine p_run _ (x_cmp (k := .i64) (m := (xs.length : Int)) (n := 186) .gtr true rfl rfl rfl (show decide _ = true from decide_eq_true (by omega)) rfl) rfl ?_
  refine wpList_nil ?_
  refine hK8 _ _ ?_
  refine c_true rfl ?_
  refine wp_seq_k (fun K11 hK12 => ?_)
  refine c_region (fun ops14 hops13 => ?_)
  clear hops13
  refine p_run _ (x_assign (.int .u64 0) rfl rfl) rfl ?_
  refine p_run _ (x_assign (.int .i64 51) rfl rfl) rfl ?_
  refine wpList_nil ?_
  refine fr_at (l' := (.pointer (some ⟨D, 0, none⟩) :: .slice A xs.length c :: undef :: undef :: .int .u64 0 :: .int .i64 51 :: U4r4 (.slice A xs.length c :: .int .i64 (xs.length : Int) :: .bool true :: U16r4 (U8r4 (undef :: undef :: []))))) rfl ?_
  refine hK12 _ _ ?_
  refine wp_ret ?_
  try simp only [Exit.inBlock, Exit.then]
  refine c_ret (.tuple [.int .u64 0, .int .i64 51].toArray) (r_tmp2 rfl rfl rfl) ?_
  have e1 : wE S q0 q1 xs = 51 := if_neg hl
  have e2 : wS S q0 q1 xs = S := if_neg (fun h => hl h.1)
  have e3 : wG S q0 q1 xs = 0 := if_neg (by rw [e1]; decide)
  rw [e1, e2, e3]
  exact ⟨_, rfl, ((((HS.front 3 rfl).front 3 rfl).front 3 rfl).front 3 rfl)⟩
end
end Go.Proofs.Ytenlkobjldhfgaa
