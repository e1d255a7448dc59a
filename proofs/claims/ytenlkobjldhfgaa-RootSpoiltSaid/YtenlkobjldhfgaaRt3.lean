/- Package root: look. -/
import Derived.Test.YtenlkobjldhfgaaRt2
import Derived.Test.YtenlkobjldhfgaaRtD
set_option linter.unusedVariables false
set_option linter.unusedSimpArgs false
namespace Go.Proofs.Ytenlkobjldhfgaa
open Go.RowKit Go.Proofs.YtenlkobjldhfgaaW.PrintWords Go.Proofs.YtenlkobjldhfgaaW.PrintLast Crc
abbrev U4r3 (l : List Value) : List Value := undef :: undef :: undef :: undef :: l
abbrev U8r3 (l : List Value) : List Value := U4r3 (U4r3 l)
abbrev U16r3 (l : List Value) : List Value := U8r3 (U8r3 l)
abbrev U32r3 (l : List Value) : List Value := U16r3 (U16r3 l)
abbrev U64r3 (l : List Value) : List Value := U32r3 (U32r3 l)
section
variable {w0 W : World} {F : Nat → Prop} {L : List Res} {D gs gm n : Nat} {v : Value} {S : Dk} {q0 q1 : List UInt8}
def lkE (S : Dk) : Int := if S.readE 0 = 0 then S.readE 1 else S.readE 0
def rB (S : Dk) (q0 q1 : List UInt8) : List UInt8 := if lkE S = 0 then lkB q0 q1 else []
def rG (S : Dk) (q0 q1 : List UInt8) : UInt64 := if lkE S = 0 then lkG q0 q1 else 0
def rT (S : Dk) (q0 q1 : List UInt8) : UInt64 := if lkE S = 0 then lkT q0 q1 else 0
theorem rq_at (hp0 : S.readP 0 = q0.map bv) (hp1 : S.readP 1 = q1.map bv) {j : Nat} (hj : j < 2) : S.readP (j : Int) = (pgI j q0 q1).map bv := by
  match j, hj with
  | 0, _ => exact hp0
  | 1, _ => exact hp1
theorem pgI_len (hq0 : q0.length = 256) (hq1 : q1.length = 256) (j : Nat) : (pgI j q0 q1).length = 256 := by unfold pgI; split; exact hq0; exact hq1
def bJ (q0 q1 : List UInt8) (j : Nat) : List UInt8 := if j = 0 then [] else if j = 1 then cnU q0 0 else lkB q0 q1
def gJ (q0 q1 : List UInt8) (j : Nat) : UInt64 := if j = 0 then 0 else if j = 1 then gnU q0 0 else lkG q0 q1
def tJ (q0 q1 : List UInt8) (j : Nat) : UInt64 := if j = 0 then 0 else if j = 1 then topL 0 (hdsB q0) else lkT q0 q1
theorem cn_zero {q : List UInt8} {s : Nat} (h : gnU q s = 0) : cnU q s = [] := by
  unfold gnU at h
  unfold cnU
  split
  · rename_i hok
    rw [if_pos hok] at h
    exact absurd h (ok_of hok).1
  · rfl
theorem u_zero {g : UInt64} (h : ¬ g > 0) : g = 0 := by
  apply UInt64.toNat_inj.1
  have : ¬ (0 : UInt64).toNat < g.toNat := fun h' => h (UInt64.lt_iff_toNat_lt.2 h')
  have h0 : (0 : UInt64).toNat = 0 := rfl
  omega
theorem look_yes {j : Nat} (hj : j < 2) (h : gnU (pgI j q0 q1) j > gJ q0 q1 j) : cnU (pgI j q0 q1) j = bJ q0 q1 (j + 1) ∧ gnU (pgI j q0 q1) j = gJ q0 q1 (j + 1) := by
  match j, hj, h with
  | 0, _, _ => exact ⟨rfl, rfl⟩
  | 1, _, h =>
    have h' : gnU q1 1 > gnU q0 0 := h
    refine ⟨?_, ?_⟩
    · show cnU q1 1 = lkB q0 q1
      unfold lkB
      rw [if_pos h']
    · show gnU q1 1 = lkG q0 q1
      unfold lkG
      rw [if_pos h']
theorem look_no {j : Nat} (hj : j < 2) (h : ¬ gnU (pgI j q0 q1) j > gJ q0 q1 j) : bJ q0 q1 j = bJ q0 q1 (j + 1) ∧ gJ q0 q1 j = gJ q0 q1 (j + 1) := by
  match j, hj, h with
  | 0, _, h =>
    have h0 : gnU q0 0 = 0 := u_zero h
    exact ⟨(cn_zero h0).symm, h0.symm⟩
  | 1, _, h =>
    have h' : ¬ gnU q1 1 > gnU q0 0 := h
    refine ⟨?_, ?_⟩
    · show cnU q0 0 = lkB q0 q1
      unfold lkB
      rw [if_neg h']
    · show gnU q0 0 = lkG q0 q1
      unfold lkG
      rw [if_neg h']
theorem look_top {j : Nat} (hj : j < 2) : topL (tJ q0 q1 j) (hdsB (pgI j q0 q1)) = tJ q0 q1 (j + 1) := by
  match j, hj with
  | 0, _ => rfl
  | 1, _ => rfl
theorem lkE_bad {j : Nat} (hj : j < 2) (he : ∀ i, i < j → S.readE (i : Int) = 0) (h : ¬ S.readE (j : Int) = 0) : lkE S = S.readE (j : Int) ∧ ¬ lkE S = 0 := by
  match j, hj, he, h with
  | 0, _, _, h =>
    have e : lkE S = S.readE 0 := if_neg h
    rw [e]
    exact ⟨rfl, h⟩
  | 1, _, he, h =>
    have e : lkE S = S.readE 1 := if_pos (he 0 (by decide))
    rw [e]
    exact ⟨rfl, h⟩
theorem lkE_ok (he : ∀ i : Nat, i < 2 → S.readE (i : Int) = 0) : lkE S = 0 := (if_pos (he 0 (by decide))).trans (he 1 (by decide))
theorem uv_gt {a b : UInt64} : (uv a > uv b) ↔ a > b := by
  unfold uv
  constructor
  · intro h
    exact UInt64.lt_iff_toNat_lt.2 (by omega)
  · intro h
    have := UInt64.lt_iff_toNat_lt.1 h
    omega
theorem top_snoc {l : List UInt64} {k : Nat} {t0 t : UInt64} (hk : k < l.length) (ht : t = topL t0 (l.take k)) : (if uv (l.getD k 0) > uv t then uv (l.getD k 0) else uv t) = uv (topL t0 (l.take (k + 1))) := by
  have e : l.getD k 0 = l[k] := by rw [List.getD_eq_getElem?_getD, List.getElem?_eq_getElem hk]; rfl
  have e2 : topL t0 (l.take (k + 1)) = (if l[k] > t then l[k] else t) := by
    rw [List.take_succ_eq_append_getElem hk, ht]
    unfold topL
    rw [List.foldl_append]
    rfl
  rw [e2, e]
  by_cases h : l[k] > t
  · rw [if_pos h, if_pos (uv_gt.2 h)]
  · rw [if_neg h, if_neg (fun h' => h (uv_gt.1 h'))]

theorem r_tttt {P : Program} {w : World} {l : List Value} {fn : Func} {t u s x : Nat} {v v' v'' v3 : Value} (h : fn.results = #[.tmp t, .tmp u, .tmp s, .tmp x]) (hv : nth l t = v) (hv' : nth l u = v') (hv'' : nth l s = v'') (hv3 : nth l x = v3) : (results fn l.toArray).run P w = .ok (.tuple #[v, v', v'', v3]) w := by
  have e1 := nth_getD l t
  have e2 := nth_getD l u
  have e3 := nth_getD l s
  have e4 := nth_getD l x
  rw [hv] at e1
  rw [hv'] at e2
  rw [hv''] at e3
  rw [hv3] at e4
  simp only [Array.getD_eq_getD_getElem?, List.getElem?_toArray] at e1 e2 e3 e4
  simp [results, h, e1, e2, e3, e4]

theorem wru64 {x : Int} (h : 0 ≤ x ∧ x < 18446744073709551616) : IntKind.u64.wrap x = x := by rw [IntKind.wrap_u64]; omega

set_option maxRecDepth 10000 in
set_option maxHeartbeats 4000000 in
theorem look_root (HS : St w0 F W (dsk D gs gm v S L)) (hg : S.good n) (hn : n ≤ 100000) (hp0 : S.readP 0 = q0.map bv) (hp1 : S.readP 1 = q1.map bv) (hq0 : q0.length = 256) (hq1 : q1.length = 256) : Calls Try.prog 29 #[.pointer (some ⟨D, 0, none⟩)] W fun e w' => ∃ A c, e = .returned (.tuple #[.slice A (rB S q0 q1).length c, .int .u64 (uv (rG S q0 q1)), .int .u64 (uv (rT S q0 q1)), .int .i64 (lkE S)]) ∧ St w0 F w' (rdp A c (rB S q0 q1) :: dsk D gs gm v S L) := by
  refine c_enter Try.func29 rfl 55 rfl (.pointer (some ⟨D, 0, none⟩) :: U32r3 (U16r3 (U4r3 (undef :: undef :: [])))) rfl ?_
  refine wp_seq_k (fun K1 hK2 => ?_)
  refine c_region (fun ops4 hops3 => ?_)
  clear hops3
  refine p_run _ (x_assign (.slice none 0 0) rfl rfl) rfl ?_
  refine p_run _ (x_assign (.int .u64 0) rfl rfl) rfl ?_
  refine p_run _ (x_assign (.int .u64 0) rfl rfl) rfl ?_
  refine p_run _ (x_assign (.int .i64 0) rfl rfl) rfl ?_
  refine wpList_nil ?_
  refine hK2 _ _ ?_
  refine wp_seq_k (fun K5 hK6 => ?_)
  refine c_region (fun ops8 hops7 => ?_)
  clear hops7
  refine p_run _ (x_assign (.slice none 0 0) rfl rfl) rfl ?_
  refine wpList_nil ?_
  refine fr_at (l' := (.pointer (some ⟨D, 0, none⟩) :: undef :: .slice none 0 0 :: .int .u64 0 :: .int .u64 0 :: .int .i64 0 :: .slice none 0 0 :: U32r3 (U16r3 ([])))) rfl ?_
  refine hK6 _ _ ?_
  refine wp_seq_k (fun K9 hK10 => ?_)
  refine c_region (fun ops12 hops11 => ?_)
  clear hops11
  refine p_run _ (x_assign (.int .u64 0) rfl rfl) rfl ?_
  refine p_run _ (x_assign (.int .u64 0) rfl rfl) rfl ?_
  refine wpList_nil ?_
  refine hK10 _ _ ?_
  refine wp_seq_k (fun K13 hK14 => ?_)
  refine wp_seq_k (fun K15 hK16 => ?_)
  refine c_region (fun ops18 hops17 => ?_)
  clear hops17
  refine p_run _ (x_move (.int .u64 0) rfl rfl) rfl ?_
  refine wpList_nil ?_
  refine fr_at (l' := (.pointer (some ⟨D, 0, none⟩) :: undef :: .slice none 0 0 :: .int .u64 0 :: .int .u64 0 :: .int .i64 0 :: .slice none 0 0 :: .int .u64 0 :: .int .u64 0 :: U4r3 (undef :: undef :: undef :: .int .u64 0 :: U32r3 (U4r3 (undef :: undef :: []))))) rfl ?_
  refine hK16 _ _ ?_
  refine wp_block ?_
  replace HS := HS.rdpNil
  refine c_loop (ι := Nat × Option Addr × Nat × List UInt8 × UInt64 × UInt64) (fun i_ a_ w_ => match i_ with | (j, A, c, b, g, t) => ∃ (uq19 : Value × Value × Value × Value × Value × Value) (uq20 : Value × Value × Value × Value × Value × Value) (uq21 : Value × Value × Value × Value × Value × Value) (uq22 : Value × Value × Value × Value × Value × Value) (uq23 : Value × Value × Value × Value × Value × Value) (uq24 : Value × Value × Value × Value × Value × Value) (uq25 : Value × Value × Value × Value × Value × Value) (uq26 : Value × Value × Value), a_ = fr (.pointer (some ⟨D, 0, none⟩) :: undef :: uq19.1 :: uq19.2.1 :: uq19.2.2.1 :: uq19.2.2.2.1 :: .slice A b.length c :: .int .u64 (uv g) :: .int .u64 (uv t) :: uq19.2.2.2.2.1 :: uq19.2.2.2.2.2 :: uq20.1 :: undef :: uq20.2.1 :: uq20.2.2.1 :: uq20.2.2.2.1 :: .int .u64 (j : Int) :: uq20.2.2.2.2.1 :: uq20.2.2.2.2.2 :: uq21.1 :: uq21.2.1 :: uq21.2.2.1 :: uq21.2.2.2.1 :: uq21.2.2.2.2.1 :: uq21.2.2.2.2.2 :: uq22.1 :: uq22.2.1 :: uq22.2.2.1 :: uq22.2.2.2.1 :: uq22.2.2.2.2.1 :: uq22.2.2.2.2.2 :: uq23.1 :: uq23.2.1 :: uq23.2.2.1 :: uq23.2.2.2.1 :: uq23.2.2.2.2.1 :: uq23.2.2.2.2.2 :: uq24.1 :: uq24.2.1 :: uq24.2.2.1 :: uq24.2.2.2.1 :: uq24.2.2.2.2.1 :: uq24.2.2.2.2.2 :: uq25.1 :: uq25.2.1 :: uq25.2.2.1 :: uq25.2.2.2.1 :: uq25.2.2.2.2.1 :: uq25.2.2.2.2.2 :: uq26.1 :: uq26.2.1 :: uq26.2.2 :: undef :: undef :: undef :: []) ∧ St w0 F w_ (rdp A c b :: blk D (dskC gs gm v S) 72 :: blk gs (pgs S.stable) 38 :: mapR gm S.cnt S.bad :: row kWr rfl 78 v S.pending :: L) ∧ (j ≤ 2 ∧ (∀ i, i < j → S.readE (i : Int) = 0) ∧ b = bJ q0 q1 j ∧ g = gJ q0 q1 j ∧ t = tJ q0 q1 j)) (fun i_ => match i_ with | (j, A, c, b, g, t) => 2 - j) (0, none, 0, [], 0, 0) ?_ ?_
  · exact ⟨(.slice none 0 0, .int .u64 0, .int .u64 0, .int .i64 0, undef, undef), (undef, undef, undef, undef, undef, undef), (undef, undef, undef, undef, undef, undef), (undef, undef, undef, undef, undef, undef), (undef, undef, undef, undef, undef, undef), (undef, undef, undef, undef, undef, undef), (undef, undef, undef, undef, undef, undef), (undef, undef, undef), rfl, (((((HS.front 4 rfl).front 4 rfl).front 4 rfl).front 4 rfl).front 4 rfl), ⟨by omega, fun i hi => absurd hi (by omega), rfl, rfl, rfl⟩⟩
  · clear HS
    rintro ⟨j, A, c, b, g, t⟩ a_ w29 ⟨uq19, uq20, uq21, uq22, uq23, uq24, uq25, uq26, rfl, HS, hI⟩ J27 hJ28
    obtain ⟨hj, her, hb, hgg, ht⟩ := hI
    refine wp_seq_k (fun K30 hK31 => ?_)
    refine c_region (fun ops33 hops32 => ?_)
    clear hops32
    refine p_run _ (x_cmp (k := .u64) (m := (j : Int)) (n := 2) .lss (decide ((j : Int) < 2)) rfl rfl rfl rfl rfl) rfl ?_
    refine wpList_nil ?_
    refine hK31 _ _ ?_
    refine wp_seq_k (fun K34 hK35 => ?_)
    refine c_cond (t := decide ((j : Int) < 2)) rfl (fun hc36 => ?_) (fun hc36 => ?_)
    · have hlt : j < 2 := by have := of_decide_eq_true hc36; omega
      have hqj := rq_at hp0 hp1 hlt
      refine wp_skip ?_
      refine hK35 _ _ ?_
      refine wp_seq_k (fun K37 hK38 => ?_)
      refine wp_block ?_
      refine wp_seq_k (fun K39 hK40 => ?_)
      refine c_region (fun ops42 hops41 => ?_)
      clear hops41
      refine p_run _ (x_move (.int .u64 (j : Int)) rfl rfl) rfl ?_
      refine p_run _ (x_assign (.int .u64 (j : Int)) rfl rfl) rfl ?_
      refine wpList_nil ?_
      refine hK40 _ _ ?_
      refine wp_seq_k (fun K43 hK44 => ?_)
      refine c_region (fun ops46 hops45 => ?_)
      clear hops45
      refine p_run _ (x_move (.pointer (some ⟨D, 0, none⟩)) rfl rfl) rfl ?_
      refine p_run _ (x_move (.int .u64 (j : Int)) rfl rfl) rfl ?_
      refine p_run _ (x_conv (k := .u64) (m := (j : Int)) .i64 ((j : Int)) rfl (by rw [Try.underlying25]; rfl) Try.underlying3 rfl (wr64' (by omega))) rfl ?_
      refine w_call [.pointer (some ⟨D, 0, none⟩), .int .i64 (j : Int)] Try.func13 (by kernel_rfl) (by rfl) rfl ?_
      replace HS := ((((HS.front 4 rfl).front 4 rfl).front 4 rfl).front 4 rfl)
      refine (read_any HS hg.ok (by have := hg.pn; omega) (j : Int)).mono ?_
      clear HS
      rintro e w47 ⟨he_, HS⟩
      rw [hqj] at he_
      subst he_
      refine ⟨_, rfl, ?_⟩
      refine fr_to (l' := (.pointer (some ⟨D, 0, none⟩) :: undef :: uq19.1 :: uq19.2.1 :: uq19.2.2.1 :: uq19.2.2.2.1 :: .slice A b.length c :: .int .u64 (uv g) :: .int .u64 (uv t) :: .int .u64 (j : Int) :: uq19.2.2.2.2.2 :: uq20.1 :: undef :: uq20.2.1 :: uq20.2.2.1 :: uq20.2.2.2.1 :: .int .u64 (j : Int) :: .bool (decide ((j : Int) < 2)) :: .int .u64 (j : Int) :: uq21.1 :: .pointer (some ⟨D, 0, none⟩) :: .int .u64 (j : Int) :: .int .i64 (j : Int) :: .tuple [.agg ((nums .u8 ((pgI j q0 q1).map bv))).toArray, .int .i64 (S.readE (j : Int))].toArray :: uq21.2.2.2.2.2 :: uq22.1 :: uq22.2.1 :: uq22.2.2.1 :: uq22.2.2.2.1 :: uq22.2.2.2.2.1 :: uq22.2.2.2.2.2 :: uq23.1 :: uq23.2.1 :: uq23.2.2.1 :: uq23.2.2.2.1 :: uq23.2.2.2.2.1 :: uq23.2.2.2.2.2 :: uq24.1 :: uq24.2.1 :: uq24.2.2.1 :: uq24.2.2.2.1 :: uq24.2.2.2.2.1 :: uq24.2.2.2.2.2 :: uq25.1 :: uq25.2.1 :: uq25.2.2.1 :: uq25.2.2.2.1 :: uq25.2.2.2.2.1 :: uq25.2.2.2.2.2 :: uq26.1 :: uq26.2.1 :: uq26.2.2 :: undef :: undef :: undef :: [])) rfl ?_
      refine p_run _ (x_move (.tuple [.agg ((nums .u8 ((pgI j q0 q1).map bv))).toArray, .int .i64 (S.readE (j : Int))].toArray) rfl rfl) rfl ?_
      refine p_run _ (x_extract (vs := [.agg ((nums .u8 ((pgI j q0 q1).map bv))).toArray, .int .i64 (S.readE (j : Int))]) 0 (.agg ((nums .u8 ((pgI j q0 q1).map bv))).toArray) rfl rfl rfl) rfl ?_
      refine p_run _ (x_extract (vs := [.agg ((nums .u8 ((pgI j q0 q1).map bv))).toArray, .int .i64 (S.readE (j : Int))]) 1 (.int .i64 (S.readE (j : Int))) rfl rfl rfl) rfl ?_
      refine St.wAlloc HS (cs := ((nums .u8 zpg))) (.agg ((nums .u8 zpg)).toArray) (by kernel_rfl) rfl ?_
      clear HS
      intro g48 w49 hg50 HS
      refine St.stores (cs' := ((nums .u8 ((pgI j q0 q1).map bv)))) HS ((nums .u8 ((pgI j q0 q1).map bv))) 256 rfl rfl (nums_one _ _) (by kernel_rfl) (by simp [List.length_map, nums_length, pgI_len hq0 hq1 j]) (by simp [List.length_map, nums_length, pgI_len hq0 hq1 j, zlen]) (lay_all _ _ (by simp [List.length_map, nums_length, pgI_len hq0 hq1 j, zlen])) ?_
      clear HS
      intro w51 HS
      refine p_run _ (x_assign (.int .i64 (S.readE (j : Int))) rfl rfl) rfl ?_
      refine wpList_nil ?_
      refine fr_at (l' := (.pointer (some ⟨D, 0, none⟩) :: undef :: uq19.1 :: uq19.2.1 :: uq19.2.2.1 :: uq19.2.2.2.1 :: .slice A b.length c :: .int .u64 (uv g) :: .int .u64 (uv t) :: .int .u64 (j : Int) :: .pointer (some ⟨g48, 0, none⟩) :: .int .i64 (S.readE (j : Int)) :: undef :: uq20.2.1 :: uq20.2.2.1 :: uq20.2.2.2.1 :: .int .u64 (j : Int) :: .bool (decide ((j : Int) < 2)) :: .int .u64 (j : Int) :: .tuple [.agg ((nums .u8 ((pgI j q0 q1).map bv))).toArray, .int .i64 (S.readE (j : Int))].toArray :: .pointer (some ⟨D, 0, none⟩) :: .int .u64 (j : Int) :: .int .i64 (j : Int) :: .tuple [.agg ((nums .u8 ((pgI j q0 q1).map bv))).toArray, .int .i64 (S.readE (j : Int))].toArray :: .agg ((nums .u8 ((pgI j q0 q1).map bv))).toArray :: .int .i64 (S.readE (j : Int)) :: uq22.2.1 :: uq22.2.2.1 :: uq22.2.2.2.1 :: uq22.2.2.2.2.1 :: uq22.2.2.2.2.2 :: uq23.1 :: uq23.2.1 :: uq23.2.2.1 :: uq23.2.2.2.1 :: uq23.2.2.2.2.1 :: uq23.2.2.2.2.2 :: uq24.1 :: uq24.2.1 :: uq24.2.2.1 :: uq24.2.2.2.1 :: uq24.2.2.2.2.1 :: uq24.2.2.2.2.2 :: uq25.1 :: uq25.2.1 :: uq25.2.2.1 :: uq25.2.2.2.1 :: uq25.2.2.2.2.1 :: uq25.2.2.2.2.2 :: uq26.1 :: uq26.2.1 :: uq26.2.2 :: undef :: undef :: undef :: [])) rfl ?_
      refine hK44 _ _ ?_
      refine wp_seq_k (fun K52 hK53 => ?_)
      refine wp_seq_k (fun K54 hK55 => ?_)
      by_cases hre : S.readE (j : Int) = 0
      · skip
        refine c_region (fun ops57 hops56 => ?_)
        clear hops56
        refine p_run _ (x_move (.int .i64 (S.readE (j : Int))) rfl rfl) rfl ?_
        refine p_run _ (x_cmp (k := .i64) (m := (S.readE (j : Int))) (n := 0) .neq false rfl rfl rfl (by rw [hre]; rfl) rfl) rfl ?_
        refine wpList_nil ?_
        refine hK55 _ _ ?_
        refine c_false rfl ?_
        refine wp_skip ?_
        refine hK53 _ _ ?_
        refine wp_seq_k (fun K58 hK59 => ?_)
        refine wp_seq_k (fun K60 hK61 => ?_)
        refine c_region (fun ops63 hops62 => ?_)
        clear hops62
        refine p_run _ (x_loads ((nums .u8 ((pgI j q0 q1).map bv))) 256 rfl rfl (bkCells (HS.get (.head _)) 0 _ (whole _)) (by rfl) (by kernel_rfl) (by simp [List.length_map, nums_length, pgI_len hq0 hq1 j])) rfl ?_
        refine w_call [.agg ((nums .u8 ((pgI j q0 q1).map bv))).toArray] Try.func46 (by kernel_rfl) (by rfl) rfl ?_
        refine (gens_root _ (pgI j q0 q1) (pgI_len hq0 hq1 j)).mono ?_
        rintro e w66 ⟨oa64, nc65, rfl, hk_⟩
        replace HS := HS.more hk_
        clear hk_
        refine ⟨_, rfl, ?_⟩
        refine p_run _ (x_len rfl rfl Try.underlying93) rfl ?_
        refine p_run _ (x_move (.int .i64 0) rfl rfl) rfl ?_
        refine wpList_nil ?_
        refine fr_at (l' := (.pointer (some ⟨D, 0, none⟩) :: undef :: uq19.1 :: uq19.2.1 :: uq19.2.2.1 :: uq19.2.2.2.1 :: .slice A b.length c :: .int .u64 (uv g) :: .int .u64 (uv t) :: .int .u64 (j : Int) :: .pointer (some ⟨g48, 0, none⟩) :: .int .i64 (S.readE (j : Int)) :: undef :: uq20.2.1 :: uq20.2.2.1 :: uq20.2.2.2.1 :: .int .u64 (j : Int) :: .bool (decide ((j : Int) < 2)) :: .int .u64 (j : Int) :: .tuple [.agg ((nums .u8 ((pgI j q0 q1).map bv))).toArray, .int .i64 (S.readE (j : Int))].toArray :: .pointer (some ⟨D, 0, none⟩) :: .int .u64 (j : Int) :: .int .i64 (j : Int) :: .tuple [.agg ((nums .u8 ((pgI j q0 q1).map bv))).toArray, .int .i64 (S.readE (j : Int))].toArray :: .agg ((nums .u8 ((pgI j q0 q1).map bv))).toArray :: .int .i64 (S.readE (j : Int)) :: .int .i64 (S.readE (j : Int)) :: .bool false :: uq22.2.2.2.1 :: .agg ((nums .u8 ((pgI j q0 q1).map bv))).toArray :: .slice oa64 8 nc65 :: .int .i64 8 :: .int .i64 0 :: uq23.2.2.1 :: uq23.2.2.2.1 :: uq23.2.2.2.2.1 :: uq23.2.2.2.2.2 :: uq24.1 :: uq24.2.1 :: uq24.2.2.1 :: uq24.2.2.2.1 :: uq24.2.2.2.2.1 :: uq24.2.2.2.2.2 :: uq25.1 :: uq25.2.1 :: uq25.2.2.1 :: uq25.2.2.2.1 :: uq25.2.2.2.2.1 :: uq25.2.2.2.2.2 :: uq26.1 :: uq26.2.1 :: uq26.2.2 :: undef :: undef :: undef :: [])) rfl ?_
        refine hK61 _ _ ?_
        refine wp_block ?_
        refine c_loop (ι := Nat × UInt64) (fun i_ a_ w_ => match i_ with | (k, tt) => ∃ (u13 : Value) (u33 : Value) (u34 : Value) (u35 : Value) (u36 : Value) (u37 : Value) (u38 : Value) (u39 : Value), a_ = fr (.pointer (some ⟨D, 0, none⟩) :: undef :: uq19.1 :: uq19.2.1 :: uq19.2.2.1 :: uq19.2.2.2.1 :: .slice A b.length c :: .int .u64 (uv g) :: .int .u64 (uv tt) :: .int .u64 (j : Int) :: .pointer (some ⟨g48, 0, none⟩) :: .int .i64 (S.readE (j : Int)) :: undef :: u13 :: uq20.2.2.1 :: uq20.2.2.2.1 :: .int .u64 (j : Int) :: .bool (decide ((j : Int) < 2)) :: .int .u64 (j : Int) :: .tuple [.agg ((nums .u8 ((pgI j q0 q1).map bv))).toArray, .int .i64 (S.readE (j : Int))].toArray :: .pointer (some ⟨D, 0, none⟩) :: .int .u64 (j : Int) :: .int .i64 (j : Int) :: .tuple [.agg ((nums .u8 ((pgI j q0 q1).map bv))).toArray, .int .i64 (S.readE (j : Int))].toArray :: .agg ((nums .u8 ((pgI j q0 q1).map bv))).toArray :: .int .i64 (S.readE (j : Int)) :: .int .i64 (S.readE (j : Int)) :: .bool false :: uq22.2.2.2.1 :: .agg ((nums .u8 ((pgI j q0 q1).map bv))).toArray :: .slice oa64 8 nc65 :: .int .i64 8 :: .int .i64 (k : Int) :: u33 :: u34 :: u35 :: u36 :: u37 :: u38 :: u39 :: uq24.2.2.2.1 :: uq24.2.2.2.2.1 :: uq24.2.2.2.2.2 :: uq25.1 :: uq25.2.1 :: uq25.2.2.1 :: uq25.2.2.2.1 :: uq25.2.2.2.2.1 :: uq25.2.2.2.2.2 :: uq26.1 :: uq26.2.1 :: uq26.2.2 :: undef :: undef :: undef :: []) ∧ St w0 F w_ (row kU64 rfl 25 (.slice oa64 8 nc65) (hdsB (pgI j q0 q1)) :: blk g48 ((nums .u8 ((pgI j q0 q1).map bv))) 38 :: blk D (dskC gs gm v S) 72 :: blk gs (pgs S.stable) 38 :: mapR gm S.cnt S.bad :: row kWr rfl 78 v S.pending :: rdp A c b :: L) ∧ (k ≤ 8 ∧ tt = topL t ((hdsB (pgI j q0 q1)).take k))) (fun i_ => match i_ with | (k, tt) => 8 - k) (0, t) ?_ ?_
        · exact ⟨_, _, _, _, _, _, _, _, rfl, (((((((HS.front 6 rfl).front 6 rfl).front 6 rfl).front 6 rfl).front 6 rfl).front 6 rfl).front 6 rfl), ⟨by omega, rfl⟩⟩
        · clear HS
          rintro ⟨k, tt⟩ a_ w69 ⟨u13, u33, u34, u35, u36, u37, u38, u39, rfl, HS, hI⟩ J67 hJ68
          obtain ⟨hkk, htt⟩ := hI
          refine wp_seq_k (fun K70 hK71 => ?_)
          refine c_region (fun ops73 hops72 => ?_)
          clear hops72
          refine p_run _ (x_cmp (k := .i64) (m := (k : Int)) (n := 8) .lss (decide ((k : Int) < 8)) rfl rfl rfl rfl rfl) rfl ?_
          refine wpList_nil ?_
          refine hK71 _ _ ?_
          refine wp_seq_k (fun K74 hK75 => ?_)
          refine c_cond (t := decide ((k : Int) < 8)) rfl (fun hc76 => ?_) (fun hc76 => ?_)
          · have hk8 : k < 8 := by have := of_decide_eq_true hc76; omega
            have hkl : k < (hdsB (pgI j q0 q1)).length := by rw [hdsB, List.length_map, List.length_range]; exact hk8
            obtain ⟨ag_, hag, hcg⟩ := cells_of (HS.get (.head _)) hkl
            subst hag
            refine wp_skip ?_
            refine hK75 _ _ ?_
            refine wp_seq_k (fun K77 hK78 => ?_)
            refine wp_block ?_
            refine wp_seq_k (fun K79 hK80 => ?_)
            refine c_region (fun ops82 hops81 => ?_)
            clear hops81
            refine p_run _ (x_index (A := ag_) (j := k * 1) (sz := 1) rfl rfl rfl Try.underlying93 (by kernel_rfl) (by omega) rfl) rfl ?_
            refine p_run _ (x_load (.int .u64 (uv ((hdsB (pgI j q0 q1)).getD k 0))) rfl rfl hcg (by rfl)) rfl ?_
            refine p_run _ (x_assign (.int .u64 (uv ((hdsB (pgI j q0 q1)).getD k 0))) rfl rfl) rfl ?_
            refine wpList_nil ?_
            refine hK80 _ _ ?_
            refine c_region (fun ops84 hops83 => ?_)
            clear hops83
            refine p_run _ (x_move (.int .u64 (uv tt)) rfl rfl) rfl ?_
            refine p_run _ (x_move (.int .u64 (uv ((hdsB (pgI j q0 q1)).getD k 0))) rfl rfl) rfl ?_
            refine p_run (l' := (.pointer (some ⟨D, 0, none⟩) :: undef :: uq19.1 :: uq19.2.1 :: uq19.2.2.1 :: uq19.2.2.2.1 :: .slice A b.length c :: .int .u64 (uv g) :: .int .u64 (uv tt) :: .int .u64 (j : Int) :: .pointer (some ⟨g48, 0, none⟩) :: .int .i64 (S.readE (j : Int)) :: undef :: .int .u64 (uv ((hdsB (pgI j q0 q1)).getD k 0)) :: uq20.2.2.1 :: uq20.2.2.2.1 :: .int .u64 (j : Int) :: .bool (decide ((j : Int) < 2)) :: .int .u64 (j : Int) :: .tuple [.agg ((nums .u8 ((pgI j q0 q1).map bv))).toArray, .int .i64 (S.readE (j : Int))].toArray :: .pointer (some ⟨D, 0, none⟩) :: .int .u64 (j : Int) :: .int .i64 (j : Int) :: .tuple [.agg ((nums .u8 ((pgI j q0 q1).map bv))).toArray, .int .i64 (S.readE (j : Int))].toArray :: .agg ((nums .u8 ((pgI j q0 q1).map bv))).toArray :: .int .i64 (S.readE (j : Int)) :: .int .i64 (S.readE (j : Int)) :: .bool false :: uq22.2.2.2.1 :: .agg ((nums .u8 ((pgI j q0 q1).map bv))).toArray :: .slice (some ag_) 8 nc65 :: .int .i64 8 :: .int .i64 (k : Int) :: .bool (decide ((k : Int) < 8)) :: .pointer (some ((ag_).add (k * 1))) :: .int .u64 (uv ((hdsB (pgI j q0 q1)).getD k 0)) :: .int .u64 (uv tt) :: .int .u64 (uv ((hdsB (pgI j q0 q1)).getD k 0)) :: .int .u64 (uv (topL t ((hdsB (pgI j q0 q1)).take (k + 1)))) :: u39 :: uq24.2.2.2.1 :: uq24.2.2.2.2.1 :: uq24.2.2.2.2.2 :: uq25.1 :: uq25.2.1 :: uq25.2.2.1 :: uq25.2.2.2.1 :: uq25.2.2.2.2.1 :: uq25.2.2.2.2.2 :: uq26.1 :: uq26.2.1 :: uq26.2.2 :: undef :: undef :: undef :: [])) _ (x_max (m := (uv tt)) (n := (uv ((hdsB (pgI j q0 q1)).getD k 0))) ((uv (topL t ((hdsB (pgI j q0 q1)).take (k + 1))))) rfl rfl rfl (top_snoc hkl htt)) rfl ?_
            refine p_run _ (x_assign (.int .u64 (uv (topL t ((hdsB (pgI j q0 q1)).take (k + 1))))) rfl rfl) rfl ?_
            refine wpList_nil ?_
            refine hK78 _ _ ?_
            refine c_region (fun ops86 hops85 => ?_)
            clear hops85
            refine p_run _ (x_arith (k := .i64) (m := (k : Int)) (n := 1) .add (((k + 1 : Nat) : Int)) rfl rfl rfl (show IntKind.i64.wrap ((k : Int) + 1) = ((k + 1 : Nat) : Int) from ((wr64' (by omega)).trans (by omega))) rfl) rfl ?_
            refine p_run _ (x_move (.int .i64 ((k + 1 : Nat) : Int)) rfl rfl) rfl ?_
            refine wpList_nil ?_
            refine fr_at (l' := (.pointer (some ⟨D, 0, none⟩) :: undef :: uq19.1 :: uq19.2.1 :: uq19.2.2.1 :: uq19.2.2.2.1 :: .slice A b.length c :: .int .u64 (uv g) :: .int .u64 (uv (topL t ((hdsB (pgI j q0 q1)).take (k + 1)))) :: .int .u64 (j : Int) :: .pointer (some ⟨g48, 0, none⟩) :: .int .i64 (S.readE (j : Int)) :: undef :: .int .u64 (uv ((hdsB (pgI j q0 q1)).getD k 0)) :: uq20.2.2.1 :: uq20.2.2.2.1 :: .int .u64 (j : Int) :: .bool (decide ((j : Int) < 2)) :: .int .u64 (j : Int) :: .tuple [.agg ((nums .u8 ((pgI j q0 q1).map bv))).toArray, .int .i64 (S.readE (j : Int))].toArray :: .pointer (some ⟨D, 0, none⟩) :: .int .u64 (j : Int) :: .int .i64 (j : Int) :: .tuple [.agg ((nums .u8 ((pgI j q0 q1).map bv))).toArray, .int .i64 (S.readE (j : Int))].toArray :: .agg ((nums .u8 ((pgI j q0 q1).map bv))).toArray :: .int .i64 (S.readE (j : Int)) :: .int .i64 (S.readE (j : Int)) :: .bool false :: uq22.2.2.2.1 :: .agg ((nums .u8 ((pgI j q0 q1).map bv))).toArray :: .slice (some ag_) 8 nc65 :: .int .i64 8 :: .int .i64 ((k + 1 : Nat) : Int) :: .bool (decide ((k : Int) < 8)) :: .pointer (some ((ag_).add (k * 1))) :: .int .u64 (uv ((hdsB (pgI j q0 q1)).getD k 0)) :: .int .u64 (uv tt) :: .int .u64 (uv ((hdsB (pgI j q0 q1)).getD k 0)) :: .int .u64 (uv (topL t ((hdsB (pgI j q0 q1)).take (k + 1)))) :: .int .i64 ((k + 1 : Nat) : Int) :: uq24.2.2.2.1 :: uq24.2.2.2.2.1 :: uq24.2.2.2.2.2 :: uq25.1 :: uq25.2.1 :: uq25.2.2.1 :: uq25.2.2.2.1 :: uq25.2.2.2.2.1 :: uq25.2.2.2.2.2 :: uq26.1 :: uq26.2.1 :: uq26.2.2 :: undef :: undef :: undef :: [])) rfl ?_
            refine hJ68 (k + 1, topL t ((hdsB (pgI j q0 q1)).take (k + 1))) _ _ ?_ ?_
            · show 8 - (k + 1) < 8 - k; omega
            · exact ⟨_, _, _, _, _, _, _, _, rfl, (((((((HS.front 6 rfl).front 6 rfl).front 6 rfl).front 6 rfl).front 6 rfl).front 6 rfl).front 6 rfl), ⟨(by omega), rfl⟩⟩
          · have hk8 : k = 8 := by have := of_decide_eq_false hc76; omega
            subst hk8
            rw [List.take_of_length_le (by rw [hdsB, List.length_map, List.length_range]; decide)] at htt
            refine wp_exit ?_
            refine hK59 _ _ ?_
            refine wp_seq_k (fun K87 hK88 => ?_)
            refine c_region (fun ops90 hops89 => ?_)
            clear hops89
            refine p_run _ (x_loads ((nums .u8 ((pgI j q0 q1).map bv))) 256 rfl rfl (bkCells (HS.get (.tail _ (.head _))) 0 _ (whole _)) (by rfl) (by kernel_rfl) (by simp [List.length_map, nums_length, pgI_len hq0 hq1 j])) rfl ?_
            refine p_run _ (x_move (.int .u64 (j : Int)) rfl rfl) rfl ?_
            refine w_call [.agg ((nums .u8 ((pgI j q0 q1).map bv))).toArray, .int .u64 (j : Int)] Try.func47 (by kernel_rfl) (by rfl) rfl ?_
            refine (open_root _ (pgI j q0 q1) (pgI_len hq0 hq1 j) j).mono ?_
            rintro e w93 ⟨oa91, nc92, rfl, hk_⟩
            replace HS := HS.more hk_
            clear hk_
            refine ⟨_, rfl, ?_⟩
            refine p_run _ (x_move (.tuple [.slice oa91 ((cnU (pgI j q0 q1) j).length) nc92, .int .u64 (uv (gnU (pgI j q0 q1) j))].toArray) rfl rfl) rfl ?_
            refine p_run _ (x_extract (vs := [.slice oa91 ((cnU (pgI j q0 q1) j).length) nc92, .int .u64 (uv (gnU (pgI j q0 q1) j))]) 0 (.slice oa91 ((cnU (pgI j q0 q1) j).length) nc92) rfl rfl rfl) rfl ?_
            refine p_run _ (x_extract (vs := [.slice oa91 ((cnU (pgI j q0 q1) j).length) nc92, .int .u64 (uv (gnU (pgI j q0 q1) j))]) 1 (.int .u64 (uv (gnU (pgI j q0 q1) j))) rfl rfl rfl) rfl ?_
            refine p_run (l' := (.pointer (some ⟨D, 0, none⟩) :: undef :: uq19.1 :: uq19.2.1 :: uq19.2.2.1 :: uq19.2.2.2.1 :: .slice A b.length c :: .int .u64 (uv g) :: .int .u64 (uv tt) :: .int .u64 (j : Int) :: .pointer (some ⟨g48, 0, none⟩) :: .int .i64 (S.readE (j : Int)) :: undef :: u13 :: .slice oa91 ((cnU (pgI j q0 q1) j).length) nc92 :: uq20.2.2.2.1 :: .int .u64 (j : Int) :: .bool (decide ((j : Int) < 2)) :: .int .u64 (j : Int) :: .tuple [.agg ((nums .u8 ((pgI j q0 q1).map bv))).toArray, .int .i64 (S.readE (j : Int))].toArray :: .pointer (some ⟨D, 0, none⟩) :: .int .u64 (j : Int) :: .int .i64 (j : Int) :: .tuple [.agg ((nums .u8 ((pgI j q0 q1).map bv))).toArray, .int .i64 (S.readE (j : Int))].toArray :: .agg ((nums .u8 ((pgI j q0 q1).map bv))).toArray :: .int .i64 (S.readE (j : Int)) :: .int .i64 (S.readE (j : Int)) :: .bool false :: uq22.2.2.2.1 :: .agg ((nums .u8 ((pgI j q0 q1).map bv))).toArray :: .slice oa64 8 nc65 :: .int .i64 8 :: .int .i64 (8 : Int) :: .bool (decide ((8 : Int) < 8)) :: u34 :: u35 :: u36 :: u37 :: u38 :: u39 :: .tuple [.slice oa91 ((cnU (pgI j q0 q1) j).length) nc92, .int .u64 (uv (gnU (pgI j q0 q1) j))].toArray :: .agg ((nums .u8 ((pgI j q0 q1).map bv))).toArray :: .int .u64 (j : Int) :: .tuple [.slice oa91 ((cnU (pgI j q0 q1) j).length) nc92, .int .u64 (uv (gnU (pgI j q0 q1) j))].toArray :: .slice oa91 ((cnU (pgI j q0 q1) j).length) nc92 :: .int .u64 (uv (gnU (pgI j q0 q1) j)) :: uq25.2.2.2.1 :: uq25.2.2.2.2.1 :: uq25.2.2.2.2.2 :: uq26.1 :: uq26.2.1 :: uq26.2.2 :: undef :: undef :: undef :: [])) _ (x_assign (.slice oa91 ((cnU (pgI j q0 q1) j).length) nc92) rfl rfl) rfl ?_
            refine p_run _ (x_assign (.int .u64 (uv (gnU (pgI j q0 q1) j))) rfl rfl) rfl ?_
            refine wpList_nil ?_
            refine hK88 _ _ ?_
            refine wp_seq_k (fun K94 hK95 => ?_)
            by_cases hgt : gnU (pgI j q0 q1) j > gJ q0 q1 j
            · skip
              refine c_region (fun ops97 hops96 => ?_)
              clear hops96
              refine p_run _ (x_move (.int .u64 (uv (gnU (pgI j q0 q1) j))) rfl rfl) rfl ?_
              refine p_run _ (x_move (.int .u64 (uv g)) rfl rfl) rfl ?_
              refine p_run _ (x_cmp (k := .u64) (m := (uv (gnU (pgI j q0 q1) j))) (n := (uv g)) .gtr true rfl rfl rfl (show decide _ = true from decide_eq_true (uv_gt.2 (hgg ▸ hgt))) rfl) rfl ?_
              refine wpList_nil ?_
              refine hK95 _ _ ?_
              refine c_true rfl ?_
              refine c_region (fun ops99 hops98 => ?_)
              clear hops98
              refine p_run _ (x_move (.slice oa91 ((cnU (pgI j q0 q1) j).length) nc92) rfl rfl) rfl ?_
              refine p_run _ (x_move (.int .u64 (uv (gnU (pgI j q0 q1) j))) rfl rfl) rfl ?_
              refine p_run (l' := (.pointer (some ⟨D, 0, none⟩) :: undef :: uq19.1 :: uq19.2.1 :: uq19.2.2.1 :: uq19.2.2.2.1 :: .slice oa91 ((cnU (pgI j q0 q1) j).length) nc92 :: .int .u64 (uv g) :: .int .u64 (uv tt) :: .int .u64 (j : Int) :: .pointer (some ⟨g48, 0, none⟩) :: .int .i64 (S.readE (j : Int)) :: undef :: u13 :: .slice oa91 ((cnU (pgI j q0 q1) j).length) nc92 :: .int .u64 (uv (gnU (pgI j q0 q1) j)) :: .int .u64 (j : Int) :: .bool (decide ((j : Int) < 2)) :: .int .u64 (j : Int) :: .tuple [.agg ((nums .u8 ((pgI j q0 q1).map bv))).toArray, .int .i64 (S.readE (j : Int))].toArray :: .pointer (some ⟨D, 0, none⟩) :: .int .u64 (j : Int) :: .int .i64 (j : Int) :: .tuple [.agg ((nums .u8 ((pgI j q0 q1).map bv))).toArray, .int .i64 (S.readE (j : Int))].toArray :: .agg ((nums .u8 ((pgI j q0 q1).map bv))).toArray :: .int .i64 (S.readE (j : Int)) :: .int .i64 (S.readE (j : Int)) :: .bool false :: uq22.2.2.2.1 :: .agg ((nums .u8 ((pgI j q0 q1).map bv))).toArray :: .slice oa64 8 nc65 :: .int .i64 8 :: .int .i64 (8 : Int) :: .bool (decide ((8 : Int) < 8)) :: u34 :: u35 :: u36 :: u37 :: u38 :: u39 :: .tuple [.slice oa91 ((cnU (pgI j q0 q1) j).length) nc92, .int .u64 (uv (gnU (pgI j q0 q1) j))].toArray :: .agg ((nums .u8 ((pgI j q0 q1).map bv))).toArray :: .int .u64 (j : Int) :: .tuple [.slice oa91 ((cnU (pgI j q0 q1) j).length) nc92, .int .u64 (uv (gnU (pgI j q0 q1) j))].toArray :: .slice oa91 ((cnU (pgI j q0 q1) j).length) nc92 :: .int .u64 (uv (gnU (pgI j q0 q1) j)) :: .int .u64 (uv (gnU (pgI j q0 q1) j)) :: .int .u64 (uv g) :: .bool true :: .slice oa91 ((cnU (pgI j q0 q1) j).length) nc92 :: .int .u64 (uv (gnU (pgI j q0 q1) j)) :: uq26.2.2 :: undef :: undef :: undef :: [])) _ (x_assign (.slice oa91 ((cnU (pgI j q0 q1) j).length) nc92) rfl rfl) rfl ?_
              refine p_run _ (x_assign (.int .u64 (uv (gnU (pgI j q0 q1) j))) rfl rfl) rfl ?_
              refine wpList_nil ?_
              refine hK38 _ _ ?_
              refine c_region (fun ops101 hops100 => ?_)
              clear hops100
              refine p_run _ (x_arith (k := .u64) (m := (j : Int)) (n := 1) .add (((j + 1 : Nat) : Int)) rfl rfl rfl (show IntKind.u64.wrap ((j : Int) + 1) = ((j + 1 : Nat) : Int) from ((wru64 (by omega)).trans (by omega))) rfl) rfl ?_
              refine p_run _ (x_move (.int .u64 ((j + 1 : Nat) : Int)) rfl rfl) rfl ?_
              refine wpList_nil ?_
              refine fr_at (l' := (.pointer (some ⟨D, 0, none⟩) :: undef :: uq19.1 :: uq19.2.1 :: uq19.2.2.1 :: uq19.2.2.2.1 :: .slice oa91 ((cnU (pgI j q0 q1) j).length) nc92 :: .int .u64 (uv (gnU (pgI j q0 q1) j)) :: .int .u64 (uv tt) :: .int .u64 (j : Int) :: .pointer (some ⟨g48, 0, none⟩) :: .int .i64 (S.readE (j : Int)) :: undef :: u13 :: .slice oa91 ((cnU (pgI j q0 q1) j).length) nc92 :: .int .u64 (uv (gnU (pgI j q0 q1) j)) :: .int .u64 ((j + 1 : Nat) : Int) :: .bool (decide ((j : Int) < 2)) :: .int .u64 (j : Int) :: .tuple [.agg ((nums .u8 ((pgI j q0 q1).map bv))).toArray, .int .i64 (S.readE (j : Int))].toArray :: .pointer (some ⟨D, 0, none⟩) :: .int .u64 (j : Int) :: .int .i64 (j : Int) :: .tuple [.agg ((nums .u8 ((pgI j q0 q1).map bv))).toArray, .int .i64 (S.readE (j : Int))].toArray :: .agg ((nums .u8 ((pgI j q0 q1).map bv))).toArray :: .int .i64 (S.readE (j : Int)) :: .int .i64 (S.readE (j : Int)) :: .bool false :: uq22.2.2.2.1 :: .agg ((nums .u8 ((pgI j q0 q1).map bv))).toArray :: .slice oa64 8 nc65 :: .int .i64 8 :: .int .i64 (8 : Int) :: .bool (decide ((8 : Int) < 8)) :: u34 :: u35 :: u36 :: u37 :: u38 :: u39 :: .tuple [.slice oa91 ((cnU (pgI j q0 q1) j).length) nc92, .int .u64 (uv (gnU (pgI j q0 q1) j))].toArray :: .agg ((nums .u8 ((pgI j q0 q1).map bv))).toArray :: .int .u64 (j : Int) :: .tuple [.slice oa91 ((cnU (pgI j q0 q1) j).length) nc92, .int .u64 (uv (gnU (pgI j q0 q1) j))].toArray :: .slice oa91 ((cnU (pgI j q0 q1) j).length) nc92 :: .int .u64 (uv (gnU (pgI j q0 q1) j)) :: .int .u64 (uv (gnU (pgI j q0 q1) j)) :: .int .u64 (uv g) :: .bool true :: .slice oa91 ((cnU (pgI j q0 q1) j).length) nc92 :: .int .u64 (uv (gnU (pgI j q0 q1) j)) :: .int .u64 ((j + 1 : Nat) : Int) :: undef :: undef :: undef :: [])) rfl ?_
              refine hJ28 (j + 1, oa91, nc92, cnU (pgI j q0 q1) j, gnU (pgI j q0 q1) j, tt) _ _ ?_ ?_
              · show 2 - (j + 1) < 2 - j; omega
              · exact ⟨(uq19.1, uq19.2.1, uq19.2.2.1, uq19.2.2.2.1, .int .u64 (j : Int), .pointer (some ⟨g48, 0, none⟩)), (.int .i64 (S.readE (j : Int)), u13, .slice oa91 ((cnU (pgI j q0 q1) j).length) nc92, .int .u64 (uv (gnU (pgI j q0 q1) j)), .bool (decide ((j : Int) < 2)), .int .u64 (j : Int)), (.tuple [.agg ((nums .u8 ((pgI j q0 q1).map bv))).toArray, .int .i64 (S.readE (j : Int))].toArray, .pointer (some ⟨D, 0, none⟩), .int .u64 (j : Int), .int .i64 (j : Int), .tuple [.agg ((nums .u8 ((pgI j q0 q1).map bv))).toArray, .int .i64 (S.readE (j : Int))].toArray, .agg ((nums .u8 ((pgI j q0 q1).map bv))).toArray), (.int .i64 (S.readE (j : Int)), .int .i64 (S.readE (j : Int)), .bool false, uq22.2.2.2.1, .agg ((nums .u8 ((pgI j q0 q1).map bv))).toArray, .slice oa64 8 nc65), (.int .i64 8, .int .i64 (8 : Int), .bool (decide ((8 : Int) < 8)), u34, u35, u36), (u37, u38, u39, .tuple [.slice oa91 ((cnU (pgI j q0 q1) j).length) nc92, .int .u64 (uv (gnU (pgI j q0 q1) j))].toArray, .agg ((nums .u8 ((pgI j q0 q1).map bv))).toArray, .int .u64 (j : Int)), (.tuple [.slice oa91 ((cnU (pgI j q0 q1) j).length) nc92, .int .u64 (uv (gnU (pgI j q0 q1) j))].toArray, .slice oa91 ((cnU (pgI j q0 q1) j).length) nc92, .int .u64 (uv (gnU (pgI j q0 q1) j)), .int .u64 (uv (gnU (pgI j q0 q1) j)), .int .u64 (uv g), .bool true), (.slice oa91 ((cnU (pgI j q0 q1) j).length) nc92, .int .u64 (uv (gnU (pgI j q0 q1) j)), .int .u64 ((j + 1 : Nat) : Int)), rfl, ((((((((HS.front 1 rfl).drop.front 1 rfl).drop.front 5 rfl).drop.front 4 rfl).front 4 rfl).front 4 rfl).front 4 rfl).front 4 rfl), ⟨(by omega), (fun i hi => (Nat.lt_or_ge i j).elim (fun h => her i h) (fun h => by obtain rfl : i = j := (by omega); exact hre)), (look_yes hlt hgt).1, (look_yes hlt hgt).2, by rw [htt, ht]; exact look_top hlt⟩⟩
            · skip
              refine c_region (fun ops103 hops102 => ?_)
              clear hops102
              refine p_run _ (x_move (.int .u64 (uv (gnU (pgI j q0 q1) j))) rfl rfl) rfl ?_
              refine p_run _ (x_move (.int .u64 (uv g)) rfl rfl) rfl ?_
              refine p_run _ (x_cmp (k := .u64) (m := (uv (gnU (pgI j q0 q1) j))) (n := (uv g)) .gtr false rfl rfl rfl (show decide _ = false from decide_eq_false (fun h => hgt (hgg ▸ uv_gt.1 h))) rfl) rfl ?_
              refine wpList_nil ?_
              refine hK95 _ _ ?_
              refine c_false rfl ?_
              refine wp_skip ?_
              refine hK38 _ _ ?_
              refine c_region (fun ops105 hops104 => ?_)
              clear hops104
              refine p_run _ (x_arith (k := .u64) (m := (j : Int)) (n := 1) .add (((j + 1 : Nat) : Int)) rfl rfl rfl (show IntKind.u64.wrap ((j : Int) + 1) = ((j + 1 : Nat) : Int) from ((wru64 (by omega)).trans (by omega))) rfl) rfl ?_
              refine p_run _ (x_move (.int .u64 ((j + 1 : Nat) : Int)) rfl rfl) rfl ?_
              refine wpList_nil ?_
              refine fr_at (l' := (.pointer (some ⟨D, 0, none⟩) :: undef :: uq19.1 :: uq19.2.1 :: uq19.2.2.1 :: uq19.2.2.2.1 :: .slice A b.length c :: .int .u64 (uv g) :: .int .u64 (uv tt) :: .int .u64 (j : Int) :: .pointer (some ⟨g48, 0, none⟩) :: .int .i64 (S.readE (j : Int)) :: undef :: u13 :: .slice oa91 ((cnU (pgI j q0 q1) j).length) nc92 :: .int .u64 (uv (gnU (pgI j q0 q1) j)) :: .int .u64 ((j + 1 : Nat) : Int) :: .bool (decide ((j : Int) < 2)) :: .int .u64 (j : Int) :: .tuple [.agg ((nums .u8 ((pgI j q0 q1).map bv))).toArray, .int .i64 (S.readE (j : Int))].toArray :: .pointer (some ⟨D, 0, none⟩) :: .int .u64 (j : Int) :: .int .i64 (j : Int) :: .tuple [.agg ((nums .u8 ((pgI j q0 q1).map bv))).toArray, .int .i64 (S.readE (j : Int))].toArray :: .agg ((nums .u8 ((pgI j q0 q1).map bv))).toArray :: .int .i64 (S.readE (j : Int)) :: .int .i64 (S.readE (j : Int)) :: .bool false :: uq22.2.2.2.1 :: .agg ((nums .u8 ((pgI j q0 q1).map bv))).toArray :: .slice oa64 8 nc65 :: .int .i64 8 :: .int .i64 (8 : Int) :: .bool (decide ((8 : Int) < 8)) :: u34 :: u35 :: u36 :: u37 :: u38 :: u39 :: .tuple [.slice oa91 ((cnU (pgI j q0 q1) j).length) nc92, .int .u64 (uv (gnU (pgI j q0 q1) j))].toArray :: .agg ((nums .u8 ((pgI j q0 q1).map bv))).toArray :: .int .u64 (j : Int) :: .tuple [.slice oa91 ((cnU (pgI j q0 q1) j).length) nc92, .int .u64 (uv (gnU (pgI j q0 q1) j))].toArray :: .slice oa91 ((cnU (pgI j q0 q1) j).length) nc92 :: .int .u64 (uv (gnU (pgI j q0 q1) j)) :: .int .u64 (uv (gnU (pgI j q0 q1) j)) :: .int .u64 (uv g) :: .bool false :: uq26.1 :: uq26.2.1 :: .int .u64 ((j + 1 : Nat) : Int) :: undef :: undef :: undef :: [])) rfl ?_
              refine hJ28 (j + 1, A, c, b, g, tt) _ _ ?_ ?_
              · show 2 - (j + 1) < 2 - j; omega
              · exact ⟨(uq19.1, uq19.2.1, uq19.2.2.1, uq19.2.2.2.1, .int .u64 (j : Int), .pointer (some ⟨g48, 0, none⟩)), (.int .i64 (S.readE (j : Int)), u13, .slice oa91 ((cnU (pgI j q0 q1) j).length) nc92, .int .u64 (uv (gnU (pgI j q0 q1) j)), .bool (decide ((j : Int) < 2)), .int .u64 (j : Int)), (.tuple [.agg ((nums .u8 ((pgI j q0 q1).map bv))).toArray, .int .i64 (S.readE (j : Int))].toArray, .pointer (some ⟨D, 0, none⟩), .int .u64 (j : Int), .int .i64 (j : Int), .tuple [.agg ((nums .u8 ((pgI j q0 q1).map bv))).toArray, .int .i64 (S.readE (j : Int))].toArray, .agg ((nums .u8 ((pgI j q0 q1).map bv))).toArray), (.int .i64 (S.readE (j : Int)), .int .i64 (S.readE (j : Int)), .bool false, uq22.2.2.2.1, .agg ((nums .u8 ((pgI j q0 q1).map bv))).toArray, .slice oa64 8 nc65), (.int .i64 8, .int .i64 (8 : Int), .bool (decide ((8 : Int) < 8)), u34, u35, u36), (u37, u38, u39, .tuple [.slice oa91 ((cnU (pgI j q0 q1) j).length) nc92, .int .u64 (uv (gnU (pgI j q0 q1) j))].toArray, .agg ((nums .u8 ((pgI j q0 q1).map bv))).toArray, .int .u64 (j : Int)), (.tuple [.slice oa91 ((cnU (pgI j q0 q1) j).length) nc92, .int .u64 (uv (gnU (pgI j q0 q1) j))].toArray, .slice oa91 ((cnU (pgI j q0 q1) j).length) nc92, .int .u64 (uv (gnU (pgI j q0 q1) j)), .int .u64 (uv (gnU (pgI j q0 q1) j)), .int .u64 (uv g), .bool false), (uq26.1, uq26.2.1, .int .u64 ((j + 1 : Nat) : Int)), rfl, (((((HS.drop.drop.drop.front 3 rfl).front 3 rfl).front 3 rfl).front 3 rfl).front 4 rfl), ⟨(by omega), (fun i hi => (Nat.lt_or_ge i j).elim (fun h => her i h) (fun h => by obtain rfl : i = j := (by omega); exact hre)), hb.trans (look_no hlt hgt).1, hgg.trans (look_no hlt hgt).2, by rw [htt, ht]; exact look_top hlt⟩⟩
      · skip
        refine c_region (fun ops107 hops106 => ?_)
        clear hops106
        refine p_run _ (x_move (.int .i64 (S.readE (j : Int))) rfl rfl) rfl ?_
        refine p_run _ (x_cmp (k := .i64) (m := (S.readE (j : Int))) (n := 0) .neq true rfl rfl rfl (by simpa [cmpB] using hre) rfl) rfl ?_
        refine wpList_nil ?_
        refine hK55 _ _ ?_
        refine c_true rfl ?_
        refine wp_seq_k (fun K108 hK109 => ?_)
        refine c_region (fun ops111 hops110 => ?_)
        clear hops110
        refine p_run _ (x_move (.int .i64 (S.readE (j : Int))) rfl rfl) rfl ?_
        refine p_run _ (x_assign (.slice none 0 0) rfl rfl) rfl ?_
        refine p_run _ (x_assign (.int .u64 0) rfl rfl) rfl ?_
        refine p_run _ (x_assign (.int .u64 0) rfl rfl) rfl ?_
        refine p_run (l' := (.pointer (some ⟨D, 0, none⟩) :: undef :: .slice none 0 0 :: .int .u64 0 :: .int .u64 0 :: .int .i64 (S.readE (j : Int)) :: .slice A b.length c :: .int .u64 (uv g) :: .int .u64 (uv t) :: .int .u64 (j : Int) :: .pointer (some ⟨g48, 0, none⟩) :: .int .i64 (S.readE (j : Int)) :: undef :: uq20.2.1 :: uq20.2.2.1 :: uq20.2.2.2.1 :: .int .u64 (j : Int) :: .bool (decide ((j : Int) < 2)) :: .int .u64 (j : Int) :: .tuple [.agg ((nums .u8 ((pgI j q0 q1).map bv))).toArray, .int .i64 (S.readE (j : Int))].toArray :: .pointer (some ⟨D, 0, none⟩) :: .int .u64 (j : Int) :: .int .i64 (j : Int) :: .tuple [.agg ((nums .u8 ((pgI j q0 q1).map bv))).toArray, .int .i64 (S.readE (j : Int))].toArray :: .agg ((nums .u8 ((pgI j q0 q1).map bv))).toArray :: .int .i64 (S.readE (j : Int)) :: .int .i64 (S.readE (j : Int)) :: .bool true :: .int .i64 (S.readE (j : Int)) :: uq22.2.2.2.2.1 :: uq22.2.2.2.2.2 :: uq23.1 :: uq23.2.1 :: uq23.2.2.1 :: uq23.2.2.2.1 :: uq23.2.2.2.2.1 :: uq23.2.2.2.2.2 :: uq24.1 :: uq24.2.1 :: uq24.2.2.1 :: uq24.2.2.2.1 :: uq24.2.2.2.2.1 :: uq24.2.2.2.2.2 :: uq25.1 :: uq25.2.1 :: uq25.2.2.1 :: uq25.2.2.2.1 :: uq25.2.2.2.2.1 :: uq25.2.2.2.2.2 :: uq26.1 :: uq26.2.1 :: uq26.2.2 :: undef :: undef :: undef :: [])) _ (x_assign (.int .i64 (S.readE (j : Int))) rfl rfl) rfl ?_
        refine wpList_nil ?_
        refine hK109 _ _ ?_
        refine wp_ret ?_
        try simp only [Exit.inBlock, Exit.then]
        refine c_ret (.tuple [.slice none 0 0, .int .u64 0, .int .u64 0, .int .i64 (S.readE (j : Int))].toArray) (r_tttt rfl rfl rfl rfl rfl) ?_
        obtain ⟨e1, e2⟩ := lkE_bad hlt her hre
        replace HS := HS.rdpNil
        have e3 : rB S q0 q1 = [] := if_neg e2
        have e4 : rG S q0 q1 = 0 := if_neg e2
        have e5 : rT S q0 q1 = 0 := if_neg e2
        rw [e3, e4, e5, e1]
        exact ⟨none, 0, rfl, (((((((HS.front 1 rfl).drop.front 5 rfl).drop.front 4 rfl).front 4 rfl).front 4 rfl).front 4 rfl).front 4 rfl)⟩
    · have hlt : j = 2 := by have := of_decide_eq_false hc36; omega
      subst hlt
      refine wp_exit ?_
      refine hK14 _ _ ?_
      refine wp_seq_k (fun K112 hK113 => ?_)
      refine c_region (fun ops115 hops114 => ?_)
      clear hops114
      refine p_run _ (x_move (.slice A b.length c) rfl rfl) rfl ?_
      refine p_run _ (x_move (.int .u64 (uv g)) rfl rfl) rfl ?_
      refine p_run _ (x_move (.int .u64 (uv t)) rfl rfl) rfl ?_
      refine p_run _ (x_assign (.slice A b.length c) rfl rfl) rfl ?_
      refine p_run _ (x_assign (.int .u64 (uv g)) rfl rfl) rfl ?_
      refine p_run _ (x_assign (.int .u64 (uv t)) rfl rfl) rfl ?_
      refine p_run (l' := (.pointer (some ⟨D, 0, none⟩) :: undef :: .slice A b.length c :: .int .u64 (uv g) :: .int .u64 (uv t) :: .int .i64 0 :: .slice A b.length c :: .int .u64 (uv g) :: .int .u64 (uv t) :: uq19.2.2.2.2.1 :: uq19.2.2.2.2.2 :: uq20.1 :: undef :: uq20.2.1 :: uq20.2.2.1 :: uq20.2.2.2.1 :: .int .u64 (2 : Int) :: .bool (decide ((2 : Int) < 2)) :: uq20.2.2.2.2.2 :: uq21.1 :: uq21.2.1 :: uq21.2.2.1 :: uq21.2.2.2.1 :: uq21.2.2.2.2.1 :: uq21.2.2.2.2.2 :: uq22.1 :: uq22.2.1 :: uq22.2.2.1 :: uq22.2.2.2.1 :: uq22.2.2.2.2.1 :: uq22.2.2.2.2.2 :: uq23.1 :: uq23.2.1 :: uq23.2.2.1 :: uq23.2.2.2.1 :: uq23.2.2.2.2.1 :: uq23.2.2.2.2.2 :: uq24.1 :: uq24.2.1 :: uq24.2.2.1 :: uq24.2.2.2.1 :: uq24.2.2.2.2.1 :: uq24.2.2.2.2.2 :: uq25.1 :: uq25.2.1 :: uq25.2.2.1 :: uq25.2.2.2.1 :: uq25.2.2.2.2.1 :: uq25.2.2.2.2.2 :: uq26.1 :: uq26.2.1 :: uq26.2.2 :: .slice A b.length c :: .int .u64 (uv g) :: .int .u64 (uv t) :: [])) _ (x_assign (.int .i64 0) rfl rfl) rfl ?_
      refine wpList_nil ?_
      refine hK113 _ _ ?_
      refine wp_ret ?_
      try simp only [Exit.inBlock, Exit.then]
      refine c_ret (.tuple [.slice A b.length c, .int .u64 (uv g), .int .u64 (uv t), .int .i64 0].toArray) (r_tttt rfl rfl rfl rfl rfl) ?_
      have hz := lkE_ok her
      have e3 : rB S q0 q1 = b := (if_pos hz).trans hb.symm
      have e4 : rG S q0 q1 = g := (if_pos hz).trans hgg.symm
      have e5 : rT S q0 q1 = t := (if_pos hz).trans ht.symm
      rw [e3, e4, e5, hz]
      exact ⟨A, c, rfl, (((((HS.front 4 rfl).front 4 rfl).front 4 rfl).front 4 rfl).front 4 rfl)⟩
end
end Go.Proofs.Ytenlkobjldhfgaa
