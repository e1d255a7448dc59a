/- Several texts in one: Rd4, Rd5. -/
import Derived.Test.YtenlkobjldhfgaaZRootRunsRdA
import Derived.Test.YtenlkobjldhfgaaZRootRunsV8
set_option linter.unusedVariables false
set_option linter.unusedSimpArgs false
namespace Go.Proofs.Ytenlkobjldhfgaa
open Go.RowKit Go.Proofs.YtenlkobjldhfgaaW.PrintWords Go.Proofs.YtenlkobjldhfgaaW.PrintLast
abbrev U4vrd4 (l : List Value) : List Value := undef :: undef :: undef :: undef :: l
abbrev U8vrd4 (l : List Value) : List Value := U4vrd4 (U4vrd4 l)
abbrev U16vrd4 (l : List Value) : List Value := U8vrd4 (U8vrd4 l)
section
variable {w0 W : World} {F : Nat → Prop} {L : List Res}
def mxN (m : Int) (o x : List Int) (k : Nat) : List Int := (List.range 256).map (fun j => if j < k ∧ m / 2 ^ (j / 32) % 2 = 1 then x.getD j 0 else o.getD j 0)
section
variable {m : Int} {o x : List Int} {k : Nat}
theorem mx_len : (mxN m o x k).length = 256 := by unfold mxN; rw [List.length_map, List.length_range]
theorem mx_get {j : Nat} (hj : j < 256) : (mxN m o x k)[j]? = some (if j < k ∧ m / 2 ^ (j / 32) % 2 = 1 then x.getD j 0 else o.getD j 0) := by
 unfold mxN
 rw [List.getElem?_map, List.getElem?_range hj]
 rfl
theorem mx_zero (ho : o.length = 256) : mxN m o x 0 = o := by
 apply List.ext_getElem?
 intro j
 by_cases hj : j < 256
 ·rw [mx_get hj, if_neg (by omega), List.getD_eq_getElem?_getD, List.getElem?_eq_getElem (by omega)]
  rfl
 ·rw [List.getElem?_eq_none (by rw [mx_len]; omega), List.getElem?_eq_none (by omega)]
theorem mx_set (hk : k < 256) (hb : m / 2 ^ (k / 32) % 2 = 1) : (mxN m o x k).set k (x.getD k 0) = mxN m o x (k + 1) := by
 apply List.ext_getElem?
 intro j
 by_cases hj : j < 256
 ·rw [List.getElem?_set, mx_get hj, mx_get hj]
  by_cases e : k = j
  ·subst e
   rw [if_pos rfl, if_pos (by rw [mx_len]; exact hj), if_pos ⟨by omega, hb⟩]
  ·rw [if_neg e]
   by_cases c : j < k ∧ m / 2 ^ (j / 32) % 2 = 1
   ·rw [if_pos c, if_pos ⟨by omega, c.2⟩]
   ·rw [if_neg c, if_neg (fun h => c ⟨by omega, h.2⟩)]
 ·rw [List.getElem?_eq_none (by rw [List.length_set, mx_len]; omega), List.getElem?_eq_none (by rw [mx_len]; omega)]
theorem mx_skip (hb : ¬ m / 2 ^ (k / 32) % 2 = 1) : mxN m o x (k + 1) = mxN m o x k := by
 unfold mxN
 refine List.map_congr_left (fun j _ => ?_)
 by_cases c : j < k ∧ m / 2 ^ (j / 32) % 2 = 1
 ·rw [if_pos c, if_pos ⟨by omega, c.2⟩]
 ·rw [if_neg c, if_neg (fun h => c ⟨by
   rcases Nat.lt_or_ge j k with h1 | h1
   ·exact h1
   ·have : j = k := by omega
    subst this
    exact absurd h.2 hb, h.2⟩)]
theorem mixS_get (ho : o.length = 256) (hx : x.length = 256) : ∀ q, q ≤ 8 → ∀ j, j < 256 → (mixS m o x q)[j]? = some (if j < q * 32 ∧ m / 2 ^ (j / 32) % 2 = 1 then x.getD j 0 else o.getD j 0)
 | 0, _, j, hj => by
  unfold mixS
  rw [if_neg (by omega), List.getD_eq_getElem?_getD, List.getElem?_eq_getElem (by omega)]
  rfl
 | q + 1, hq, j, hj => by
  have ih := mixS_get ho hx q (by omega)
  have hl := mixS_len (m := m) ho hx q (by omega)
  unfold mixS
  by_cases hb : m / 2 ^ q % 2 = 1
  ·rw [if_pos hb]
   generalize mixS m o x q = A at ih hl ⊢
   have e1 : (A.take (q * 32)).length = q * 32 := by rw [List.length_take]; omega
   have e2 : ((x.drop (q * 32)).take 32).length = 32 := by rw [List.length_take, List.length_drop]; omega
   by_cases c1 : j < q * 32
   ·rw [List.append_assoc, List.getElem?_append_left (by omega), List.getElem?_take, if_pos c1, ih j hj]
    by_cases c : m / 2 ^ (j / 32) % 2 = 1
    ·rw [if_pos ⟨c1, c⟩, if_pos ⟨by omega, c⟩]
    ·rw [if_neg (fun h => c h.2), if_neg (fun h => c h.2)]
   ·by_cases c2 : j < q * 32 + 32
    ·have hjq : j / 32 = q := by omega
     rw [List.append_assoc, List.getElem?_append_right (by omega), List.getElem?_append_left (by omega), e1, List.getElem?_take, if_pos (by omega), List.getElem?_drop, show q * 32 + (j - q * 32) = j by omega, if_pos ⟨by omega, by rw [hjq]; exact hb⟩, List.getD_eq_getElem?_getD, List.getElem?_eq_getElem (by omega)]
     rfl
    ·rw [List.getElem?_append_right (by rw [List.length_append]; omega), List.length_append, e1, e2, List.getElem?_drop, show q * 32 + 32 + (j - (q * 32 + 32)) = j by omega, ih j hj, if_neg (by omega), if_neg (by omega)]
  ·rw [if_neg hb, ih j hj]
   by_cases c : j < q * 32 ∧ m / 2 ^ (j / 32) % 2 = 1
   ·rw [if_pos c, if_pos ⟨by omega, c.2⟩]
   ·rw [if_neg c, if_neg (fun h => c ⟨by
     rcases Nat.lt_or_ge j (q * 32) with h1 | h1
     ·exact h1
     ·have : j / 32 = q := by omega
      rw [this] at h
      exact absurd h.2 hb, h.2⟩)]
theorem mx_all (ho : o.length = 256) (hx : x.length = 256) : mxN m o x 256 = mixS m o x 8 := by
 apply List.ext_getElem?
 intro j
 by_cases hj : j < 256
 ·rw [mx_get hj, mixS_get ho hx 8 (Nat.le_refl _) j hj]
 ·rw [List.getElem?_eq_none (by rw [mx_len]; omega), List.getElem?_eq_none (by rw [mixS_len ho hx 8 (Nat.le_refl _)]; omega)]
end
set_option maxRecDepth 10000 in
theorem rkMix_any (HS : St w0 F W L) (o x : List Int) (ho : o.length = 256) (hx : x.length = 256) (m : Int) (hm : 0 ≤ m) : Calls Try.prog 53 #[.agg ((nums .u8 o)).toArray, .agg ((nums .u8 x)).toArray, .int .u8 m] W fun e w' => e = .returned (.agg (nums .u8 (mixS m o x 8)).toArray) ∧ St w0 F w' L := by
 refine c_enter Try.func53 rfl 24 rfl (.agg ((nums .u8 o)).toArray :: .agg ((nums .u8 x)).toArray :: .int .u8 m :: U16vrd4 (U4vrd4 (undef :: []))) rfl ?_
 refine wp_seq_k (fun K1 hK2 => ?_)
 refine c_region (fun ops4 hops3 => ?_)
 clear hops3
 refine St.wBox HS (cs := ((nums .u8 o))) (.agg ((nums .u8 o)).toArray) rfl rfl ?_
 clear HS
 intro g5 w6 hg7 HS
 refine St.wBox HS (cs := ((nums .u8 x))) (.agg ((nums .u8 x)).toArray) rfl rfl ?_
 clear HS
 intro g8 w9 hg10 HS
 refine St.wAlloc HS (cs := ((nums .u8 zpg))) (.agg ((nums .u8 zpg)).toArray) (by kernel_rfl) rfl ?_
 clear HS
 intro g11 w12 hg13 HS
 refine wpList_nil ?_
 refine hK2 _ _ ?_
 refine wp_seq_k (fun K14 hK15 => ?_)
 refine wp_seq_k (fun K16 hK17 => ?_)
 refine c_region (fun ops19 hops18 => ?_)
 clear hops18
 refine p_run _ (x_move (.int .i64 0) rfl rfl) rfl ?_
 refine wpList_nil ?_
 refine fr_at (l' := (.agg ((nums .u8 o)).toArray :: .agg ((nums .u8 x)).toArray :: .int .u8 m :: .pointer (some ⟨g5, 0, none⟩) :: .pointer (some ⟨g8, 0, none⟩) :: undef :: .pointer (some ⟨g11, 0, none⟩) :: undef :: .int .i64 0 :: U8vrd4 (U4vrd4 (undef :: undef :: undef :: [])))) rfl ?_
 refine hK17 _ _ ?_
 refine wp_block ?_
 refine c_loop (ι := Nat) (fun i_ a_ w_ => match i_ with | k => ∃ (u7 : Value) (u9 : Value) (u10 : Value) (u11 : Value) (u12 : Value) (u13 : Value) (u14 : Value) (u15 : Value) (u16 : Value) (u17 : Value) (u18 : Value) (u19 : Value) (u20 : Value) (u21 : Value) (u22 : Value), a_ = fr (.agg ((nums .u8 o)).toArray :: .agg ((nums .u8 x)).toArray :: .int .u8 m :: .pointer (some ⟨g5, 0, none⟩) :: .pointer (some ⟨g8, 0, none⟩) :: undef :: .pointer (some ⟨g11, 0, none⟩) :: u7 :: .int .i64 (k : Int) :: u9 :: u10 :: u11 :: u12 :: u13 :: u14 :: u15 :: u16 :: u17 :: u18 :: u19 :: u20 :: u21 :: u22 :: undef :: []) ∧ St w0 F w_ (blk g11 ((nums .u8 zpg)) 38 :: blk g8 ((nums .u8 x)) 38 :: blk g5 ((nums .u8 (mxN m o x k))) 38 :: L) ∧ (k ≤ 256)) (fun i_ => match i_ with | k => 256 - k) 0 ?_ ?_
 ·exact ⟨_, _, _, _, _, _, _, _, _, _, _, _, _, _, _, rfl, (by rw [mx_zero ho]; exact HS), Nat.zero_le _⟩
 ·clear HS
  rintro k a_ w22 ⟨u7, u9, u10, u11, u12, u13, u14, u15, u16, u17, u18, u19, u20, u21, u22, rfl, HS, hI⟩ J20 hJ21
  have hkl := hI
  refine wp_seq_k (fun K23 hK24 => ?_)
  refine c_region (fun ops26 hops25 => ?_)
  clear hops25
  refine p_run _ (x_cmp (k := .i64) (m := (k : Int)) (n := 256) .lss (decide ((k : Int) < 256)) rfl rfl rfl rfl rfl) rfl ?_
  refine wpList_nil ?_
  refine hK24 _ _ ?_
  refine wp_seq_k (fun K27 hK28 => ?_)
  refine c_cond (t := decide ((k : Int) < 256)) rfl (fun hc29 => ?_) (fun hc29 => ?_)
  ·have hlt : k < 256 := by have := of_decide_eq_true hc29; omega
   refine wp_skip ?_
   refine hK28 _ _ ?_
   refine wp_seq_k (fun K30 hK31 => ?_)
   refine wp_block ?_
   refine wp_seq_k (fun K32 hK33 => ?_)
   refine c_region (fun ops35 hops34 => ?_)
   clear hops34
   refine p_run _ (x_move (.int .i64 (k : Int)) rfl rfl) rfl ?_
   refine p_run _ (x_assign (.int .i64 (k : Int)) rfl rfl) rfl ?_
   refine wpList_nil ?_
   refine hK33 _ _ ?_
   refine wp_seq_k (fun K36 hK37 => ?_)
   by_cases hbit : m / 2 ^ (k / 32) % 2 = 1
   ·refine c_region (fun ops39 hops38 => ?_)
    clear hops38
    refine p_run _ (x_move (.int .u8 m) rfl rfl) rfl ?_
    refine p_run _ (x_move (.int .i64 (k : Int)) rfl rfl) rfl ?_
    refine p_run _ (x_quo (k := .i64) (m := (k : Int)) (n := 32) (((k / 32 : Nat) : Int)) rfl rfl rfl (by decide) ((wr64 (by rw [show (k : Int).tdiv 32 = ((k / 32 : Nat) : Int) from by rw [Int.tdiv_eq_ediv_of_nonneg (by omega)]; omega]; omega)).trans (by rw [Int.tdiv_eq_ediv_of_nonneg (by omega)]; omega))) rfl ?_
    refine p_run _ (x_shr (k := .u8) (m := m) (n := ((k / 32 : Nat) : Int)) ((m / 2 ^ (k / 32))) rfl rfl rfl (by omega) (by show m / 2 ^ min ((k / 32 : Nat) : Int).toNat 8 = _; rw [Int.toNat_natCast, Nat.min_eq_left (by omega)])) rfl ?_
    refine p_run _ (x_rem (k := .u8) (m := (m / 2 ^ (k / 32))) (n := 2) ((m / 2 ^ (k / 32) % 2)) rfl rfl rfl (by decide) (Int.tmod_eq_emod_of_nonneg (Int.ediv_nonneg hm (Int.le_of_lt (Int.pow_pos (by decide)))))) rfl ?_
    refine p_run (l' := (.agg ((nums .u8 o)).toArray :: .agg ((nums .u8 x)).toArray :: .int .u8 m :: .pointer (some ⟨g5, 0, none⟩) :: .pointer (some ⟨g8, 0, none⟩) :: undef :: .pointer (some ⟨g11, 0, none⟩) :: .int .i64 (k : Int) :: .int .i64 (k : Int) :: .bool (decide ((k : Int) < 256)) :: .int .i64 (k : Int) :: .int .u8 m :: .int .i64 (k : Int) :: .int .i64 ((k / 32 : Nat) : Int) :: .int .u8 (m / 2 ^ (k / 32)) :: .int .u8 (m / 2 ^ (k / 32) % 2) :: .bool true :: u17 :: u18 :: u19 :: u20 :: u21 :: u22 :: undef :: [])) _ (x_cmp (k := .u8) (m := (m / 2 ^ (k / 32) % 2)) (n := 1) .eql true rfl rfl rfl (by unfold cmpB; rw [hbit]; rfl) rfl) rfl ?_
    refine wpList_nil ?_
    refine hK37 _ _ ?_
    refine c_true rfl ?_
    refine c_region (fun ops41 hops40 => ?_)
    clear hops40
    refine p_run _ (x_move (.int .i64 (k : Int)) rfl rfl) rfl ?_
    refine p_run _ (x_move (.int .i64 (k : Int)) rfl rfl) rfl ?_
    refine p_run _ (x_indexArr (sz := 1) (j := k) rfl rfl rfl Try.underlying38 (by kernel_rfl) (by omega) (by first | rfl | (simp; done) | (simp <;> omega) | omega)) rfl ?_
    refine p_run _ (x_load (.int .u8 (x.getD k 0)) rfl rfl (bkCell (HS.get (.tail _ (.head _))) k _ (nums_getD (by simp only [hx]; omega))) (by rfl)) rfl ?_
    refine p_run _ (x_indexArr (sz := 1) (j := k) rfl rfl rfl Try.underlying38 (by kernel_rfl) (by omega) (by first | rfl | (simp; done) | (simp <;> omega) | omega)) rfl ?_
    refine St.store (cs' := (nums .u8 ((mxN m o x k).set k (x.getD k 0)))) (HS.front 2 rfl) (.int .u8 (x.getD k 0)) rfl rfl rfl (by kernel_rfl) (decide_eq_true (by simp only [nums_length, mx_len]; omega)) (nums_set _ _ _ _) ?_
    clear HS
    intro w42 HS
    refine wpList_nil ?_
    refine hK31 _ _ ?_
    refine c_region (fun ops44 hops43 => ?_)
    clear hops43
    refine p_run _ (x_arith (k := .i64) (m := (k : Int)) (n := 1) .add (((k + 1 : Nat) : Int)) rfl rfl rfl (show IntKind.i64.wrap ((k : Int) + 1) = ((k + 1 : Nat) : Int) from ((wr64 (by omega)).trans (by omega))) rfl) rfl ?_
    refine p_run _ (x_move (.int .i64 ((k + 1 : Nat) : Int)) rfl rfl) rfl ?_
    refine wpList_nil ?_
    refine fr_at (l' := (.agg ((nums .u8 o)).toArray :: .agg ((nums .u8 x)).toArray :: .int .u8 m :: .pointer (some ⟨g5, 0, none⟩) :: .pointer (some ⟨g8, 0, none⟩) :: undef :: .pointer (some ⟨g11, 0, none⟩) :: .int .i64 (k : Int) :: .int .i64 ((k + 1 : Nat) : Int) :: .bool (decide ((k : Int) < 256)) :: .int .i64 (k : Int) :: .int .u8 m :: .int .i64 (k : Int) :: .int .i64 ((k / 32 : Nat) : Int) :: .int .u8 (m / 2 ^ (k / 32)) :: .int .u8 (m / 2 ^ (k / 32) % 2) :: .bool true :: .int .i64 (k : Int) :: .int .i64 (k : Int) :: .pointer (some ⟨g8, k, none⟩) :: .int .u8 (x.getD k 0) :: .pointer (some ⟨g5, k, none⟩) :: .int .i64 ((k + 1 : Nat) : Int) :: undef :: [])) rfl ?_
    rw [mx_set hlt hbit] at HS
    refine hJ21 (k + 1) _ _ ?_ ?_
    ·show 256 - (k + 1) < 256 - k; omega
    ·exact ⟨_, _, _, _, _, _, _, _, _, _, _, _, _, _, _, rfl, ((HS.front 2 rfl).front 2 rfl), (by omega)⟩
   ·refine c_region (fun ops46 hops45 => ?_)
    clear hops45
    refine p_run _ (x_move (.int .u8 m) rfl rfl) rfl ?_
    refine p_run _ (x_move (.int .i64 (k : Int)) rfl rfl) rfl ?_
    refine p_run _ (x_quo (k := .i64) (m := (k : Int)) (n := 32) (((k / 32 : Nat) : Int)) rfl rfl rfl (by decide) ((wr64 (by rw [show (k : Int).tdiv 32 = ((k / 32 : Nat) : Int) from by rw [Int.tdiv_eq_ediv_of_nonneg (by omega)]; omega]; omega)).trans (by rw [Int.tdiv_eq_ediv_of_nonneg (by omega)]; omega))) rfl ?_
    refine p_run _ (x_shr (k := .u8) (m := m) (n := ((k / 32 : Nat) : Int)) ((m / 2 ^ (k / 32))) rfl rfl rfl (by omega) (by show m / 2 ^ min ((k / 32 : Nat) : Int).toNat 8 = _; rw [Int.toNat_natCast, Nat.min_eq_left (by omega)])) rfl ?_
    refine p_run _ (x_rem (k := .u8) (m := (m / 2 ^ (k / 32))) (n := 2) ((m / 2 ^ (k / 32) % 2)) rfl rfl rfl (by decide) (Int.tmod_eq_emod_of_nonneg (Int.ediv_nonneg hm (Int.le_of_lt (Int.pow_pos (by decide)))))) rfl ?_
    refine p_run _ (x_cmp (k := .u8) (m := (m / 2 ^ (k / 32) % 2)) (n := 1) .eql false rfl rfl rfl (by unfold cmpB; simpa using hbit) rfl) rfl ?_
    refine wpList_nil ?_
    refine hK37 _ _ ?_
    refine c_false rfl ?_
    refine wp_skip ?_
    refine hK31 _ _ ?_
    refine c_region (fun ops48 hops47 => ?_)
    clear hops47
    refine p_run _ (x_arith (k := .i64) (m := (k : Int)) (n := 1) .add (((k + 1 : Nat) : Int)) rfl rfl rfl (show IntKind.i64.wrap ((k : Int) + 1) = ((k + 1 : Nat) : Int) from ((wr64 (by omega)).trans (by omega))) rfl) rfl ?_
    refine p_run _ (x_move (.int .i64 ((k + 1 : Nat) : Int)) rfl rfl) rfl ?_
    refine wpList_nil ?_
    refine fr_at (l' := (.agg ((nums .u8 o)).toArray :: .agg ((nums .u8 x)).toArray :: .int .u8 m :: .pointer (some ⟨g5, 0, none⟩) :: .pointer (some ⟨g8, 0, none⟩) :: undef :: .pointer (some ⟨g11, 0, none⟩) :: .int .i64 (k : Int) :: .int .i64 ((k + 1 : Nat) : Int) :: .bool (decide ((k : Int) < 256)) :: .int .i64 (k : Int) :: .int .u8 m :: .int .i64 (k : Int) :: .int .i64 ((k / 32 : Nat) : Int) :: .int .u8 (m / 2 ^ (k / 32)) :: .int .u8 (m / 2 ^ (k / 32) % 2) :: .bool false :: u17 :: u18 :: u19 :: u20 :: u21 :: .int .i64 ((k + 1 : Nat) : Int) :: undef :: [])) rfl ?_
    rw [← mx_skip hbit] at HS
    refine hJ21 (k + 1) _ _ ?_ ?_
    ·show 256 - (k + 1) < 256 - k; omega
    ·exact ⟨_, _, _, _, _, _, _, _, _, _, _, _, _, _, _, rfl, (((HS.front 2 rfl).front 2 rfl).front 2 rfl), (by omega)⟩
  ·obtain rfl : 256 = k := by have := of_decide_eq_false hc29; omega
   refine wp_exit ?_
   refine hK15 _ _ ?_
   refine wp_seq_k (fun K49 hK50 => ?_)
   refine c_region (fun ops52 hops51 => ?_)
   clear hops51
   refine p_run _ (x_loads ((nums .u8 (mxN m o x 256))) 256 rfl rfl (bkCells (HS.get (.tail _ (.tail _ (.head _)))) 0 _ (whole _)) (by rfl) (by kernel_rfl) (by simp [mx_len, nums_length])) rfl ?_
   refine St.stores (cs' := ((nums .u8 (mxN m o x 256)))) HS ((nums .u8 (mxN m o x 256))) 256 rfl rfl (nums_one _ _) (by kernel_rfl) (by simp [mx_len, nums_length]) (by simp [mx_len, nums_length, zlen]) (lay_all _ _ (by simp [mx_len, nums_length, zlen])) ?_
   clear HS
   intro w53 HS
   refine wpList_nil ?_
   refine hK50 _ _ ?_
   refine wp_ret ?_
   try simp only [Exit.inBlock, Exit.then]
   refine c_ret (.agg ((nums .u8 (mxN m o x 256))).toArray) (r_c rfl rfl (run_loadVar_aggn (by rfl) ((nums .u8 (mxN m o x 256))) 256 (by kernel_rfl) (by simp [mx_len, nums_length]) (bkCells (HS.get (.head _)) 0 _ (whole _)))) ?_
   rw [mx_all ho hx]
   exact ⟨rfl, HS.drop.drop.drop⟩
end
end Go.Proofs.Ytenlkobjldhfgaa
set_option linter.unusedVariables false
set_option linter.unusedSimpArgs false
namespace Go.Proofs.Ytenlkobjldhfgaa
open Go.RowKit Go.Proofs.YtenlkobjldhfgaaW.PrintWords Go.Proofs.YtenlkobjldhfgaaW.PrintLast
abbrev U4vrd5 (l : List Value) : List Value := undef :: undef :: undef :: undef :: l
abbrev U8vrd5 (l : List Value) : List Value := U4vrd5 (U4vrd5 l)
abbrev U16vrd5 (l : List Value) : List Value := U8vrd5 (U8vrd5 l)
abbrev U32vrd5 (l : List Value) : List Value := U16vrd5 (U16vrd5 l)
section
variable {w0 W : World} {F : Nat → Prop} {L : List Res} {vs vb vp : Value} {R : Rk}
section
variable {w : World} {e g i c : Nat} {v : Value} {T : List (List Int)} {p q : List Int} {sp : List Value}
theorem reps_pg : ∀ (T : List (List Int)) (inner : List Value), Reps pgP 256 T inner → inner = pgs T ∧ ∀ p ∈ T, p.length = 256
 | [], inner, h => ⟨List.eq_nil_of_length_eq_zero (by simpa using h.1), fun p hp => by cases hp⟩
 | p :: T, inner, h => by
  have h0 := h.2 0 p rfl
  rw [Nat.zero_mul, List.drop_zero] at h0
  have ht : Reps pgP 256 T (inner.drop 256) := ⟨by rw [List.length_drop, h.1, List.length_cons]; omega, fun j q hq => by
   have := h.2 (j + 1) q (by simpa using hq)
   rw [List.drop_drop, show 256 + j * 256 = (j + 1) * 256 by omega]
   exact this⟩
  obtain ⟨e1, e2⟩ := reps_pg T _ ht
  refine ⟨?_, fun q hq => ?_⟩
  ·rw [← List.take_append_drop 256 inner, h0.1, e1]
   rfl
  ·rcases List.mem_cons.1 hq with rfl | hq
   ·exact h0.2
   ·exact e2 q hq
theorem row_pg {hE : kPg.E = []} (h : (row kPg hE e v T).holds w) (hn : T ≠ []) : ∃ g c sp, v = .slice (some ⟨g, 0, none⟩) T.length c ∧ (blk g (pgs T ++ sp) e).holds w ∧ T.length ≤ c ∧ c ≤ maxLen ∧ (pgs T ++ sp).length = c * 256 := by
 have hpos : 0 < T.length := by
  cases T with
  | nil => exact absurd rfl hn
  | cons => simp
 obtain ⟨h0, inner, ho, hr⟩ := h
 obtain ⟨e1, e2⟩ := reps_pg T inner hr
 subst e1
 rcases ho.2 with ⟨-, h3⟩ | ⟨g', cap', cur, h2, hge, hg', hnc, hcm, hcs, htake⟩
 ·omega
 ·have e3 : pgs T ++ cur.toList.drop (T.length * 256) = cur.toList := by
   have : cur.toList.take (T.length * 256) = pgs T := htake
   rw [← this, List.take_append_drop]
  refine ⟨g', cap', cur.toList.drop (T.length * 256), h2, ?_, hnc, hcm, ?_⟩
  ·rw [e3]; show w.heap[g']? = _; simpa using hg'
  ·rw [e3, Array.length_toList, hcs]; rfl
theorem pg_row {hE : kPg.E = []} (h : (blk g (pgs T ++ sp) e).holds w) (h1 : T.length ≤ c) (h2 : c ≤ maxLen) (h3 : (pgs T ++ sp).length = c * 256) (h4 : ∀ p ∈ T, p.length = 256) : (row kPg hE e (.slice (some ⟨g, 0, none⟩) T.length c) T).holds w := by
 refine rowOf_ (base := 0) (ok := fun _ => True) ⟨fun _ _ => trivial, pgs T, ⟨pgs_length T h4, .inr ⟨g, c, (pgs T ++ sp).toArray, rfl, Nat.zero_le _, h, h1, h2, by rw [List.size_toArray, h3]; rfl, ?_⟩⟩, ⟨pgs_length T h4, fun j p hj => ⟨pgs_at T j p h4 hj, h4 p (List.mem_of_getElem? hj)⟩⟩⟩
 show (pgs T ++ sp).take (T.length * 256) = pgs T
 exact List.take_left' (pgs_length T h4)
theorem pg_at (hT : ∀ p ∈ T, p.length = 256) (hp : T[i]? = some p) : ((pgs T ++ sp).drop (i * 256)).take (nums .u8 p).length = nums .u8 p := by
 have hi := (List.getElem?_eq_some_iff.1 hp).1
 have hl := pgs_length T hT
 rw [nums_length, hT p (List.mem_of_getElem? hp), List.drop_append_of_le_length (by omega), List.take_append_of_le_length (by rw [List.length_drop]; omega)]
 exact pgs_at T i p hT hp
theorem pg_put (hT : ∀ p ∈ T, p.length = 256) (hp : T[i]? = some p) (hq : q.length = 256) : lay (pgs T ++ sp) (i * 256) (nums .u8 q) = pgs (T.set i q) ++ sp := by
 have hi := (List.getElem?_eq_some_iff.1 hp).1
 have hl := pgs_length T hT
 have hpl := hT p (List.mem_of_getElem? hp)
 have h1 := pgs_lay T i p q 0 q hT hp (by omega) (by rw [hq, List.drop_of_length_le (by omega), List.take_zero]; simp)
 rw [Nat.add_zero] at h1
 rw [← h1]
 unfold lay
 rw [nums_length, hq, List.take_append_of_le_length (by omega), List.drop_append_of_le_length (by omega)]
 simp only [List.append_assoc]
end
theorem settleL_snoc (m : Nat → Int) (x : Int × List Int) : ∀ (l : List (Int × List Int)) (k : Nat) (T : List (List Int)), settleL m k (l ++ [x]) T = (settleL m k l T).set x.1.toNat (mixS (m (k + l.length)) ((settleL m k l T).getD x.1.toNat zpg) x.2 8)
 | [], k, T => by simp [settleL]
 | y :: l, k, T => by
  have := settleL_snoc m x l (k + 1) (T.set y.1.toNat (mixS (m k) (T.getD y.1.toNat zpg) y.2 8))
  rw [show k + 1 + l.length = k + (y :: l).length by simp; omega] at this
  exact this
theorem mix_none (o x : List Int) : ∀ q, mixS 0 o x q = o
 | 0 => rfl
 | q + 1 => by
  unfold mixS
  rw [if_neg (by rw [Int.zero_ediv]; decide)]
  exact mix_none o x q
def stN (keep : List Int) (R : Rk) (k : Nat) : List (List Int) := settleL (maskOf keep) 0 (R.pending.take k) R.stable
def Rk.settle (R : Rk) (keep : List Int) : Rk := { R with stable := settleL (maskOf keep) 0 R.pending R.stable, pending := [] }
section
variable {keep : List Int} {k : Nat} {x : Int × List Int}
theorem rk_none (hne : R.stable = []) (hpd : ∀ x ∈ R.pending, 0 ≤ x.1 ∧ x.1 < R.stable.length ∧ x.2.length = 256) : R.pending = [] := by
 cases h : R.pending with
 | nil => rfl
 | cons x l =>
  have h1 := hpd x (by rw [h]; exact List.mem_cons_self)
  rw [hne] at h1
  simp at h1
  omega
theorem st_zero : stN keep R 0 = R.stable := by unfold stN; rw [List.take_zero]; rfl
theorem st_all : stN keep R R.pending.length = (R.settle keep).stable := by unfold stN Rk.settle; rw [List.take_length]
theorem st_ok (hT : ∀ p ∈ R.stable, p.length = 256) (hpd : ∀ x ∈ R.pending, 0 ≤ x.1 ∧ x.1 < R.stable.length ∧ x.2.length = 256) (k : Nat) : (∀ p ∈ stN keep R k, p.length = 256) ∧ (stN keep R k).length = R.stable.length := settleL_ok _ _ _ _ hT (fun x hx => hpd x (List.mem_of_mem_take hx))
theorem st_step (hx : R.pending[k]? = some x) : stN keep R (k + 1) = (stN keep R k).set x.1.toNat (mixS (maskOf keep k) ((stN keep R k).getD x.1.toNat zpg) x.2 8) := by
 obtain ⟨hk, rfl⟩ := List.getElem?_eq_some_iff.1 hx
 unfold stN
 rw [List.take_succ_eq_append_getElem hk, settleL_snoc, List.length_take, Nat.zero_add, Nat.min_eq_left (by omega)]
theorem st_skip (hx : R.pending[k]? = some x) (hk : keep.length ≤ k) (hi : x.1.toNat < (stN keep R k).length) : stN keep R (k + 1) = stN keep R k := by
 rw [st_step hx, show maskOf keep k = 0 from by unfold maskOf; rw [List.getD_eq_getElem?_getD, List.getElem?_eq_none hk]; rfl, mix_none, List.getD_eq_getElem?_getD, List.getElem?_eq_getElem hi]
 exact List.set_getElem_self hi
end
set_option maxRecDepth 10000 in
set_option maxHeartbeats 2000000 in
theorem rkSettle_any (HS : St w0 F W (rk vs vb vp R L)) (hT : ∀ p ∈ R.stable, p.length = 256) (hpd : ∀ x ∈ R.pending, 0 ≤ x.1 ∧ x.1 < R.stable.length ∧ x.2.length = 256) (hpn : R.pending.length ≤ 1000) (hsl : R.stable.length ≤ 244) {A : Option Addr} {c : Nat} (keep : List Int) (hk0 : ∀ z ∈ keep, 0 ≤ z ∧ z < 256) (hkeep : ∀ w X, St w0 F w (X ++ L) → (Kd.int .u8).C w A keep.length keep) : Calls Try.prog 42 #[.agg ([vs, vb, vp, .bool R.counted, .int .i64 R.left, .bool R.down] : List Value).toArray, .slice A keep.length c] W fun e w' => ∃ vs', e = .returned (rkV vs' vb (.slice none 0 0) (R.settle keep)) ∧ St w0 F w' (rk vs' vb (.slice none 0 0) (R.settle keep) L) := by
 obtain ⟨As, cs, hvs, hcs, -⟩ := row_reads (HS.get (.head _))
 subst hvs
 obtain ⟨Ap, cp, hvp, hcp, -⟩ := row_reads (HS.get (.tail _ (.tail _ (.head _))))
 subst hvp
 by_cases hne : R.stable = []
 ·have hpe := rk_none hne hpd
  refine c_enter Try.func42 rfl 45 rfl (.agg ([.slice As R.stable.length cs, vb, .slice Ap R.pending.length cp, .bool R.counted, .int .i64 R.left, .bool R.down] : List Value).toArray :: .slice A keep.length c :: U32vrd5 (U8vrd5 (undef :: undef :: undef :: []))) rfl ?_
  refine wp_seq_k (fun K1 hK2 => ?_)
  refine c_region (fun ops4 hops3 => ?_)
  clear hops3
  refine St.wBox HS (cs := [.slice As R.stable.length cs, vb, .slice Ap R.pending.length cp, .bool R.counted, .int .i64 R.left, .bool R.down]) (.agg ([.slice As R.stable.length cs, vb, .slice Ap R.pending.length cp, .bool R.counted, .int .i64 R.left, .bool R.down] : List Value).toArray) rfl rfl ?_
  clear HS
  intro g5 w6 hg7 HS
  refine St.wAlloc HS (cs := [.slice none 0 0, .slice none 0 0, .slice none 0 0, .bool false, .int .i64 0, .bool false]) (.agg [.slice none 0 0, .slice none 0 0, .slice none 0 0, .bool false, .int .i64 0, .bool false].toArray) (by kernel_rfl) rfl ?_
  clear HS
  intro g8 w9 hg10 HS
  refine wpList_nil ?_
  refine hK2 _ _ ?_
  refine wp_seq_k (fun K11 hK12 => ?_)
  refine c_region (fun ops14 hops13 => ?_)
  clear hops13
  refine St.wLit0 HS kPg rfl 256 (.agg ((nums .u8 zpg)).toArray) Try.underlying49 (by kernel_rfl) ?_
  clear HS
  intro v15 w16 HS
  refine p_run _ (x_field (j := 0) _ _ rfl rfl Try.underlying53 rfl (by rfl) rfl) rfl ?_
  refine p_run _ (x_load (.slice As R.stable.length cs) rfl rfl (bkCell (HS.get (.tail _ (.tail _ (.head _)))) 0 _ rfl) (by rfl)) rfl ?_
  refine St.wAppend HS ((.agg (nums .u8 zpg).toArray)) 256 Try.underlying49 (by kernel_rfl) (by kernel_rfl) (by decide) (by decide) R.stable _ _ _ rfl rfl (row_C (HS.get (.tail _ (.tail _ (.tail _ (.head _)))))).2.2 (fun _ _ h => h) (by simp; omega) ?_
  clear HS
  intro v17 w18 HS
  refine p_run _ (x_assign (v17) rfl rfl) rfl ?_
  refine wpList_nil ?_
  refine fr_at (l' := (.agg ([.slice As R.stable.length cs, vb, .slice Ap R.pending.length cp, .bool R.counted, .int .i64 R.left, .bool R.down] : List Value).toArray :: .slice A keep.length c :: .pointer (some ⟨g5, 0, none⟩) :: undef :: .pointer (some ⟨g8, 0, none⟩) :: v17 :: undef :: undef :: v15 :: .pointer (some ⟨g5, 0, none⟩) :: .slice As R.stable.length cs :: v17 :: U32vrd5 (undef :: []))) rfl ?_
  refine hK12 _ _ ?_
  refine wp_seq_k (fun K19 hK20 => ?_)
  refine wp_seq_k (fun K21 hK22 => ?_)
  skip
  ·rw [List.nil_append] at HS
   refine c_region (fun ops24 hops23 => ?_)
   clear hops23
   refine p_run _ (x_field (j := 2) _ _ rfl rfl Try.underlying53 rfl (by rfl) rfl) rfl ?_
   refine p_run _ (x_load (.slice Ap R.pending.length cp) rfl rfl (bkCell (HS.get (.tail _ (.tail _ (.head _)))) 2 _ rfl) (by rfl)) rfl ?_
   refine p_run _ (x_len rfl rfl Try.underlying51) rfl ?_
   refine p_run _ (x_move (.int .i64 0) rfl rfl) rfl ?_
   refine wpList_nil ?_
   refine fr_at (l' := (.agg ([.slice As R.stable.length cs, vb, .slice Ap R.pending.length cp, .bool R.counted, .int .i64 R.left, .bool R.down] : List Value).toArray :: .slice A keep.length c :: .pointer (some ⟨g5, 0, none⟩) :: undef :: .pointer (some ⟨g8, 0, none⟩) :: v17 :: undef :: undef :: v15 :: .pointer (some ⟨g5, 0, none⟩) :: .slice As R.stable.length cs :: v17 :: .pointer (some ⟨g5, 2, none⟩) :: .slice Ap R.pending.length cp :: .int .i64 (R.pending.length : Int) :: .int .i64 0 :: U16vrd5 (U8vrd5 (U4vrd5 (undef :: []))))) rfl ?_
   refine hK22 _ _ ?_
   refine wp_block ?_
   refine c_loop (ι := Nat) (fun i_ a_ w_ => match i_ with | k => ∃ (q25 : V8) (q26 : V8) (q27 : V8) (q28 : V8), a_ = fr (.agg ([.slice As R.stable.length cs, vb, .slice Ap R.pending.length cp, .bool R.counted, .int .i64 R.left, .bool R.down] : List Value).toArray :: .slice A keep.length c :: .pointer (some ⟨g5, 0, none⟩) :: undef :: .pointer (some ⟨g8, 0, none⟩) :: v17 :: q25.a :: q25.b :: v15 :: .pointer (some ⟨g5, 0, none⟩) :: .slice As R.stable.length cs :: v17 :: .pointer (some ⟨g5, 2, none⟩) :: .slice Ap R.pending.length cp :: .int .i64 (R.pending.length : Int) :: .int .i64 (k : Int) :: q25.c :: q25.d :: q25.e :: q25.f :: q25.g :: q25.h :: V8.l q26 (V8.l q27 (q28.a :: q28.b :: q28.c :: U4vrd5 ([])))) ∧ St w0 F w_ (row kPg rfl 38 v17 R.stable :: blk g8 [.slice none 0 0, .slice none 0 0, .slice none 0 0, .bool false, .int .i64 0, .bool false] 53 :: blk g5 [.slice As R.stable.length cs, vb, .slice Ap R.pending.length cp, .bool R.counted, .int .i64 R.left, .bool R.down] 53 :: row kPg rfl 38 (.slice As R.stable.length cs) R.stable :: row Kd.bool rfl 4 vb R.bad :: row kWr rfl 87 (.slice Ap R.pending.length cp) R.pending :: L) ∧ (k ≤ R.pending.length)) (fun i_ => match i_ with | k => R.pending.length - k) 0 ?_ ?_
   ·exact ⟨⟨undef, undef, undef, undef, undef, undef, undef, undef⟩, ⟨undef, undef, undef, undef, undef, undef, undef, undef⟩, ⟨undef, undef, undef, undef, undef, undef, undef, undef⟩, ⟨undef, undef, undef, undef, undef, undef, undef, undef⟩, rfl, ((((((HS.front 5 rfl).front 5 rfl).front 5 rfl).front 5 rfl).front 5 rfl).front 5 rfl), Nat.zero_le _⟩
   ·clear HS
    rintro k a_ w31 ⟨q25, q26, q27, q28, rfl, HS, hI⟩ J29 hJ30
    have hkl := hI
    refine wp_seq_k (fun K32 hK33 => ?_)
    refine c_region (fun ops35 hops34 => ?_)
    clear hops34
    refine p_run _ (x_cmp (k := .i64) (m := (k : Int)) (n := (R.pending.length : Int)) .lss (decide ((k : Int) < (R.pending.length : Int))) rfl rfl rfl rfl rfl) rfl ?_
    refine wpList_nil ?_
    refine hK33 _ _ ?_
    refine wp_seq_k (fun K36 hK37 => ?_)
    refine c_cond (t := decide ((k : Int) < (R.pending.length : Int))) rfl (fun hc38 => ?_) (fun hc38 => ?_)
    ·exact absurd (of_decide_eq_true hc38) (by rw [hpe]; simp)
    ·refine wp_exit ?_
     refine hK20 _ _ ?_
     refine wp_seq_k (fun K39 hK40 => ?_)
     refine c_region (fun ops42 hops41 => ?_)
     clear hops41
     refine p_run _ (x_move (v17) rfl rfl) rfl ?_
     refine p_run _ (x_field (j := 0) _ _ rfl rfl Try.underlying53 rfl (by rfl) rfl) rfl ?_
     refine St.store (cs' := [v17, vb, .slice Ap R.pending.length cp, .bool R.counted, .int .i64 R.left, .bool R.down]) (HS.front 2 rfl) (v17) rfl rfl (row_one (HS.get (.head _))) (by kernel_rfl) (by rfl) rfl ?_
     clear HS
     intro w43 HS
     refine wpList_nil ?_
     refine hK40 _ _ ?_
     refine wp_seq_k (fun K44 hK45 => ?_)
     refine c_region (fun ops47 hops46 => ?_)
     clear hops46
     refine p_run _ (x_field (j := 2) _ _ rfl rfl Try.underlying53 rfl (by rfl) rfl) rfl ?_
     refine St.store (cs' := [v17, vb, .slice none 0 0, .bool R.counted, .int .i64 R.left, .bool R.down]) HS (.slice none 0 0) rfl rfl rfl (by kernel_rfl) (by rfl) rfl ?_
     clear HS
     intro w48 HS
     refine wpList_nil ?_
     refine hK45 _ _ ?_
     refine wp_seq_k (fun K49 hK50 => ?_)
     refine c_region (fun ops52 hops51 => ?_)
     clear hops51
     refine p_run _ (x_loads [v17, vb, .slice none 0 0, .bool R.counted, .int .i64 R.left, .bool R.down] 6 rfl rfl (bkCells (HS.get (.head _)) 0 _ rfl) (by rfl) (by kernel_rfl) rfl) rfl ?_
     refine St.stores (cs' := [v17, vb, .slice none 0 0, .bool R.counted, .int .i64 R.left, .bool R.down]) (HS.front 2 rfl) [v17, vb, .slice none 0 0, .bool R.counted, .int .i64 R.left, .bool R.down] 6 rfl rfl (all1 (row_one (HS.get (.tail _ (.head _)))) (all1 (row_one (HS.get (.tail _ (.tail _ (.tail _ (.tail _ (.head _))))))) (all1 rfl (all1 rfl (all1 rfl (all1 rfl rfl)))))) (by kernel_rfl) rfl (by simp) rfl ?_
     clear HS
     intro w53 HS
     refine wpList_nil ?_
     refine hK50 _ _ ?_
     refine wp_ret ?_
     try simp only [Exit.inBlock, Exit.then]
     refine c_ret (.agg ([v17, vb, .slice none 0 0, .bool R.counted, .int .i64 R.left, .bool R.down] : List Value).toArray) (r_c rfl rfl (run_loadVar_aggn (by rfl) [v17, vb, .slice none 0 0, .bool R.counted, .int .i64 R.left, .bool R.down] 6 (by kernel_rfl) rfl (bkCells (HS.get (.head _)) 0 _ (whole _)))) ?_
     have e1 : (R.settle keep).stable = R.stable := by unfold Rk.settle; rw [hpe]; rfl
     replace HS := HS.nil kWr rfl 87
     refine ⟨_, rfl, ?_⟩
     show St _ _ _ (row kPg rfl _ _ (R.settle keep).stable :: row Kd.bool rfl _ vb R.bad :: row kWr rfl _ _ [] :: _)
     rw [e1]
     exact ((((((HS.front 1 rfl).drop.front 1 rfl).drop.front 2 rfl).drop.front 3 rfl).drop.front 2 rfl).front 2 rfl)
 ·refine c_enter Try.func42 rfl 45 rfl (.agg ([.slice As R.stable.length cs, vb, .slice Ap R.pending.length cp, .bool R.counted, .int .i64 R.left, .bool R.down] : List Value).toArray :: .slice A keep.length c :: U32vrd5 (U8vrd5 (undef :: undef :: undef :: []))) rfl ?_
  refine wp_seq_k (fun K1 hK2 => ?_)
  refine c_region (fun ops4 hops3 => ?_)
  clear hops3
  refine St.wBox HS (cs := [.slice As R.stable.length cs, vb, .slice Ap R.pending.length cp, .bool R.counted, .int .i64 R.left, .bool R.down]) (.agg ([.slice As R.stable.length cs, vb, .slice Ap R.pending.length cp, .bool R.counted, .int .i64 R.left, .bool R.down] : List Value).toArray) rfl rfl ?_
  clear HS
  intro g5 w6 hg7 HS
  refine St.wAlloc HS (cs := [.slice none 0 0, .slice none 0 0, .slice none 0 0, .bool false, .int .i64 0, .bool false]) (.agg [.slice none 0 0, .slice none 0 0, .slice none 0 0, .bool false, .int .i64 0, .bool false].toArray) (by kernel_rfl) rfl ?_
  clear HS
  intro g8 w9 hg10 HS
  refine wpList_nil ?_
  refine hK2 _ _ ?_
  refine wp_seq_k (fun K11 hK12 => ?_)
  refine c_region (fun ops14 hops13 => ?_)
  clear hops13
  refine St.wLit0 HS kPg rfl 256 (.agg ((nums .u8 zpg)).toArray) Try.underlying49 (by kernel_rfl) ?_
  clear HS
  intro v15 w16 HS
  refine p_run _ (x_field (j := 0) _ _ rfl rfl Try.underlying53 rfl (by rfl) rfl) rfl ?_
  refine p_run _ (x_load (.slice As R.stable.length cs) rfl rfl (bkCell (HS.get (.tail _ (.tail _ (.head _)))) 0 _ rfl) (by rfl)) rfl ?_
  refine St.wAppend HS ((.agg (nums .u8 zpg).toArray)) 256 Try.underlying49 (by kernel_rfl) (by kernel_rfl) (by decide) (by decide) R.stable _ _ _ rfl rfl (row_C (HS.get (.tail _ (.tail _ (.tail _ (.head _)))))).2.2 (fun _ _ h => h) (by simp; omega) ?_
  clear HS
  intro v17 w18 HS
  refine p_run _ (x_assign (v17) rfl rfl) rfl ?_
  refine wpList_nil ?_
  refine fr_at (l' := (.agg ([.slice As R.stable.length cs, vb, .slice Ap R.pending.length cp, .bool R.counted, .int .i64 R.left, .bool R.down] : List Value).toArray :: .slice A keep.length c :: .pointer (some ⟨g5, 0, none⟩) :: undef :: .pointer (some ⟨g8, 0, none⟩) :: v17 :: undef :: undef :: v15 :: .pointer (some ⟨g5, 0, none⟩) :: .slice As R.stable.length cs :: v17 :: U32vrd5 (undef :: []))) rfl ?_
  refine hK12 _ _ ?_
  refine wp_seq_k (fun K19 hK20 => ?_)
  refine wp_seq_k (fun K21 hK22 => ?_)
  skip
  ·rw [List.nil_append] at HS
   obtain ⟨g, c2, sp, hv2, hb, hc1, hc2, hc3⟩ := row_pg HS.hs.head hne
   subst hv2
   replace HS := HS.alter hb (fun b h => (congrArg some (show b = g from h)).symm)
   rw [← st_zero (keep := keep) (R := R)] at HS
   refine c_region (fun ops24 hops23 => ?_)
   clear hops23
   refine p_run _ (x_field (j := 2) _ _ rfl rfl Try.underlying53 rfl (by rfl) rfl) rfl ?_
   refine p_run _ (x_load (.slice Ap R.pending.length cp) rfl rfl (bkCell (HS.get (.tail _ (.tail _ (.head _)))) 2 _ rfl) (by rfl)) rfl ?_
   refine p_run _ (x_len rfl rfl Try.underlying51) rfl ?_
   refine p_run _ (x_move (.int .i64 0) rfl rfl) rfl ?_
   refine wpList_nil ?_
   refine fr_at (l' := (.agg ([.slice As R.stable.length cs, vb, .slice Ap R.pending.length cp, .bool R.counted, .int .i64 R.left, .bool R.down] : List Value).toArray :: .slice A keep.length c :: .pointer (some ⟨g5, 0, none⟩) :: undef :: .pointer (some ⟨g8, 0, none⟩) :: .slice (some ⟨g, 0, none⟩) R.stable.length c2 :: undef :: undef :: v15 :: .pointer (some ⟨g5, 0, none⟩) :: .slice As R.stable.length cs :: .slice (some ⟨g, 0, none⟩) R.stable.length c2 :: .pointer (some ⟨g5, 2, none⟩) :: .slice Ap R.pending.length cp :: .int .i64 (R.pending.length : Int) :: .int .i64 0 :: U16vrd5 (U8vrd5 (U4vrd5 (undef :: []))))) rfl ?_
   refine hK22 _ _ ?_
   refine wp_block ?_
   refine c_loop (ι := Nat) (fun i_ a_ w_ => match i_ with | k => ∃ (q25 : V8) (q26 : V8) (q27 : V8) (q28 : V8), a_ = fr (.agg ([.slice As R.stable.length cs, vb, .slice Ap R.pending.length cp, .bool R.counted, .int .i64 R.left, .bool R.down] : List Value).toArray :: .slice A keep.length c :: .pointer (some ⟨g5, 0, none⟩) :: undef :: .pointer (some ⟨g8, 0, none⟩) :: .slice (some ⟨g, 0, none⟩) R.stable.length c2 :: q25.a :: q25.b :: v15 :: .pointer (some ⟨g5, 0, none⟩) :: .slice As R.stable.length cs :: .slice (some ⟨g, 0, none⟩) R.stable.length c2 :: .pointer (some ⟨g5, 2, none⟩) :: .slice Ap R.pending.length cp :: .int .i64 (R.pending.length : Int) :: .int .i64 (k : Int) :: q25.c :: q25.d :: q25.e :: q25.f :: q25.g :: q25.h :: V8.l q26 (V8.l q27 (q28.a :: q28.b :: q28.c :: U4vrd5 ([])))) ∧ St w0 F w_ (blk g ((pgs (stN keep R k) ++ sp)) 38 :: blk g8 [.slice none 0 0, .slice none 0 0, .slice none 0 0, .bool false, .int .i64 0, .bool false] 53 :: blk g5 [.slice As R.stable.length cs, vb, .slice Ap R.pending.length cp, .bool R.counted, .int .i64 R.left, .bool R.down] 53 :: row kPg rfl 38 (.slice As R.stable.length cs) R.stable :: row Kd.bool rfl 4 vb R.bad :: row kWr rfl 87 (.slice Ap R.pending.length cp) R.pending :: L) ∧ (k ≤ R.pending.length)) (fun i_ => match i_ with | k => R.pending.length - k) 0 ?_ ?_
   ·exact ⟨⟨undef, undef, undef, undef, undef, undef, undef, undef⟩, ⟨undef, undef, undef, undef, undef, undef, undef, undef⟩, ⟨undef, undef, undef, undef, undef, undef, undef, undef⟩, ⟨undef, undef, undef, undef, undef, undef, undef, undef⟩, rfl, ((((((HS.front 5 rfl).front 5 rfl).front 5 rfl).front 5 rfl).front 5 rfl).front 5 rfl), Nat.zero_le _⟩
   ·clear HS
    rintro k a_ w31 ⟨q25, q26, q27, q28, rfl, HS, hI⟩ J29 hJ30
    have hkl := hI
    refine wp_seq_k (fun K32 hK33 => ?_)
    refine c_region (fun ops35 hops34 => ?_)
    clear hops34
    refine p_run _ (x_cmp (k := .i64) (m := (k : Int)) (n := (R.pending.length : Int)) .lss (decide ((k : Int) < (R.pending.length : Int))) rfl rfl rfl rfl rfl) rfl ?_
    refine wpList_nil ?_
    refine hK33 _ _ ?_
    refine wp_seq_k (fun K36 hK37 => ?_)
    refine c_cond (t := decide ((k : Int) < (R.pending.length : Int))) rfl (fun hc38 => ?_) (fun hc38 => ?_)
    ·have hlt : k < R.pending.length := by have := of_decide_eq_true hc38; omega
     obtain ⟨ad, ⟨xa, xp⟩, rfl, hx, hxp, hcell⟩ := wr_get (row_C (HS.get (.tail _ (.tail _ (.tail _ (.tail _ (.tail _ (.head _)))))))).2.2 k hlt
     have hxb := hpd _ (List.mem_of_getElem? hx)
     dsimp only at hxb hcell hxp
     obtain ⟨q, rfl⟩ : ∃ q : Nat, xa = (q : Int) := ⟨xa.toNat, by omega⟩
     obtain ⟨hsT, hsl2⟩ := st_ok (keep := keep) hT hpd k
     have hqs : q < (stN keep R k).length := by omega
     obtain ⟨O, hO⟩ : ∃ O, (stN keep R k)[q]? = some O := ⟨_, List.getElem?_eq_getElem hqs⟩
     have hOl := hsT O (List.mem_of_getElem? hO)
     have hOd : (stN keep R k).getD q zpg = O := by rw [List.getD_eq_getElem?_getD, hO]; rfl
     refine wp_skip ?_
     refine hK37 _ _ ?_
     refine wp_seq_k (fun K39 hK40 => ?_)
     refine wp_block ?_
     refine wp_seq_k (fun K41 hK42 => ?_)
     refine c_region (fun ops44 hops43 => ?_)
     clear hops43
     refine p_run _ (x_move (.int .i64 (k : Int)) rfl rfl) rfl ?_
     refine p_run _ (x_index (A := ad) (j := k * 257) (sz := 257) rfl rfl rfl Try.underlying51 (by kernel_rfl) (by omega) rfl) rfl ?_
     refine p_run _ (x_loads (Value.int .i64 (q : Int) :: (nums .u8 xp)) 257 rfl rfl hcell (by rfl) (by kernel_rfl) (by simp [hxp, nums_length])) rfl ?_
     refine St.wAlloc HS (cs := (Value.int .i64 0 :: (nums .u8 zpg))) (.agg (Value.int .i64 0 :: (nums .u8 zpg)).toArray) (by kernel_rfl) rfl ?_
     clear HS
     intro g45 w46 hg47 HS
     refine p_run _ (x_assign (.int .i64 (k : Int)) rfl rfl) rfl ?_
     refine St.stores (cs' := (Value.int .i64 (q : Int) :: (nums .u8 xp))) HS (Value.int .i64 (q : Int) :: (nums .u8 xp)) 257 rfl rfl (all1 rfl (nums_one _ _)) (by kernel_rfl) (by simp [hxp, nums_length]) (by simp [hxp, nums_length, zlen]) (lay_all _ _ (by simp [hxp, nums_length, zlen])) ?_
     clear HS
     intro w48 HS
     refine wpList_nil ?_
     refine hK42 _ _ ?_
     refine wp_seq_k (fun K49 hK50 => ?_)
     by_cases hkk : k < keep.length
     ·obtain ⟨ak, hak, hkc⟩ := keep_get (hkeep _ [_, _, _, _, _, _, _] HS) k hkk
      subst hak
      have hc3k : (pgs (stN keep R k) ++ sp).length = c2 * 256 := by rw [List.length_append, pgs_length _ hsT, hsl2, ← pgs_length _ hT, ← List.length_append]; exact hc3
      have hmk : 0 ≤ maskOf keep k := by unfold maskOf; rw [List.getD_eq_getElem?_getD, List.getElem?_eq_getElem hkk]; exact (hk0 _ (List.getElem_mem hkk)).1
      have hml := mixS_len (m := maskOf keep k) hOl hxp 8 (Nat.le_refl _)
      refine c_region (fun ops52 hops51 => ?_)
      clear hops51
      refine p_run _ (x_move (.int .i64 (k : Int)) rfl rfl) rfl ?_
      refine p_run _ (x_move (.slice (some ak) keep.length c) rfl rfl) rfl ?_
      refine p_run (l' := (.agg ([.slice As R.stable.length cs, vb, .slice (some ad) R.pending.length cp, .bool R.counted, .int .i64 R.left, .bool R.down] : List Value).toArray :: .slice (some ak) keep.length c :: .pointer (some ⟨g5, 0, none⟩) :: undef :: .pointer (some ⟨g8, 0, none⟩) :: .slice (some ⟨g, 0, none⟩) R.stable.length c2 :: .int .i64 (k : Int) :: .pointer (some ⟨g45, 0, none⟩) :: v15 :: .pointer (some ⟨g5, 0, none⟩) :: .slice As R.stable.length cs :: .slice (some ⟨g, 0, none⟩) R.stable.length c2 :: .pointer (some ⟨g5, 2, none⟩) :: .slice (some ad) R.pending.length cp :: .int .i64 (R.pending.length : Int) :: .int .i64 (k : Int) :: .bool (decide ((k : Int) < (R.pending.length : Int))) :: .int .i64 (k : Int) :: .pointer (some ((ad).add (k * 257))) :: .agg (Value.int .i64 (q : Int) :: (nums .u8 xp)).toArray :: .int .i64 (k : Int) :: .slice (some ak) keep.length c :: .int .i64 (keep.length : Int) :: q26.b :: q26.c :: q26.d :: q26.e :: q26.f :: q26.g :: q26.h :: V8.l q27 (q28.a :: q28.b :: q28.c :: U4vrd5 ([])))) _ (x_len rfl rfl Try.underlying24) rfl ?_
      refine p_run _ (x_cmp (k := .i64) (m := (k : Int)) (n := (keep.length : Int)) .lss true rfl rfl rfl (decide_eq_true (by omega)) rfl) rfl ?_
      refine wpList_nil ?_
      refine hK50 _ _ ?_
      refine c_true rfl ?_
      refine free_frame (n := 17) (T := _) [0, 0, 2, 0, 0, 16, 56, 120, 0, 256, 0, 0, 3072, 7168, 16376, 32767, 65535] [(0, 24), (1, 25), (2, 26), (3, 27), (4, 28), (5, 29), (6, 30), (7, 31), (8, 32), (9, 33), (10, 34), (11, 35), (12, 36), (13, 37), (14, 38), (15, 39)] (fun bq_ vq_ w_ => qv ((fun i_ => match i_ with | 0 => some (.slice (some ⟨g, 0, none⟩) R.stable.length c2) | 1 => some (.pointer (some ⟨g45, 0, none⟩)) | 2 => some (.int .i64 (q : Int)) | 3 => some (.slice (some ⟨g, 0, none⟩) R.stable.length c2) | 4 => some (.pointer (some ⟨g45, 0, none⟩)) | 5 => some (.int .i64 (q : Int)) | 6 => some (.pointer (some ⟨g, q * 256, none⟩)) | 7 => some (.agg ((nums .u8 O)).toArray) | 8 => some (.pointer (some ⟨g45, 1, none⟩)) | 9 => some (.agg ((nums .u8 xp)).toArray) | 10 => some (.slice (some ak) keep.length c) | 11 => some (.int .i64 (k : Int)) | 12 => some (.pointer (some ((ak).add (k * 1)))) | 13 => some (.int .u8 (maskOf keep k)) | 15 => some (.pointer (some ⟨g, q * 256, none⟩)) | _ => none) : Nat → Option Value) bq_ vq_ ∧ cond (bq_ 16) (vq_ 14 = .agg ((nums .u8 (mixS (maskOf keep k) O xp 8))).toArray ∧ St w0 F w_ (blk g ((pgs ((stN keep R k).set q (mixS (maskOf keep k) O xp 8)) ++ sp)) 38 :: blk g45 (Value.int .i64 (q : Int) :: (nums .u8 xp)) 87 :: blk g8 [.slice none 0 0, .slice none 0 0, .slice none 0 0, .bool false, .int .i64 0, .bool false] 53 :: blk g5 [.slice As R.stable.length cs, vb, .slice (some ad) R.pending.length cp, .bool R.counted, .int .i64 R.left, .bool R.down] 53 :: row kPg rfl 38 (.slice As R.stable.length cs) R.stable :: row Kd.bool rfl 4 vb R.bad :: row kWr rfl 87 (.slice (some ad) R.pending.length cp) R.pending :: L)) (cond (bq_ 14) (vq_ 14 = .agg ((nums .u8 (mixS (maskOf keep k) O xp 8))).toArray ∧ St w0 F w_ (blk g45 (Value.int .i64 (q : Int) :: (nums .u8 xp)) 87 :: blk g ((pgs (stN keep R k) ++ sp)) 38 :: blk g8 [.slice none 0 0, .slice none 0 0, .slice none 0 0, .bool false, .int .i64 0, .bool false] 53 :: blk g5 [.slice As R.stable.length cs, vb, .slice (some ad) R.pending.length cp, .bool R.counted, .int .i64 R.left, .bool R.down] 53 :: row kPg rfl 38 (.slice As R.stable.length cs) R.stable :: row Kd.bool rfl 4 vb R.bad :: row kWr rfl 87 (.slice (some ad) R.pending.length cp) R.pending :: L)) ((St w0 F w_ (blk g45 (Value.int .i64 (q : Int) :: (nums .u8 xp)) 87 :: blk g ((pgs (stN keep R k) ++ sp)) 38 :: blk g8 [.slice none 0 0, .slice none 0 0, .slice none 0 0, .bool false, .int .i64 0, .bool false] 53 :: blk g5 [.slice As R.stable.length cs, vb, .slice (some ad) R.pending.length cp, .bool R.counted, .int .i64 R.left, .bool R.down] 53 :: row kPg rfl 38 (.slice As R.stable.length cs) R.stable :: row Kd.bool rfl 4 vb R.bad :: row kWr rfl 87 (.slice (some ad) R.pending.length cp) R.pending :: L))))) (by kernel_rfl) rfl rfl (by kernel_rfl) (by kernel_rfl) rfl (by kernel_rfl) (by kernel_rfl) ⟨qv_none, HS.draw⟩ ?_ ?_
      ·clear HS
       intro i_ hi_ bq_ vq_ a_ w_ hG hb_ hon hoff hfr hel hval
       obtain ⟨hV, hE⟩ := hG
       have hi_ := List.mem_range.1 hi_
       have hcs : i_ = 0 ∨ i_ = 1 ∨ i_ = 2 ∨ i_ = 3 ∨ i_ = 4 ∨ i_ = 5 ∨ i_ = 6 ∨ i_ = 7 ∨ i_ = 8 ∨ i_ = 9 ∨ i_ = 10 ∨ i_ = 11 ∨ i_ = 12 ∨ i_ = 13 ∨ i_ = 14 ∨ i_ = 15 ∨ i_ = 16 := by omega
       rcases hcs with rfl | rfl | rfl | rfl | rfl | rfl | rfl | rfl | rfl | rfl | rfl | rfl | rfl | rfl | rfl | rfl | rfl
       ·have h5 : a_.tmps[5]? = some (.slice (some ⟨g, 0, none⟩) R.stable.length c2) := (hel 5 (by decide)).trans rfl
        obtain ⟨l_, rfl⟩ := hfr
        have e5 : evl l_ (.tmp 5) = .slice (some ⟨g, 0, none⟩) R.stable.length c2 := evl_of h5
        refine ⟨_, rfl, fun K_ hK_ => wp_of_list rfl ?_⟩
        intro ops_
        refine p_run _ (x_move (.slice (some ⟨g, 0, none⟩) R.stable.length c2) rfl e5) rfl ?_
        refine wpList_nil ?_
        exact norm_put (hK_ (.slice (some ⟨g, 0, none⟩) R.stable.length c2) _ ⟨qv_up hV (fun _ h => Option.some.inj h), hE⟩)
       ·have h7 : a_.tmps[7]? = some (.pointer (some ⟨g45, 0, none⟩)) := (hel 7 (by decide)).trans rfl
        obtain ⟨l_, rfl⟩ := hfr
        have e7 : evl l_ (.tmp 7) = .pointer (some ⟨g45, 0, none⟩) := evl_of h7
        refine ⟨_, rfl, fun K_ hK_ => wp_of_list rfl ?_⟩
        intro ops_
        refine p_run _ (x_field (j := 0) _ _ rfl e7 Try.underlying87 rfl (by rfl) rfl) rfl ?_
        refine wpList_nil ?_
        exact norm_put (hK_ (.pointer (some ⟨g45, 0, none⟩)) _ ⟨qv_up hV (fun _ h => Option.some.inj h), hE⟩)
       ·have h25 : a_.tmps[25]? = some (.pointer (some ⟨g45, 0, none⟩)) := (hval (1, 25) (by decide) (hon 1 (by decide))).trans (congrArg some (hV 1 _ rfl (hon 1 (by decide))))
        obtain ⟨l_, rfl⟩ := hfr
        rcases hq14 : bq_ 14 with _ | _
        ·have hE0 := hE
         rw [show bq_ 16 = false from (hoff 16 (by decide))] at hE0
         rw [show bq_ 14 = false from hq14] at hE0
         simp only [cond_true, cond_false] at hE0
         have HS := hE0
         have e25 : evl l_ (.tmp 25) = .pointer (some ⟨g45, 0, none⟩) := evl_of h25
         refine ⟨_, rfl, fun K_ hK_ => wp_of_list rfl ?_⟩
         intro ops_
         refine p_run _ (x_load (.int .i64 (q : Int)) rfl e25 (bkCell (HS.get (.head _)) 0 _ rfl) (by rfl)) rfl ?_
         refine wpList_nil ?_
         exact norm_put (hK_ (.int .i64 (q : Int)) _ ⟨qv_up hV (fun _ h => Option.some.inj h), hE⟩)
        ·have hE0 := hE
         rw [show bq_ 16 = false from (hoff 16 (by decide))] at hE0
         rw [show bq_ 14 = true from hq14] at hE0
         simp only [cond_true, cond_false] at hE0
         obtain ⟨hv14, HS⟩ := hE0
         have e25 : evl l_ (.tmp 25) = .pointer (some ⟨g45, 0, none⟩) := evl_of h25
         refine ⟨_, rfl, fun K_ hK_ => wp_of_list rfl ?_⟩
         intro ops_
         refine p_run _ (x_load (.int .i64 (q : Int)) rfl e25 (bkCell (HS.get (.head _)) 0 _ rfl) (by rfl)) rfl ?_
         refine wpList_nil ?_
         exact norm_put (hK_ (.int .i64 (q : Int)) _ ⟨qv_up hV (fun _ h => Option.some.inj h), hE⟩)
       ·have h5 : a_.tmps[5]? = some (.slice (some ⟨g, 0, none⟩) R.stable.length c2) := (hel 5 (by decide)).trans rfl
        obtain ⟨l_, rfl⟩ := hfr
        have e5 : evl l_ (.tmp 5) = .slice (some ⟨g, 0, none⟩) R.stable.length c2 := evl_of h5
        refine ⟨_, rfl, fun K_ hK_ => wp_of_list rfl ?_⟩
        intro ops_
        refine p_run _ (x_move (.slice (some ⟨g, 0, none⟩) R.stable.length c2) rfl e5) rfl ?_
        refine wpList_nil ?_
        exact norm_put (hK_ (.slice (some ⟨g, 0, none⟩) R.stable.length c2) _ ⟨qv_up hV (fun _ h => Option.some.inj h), hE⟩)
       ·have h7 : a_.tmps[7]? = some (.pointer (some ⟨g45, 0, none⟩)) := (hel 7 (by decide)).trans rfl
        obtain ⟨l_, rfl⟩ := hfr
        have e7 : evl l_ (.tmp 7) = .pointer (some ⟨g45, 0, none⟩) := evl_of h7
        refine ⟨_, rfl, fun K_ hK_ => wp_of_list rfl ?_⟩
        intro ops_
        refine p_run _ (x_field (j := 0) _ _ rfl e7 Try.underlying87 rfl (by rfl) rfl) rfl ?_
        refine wpList_nil ?_
        exact norm_put (hK_ (.pointer (some ⟨g45, 0, none⟩)) _ ⟨qv_up hV (fun _ h => Option.some.inj h), hE⟩)
       ·have h28 : a_.tmps[28]? = some (.pointer (some ⟨g45, 0, none⟩)) := (hval (4, 28) (by decide) (hon 4 (by decide))).trans (congrArg some (hV 4 _ rfl (hon 4 (by decide))))
        obtain ⟨l_, rfl⟩ := hfr
        have hE0 := hE
        rw [show bq_ 16 = false from (hoff 16 (by decide))] at hE0
        rw [show bq_ 14 = false from (hoff 14 (by decide))] at hE0
        simp only [cond_true, cond_false] at hE0
        have HS := hE0
        have e28 : evl l_ (.tmp 28) = .pointer (some ⟨g45, 0, none⟩) := evl_of h28
        refine ⟨_, rfl, fun K_ hK_ => wp_of_list rfl ?_⟩
        intro ops_
        refine p_run _ (x_load (.int .i64 (q : Int)) rfl e28 (bkCell (HS.get (.head _)) 0 _ rfl) (by rfl)) rfl ?_
        refine wpList_nil ?_
        exact norm_put (hK_ (.int .i64 (q : Int)) _ ⟨qv_up hV (fun _ h => Option.some.inj h), hE⟩)
       ·have h27 : a_.tmps[27]? = some (.slice (some ⟨g, 0, none⟩) R.stable.length c2) := (hval (3, 27) (by decide) (hon 3 (by decide))).trans (congrArg some (hV 3 _ rfl (hon 3 (by decide))))
        have h29 : a_.tmps[29]? = some (.int .i64 (q : Int)) := (hval (5, 29) (by decide) (hon 5 (by decide))).trans (congrArg some (hV 5 _ rfl (hon 5 (by decide))))
        obtain ⟨l_, rfl⟩ := hfr
        have e27 : evl l_ (.tmp 27) = .slice (some ⟨g, 0, none⟩) R.stable.length c2 := evl_of h27
        have e29 : evl l_ (.tmp 29) = .int .i64 (q : Int) := evl_of h29
        refine ⟨_, rfl, fun K_ hK_ => wp_of_list rfl ?_⟩
        intro ops_
        refine p_run (.pointer (some ⟨g, q * 256, none⟩)) ((x_index (A := ⟨g, 0, none⟩) (j := q * 256) (sz := 256) rfl e27 e29 Try.underlying49 (by kernel_rfl) (by omega) rfl).trans (by rw [add_mk, Nat.zero_add])) rfl ?_
        refine wpList_nil ?_
        exact norm_put (hK_ (.pointer (some ⟨g, q * 256, none⟩)) _ ⟨qv_up hV (fun _ h => Option.some.inj h), hE⟩)
       ·have h30 : a_.tmps[30]? = some (.pointer (some ⟨g, q * 256, none⟩)) := (hval (6, 30) (by decide) (hon 6 (by decide))).trans (congrArg some (hV 6 _ rfl (hon 6 (by decide))))
        obtain ⟨l_, rfl⟩ := hfr
        have hE0 := hE
        rw [show bq_ 16 = false from (hoff 16 (by decide))] at hE0
        rw [show bq_ 14 = false from (hoff 14 (by decide))] at hE0
        simp only [cond_true, cond_false] at hE0
        have HS := hE0
        have e30 : evl l_ (.tmp 30) = .pointer (some ⟨g, q * 256, none⟩) := evl_of h30
        refine ⟨_, rfl, fun K_ hK_ => wp_of_list rfl ?_⟩
        intro ops_
        refine p_run _ (x_loads (nums .u8 O) 256 rfl e30 (bkCells (HS.get (.tail _ (.head _))) (q * 256) _ (pg_at hsT hO)) (by rfl) (by kernel_rfl) (by rw [nums_length]; exact hOl)) rfl ?_
        refine wpList_nil ?_
        exact norm_put (hK_ (.agg ((nums .u8 O)).toArray) _ ⟨qv_up hV (fun _ h => Option.some.inj h), hE⟩)
       ·have h7 : a_.tmps[7]? = some (.pointer (some ⟨g45, 0, none⟩)) := (hel 7 (by decide)).trans rfl
        obtain ⟨l_, rfl⟩ := hfr
        have e7 : evl l_ (.tmp 7) = .pointer (some ⟨g45, 0, none⟩) := evl_of h7
        refine ⟨_, rfl, fun K_ hK_ => wp_of_list rfl ?_⟩
        intro ops_
        refine p_run _ (x_field (j := 1) _ _ rfl e7 Try.underlying87 rfl (by rfl) rfl) rfl ?_
        refine wpList_nil ?_
        exact norm_put (hK_ (.pointer (some ⟨g45, 1, none⟩)) _ ⟨qv_up hV (fun _ h => Option.some.inj h), hE⟩)
       ·have h32 : a_.tmps[32]? = some (.pointer (some ⟨g45, 1, none⟩)) := (hval (8, 32) (by decide) (hon 8 (by decide))).trans (congrArg some (hV 8 _ rfl (hon 8 (by decide))))
        obtain ⟨l_, rfl⟩ := hfr
        have hE0 := hE
        rw [show bq_ 16 = false from (hoff 16 (by decide))] at hE0
        rw [show bq_ 14 = false from (hoff 14 (by decide))] at hE0
        simp only [cond_true, cond_false] at hE0
        have HS := hE0
        have e32 : evl l_ (.tmp 32) = .pointer (some ⟨g45, 1, none⟩) := evl_of h32
        refine ⟨_, rfl, fun K_ hK_ => wp_of_list rfl ?_⟩
        intro ops_
        refine p_run _ (x_loads ((nums .u8 xp)) 256 rfl e32 (bkCells (HS.get (.head _)) 1 _ (by simp)) (by rfl) (by kernel_rfl) (by simp [hxp, nums_length])) rfl ?_
        refine wpList_nil ?_
        exact norm_put (hK_ (.agg ((nums .u8 xp)).toArray) _ ⟨qv_up hV (fun _ h => Option.some.inj h), hE⟩)
       ·have h1 : a_.tmps[1]? = some (.slice (some ak) keep.length c) := (hel 1 (by decide)).trans rfl
        obtain ⟨l_, rfl⟩ := hfr
        have e1 : evl l_ (.tmp 1) = .slice (some ak) keep.length c := evl_of h1
        refine ⟨_, rfl, fun K_ hK_ => wp_of_list rfl ?_⟩
        intro ops_
        refine p_run _ (x_move (.slice (some ak) keep.length c) rfl e1) rfl ?_
        refine wpList_nil ?_
        exact norm_put (hK_ (.slice (some ak) keep.length c) _ ⟨qv_up hV (fun _ h => Option.some.inj h), hE⟩)
       ·have h6 : a_.tmps[6]? = some (.int .i64 (k : Int)) := (hel 6 (by decide)).trans rfl
        obtain ⟨l_, rfl⟩ := hfr
        have e6 : evl l_ (.tmp 6) = .int .i64 (k : Int) := evl_of h6
        refine ⟨_, rfl, fun K_ hK_ => wp_of_list rfl ?_⟩
        intro ops_
        refine p_run _ (x_move (.int .i64 (k : Int)) rfl e6) rfl ?_
        refine wpList_nil ?_
        exact norm_put (hK_ (.int .i64 (k : Int)) _ ⟨qv_up hV (fun _ h => Option.some.inj h), hE⟩)
       ·have h34 : a_.tmps[34]? = some (.slice (some ak) keep.length c) := (hval (10, 34) (by decide) (hon 10 (by decide))).trans (congrArg some (hV 10 _ rfl (hon 10 (by decide))))
        have h35 : a_.tmps[35]? = some (.int .i64 (k : Int)) := (hval (11, 35) (by decide) (hon 11 (by decide))).trans (congrArg some (hV 11 _ rfl (hon 11 (by decide))))
        obtain ⟨l_, rfl⟩ := hfr
        have e34 : evl l_ (.tmp 34) = .slice (some ak) keep.length c := evl_of h34
        have e35 : evl l_ (.tmp 35) = .int .i64 (k : Int) := evl_of h35
        refine ⟨_, rfl, fun K_ hK_ => wp_of_list rfl ?_⟩
        intro ops_
        refine p_run _ (x_index (A := ak) (j := k * 1) (sz := 1) rfl e34 e35 Try.underlying24 (by kernel_rfl) (by omega) rfl) rfl ?_
        refine wpList_nil ?_
        exact norm_put (hK_ (.pointer (some ((ak).add (k * 1)))) _ ⟨qv_up hV (fun _ h => Option.some.inj h), hE⟩)
       ·have h36 : a_.tmps[36]? = some (.pointer (some ((ak).add (k * 1)))) := (hval (12, 36) (by decide) (hon 12 (by decide))).trans (congrArg some (hV 12 _ rfl (hon 12 (by decide))))
        obtain ⟨l_, rfl⟩ := hfr
        have hE0 := hE
        rw [show bq_ 16 = false from (hoff 16 (by decide))] at hE0
        rw [show bq_ 14 = false from (hoff 14 (by decide))] at hE0
        simp only [cond_true, cond_false] at hE0
        have HS := hE0
        have e36 : evl l_ (.tmp 36) = .pointer (some ((ak).add (k * 1))) := evl_of h36
        refine ⟨_, rfl, fun K_ hK_ => wp_of_list rfl ?_⟩
        intro ops_
        refine p_run _ (x_load (.int .u8 (maskOf keep k)) rfl e36 (by obtain ⟨a_, ha_, hc_⟩ := keep_get (hkeep _ [_, _, _, _, _, _, _] HS) k hkk; obtain rfl := Option.some.inj ha_; exact hc_) (by rfl)) rfl ?_
        refine wpList_nil ?_
        exact norm_put (hK_ (.int .u8 (maskOf keep k)) _ ⟨qv_up hV (fun _ h => Option.some.inj h), hE⟩)
       ·have h31 : a_.tmps[31]? = some (.agg ((nums .u8 O)).toArray) := (hval (7, 31) (by decide) (hon 7 (by decide))).trans (congrArg some (hV 7 _ rfl (hon 7 (by decide))))
        have h33 : a_.tmps[33]? = some (.agg ((nums .u8 xp)).toArray) := (hval (9, 33) (by decide) (hon 9 (by decide))).trans (congrArg some (hV 9 _ rfl (hon 9 (by decide))))
        have h37 : a_.tmps[37]? = some (.int .u8 (maskOf keep k)) := (hval (13, 37) (by decide) (hon 13 (by decide))).trans (congrArg some (hV 13 _ rfl (hon 13 (by decide))))
        obtain ⟨l_, rfl⟩ := hfr
        have hE0 := hE
        rw [show bq_ 16 = false from (hoff 16 (by decide))] at hE0
        rw [show bq_ 14 = false from hb_] at hE0
        simp only [cond_true, cond_false] at hE0
        have HS := hE0
        have e31 : evl l_ (.tmp 31) = .agg ((nums .u8 O)).toArray := evl_of h31
        have e33 : evl l_ (.tmp 33) = .agg ((nums .u8 xp)).toArray := evl_of h33
        have e37 : evl l_ (.tmp 37) = .int .u8 (maskOf keep k) := evl_of h37
        refine ⟨_, rfl, fun K_ hK_ => wp_of_list rfl ?_⟩
        intro ops_
        refine w_call [.agg ((nums .u8 O)).toArray, .agg ((nums .u8 xp)).toArray, .int .u8 (maskOf keep k)] Try.func53 (by kernel_rfl) (by rfl) (by simp only [List.map_cons, List.map_nil, e31, e33, e37] <;> rfl) ?_
        refine (rkMix_any HS O xp hOl hxp (maskOf keep k) hmk).mono ?_
        clear HS
        rintro e w901401 ⟨rfl, HS⟩
        refine ⟨_, rfl, ?_⟩
        refine wpList_nil ?_
        refine norm_put (hK_ (.agg ((nums .u8 (mixS (maskOf keep k) O xp 8))).toArray) _ ⟨qv_up hV (by intro _ h; cases h), ?_⟩)
        show cond (bq_ 16) _ _
        rw [show bq_ 16 = false from hoff 16 (by decide), cond_false]
        show cond true _ _
        rw [cond_true]
        exact ⟨rfl, (((((((HS.front 6 rfl).front 6 rfl).front 6 rfl).front 6 rfl).front 6 rfl).front 6 rfl).front 6 rfl)⟩
       ·have h24 : a_.tmps[24]? = some (.slice (some ⟨g, 0, none⟩) R.stable.length c2) := (hval (0, 24) (by decide) (hon 0 (by decide))).trans (congrArg some (hV 0 _ rfl (hon 0 (by decide))))
        have h26 : a_.tmps[26]? = some (.int .i64 (q : Int)) := (hval (2, 26) (by decide) (hon 2 (by decide))).trans (congrArg some (hV 2 _ rfl (hon 2 (by decide))))
        obtain ⟨l_, rfl⟩ := hfr
        have e24 : evl l_ (.tmp 24) = .slice (some ⟨g, 0, none⟩) R.stable.length c2 := evl_of h24
        have e26 : evl l_ (.tmp 26) = .int .i64 (q : Int) := evl_of h26
        refine ⟨_, rfl, fun K_ hK_ => wp_of_list rfl ?_⟩
        intro ops_
        refine p_run (.pointer (some ⟨g, q * 256, none⟩)) ((x_index (A := ⟨g, 0, none⟩) (j := q * 256) (sz := 256) rfl e24 e26 Try.underlying49 (by kernel_rfl) (by omega) rfl).trans (by rw [add_mk, Nat.zero_add])) rfl ?_
        refine wpList_nil ?_
        exact norm_put (hK_ (.pointer (some ⟨g, q * 256, none⟩)) _ ⟨qv_up hV (fun _ h => Option.some.inj h), hE⟩)
       ·have h38 := hval (14, 38) (by decide) (hon 14 (by decide))
        have h39 : a_.tmps[39]? = some (.pointer (some ⟨g, q * 256, none⟩)) := (hval (15, 39) (by decide) (hon 15 (by decide))).trans (congrArg some (hV 15 _ rfl (hon 15 (by decide))))
        obtain ⟨l_, rfl⟩ := hfr
        have hE0 := hE
        rw [show bq_ 16 = false from hb_] at hE0
        rw [show bq_ 14 = true from (hon 14 (by decide))] at hE0
        simp only [cond_true, cond_false] at hE0
        obtain ⟨hv14, HS⟩ := hE0
        rw [hv14] at h38
        have e38 : evl l_ (.tmp 38) = .agg ((nums .u8 (mixS (maskOf keep k) O xp 8))).toArray := evl_of h38
        have e39 : evl l_ (.tmp 39) = .pointer (some ⟨g, q * 256, none⟩) := evl_of h39
        refine ⟨_, rfl, fun K_ hK_ => wp_of_list rfl ?_⟩
        intro ops_
        replace HS := (HS.front 1 rfl)
        refine St.stores (cs' := pgs ((stN keep R k).set q (mixS (maskOf keep k) O xp 8)) ++ sp) HS (nums .u8 (mixS (maskOf keep k) O xp 8)) 256 e39 e38 (nums_one _ _) (by kernel_rfl) (by rw [nums_length]; exact hml) (by rw [nums_length, hml, hc3k]; have := Nat.mul_le_mul_right 256 (show q + 1 ≤ c2 by omega); omega) (pg_put hsT hO hml) ?_
        clear HS
        intro w901601 HS
        refine wpList_nil ?_
        refine norm_none (hK_ undef _ ⟨qv_up hV (by intro _ h; cases h), ?_⟩)
        show cond true _ _
        rw [cond_true]
        exact ⟨hv14, (((((((HS.front 6 rfl).front 6 rfl).front 6 rfl).front 6 rfl).front 6 rfl).front 6 rfl).front 6 rfl)⟩
      intro bq_ vq_ w_ hall hG
      obtain ⟨hV, hE⟩ := hG
      clear HS
      rw [show bq_ 16 = true from hall 16 (by decide)] at hE
      simp only [cond_true] at hE
      obtain ⟨hv14, HS⟩ := hE
      have hv0 := hV 0 _ rfl (hall 0 (by decide))
      have hv1 := hV 1 _ rfl (hall 1 (by decide))
      have hv2 := hV 2 _ rfl (hall 2 (by decide))
      have hv3 := hV 3 _ rfl (hall 3 (by decide))
      have hv4 := hV 4 _ rfl (hall 4 (by decide))
      have hv5 := hV 5 _ rfl (hall 5 (by decide))
      have hv6 := hV 6 _ rfl (hall 6 (by decide))
      have hv7 := hV 7 _ rfl (hall 7 (by decide))
      have hv8 := hV 8 _ rfl (hall 8 (by decide))
      have hv9 := hV 9 _ rfl (hall 9 (by decide))
      have hv10 := hV 10 _ rfl (hall 10 (by decide))
      have hv11 := hV 11 _ rfl (hall 11 (by decide))
      have hv12 := hV 12 _ rfl (hall 12 (by decide))
      have hv13 := hV 13 _ rfl (hall 13 (by decide))
      have hv15 := hV 15 _ rfl (hall 15 (by decide))
      clear hV hall
      rw [putSel_fr]
      simp only [tells, List.map_cons, List.map_nil, setAll, List.set_cons_succ, List.set_cons_zero, hv0, hv1, hv2, hv3, hv4, hv5, hv6, hv7, hv8, hv9, hv10, hv11, hv12, hv13, hv14, hv15]
      clear hv0 hv1 hv2 hv3 hv4 hv5 hv6 hv7 hv8 hv9 hv10 hv11 hv12 hv13 hv14 hv15
      generalize w_ = w901602 at HS ⊢
      refine fr_at (l' := (.agg ([.slice As R.stable.length cs, vb, .slice (some ad) R.pending.length cp, .bool R.counted, .int .i64 R.left, .bool R.down] : List Value).toArray :: .slice (some ak) keep.length c :: .pointer (some ⟨g5, 0, none⟩) :: undef :: .pointer (some ⟨g8, 0, none⟩) :: .slice (some ⟨g, 0, none⟩) R.stable.length c2 :: .int .i64 (k : Int) :: .pointer (some ⟨g45, 0, none⟩) :: v15 :: .pointer (some ⟨g5, 0, none⟩) :: .slice As R.stable.length cs :: .slice (some ⟨g, 0, none⟩) R.stable.length c2 :: .pointer (some ⟨g5, 2, none⟩) :: .slice (some ad) R.pending.length cp :: .int .i64 (R.pending.length : Int) :: .int .i64 (k : Int) :: .bool (decide ((k : Int) < (R.pending.length : Int))) :: .int .i64 (k : Int) :: .pointer (some ((ad).add (k * 257))) :: .agg (Value.int .i64 (q : Int) :: (nums .u8 xp)).toArray :: .int .i64 (k : Int) :: .slice (some ak) keep.length c :: .int .i64 (keep.length : Int) :: .bool true :: .slice (some ⟨g, 0, none⟩) R.stable.length c2 :: .pointer (some ⟨g45, 0, none⟩) :: .int .i64 (q : Int) :: .slice (some ⟨g, 0, none⟩) R.stable.length c2 :: .pointer (some ⟨g45, 0, none⟩) :: .int .i64 (q : Int) :: .pointer (some ⟨g, q * 256, none⟩) :: .agg ((nums .u8 O)).toArray :: .pointer (some ⟨g45, 1, none⟩) :: .agg ((nums .u8 xp)).toArray :: .slice (some ak) keep.length c :: .int .i64 (k : Int) :: .pointer (some ((ak).add (k * 1))) :: .int .u8 (maskOf keep k) :: .agg ((nums .u8 (mixS (maskOf keep k) O xp 8))).toArray :: .pointer (some ⟨g, q * 256, none⟩) :: q28.c :: U4vrd5 ([]))) rfl ?_
      refine hK40 _ _ ?_
      refine c_region (fun ops901604 hops901603 => ?_)
      clear hops901603
      refine p_run _ (x_arith (k := .i64) (m := (k : Int)) (n := 1) .add (((k + 1 : Nat) : Int)) rfl rfl rfl (show IntKind.i64.wrap ((k : Int) + 1) = ((k + 1 : Nat) : Int) from ((wr64 (by omega)).trans (by omega))) rfl) rfl ?_
      refine p_run _ (x_move (.int .i64 ((k + 1 : Nat) : Int)) rfl rfl) rfl ?_
      refine wpList_nil ?_
      refine fr_at (l' := (.agg ([.slice As R.stable.length cs, vb, .slice (some ad) R.pending.length cp, .bool R.counted, .int .i64 R.left, .bool R.down] : List Value).toArray :: .slice (some ak) keep.length c :: .pointer (some ⟨g5, 0, none⟩) :: undef :: .pointer (some ⟨g8, 0, none⟩) :: .slice (some ⟨g, 0, none⟩) R.stable.length c2 :: .int .i64 (k : Int) :: .pointer (some ⟨g45, 0, none⟩) :: v15 :: .pointer (some ⟨g5, 0, none⟩) :: .slice As R.stable.length cs :: .slice (some ⟨g, 0, none⟩) R.stable.length c2 :: .pointer (some ⟨g5, 2, none⟩) :: .slice (some ad) R.pending.length cp :: .int .i64 (R.pending.length : Int) :: .int .i64 ((k + 1 : Nat) : Int) :: .bool (decide ((k : Int) < (R.pending.length : Int))) :: .int .i64 (k : Int) :: .pointer (some ((ad).add (k * 257))) :: .agg (Value.int .i64 (q : Int) :: (nums .u8 xp)).toArray :: .int .i64 (k : Int) :: .slice (some ak) keep.length c :: .int .i64 (keep.length : Int) :: .bool true :: .slice (some ⟨g, 0, none⟩) R.stable.length c2 :: .pointer (some ⟨g45, 0, none⟩) :: .int .i64 (q : Int) :: .slice (some ⟨g, 0, none⟩) R.stable.length c2 :: .pointer (some ⟨g45, 0, none⟩) :: .int .i64 (q : Int) :: .pointer (some ⟨g, q * 256, none⟩) :: .agg ((nums .u8 O)).toArray :: .pointer (some ⟨g45, 1, none⟩) :: .agg ((nums .u8 xp)).toArray :: .slice (some ak) keep.length c :: .int .i64 (k : Int) :: .pointer (some ((ak).add (k * 1))) :: .int .u8 (maskOf keep k) :: .agg ((nums .u8 (mixS (maskOf keep k) O xp 8))).toArray :: .pointer (some ⟨g, q * 256, none⟩) :: .int .i64 ((k + 1 : Nat) : Int) :: U4vrd5 ([]))) rfl ?_
      rw [show (stN keep R k).set q (mixS (maskOf keep k) O xp 8) = stN keep R (k + 1) from by rw [st_step hx]; show _ = List.set _ ((q : Int)).toNat _; rw [Int.toNat_natCast, hOd]] at HS
      refine hJ30 (k + 1) _ _ ?_ ?_
      ·show R.pending.length - (k + 1) < R.pending.length - k; omega
      ·exact ⟨⟨.int .i64 (k : Int), .pointer (some ⟨g45, 0, none⟩), .bool (decide ((k : Int) < (R.pending.length : Int))), .int .i64 (k : Int), .pointer (some ((ad).add (k * 257))), .agg (Value.int .i64 (q : Int) :: (nums .u8 xp)).toArray, .int .i64 (k : Int), .slice (some ak) keep.length c⟩, ⟨.int .i64 (keep.length : Int), .bool true, .slice (some ⟨g, 0, none⟩) R.stable.length c2, .pointer (some ⟨g45, 0, none⟩), .int .i64 (q : Int), .slice (some ⟨g, 0, none⟩) R.stable.length c2, .pointer (some ⟨g45, 0, none⟩), .int .i64 (q : Int)⟩, ⟨.pointer (some ⟨g, q * 256, none⟩), .agg ((nums .u8 O)).toArray, .pointer (some ⟨g45, 1, none⟩), .agg ((nums .u8 xp)).toArray, .slice (some ak) keep.length c, .int .i64 (k : Int), .pointer (some ((ak).add (k * 1))), .int .u8 (maskOf keep k)⟩, ⟨.agg ((nums .u8 (mixS (maskOf keep k) O xp 8))).toArray, .pointer (some ⟨g, q * 256, none⟩), .int .i64 ((k + 1 : Nat) : Int), undef, undef, undef, undef, undef⟩, rfl, (((((((HS.front 1 rfl).drop.front 5 rfl).front 5 rfl).front 5 rfl).front 5 rfl).front 5 rfl).front 5 rfl), (by omega)⟩
     ·refine c_region (fun ops901606 hops901605 => ?_)
      clear hops901605
      refine p_run _ (x_move (.int .i64 (k : Int)) rfl rfl) rfl ?_
      refine p_run _ (x_move (.slice A keep.length c) rfl rfl) rfl ?_
      refine p_run _ (x_len rfl rfl Try.underlying24) rfl ?_
      refine p_run _ (x_cmp (k := .i64) (m := (k : Int)) (n := (keep.length : Int)) .lss false rfl rfl rfl (decide_eq_false (by omega)) rfl) rfl ?_
      refine wpList_nil ?_
      refine hK50 _ _ ?_
      refine c_false rfl ?_
      refine wp_skip ?_
      refine hK40 _ _ ?_
      refine c_region (fun ops901608 hops901607 => ?_)
      clear hops901607
      refine p_run _ (x_arith (k := .i64) (m := (k : Int)) (n := 1) .add (((k + 1 : Nat) : Int)) rfl rfl rfl (show IntKind.i64.wrap ((k : Int) + 1) = ((k + 1 : Nat) : Int) from ((wr64 (by omega)).trans (by omega))) rfl) rfl ?_
      refine p_run _ (x_move (.int .i64 ((k + 1 : Nat) : Int)) rfl rfl) rfl ?_
      refine wpList_nil ?_
      refine fr_at (l' := (.agg ([.slice As R.stable.length cs, vb, .slice (some ad) R.pending.length cp, .bool R.counted, .int .i64 R.left, .bool R.down] : List Value).toArray :: .slice A keep.length c :: .pointer (some ⟨g5, 0, none⟩) :: undef :: .pointer (some ⟨g8, 0, none⟩) :: .slice (some ⟨g, 0, none⟩) R.stable.length c2 :: .int .i64 (k : Int) :: .pointer (some ⟨g45, 0, none⟩) :: v15 :: .pointer (some ⟨g5, 0, none⟩) :: .slice As R.stable.length cs :: .slice (some ⟨g, 0, none⟩) R.stable.length c2 :: .pointer (some ⟨g5, 2, none⟩) :: .slice (some ad) R.pending.length cp :: .int .i64 (R.pending.length : Int) :: .int .i64 ((k + 1 : Nat) : Int) :: .bool (decide ((k : Int) < (R.pending.length : Int))) :: .int .i64 (k : Int) :: .pointer (some ((ad).add (k * 257))) :: .agg (Value.int .i64 (q : Int) :: (nums .u8 xp)).toArray :: .int .i64 (k : Int) :: .slice A keep.length c :: .int .i64 (keep.length : Int) :: .bool false :: q26.c :: q26.d :: q26.e :: q26.f :: q26.g :: q26.h :: V8.l q27 (q28.a :: q28.b :: .int .i64 ((k + 1 : Nat) : Int) :: U4vrd5 ([])))) rfl ?_
      rw [← st_skip (keep := keep) hx (by omega) (by show ((q : Int)).toNat < _; rw [Int.toNat_natCast]; exact hqs)] at HS
      refine hJ30 (k + 1) _ _ ?_ ?_
      ·show R.pending.length - (k + 1) < R.pending.length - k; omega
      ·exact ⟨⟨.int .i64 (k : Int), .pointer (some ⟨g45, 0, none⟩), .bool (decide ((k : Int) < (R.pending.length : Int))), .int .i64 (k : Int), .pointer (some ((ad).add (k * 257))), .agg (Value.int .i64 (q : Int) :: (nums .u8 xp)).toArray, .int .i64 (k : Int), .slice A keep.length c⟩, ⟨.int .i64 (keep.length : Int), .bool false, q26.c, q26.d, q26.e, q26.f, q26.g, q26.h⟩, q27, ⟨q28.a, q28.b, .int .i64 ((k + 1 : Nat) : Int), undef, undef, undef, undef, undef⟩, rfl, ((((((HS.drop.front 5 rfl).front 5 rfl).front 5 rfl).front 5 rfl).front 5 rfl).front 5 rfl), (by omega)⟩
    ·obtain rfl : R.pending.length = k := by have := of_decide_eq_false hc38; omega
     refine wp_exit ?_
     refine hK20 _ _ ?_
     refine wp_seq_k (fun K901609 hK901610 => ?_)
     refine c_region (fun ops901612 hops901611 => ?_)
     clear hops901611
     refine p_run _ (x_move (.slice (some ⟨g, 0, none⟩) R.stable.length c2) rfl rfl) rfl ?_
     refine p_run _ (x_field (j := 0) _ _ rfl rfl Try.underlying53 rfl (by rfl) rfl) rfl ?_
     refine St.store (cs' := [.slice (some ⟨g, 0, none⟩) R.stable.length c2, vb, .slice Ap R.pending.length cp, .bool R.counted, .int .i64 R.left, .bool R.down]) (HS.front 2 rfl) (.slice (some ⟨g, 0, none⟩) R.stable.length c2) rfl rfl rfl (by kernel_rfl) (by rfl) rfl ?_
     clear HS
     intro w901613 HS
     refine wpList_nil ?_
     refine hK901610 _ _ ?_
     refine wp_seq_k (fun K901614 hK901615 => ?_)
     refine c_region (fun ops901617 hops901616 => ?_)
     clear hops901616
     refine p_run _ (x_field (j := 2) _ _ rfl rfl Try.underlying53 rfl (by rfl) rfl) rfl ?_
     refine St.store (cs' := [.slice (some ⟨g, 0, none⟩) R.stable.length c2, vb, .slice none 0 0, .bool R.counted, .int .i64 R.left, .bool R.down]) HS (.slice none 0 0) rfl rfl rfl (by kernel_rfl) (by rfl) rfl ?_
     clear HS
     intro w901618 HS
     refine wpList_nil ?_
     refine hK901615 _ _ ?_
     refine wp_seq_k (fun K901619 hK901620 => ?_)
     refine c_region (fun ops901622 hops901621 => ?_)
     clear hops901621
     refine p_run _ (x_loads [.slice (some ⟨g, 0, none⟩) R.stable.length c2, vb, .slice none 0 0, .bool R.counted, .int .i64 R.left, .bool R.down] 6 rfl rfl (bkCells (HS.get (.head _)) 0 _ rfl) (by rfl) (by kernel_rfl) rfl) rfl ?_
     refine St.stores (cs' := [.slice (some ⟨g, 0, none⟩) R.stable.length c2, vb, .slice none 0 0, .bool R.counted, .int .i64 R.left, .bool R.down]) (HS.front 2 rfl) [.slice (some ⟨g, 0, none⟩) R.stable.length c2, vb, .slice none 0 0, .bool R.counted, .int .i64 R.left, .bool R.down] 6 rfl rfl (all1 rfl (all1 (row_one (HS.get (.tail _ (.tail _ (.tail _ (.tail _ (.head _))))))) (all1 rfl (all1 rfl (all1 rfl (all1 rfl rfl)))))) (by kernel_rfl) rfl (by simp) rfl ?_
     clear HS
     intro w901623 HS
     refine wpList_nil ?_
     refine hK901620 _ _ ?_
     refine wp_ret ?_
     try simp only [Exit.inBlock, Exit.then]
     refine c_ret (.agg ([.slice (some ⟨g, 0, none⟩) R.stable.length c2, vb, .slice none 0 0, .bool R.counted, .int .i64 R.left, .bool R.down] : List Value).toArray) (r_c rfl rfl (run_loadVar_aggn (by rfl) [.slice (some ⟨g, 0, none⟩) R.stable.length c2, vb, .slice none 0 0, .bool R.counted, .int .i64 R.left, .bool R.down] 6 (by kernel_rfl) rfl (bkCells (HS.get (.head _)) 0 _ (whole _)))) ?_
     replace HS := (HS.front 2 rfl)
     obtain ⟨hsT, hsl2⟩ := st_ok (keep := keep) hT hpd R.pending.length
     replace HS := HS.alter (pg_row (hE := rfl) HS.hs.head (by omega) hc2 (by rw [List.length_append, pgs_length _ hsT, hsl2, ← pgs_length _ hT, ← List.length_append]; exact hc3) hsT) (fun b h => (Option.some.inj (show some g = some b from h)).symm)
     rw [hsl2, st_all] at HS
     replace HS := HS.nil kWr rfl 87
     exact ⟨_, rfl, ((((((HS.front 2 rfl).drop.front 2 rfl).drop.front 2 rfl).drop.front 3 rfl).drop.front 2 rfl).front 2 rfl)⟩
end
end Go.Proofs.Ytenlkobjldhfgaa
