/- The document's disk: mix. -/
import Derived.Test.YtjholgfaipfmbaaRd1
set_option linter.unusedVariables false
set_option linter.unusedSimpArgs false
namespace Go.Proofs.Ytjholgfaipfmbaa
open Go.RowKit Go.Proofs.YtjholgfaipfmbaaW.PrintWords Go.Proofs.YtjholgfaipfmbaaW.PrintLast
section
variable {w0 W : World} {F : Nat → Prop} {L : List Res}
def mxN (m : Int) (o x : List Int) (k : Nat) : List Int := (List.range 256).map (fun j => if j < k ∧ m / 2 ^ (j / 32) % 2 = 1 then x.getD j 0 else o.getD j 0)
section
variable {m : Int} {o x : List Int} {k : Nat}
theorem mx_len : (mxN m o x k).length = 256 := by unfold mxN; rw [List.length_map, List.length_range]
theorem mx_get {j : Nat} (hj : j < 256) : (mxN m o x k)[j]? = some (if j < k ∧ m / 2 ^ (j / 32) % 2 = 1 then x.getD j 0 else o.getD j 0) := by
  unfold mxN
  rw [List.getElem?_map, List.getElem?_range hj]
  rfl
theorem mx_zero (ho : o.length = 256) : mxN m o x 0 = o := by
  apply List.ext_getElem?
  intro j
  by_cases hj : j < 256
  · rw [mx_get hj, if_neg (by omega), List.getD_eq_getElem?_getD, List.getElem?_eq_getElem (by omega)]
    rfl
  · rw [List.getElem?_eq_none (by rw [mx_len]; omega), List.getElem?_eq_none (by omega)]
theorem mx_set (hk : k < 256) (hb : m / 2 ^ (k / 32) % 2 = 1) : (mxN m o x k).set k (x.getD k 0) = mxN m o x (k + 1) := by
  apply List.ext_getElem?
  intro j
  by_cases hj : j < 256
  · rw [List.getElem?_set, mx_get hj, mx_get hj]
    by_cases e : k = j
    · subst e
      rw [if_pos rfl, if_pos (by rw [mx_len]; exact hj), if_pos ⟨by omega, hb⟩]
    · rw [if_neg e]
      by_cases c : j < k ∧ m / 2 ^ (j / 32) % 2 = 1
      · rw [if_pos c, if_pos ⟨by omega, c.2⟩]
      · rw [if_neg c, if_neg (fun h => c ⟨by omega, h.2⟩)]
  · rw [List.getElem?_eq_none (by rw [List.length_set, mx_len]; omega), List.getElem?_eq_none (by rw [mx_len]; omega)]
theorem mx_skip (hb : ¬ m / 2 ^ (k / 32) % 2 = 1) : mxN m o x (k + 1) = mxN m o x k := by
  unfold mxN
  refine List.map_congr_left (fun j _ => ?_)
  by_cases c : j < k ∧ m / 2 ^ (j / 32) % 2 = 1
  · rw [if_pos c, if_pos ⟨by omega, c.2⟩]
  · rw [if_neg c, if_neg (fun h => c ⟨by
      rcases Nat.lt_or_ge j k with h1 | h1
      · exact h1
      · have : j = k := by omega
        subst this
        exact absurd h.2 hb, h.2⟩)]
theorem mixS_get (ho : o.length = 256) (hx : x.length = 256) : ∀ q, q ≤ 8 → ∀ j, j < 256 → (mixS m o x q)[j]? = some (if j < q * 32 ∧ m / 2 ^ (j / 32) % 2 = 1 then x.getD j 0 else o.getD j 0)
  | 0, _, j, hj => by
    unfold mixS
    rw [if_neg (by omega), List.getD_eq_getElem?_getD, List.getElem?_eq_getElem (by omega)]
    rfl
  | q + 1, hq, j, hj => by
    have ih := mixS_get ho hx q (by omega)
    have hl := mixS_len (m := m) ho hx q (by omega)
    unfold mixS
    by_cases hb : m / 2 ^ q % 2 = 1
    · rw [if_pos hb]
      generalize mixS m o x q = A at ih hl ⊢
      have e1 : (A.take (q * 32)).length = q * 32 := by rw [List.length_take]; omega
      have e2 : ((x.drop (q * 32)).take 32).length = 32 := by rw [List.length_take, List.length_drop]; omega
      by_cases c1 : j < q * 32
      · rw [List.append_assoc, List.getElem?_append_left (by omega), List.getElem?_take, if_pos c1, ih j hj]
        by_cases c : m / 2 ^ (j / 32) % 2 = 1
        · rw [if_pos ⟨c1, c⟩, if_pos ⟨by omega, c⟩]
        · rw [if_neg (fun h => c h.2), if_neg (fun h => c h.2)]
      · by_cases c2 : j < q * 32 + 32
        · have hjq : j / 32 = q := by omega
          rw [List.append_assoc, List.getElem?_append_right (by omega), List.getElem?_append_left (by omega), e1, List.getElem?_take, if_pos (by omega), List.getElem?_drop, show q * 32 + (j - q * 32) = j by omega, if_pos ⟨by omega, by rw [hjq]; exact hb⟩, List.getD_eq_getElem?_getD, List.getElem?_eq_getElem (by omega)]
          rfl
        · rw [List.getElem?_append_right (by rw [List.length_append]; omega), List.length_append, e1, e2, List.getElem?_drop, show q * 32 + 32 + (j - (q * 32 + 32)) = j by omega, ih j hj, if_neg (by omega), if_neg (by omega)]
    · rw [if_neg hb, ih j hj]
      by_cases c : j < q * 32 ∧ m / 2 ^ (j / 32) % 2 = 1
      · rw [if_pos c, if_pos ⟨by omega, c.2⟩]
      · rw [if_neg c, if_neg (fun h => c ⟨by
          rcases Nat.lt_or_ge j (q * 32) with h1 | h1
          · exact h1
          · have : j / 32 = q := by omega
            rw [this] at h
            exact absurd h.2 hb, h.2⟩)]
theorem mx_all (ho : o.length = 256) (hx : x.length = 256) : mxN m o x 256 = mixS m o x 8 := by
  apply List.ext_getElem?
  intro j
  by_cases hj : j < 256
  · rw [mx_get hj, mixS_get ho hx 8 (Nat.le_refl _) j hj]
  · rw [List.getElem?_eq_none (by rw [mx_len]; omega), List.getElem?_eq_none (by rw [mixS_len ho hx 8 (Nat.le_refl _)]; omega)]
end

set_option maxRecDepth 10000 in
theorem rkMix_any (HS : St w0 F W L) (o x : List Int) (ho : o.length = 256) (hx : x.length = 256) (m : Int) (hm : 0 ≤ m) : Calls Try.prog 38 #[.agg ((nums .u8 o)).toArray, .agg ((nums .u8 x)).toArray, .int .u8 m] W fun e w' => e = .returned (.agg (nums .u8 (mixS m o x 8)).toArray) ∧ St w0 F w' L := by
  refine c_enter Try.func38 rfl 24 rfl [.agg ((nums .u8 o)).toArray, .agg ((nums .u8 x)).toArray, .int .u8 m, undef, undef, undef, undef, undef, undef, undef, undef, undef, undef, undef, undef, undef, undef, undef, undef, undef, undef, undef, undef, undef] rfl ?_
  refine wp_seq_k (fun K1 hK2 => ?_)
  refine c_region (fun ops4 hops3 => ?_)
  clear hops3
  refine St.wBox HS (cs := ((nums .u8 o))) (.agg ((nums .u8 o)).toArray) rfl rfl ?_
  clear HS
  intro g5 w6 hg7 HS
  refine St.wBox HS (cs := ((nums .u8 x))) (.agg ((nums .u8 x)).toArray) rfl rfl ?_
  clear HS
  intro g8 w9 hg10 HS
  refine St.wAlloc HS (cs := ((nums .u8 zpg))) (.agg ((nums .u8 zpg)).toArray) (by kernel_rfl) rfl ?_
  clear HS
  intro g11 w12 hg13 HS
  refine wpList_nil ?_
  refine fr_at (l' := [.agg ((nums .u8 o)).toArray, .agg ((nums .u8 x)).toArray, .int .u8 m, .pointer (some ⟨g5, 0, none⟩), .pointer (some ⟨g8, 0, none⟩), undef, .pointer (some ⟨g11, 0, none⟩), undef, undef, undef, undef, undef, undef, undef, undef, undef, undef, undef, undef, undef, undef, undef, undef, undef]) rfl ?_
  refine hK2 _ _ ?_
  refine wp_seq_k (fun K14 hK15 => ?_)
  refine wp_seq_k (fun K16 hK17 => ?_)
  refine c_region (fun ops19 hops18 => ?_)
  clear hops18
  refine p_run (l' := _) _ (x_move (.int .i64 0) rfl rfl) rfl ?_
  refine wpList_nil ?_
  refine fr_at (l' := [.agg ((nums .u8 o)).toArray, .agg ((nums .u8 x)).toArray, .int .u8 m, .pointer (some ⟨g5, 0, none⟩), .pointer (some ⟨g8, 0, none⟩), undef, .pointer (some ⟨g11, 0, none⟩), undef, .int .i64 0, undef, undef, undef, undef, undef, undef, undef, undef, undef, undef, undef, undef, undef, undef, undef]) rfl ?_
  refine hK17 _ _ ?_
  refine wp_block ?_
  refine c_loop (ι := Nat) (fun i_ a_ w_ => match i_ with | k => ∃ (u7 : Value) (u9 : Value) (u10 : Value) (u11 : Value) (u12 : Value) (u13 : Value) (u14 : Value) (u15 : Value) (u16 : Value) (u17 : Value) (u18 : Value) (u19 : Value) (u20 : Value) (u21 : Value) (u22 : Value), a_ = fr [.agg ((nums .u8 o)).toArray, .agg ((nums .u8 x)).toArray, .int .u8 m, .pointer (some ⟨g5, 0, none⟩), .pointer (some ⟨g8, 0, none⟩), undef, .pointer (some ⟨g11, 0, none⟩), u7, .int .i64 (k : Int), u9, u10, u11, u12, u13, u14, u15, u16, u17, u18, u19, u20, u21, u22, undef] ∧ St w0 F w_ (blk g11 ((nums .u8 zpg)) 31 :: blk g8 ((nums .u8 x)) 31 :: blk g5 ((nums .u8 (mxN m o x k))) 31 :: L) ∧ (k ≤ 256)) (fun i_ => match i_ with | k => 256 - k) 0 ?_ ?_
  · exact ⟨_, _, _, _, _, _, _, _, _, _, _, _, _, _, _, rfl, (by rw [mx_zero ho]; exact HS), Nat.zero_le _⟩
  · clear HS
    rintro k a_ w22 ⟨u7, u9, u10, u11, u12, u13, u14, u15, u16, u17, u18, u19, u20, u21, u22, rfl, HS, hI⟩ J20 hJ21
    have hkl := hI
    refine wp_seq_k (fun K23 hK24 => ?_)
    refine c_region (fun ops26 hops25 => ?_)
    clear hops25
    refine p_run (l' := _) _ (x_cmp (k := .i64) (m := (k : Int)) (n := 256) .lss (decide ((k : Int) < 256)) rfl rfl rfl rfl rfl) rfl ?_
    refine wpList_nil ?_
    refine fr_at (l' := [.agg ((nums .u8 o)).toArray, .agg ((nums .u8 x)).toArray, .int .u8 m, .pointer (some ⟨g5, 0, none⟩), .pointer (some ⟨g8, 0, none⟩), undef, .pointer (some ⟨g11, 0, none⟩), u7, .int .i64 (k : Int), .bool (decide ((k : Int) < 256)), u10, u11, u12, u13, u14, u15, u16, u17, u18, u19, u20, u21, u22, undef]) rfl ?_
    refine hK24 _ _ ?_
    refine wp_seq_k (fun K27 hK28 => ?_)
    refine c_cond (t := decide ((k : Int) < 256)) rfl (fun hc29 => ?_) (fun hc29 => ?_)
    · have hlt : k < 256 := by have := of_decide_eq_true hc29; omega
      refine wp_skip ?_
      refine hK28 _ _ ?_
      refine wp_seq_k (fun K30 hK31 => ?_)
      refine wp_block ?_
      refine wp_seq_k (fun K32 hK33 => ?_)
      refine c_region (fun ops35 hops34 => ?_)
      clear hops34
      refine p_run (l' := _) _ (x_move (.int .i64 (k : Int)) rfl rfl) rfl ?_
      refine p_run (l' := _) _ (x_assign (.int .i64 (k : Int)) rfl rfl) rfl ?_
      refine wpList_nil ?_
      refine fr_at (l' := [.agg ((nums .u8 o)).toArray, .agg ((nums .u8 x)).toArray, .int .u8 m, .pointer (some ⟨g5, 0, none⟩), .pointer (some ⟨g8, 0, none⟩), undef, .pointer (some ⟨g11, 0, none⟩), .int .i64 (k : Int), .int .i64 (k : Int), .bool (decide ((k : Int) < 256)), .int .i64 (k : Int), u11, u12, u13, u14, u15, u16, u17, u18, u19, u20, u21, u22, undef]) rfl ?_
      refine hK33 _ _ ?_
      refine wp_seq_k (fun K36 hK37 => ?_)
      by_cases hbit : m / 2 ^ (k / 32) % 2 = 1
      · skip
        refine c_region (fun ops39 hops38 => ?_)
        clear hops38
        refine p_run (l' := _) _ (x_move (.int .u8 m) rfl rfl) rfl ?_
        refine p_run (l' := _) _ (x_move (.int .i64 (k : Int)) rfl rfl) rfl ?_
        refine p_run (l' := _) _ (x_quo (k := .i64) (m := (k : Int)) (n := 32) (((k / 32 : Nat) : Int)) rfl rfl rfl (by decide) ((wr64 (by rw [show (k : Int).tdiv 32 = ((k / 32 : Nat) : Int) from by rw [Int.tdiv_eq_ediv_of_nonneg (by omega)]; omega]; omega)).trans (by rw [Int.tdiv_eq_ediv_of_nonneg (by omega)]; omega))) rfl ?_
        refine p_run (l' := [.agg ((nums .u8 o)).toArray, .agg ((nums .u8 x)).toArray, .int .u8 m, .pointer (some ⟨g5, 0, none⟩), .pointer (some ⟨g8, 0, none⟩), undef, .pointer (some ⟨g11, 0, none⟩), .int .i64 (k : Int), .int .i64 (k : Int), .bool (decide ((k : Int) < 256)), .int .i64 (k : Int), .int .u8 m, .int .i64 (k : Int), .int .i64 ((k / 32 : Nat) : Int), .int .u8 (m / 2 ^ (k / 32)), u15, u16, u17, u18, u19, u20, u21, u22, undef]) _ (x_shr (k := .u8) (m := m) (n := ((k / 32 : Nat) : Int)) ((m / 2 ^ (k / 32))) rfl rfl rfl (by omega) (by show m / 2 ^ min ((k / 32 : Nat) : Int).toNat 8 = _; rw [Int.toNat_natCast, Nat.min_eq_left (by omega)])) rfl ?_
        refine p_run (l' := _) _ (x_rem (k := .u8) (m := (m / 2 ^ (k / 32))) (n := 2) ((m / 2 ^ (k / 32) % 2)) rfl rfl rfl (by decide) (Int.tmod_eq_emod_of_nonneg (Int.ediv_nonneg hm (Int.le_of_lt (Int.pow_pos (by decide)))))) rfl ?_
        refine p_run (l' := _) _ (x_cmp (k := .u8) (m := (m / 2 ^ (k / 32) % 2)) (n := 1) .eql true rfl rfl rfl (by unfold cmpB; rw [hbit]; rfl) rfl) rfl ?_
        refine wpList_nil ?_
        refine fr_at (l' := [.agg ((nums .u8 o)).toArray, .agg ((nums .u8 x)).toArray, .int .u8 m, .pointer (some ⟨g5, 0, none⟩), .pointer (some ⟨g8, 0, none⟩), undef, .pointer (some ⟨g11, 0, none⟩), .int .i64 (k : Int), .int .i64 (k : Int), .bool (decide ((k : Int) < 256)), .int .i64 (k : Int), .int .u8 m, .int .i64 (k : Int), .int .i64 ((k / 32 : Nat) : Int), .int .u8 (m / 2 ^ (k / 32)), .int .u8 (m / 2 ^ (k / 32) % 2), .bool true, u17, u18, u19, u20, u21, u22, undef]) rfl ?_
        refine hK37 _ _ ?_
        refine c_true rfl ?_
        refine c_region (fun ops41 hops40 => ?_)
        clear hops40
        refine p_run (l' := _) _ (x_move (.int .i64 (k : Int)) rfl rfl) rfl ?_
        refine p_run (l' := _) _ (x_move (.int .i64 (k : Int)) rfl rfl) rfl ?_
        refine p_run (l' := _) _ (x_indexArr (sz := 1) (j := k) rfl rfl rfl Try.underlying31 (by kernel_rfl) (by omega) (by first | rfl | (simp; done) | (simp <;> omega) | omega)) rfl ?_
        refine p_run (l' := [.agg ((nums .u8 o)).toArray, .agg ((nums .u8 x)).toArray, .int .u8 m, .pointer (some ⟨g5, 0, none⟩), .pointer (some ⟨g8, 0, none⟩), undef, .pointer (some ⟨g11, 0, none⟩), .int .i64 (k : Int), .int .i64 (k : Int), .bool (decide ((k : Int) < 256)), .int .i64 (k : Int), .int .u8 m, .int .i64 (k : Int), .int .i64 ((k / 32 : Nat) : Int), .int .u8 (m / 2 ^ (k / 32)), .int .u8 (m / 2 ^ (k / 32) % 2), .bool true, .int .i64 (k : Int), .int .i64 (k : Int), .pointer (some ⟨g8, k, none⟩), .int .u8 (x.getD k 0), u21, u22, undef]) _ (x_load (.int .u8 (x.getD k 0)) rfl rfl (bkCell (HS.get (.tail _ (.head _))) k _ (nums_getD (by simp only [hx]; omega))) (by rfl)) rfl ?_
        refine p_run (l' := _) _ (x_indexArr (sz := 1) (j := k) rfl rfl rfl Try.underlying31 (by kernel_rfl) (by omega) (by first | rfl | (simp; done) | (simp <;> omega) | omega)) rfl ?_
        refine St.store (cs' := (nums .u8 ((mxN m o x k).set k (x.getD k 0)))) (HS.front 2 rfl) (.int .u8 (x.getD k 0)) rfl rfl rfl (by kernel_rfl) (decide_eq_true (by simp only [nums_length, mx_len]; omega)) (nums_set _ _ _ _) ?_
        clear HS
        intro w42 HS
        refine wpList_nil ?_
        refine fr_at (l' := [.agg ((nums .u8 o)).toArray, .agg ((nums .u8 x)).toArray, .int .u8 m, .pointer (some ⟨g5, 0, none⟩), .pointer (some ⟨g8, 0, none⟩), undef, .pointer (some ⟨g11, 0, none⟩), .int .i64 (k : Int), .int .i64 (k : Int), .bool (decide ((k : Int) < 256)), .int .i64 (k : Int), .int .u8 m, .int .i64 (k : Int), .int .i64 ((k / 32 : Nat) : Int), .int .u8 (m / 2 ^ (k / 32)), .int .u8 (m / 2 ^ (k / 32) % 2), .bool true, .int .i64 (k : Int), .int .i64 (k : Int), .pointer (some ⟨g8, k, none⟩), .int .u8 (x.getD k 0), .pointer (some ⟨g5, k, none⟩), u22, undef]) rfl ?_
        refine hK31 _ _ ?_
        refine c_region (fun ops44 hops43 => ?_)
        clear hops43
        refine p_run (l' := _) _ (x_arith (k := .i64) (m := (k : Int)) (n := 1) .add (((k + 1 : Nat) : Int)) rfl rfl rfl (show IntKind.i64.wrap ((k : Int) + 1) = ((k + 1 : Nat) : Int) from ((wr64 (by omega)).trans (by omega))) rfl) rfl ?_
        refine p_run (l' := _) _ (x_move (.int .i64 ((k + 1 : Nat) : Int)) rfl rfl) rfl ?_
        refine wpList_nil ?_
        refine fr_at (l' := [.agg ((nums .u8 o)).toArray, .agg ((nums .u8 x)).toArray, .int .u8 m, .pointer (some ⟨g5, 0, none⟩), .pointer (some ⟨g8, 0, none⟩), undef, .pointer (some ⟨g11, 0, none⟩), .int .i64 (k : Int), .int .i64 ((k + 1 : Nat) : Int), .bool (decide ((k : Int) < 256)), .int .i64 (k : Int), .int .u8 m, .int .i64 (k : Int), .int .i64 ((k / 32 : Nat) : Int), .int .u8 (m / 2 ^ (k / 32)), .int .u8 (m / 2 ^ (k / 32) % 2), .bool true, .int .i64 (k : Int), .int .i64 (k : Int), .pointer (some ⟨g8, k, none⟩), .int .u8 (x.getD k 0), .pointer (some ⟨g5, k, none⟩), .int .i64 ((k + 1 : Nat) : Int), undef]) rfl ?_
        rw [mx_set hlt hbit] at HS
        refine hJ21 (k + 1) _ _ ?_ ?_
        · show 256 - (k + 1) < 256 - k; omega
        · exact ⟨_, _, _, _, _, _, _, _, _, _, _, _, _, _, _, rfl, ((HS.front 2 rfl).front 2 rfl), (by omega)⟩
      · skip
        refine c_region (fun ops46 hops45 => ?_)
        clear hops45
        refine p_run (l' := _) _ (x_move (.int .u8 m) rfl rfl) rfl ?_
        refine p_run (l' := _) _ (x_move (.int .i64 (k : Int)) rfl rfl) rfl ?_
        refine p_run (l' := _) _ (x_quo (k := .i64) (m := (k : Int)) (n := 32) (((k / 32 : Nat) : Int)) rfl rfl rfl (by decide) ((wr64 (by rw [show (k : Int).tdiv 32 = ((k / 32 : Nat) : Int) from by rw [Int.tdiv_eq_ediv_of_nonneg (by omega)]; omega]; omega)).trans (by rw [Int.tdiv_eq_ediv_of_nonneg (by omega)]; omega))) rfl ?_
        refine p_run (l' := [.agg ((nums .u8 o)).toArray, .agg ((nums .u8 x)).toArray, .int .u8 m, .pointer (some ⟨g5, 0, none⟩), .pointer (some ⟨g8, 0, none⟩), undef, .pointer (some ⟨g11, 0, none⟩), .int .i64 (k : Int), .int .i64 (k : Int), .bool (decide ((k : Int) < 256)), .int .i64 (k : Int), .int .u8 m, .int .i64 (k : Int), .int .i64 ((k / 32 : Nat) : Int), .int .u8 (m / 2 ^ (k / 32)), u15, u16, u17, u18, u19, u20, u21, u22, undef]) _ (x_shr (k := .u8) (m := m) (n := ((k / 32 : Nat) : Int)) ((m / 2 ^ (k / 32))) rfl rfl rfl (by omega) (by show m / 2 ^ min ((k / 32 : Nat) : Int).toNat 8 = _; rw [Int.toNat_natCast, Nat.min_eq_left (by omega)])) rfl ?_
        refine p_run (l' := _) _ (x_rem (k := .u8) (m := (m / 2 ^ (k / 32))) (n := 2) ((m / 2 ^ (k / 32) % 2)) rfl rfl rfl (by decide) (Int.tmod_eq_emod_of_nonneg (Int.ediv_nonneg hm (Int.le_of_lt (Int.pow_pos (by decide)))))) rfl ?_
        refine p_run (l' := _) _ (x_cmp (k := .u8) (m := (m / 2 ^ (k / 32) % 2)) (n := 1) .eql false rfl rfl rfl (by unfold cmpB; simpa using hbit) rfl) rfl ?_
        refine wpList_nil ?_
        refine fr_at (l' := [.agg ((nums .u8 o)).toArray, .agg ((nums .u8 x)).toArray, .int .u8 m, .pointer (some ⟨g5, 0, none⟩), .pointer (some ⟨g8, 0, none⟩), undef, .pointer (some ⟨g11, 0, none⟩), .int .i64 (k : Int), .int .i64 (k : Int), .bool (decide ((k : Int) < 256)), .int .i64 (k : Int), .int .u8 m, .int .i64 (k : Int), .int .i64 ((k / 32 : Nat) : Int), .int .u8 (m / 2 ^ (k / 32)), .int .u8 (m / 2 ^ (k / 32) % 2), .bool false, u17, u18, u19, u20, u21, u22, undef]) rfl ?_
        refine hK37 _ _ ?_
        refine c_false rfl ?_
        refine wp_skip ?_
        refine hK31 _ _ ?_
        refine c_region (fun ops48 hops47 => ?_)
        clear hops47
        refine p_run (l' := _) _ (x_arith (k := .i64) (m := (k : Int)) (n := 1) .add (((k + 1 : Nat) : Int)) rfl rfl rfl (show IntKind.i64.wrap ((k : Int) + 1) = ((k + 1 : Nat) : Int) from ((wr64 (by omega)).trans (by omega))) rfl) rfl ?_
        refine p_run (l' := _) _ (x_move (.int .i64 ((k + 1 : Nat) : Int)) rfl rfl) rfl ?_
        refine wpList_nil ?_
        refine fr_at (l' := [.agg ((nums .u8 o)).toArray, .agg ((nums .u8 x)).toArray, .int .u8 m, .pointer (some ⟨g5, 0, none⟩), .pointer (some ⟨g8, 0, none⟩), undef, .pointer (some ⟨g11, 0, none⟩), .int .i64 (k : Int), .int .i64 ((k + 1 : Nat) : Int), .bool (decide ((k : Int) < 256)), .int .i64 (k : Int), .int .u8 m, .int .i64 (k : Int), .int .i64 ((k / 32 : Nat) : Int), .int .u8 (m / 2 ^ (k / 32)), .int .u8 (m / 2 ^ (k / 32) % 2), .bool false, u17, u18, u19, u20, u21, .int .i64 ((k + 1 : Nat) : Int), undef]) rfl ?_
        rw [← mx_skip hbit] at HS
        refine hJ21 (k + 1) _ _ ?_ ?_
        · show 256 - (k + 1) < 256 - k; omega
        · exact ⟨_, _, _, _, _, _, _, _, _, _, _, _, _, _, _, rfl, (((HS.front 2 rfl).front 2 rfl).front 2 rfl), (by omega)⟩
    · obtain rfl : 256 = k := by have := of_decide_eq_false hc29; omega
      refine wp_exit ?_
      refine hK15 _ _ ?_
      refine wp_seq_k (fun K49 hK50 => ?_)
      refine c_region (fun ops52 hops51 => ?_)
      clear hops51
      refine p_run (l' := _) _ (x_loads ((nums .u8 (mxN m o x 256))) 256 rfl rfl (bkCells (HS.get (.tail _ (.tail _ (.head _)))) 0 _ (whole _)) (by rfl) (by kernel_rfl) (by simp [mx_len, nums_length])) rfl ?_
      refine St.stores (cs' := ((nums .u8 (mxN m o x 256)))) HS ((nums .u8 (mxN m o x 256))) 256 rfl rfl (nums_one _ _) (by kernel_rfl) (by simp [mx_len, nums_length]) (by simp [mx_len, nums_length, zlen]) (lay_all _ _ (by simp [mx_len, nums_length, zlen])) ?_
      clear HS
      intro w53 HS
      refine wpList_nil ?_
      refine fr_at (l' := [.agg ((nums .u8 o)).toArray, .agg ((nums .u8 x)).toArray, .int .u8 m, .pointer (some ⟨g5, 0, none⟩), .pointer (some ⟨g8, 0, none⟩), undef, .pointer (some ⟨g11, 0, none⟩), u7, .int .i64 (256 : Int), .bool (decide ((256 : Int) < 256)), u10, u11, u12, u13, u14, u15, u16, u17, u18, u19, u20, u21, u22, .agg ((nums .u8 (mxN m o x 256))).toArray]) rfl ?_
      refine hK50 _ _ ?_
      refine wp_ret ?_
      try simp only [Exit.inBlock, Exit.then]
      refine c_ret (.agg ((nums .u8 (mxN m o x 256))).toArray) (r_c rfl rfl (run_loadVar_aggn (by rfl) ((nums .u8 (mxN m o x 256))) 256 (by kernel_rfl) (by simp [mx_len, nums_length]) (bkCells (HS.get (.head _)) 0 _ (whole _)))) ?_
      rw [mx_all ho hx]
      exact ⟨rfl, HS.drop.drop.drop⟩
end
end Go.Proofs.Ytjholgfaipfmbaa
