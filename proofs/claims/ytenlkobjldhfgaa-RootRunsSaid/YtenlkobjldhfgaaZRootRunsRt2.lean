/- Package root: open. -/
import Derived.Test.YtenlkobjldhfgaaZRootRunsRt1
import Derived.Test.YtenlkobjldhfgaaZRootRunsV8
set_option linter.unusedVariables false
set_option linter.unusedSimpArgs false
namespace Go.Proofs.Ytenlkobjldhfgaa
open Go.RowKit Go.Proofs.YtenlkobjldhfgaaW.PrintWords Go.Proofs.YtenlkobjldhfgaaW.PrintLast Crc
abbrev U4r2 (l : List Value) : List Value := undef :: undef :: undef :: undef :: l
abbrev U8r2 (l : List Value) : List Value := U4r2 (U4r2 l)
abbrev U16r2 (l : List Value) : List Value := U8r2 (U8r2 l)
abbrev U32r2 (l : List Value) : List Value := U16r2 (U16r2 l)
theorem sl_cut {w : World} {ad : Addr} {c : Nat} {xs : List UInt8} (h : Rd w (some ad) xs) (hc : xs.length ≤ c) (k n : Nat) (hk : k + n ≤ xs.length) : Sl w (some (ad.add k)) (c - k) ((xs.drop k).take n) :=
 (Sl.drop ⟨h, hc, fun e => by cases e⟩ k (by omega)).take n (by rw [List.length_drop]; omega)
section
variable {w0 w : World} {F : Nat → Prop} {L : List Res}
theorem St.toRdp {hE : kByte.E = []} {e n c : Nat} {ad : Addr} {xs : List UInt8} (h : St w0 F w (row kByte hE e (.slice (some ad) n c) xs :: L)) (k m : Nat) (hk : k + m ≤ xs.length) : St w0 F w (rdp (some (ad.add k)) (c - k) ((xs.drop k).take m) :: L) := by
 have hr := row_rd h.hs.head
 refine h.turn rfl rfl rfl (Kept.refl _ _) (sl_cut hr.2.2 (by have := hr.1; have := hr.2.1; omega) k m hk) (fun b hb => .inl ?_)
 obtain ⟨-, a, ha, rfl⟩ := hb
 injection ha with ha
 subst ha
 show Value.ownBlock (.slice (some ad) n c) = some (ad.add k).block
 rw [addr_block]
 rfl
theorem St.rdpNil (h : St w0 F w L) : St w0 F w (rdp none 0 [] :: L) := h.fresh (Below.refl _ _) (Sl.none _) (fun b hb => absurd hb.1 (by simp))
end
theorem op_split (q : List UInt8) (s : Nat) : (okR q s = false ∧ hdB q 0 = 0) ∨ (okR q s = false ∧ hdB q 0 ≠ 0 ∧ ¬ (hdB q 0).toNat % 2 = s) ∨ (okR q s = false ∧ hdB q 0 ≠ 0 ∧ (hdB q 0).toNat % 2 = s ∧ ¬ szR q ≤ 186) ∨
  (okR q s = false ∧ hdB q 0 ≠ 0 ∧ (hdB q 0).toNat % 2 = s ∧ szR q ≤ 186 ∧ ¬ q = pgB (hdB q 0) (rtS (ctR q))) ∨ (okR q s = true ∧ hdB q 0 ≠ 0 ∧ (hdB q 0).toNat % 2 = s ∧ szR q ≤ 186 ∧ q = pgB (hdB q 0) (rtS (ctR q))) := by
 have e : okR q s = (decide (hdB q 0 ≠ 0) && decide ((hdB q 0).toNat % 2 = s) && decide (szR q ≤ 186) && decide (q = pgB (hdB q 0) (rtS (ctR q)))) := rfl
 by_cases h1 : hdB q 0 = 0
 ·refine .inl ⟨?_, h1⟩
  rw [e, decide_eq_false (fun h => h h1)]
  rfl
 by_cases h2 : (hdB q 0).toNat % 2 = s
 ·by_cases h3 : szR q ≤ 186
  ·by_cases h4 : q = pgB (hdB q 0) (rtS (ctR q))
   ·refine .inr (.inr (.inr (.inr ⟨?_, h1, h2, h3, h4⟩)))
    rw [e, decide_eq_true h1, decide_eq_true h2, decide_eq_true h3, decide_eq_true h4]
    rfl
   ·refine .inr (.inr (.inr (.inl ⟨?_, h1, h2, h3, h4⟩)))
    rw [e, decide_eq_false h4, Bool.and_false]
  ·refine .inr (.inr (.inl ⟨?_, h1, h2, h3⟩))
   rw [e, decide_eq_false h3, Bool.and_false, Bool.false_and]
 ·refine .inr (.inl ⟨?_, h1, h2⟩)
  rw [e, decide_eq_false h2, Bool.and_false, Bool.false_and, Bool.false_and]
theorem uv_nz {g : UInt64} (h : g ≠ 0) : ¬ uv g = 0 := fun e => h (uv_inj (e.trans (rfl : (0 : Int) = uv 0)))
theorem mod2 (g : UInt64) : (uv g).tmod 2 = uv g % 2 := Int.tmod_eq_emod_of_nonneg (uv_lo g)
theorem uv_mod (g : UInt64) : uv g % 2 = ((g.toNat % 2 : Nat) : Int) := by unfold uv; omega
theorem szR_lt (q : List UInt8) : szR q < 65536 := by
 have h := leN_lt ((stB q).take 2)
 have : ((stB q).take 2).length ≤ 2 := by rw [List.length_take]; omega
 have h2 : 256 ^ ((stB q).take 2).length ≤ 256 ^ 2 := Nat.pow_le_pow_right (by decide) this
 unfold szR
 omega
theorem rn_sz {q : List UInt8} (hq : q.length = 256) : rn 2 (stB q, false) = (szR q : Int) := by
 have hb : takeBad (stB q) (false || !wideB 2) 2 = false := by
  have : wideB 2 = true := by decide
  unfold takeBad
  rw [this, stB_len hq]
  rfl
 unfold rn takeOut szR
 rw [show (stB q, false).2 = false from rfl, hb]
 show numB ((stB q).take 2) = _
 rw [numB_eq _ (by rw [List.length_take]; omega)]
theorem map_bv_inj {a b : List UInt8} : (a.map bv = b.map bv) ↔ a = b := List.map_inj_right (fun x y h => bv_inj h)
theorem st_snoc (q : List UInt8) (j : Nat) : (List.range j).flatMap (bdS q) ++ bdS q j = (List.range (j + 1)).flatMap (bdS q) := by rw [List.range_succ, List.flatMap_append]; simp
theorem stJ_len {q : List UInt8} (hq : q.length = 256) {j : Nat} (hj : j ≤ 8) : ((List.range j).flatMap (bdS q)).length ≤ 192 := by
 have h : ∀ k, k ≤ 8 → ((List.range k).flatMap (bdS q)).length = 24 * k := by
  intro k
  induction k with
  | zero => intro _; rfl
  | succ k ih =>
   intro hk
   rw [← st_snoc, List.length_append, ih (by omega)]
   unfold bdS
   rw [List.length_take, List.length_drop]
   omega
 rw [h j hj]
 omega
set_option maxRecDepth 10000 in
set_option maxHeartbeats 4000000 in
theorem open_root (w : World) (q : List UInt8) (hq : q.length = 256) (s : Nat) : Calls Try.prog 47 #[.agg ((nums .u8 (q.map bv))).toArray, .int .u64 (s : Int)] w fun e w' => ∃ A c, e = .returned (.tuple #[.slice A (cnU q s).length c, .int .u64 (uv (gnU q s))]) ∧ St w (fun _ => False) w' [rdp A c (cnU q s)] := by
 have HS := St.empty w
 ·refine c_enter Try.func47 rfl 57 rfl (.agg ((nums .u8 (q.map bv))).toArray :: .int .u64 (s : Int) :: U32r2 (U16r2 (U4r2 (undef :: undef :: undef :: [])))) rfl ?_
  refine wp_seq_k (fun K1 hK2 => ?_)
  refine c_region (fun ops4 hops3 => ?_)
  clear hops3
  refine St.wBox HS (cs := ((nums .u8 (q.map bv)))) (.agg ((nums .u8 (q.map bv))).toArray) rfl rfl ?_
  clear HS
  intro g5 w6 hg7 HS
  refine p_run _ (x_assign (.slice none 0 0) rfl rfl) rfl ?_
  refine p_run _ (x_assign (.int .u64 0) rfl rfl) rfl ?_
  refine wpList_nil ?_
  refine hK2 _ _ ?_
  refine wp_seq_k (fun K8 hK9 => ?_)
  refine c_region (fun ops11 hops10 => ?_)
  clear hops10
  refine p_run _ (x_loads ((nums .u8 (q.map bv))) 256 rfl rfl (bkCells (HS.get (.head _)) 0 _ (whole _)) (by rfl) (by kernel_rfl) (by simp [List.length_map, hq, nums_length])) rfl ?_
  refine w_call [.agg ((nums .u8 (q.map bv))).toArray] Try.func46 (by kernel_rfl) (by rfl) rfl ?_
  refine (gens_root _ q hq).mono ?_
  rintro e w14 ⟨oa12, nc13, rfl, hk_⟩
  replace HS := HS.more hk_
  clear hk_
  obtain ⟨ag_, hag, hcg⟩ := cells_of (k := 0) (HS.get (.head _)) (by rw [hdsB, List.length_map, List.length_range]; decide)
  subst hag
  refine ⟨_, rfl, ?_⟩
  refine p_run _ (x_index (A := ag_) (j := 0) (sz := 1) rfl rfl rfl Try.underlying93 (by kernel_rfl) (by omega) rfl) rfl ?_
  refine p_run (l' := (.agg ((nums .u8 (q.map bv))).toArray :: .int .u64 (s : Int) :: .pointer (some ⟨g5, 0, none⟩) :: undef :: .slice none 0 0 :: .int .u64 0 :: U4r2 (undef :: undef :: .agg ((nums .u8 (q.map bv))).toArray :: .slice (some ag_) 8 nc13 :: .pointer (some ((ag_).add (0))) :: .int .u64 (uv (hdB q 0)) :: U32r2 (U8r2 (undef :: []))))) _ (x_load (.int .u64 (uv (hdB q 0))) rfl rfl hcg (by rfl)) rfl ?_
  refine p_run _ (x_assign (.int .u64 (uv (hdB q 0))) rfl rfl) rfl ?_
  refine wpList_nil ?_
  refine hK9 _ _ ?_
  refine wp_seq_k (fun K15 hK16 => ?_)
  refine c_region (fun ops18 hops17 => ?_)
  clear hops17
  refine p_run _ (x_assign (.slice none 0 0) rfl rfl) rfl ?_
  refine wpList_nil ?_
  refine hK16 _ _ ?_
  refine wp_seq_k (fun K19 hK20 => ?_)
  refine wp_seq_k (fun K21 hK22 => ?_)
  refine c_region (fun ops24 hops23 => ?_)
  clear hops23
  refine p_run _ (x_move (.int .i64 0) rfl rfl) rfl ?_
  refine wpList_nil ?_
  refine fr_at (l' := (.agg ((nums .u8 (q.map bv))).toArray :: .int .u64 (s : Int) :: .pointer (some ⟨g5, 0, none⟩) :: undef :: .slice none 0 0 :: .int .u64 0 :: .int .u64 (uv (hdB q 0)) :: .slice none 0 0 :: U4r2 (.agg ((nums .u8 (q.map bv))).toArray :: .slice (some ag_) 8 nc13 :: .pointer (some ((ag_).add (0))) :: .int .u64 (uv (hdB q 0)) :: .int .i64 0 :: U32r2 (U8r2 ([]))))) rfl ?_
  refine hK22 _ _ ?_
  refine wp_block ?_
  replace HS := HS.nil kByte rfl 5
  refine c_loop (ι := Nat × Value) (fun i_ a_ w_ => match i_ with | (j, u7) => ∃ (u8 : Value) (u9 : Value) (u17 : Value) (u18 : Value) (u19 : Value) (u20 : Value) (u21 : Value) (u22 : Value) (u23 : Value) (u24 : Value) (u25 : Value) (u26 : Value) (u27 : Value) (u28 : Value), a_ = fr (.agg ((nums .u8 (q.map bv))).toArray :: .int .u64 (s : Int) :: .pointer (some ⟨g5, 0, none⟩) :: undef :: .slice none 0 0 :: .int .u64 0 :: .int .u64 (uv (hdB q 0)) :: u7 :: u8 :: u9 :: undef :: undef :: .agg ((nums .u8 (q.map bv))).toArray :: .slice (some ag_) 8 nc13 :: .pointer (some ((ag_).add (0))) :: .int .u64 (uv (hdB q 0)) :: .int .i64 (j : Int) :: u17 :: u18 :: u19 :: u20 :: u21 :: u22 :: u23 :: u24 :: u25 :: u26 :: u27 :: u28 :: U16r2 (U8r2 (U4r2 ([])))) ∧ St w (fun _ => False) w_ ([row kByte rfl 5 u7 ((List.range j).flatMap (bdS q)), blk g5 ((nums .u8 (q.map bv))) 38]) ∧ (j ≤ 8)) (fun i_ => match i_ with | (j, u7) => 8 - j) (0, .slice none 0 0) ?_ ?_
  ·exact ⟨_, _, _, _, _, _, _, _, _, _, _, _, _, _, rfl, (((HS.front 1 rfl).drop.front 1 rfl).front 1 rfl), (by omega)⟩
  ·clear HS
   rintro ⟨j, u7⟩ a_ w27 ⟨u8, u9, u17, u18, u19, u20, u21, u22, u23, u24, u25, u26, u27, u28, rfl, HS, hI⟩ J25 hJ26
   have hj := hI
   refine wp_seq_k (fun K28 hK29 => ?_)
   refine c_region (fun ops31 hops30 => ?_)
   clear hops30
   refine p_run _ (x_cmp (k := .i64) (m := (j : Int)) (n := 8) .lss (decide ((j : Int) < 8)) rfl rfl rfl rfl rfl) rfl ?_
   refine wpList_nil ?_
   refine hK29 _ _ ?_
   refine wp_seq_k (fun K32 hK33 => ?_)
   refine c_cond (t := decide ((j : Int) < 8)) rfl (fun hc34 => ?_) (fun hc34 => ?_)
   ·have hlt : j < 8 := by have := of_decide_eq_true hc34; omega
    have hsl := stJ_len hq hj
    refine wp_skip ?_
    refine hK33 _ _ ?_
    refine wp_seq_k (fun K35 hK36 => ?_)
    refine wp_block ?_
    refine wp_seq_k (fun K37 hK38 => ?_)
    refine c_region (fun ops40 hops39 => ?_)
    clear hops39
    refine p_run _ (x_move (.int .i64 (j : Int)) rfl rfl) rfl ?_
    refine p_run _ (x_assign (.int .i64 (j : Int)) rfl rfl) rfl ?_
    refine wpList_nil ?_
    refine hK38 _ _ ?_
    refine wp_seq_k (fun K41 hK42 => ?_)
    refine c_region (fun ops44 hops43 => ?_)
    clear hops43
    refine p_run _ (x_move (.int .i64 (j : Int)) rfl rfl) rfl ?_
    refine p_run _ (x_arith (k := .i64) (m := (j : Int)) (n := 32) .mul (((32 * j : Nat) : Int)) rfl rfl rfl (show IntKind.i64.wrap ((j : Int) * 32) = ((32 * j : Nat) : Int) from ((wr64' (by omega)).trans (by omega))) rfl) rfl ?_
    refine p_run _ (x_assign (.int .i64 ((32 * j : Nat) : Int)) rfl rfl) rfl ?_
    refine wpList_nil ?_
    refine fr_at (l' := (.agg ((nums .u8 (q.map bv))).toArray :: .int .u64 (s : Int) :: .pointer (some ⟨g5, 0, none⟩) :: undef :: .slice none 0 0 :: .int .u64 0 :: .int .u64 (uv (hdB q 0)) :: u7 :: .int .i64 (j : Int) :: .int .i64 ((32 * j : Nat) : Int) :: undef :: undef :: .agg ((nums .u8 (q.map bv))).toArray :: .slice (some ag_) 8 nc13 :: .pointer (some ((ag_).add (0))) :: .int .u64 (uv (hdB q 0)) :: .int .i64 (j : Int) :: .bool (decide ((j : Int) < 8)) :: .int .i64 (j : Int) :: .int .i64 (j : Int) :: .int .i64 ((32 * j : Nat) : Int) :: u21 :: u22 :: u23 :: u24 :: u25 :: u26 :: u27 :: u28 :: U16r2 (U8r2 (U4r2 ([]))))) rfl ?_
    refine hK42 _ _ ?_
    refine c_region (fun ops46 hops45 => ?_)
    clear hops45
    refine p_run _ (x_move (u7) rfl rfl) rfl ?_
    refine p_run _ (x_move (.int .i64 ((32 * j : Nat) : Int)) rfl rfl) rfl ?_
    refine p_run _ (x_arith (k := .i64) (m := ((32 * j : Nat) : Int)) (n := 8) .add (((32 * j + 8 : Nat) : Int)) rfl rfl rfl (show IntKind.i64.wrap (((32 * j : Nat) : Int) + 8) = ((32 * j + 8 : Nat) : Int) from ((wr64' (by omega)).trans (by omega))) rfl) rfl ?_
    refine p_run _ (x_move (.int .i64 ((32 * j : Nat) : Int)) rfl rfl) rfl ?_
    refine p_run _ (x_arith (k := .i64) (m := ((32 * j : Nat) : Int)) (n := 32) .add (((32 * j + 32 : Nat) : Int)) rfl rfl rfl (show IntKind.i64.wrap (((32 * j : Nat) : Int) + 32) = ((32 * j + 32 : Nat) : Int) from ((wr64' (by omega)).trans (by omega))) rfl) rfl ?_
    refine p_run (.slice (some ⟨g5, 0 + (32 * j + 8 : Nat), none⟩) 24 (256 - (32 * j + 8))) ((x_sliceArr (sz := 1) (L := (some (.tmp 23))) (H := (some (.tmp 25))) (lo := (32 * j + 8 : Nat)) (hi := (32 * j + 32 : Nat)) ⟨g5, 0 + (32 * j + 8 : Nat), none⟩ rfl rfl Try.underlying38 (by kernel_rfl) ⟨_, _, rfl, (by omega), rfl⟩ ⟨_, _, rfl, (by omega), rfl⟩ (by omega) (by omega) (by rw [if_neg (by omega), add_mk, Nat.mul_one])).trans (by first | rfl | (rw [show (32 * j + 32 : Nat) - (32 * j + 8 : Nat) = 24 from (by omega), show 256 - (32 * j + 8 : Nat) = 256 - (32 * j + 8) from (by omega)]))) rfl ?_
    refine St.wAppend HS (.int .u8 0) 1 Try.underlying24 (by kernel_rfl) rfl (by decide) (by decide) (bdS q j) _ _ _ rfl rfl (by have h := blk_from (k := 0 + (32 * j + 8)) (n := 24) (HS.get (.tail _ (.head _))) (by omega); have hl : (bdS q j).length = 24 := (by unfold bdS; rw [List.length_take, List.length_drop]; omega); rw [Nat.zero_add] at h ⊢; rw [← hl]; exact h) (fun _ _ h => h) (by omega) ?_
    clear HS
    intro v47 w48 HS
    refine fr_to (l' := (.agg ((nums .u8 (q.map bv))).toArray :: .int .u64 (s : Int) :: .pointer (some ⟨g5, 0, none⟩) :: undef :: .slice none 0 0 :: .int .u64 0 :: .int .u64 (uv (hdB q 0)) :: u7 :: .int .i64 (j : Int) :: .int .i64 ((32 * j : Nat) : Int) :: undef :: undef :: .agg ((nums .u8 (q.map bv))).toArray :: .slice (some ag_) 8 nc13 :: .pointer (some ((ag_).add (0))) :: .int .u64 (uv (hdB q 0)) :: .int .i64 (j : Int) :: .bool (decide ((j : Int) < 8)) :: .int .i64 (j : Int) :: .int .i64 (j : Int) :: .int .i64 ((32 * j : Nat) : Int) :: u7 :: .int .i64 ((32 * j : Nat) : Int) :: .int .i64 ((32 * j + 8 : Nat) : Int) :: .int .i64 ((32 * j : Nat) : Int) :: .int .i64 ((32 * j + 32 : Nat) : Int) :: .slice (some ⟨g5, 0 + (32 * j + 8 : Nat), none⟩) 24 (256 - (32 * j + 8)) :: v47 :: u28 :: U16r2 (U8r2 (U4r2 ([]))))) rfl ?_
    refine p_run _ (x_assign (v47) rfl rfl) rfl ?_
    refine wpList_nil ?_
    refine hK36 _ _ ?_
    refine c_region (fun ops50 hops49 => ?_)
    clear hops49
    refine p_run _ (x_arith (k := .i64) (m := (j : Int)) (n := 1) .add (((j + 1 : Nat) : Int)) rfl rfl rfl (show IntKind.i64.wrap ((j : Int) + 1) = ((j + 1 : Nat) : Int) from ((wr64' (by omega)).trans (by omega))) rfl) rfl ?_
    refine p_run _ (x_move (.int .i64 ((j + 1 : Nat) : Int)) rfl rfl) rfl ?_
    refine wpList_nil ?_
    refine fr_at (l' := (.agg ((nums .u8 (q.map bv))).toArray :: .int .u64 (s : Int) :: .pointer (some ⟨g5, 0, none⟩) :: undef :: .slice none 0 0 :: .int .u64 0 :: .int .u64 (uv (hdB q 0)) :: v47 :: .int .i64 (j : Int) :: .int .i64 ((32 * j : Nat) : Int) :: undef :: undef :: .agg ((nums .u8 (q.map bv))).toArray :: .slice (some ag_) 8 nc13 :: .pointer (some ((ag_).add (0))) :: .int .u64 (uv (hdB q 0)) :: .int .i64 ((j + 1 : Nat) : Int) :: .bool (decide ((j : Int) < 8)) :: .int .i64 (j : Int) :: .int .i64 (j : Int) :: .int .i64 ((32 * j : Nat) : Int) :: u7 :: .int .i64 ((32 * j : Nat) : Int) :: .int .i64 ((32 * j + 8 : Nat) : Int) :: .int .i64 ((32 * j : Nat) : Int) :: .int .i64 ((32 * j + 32 : Nat) : Int) :: .slice (some ⟨g5, 0 + (32 * j + 8 : Nat), none⟩) 24 (256 - (32 * j + 8)) :: v47 :: .int .i64 ((j + 1 : Nat) : Int) :: U16r2 (U8r2 (U4r2 ([]))))) rfl ?_
    rw [st_snoc] at HS
    refine hJ26 (j + 1, v47) _ _ ?_ ?_
    ·show 8 - (j + 1) < 8 - j; omega
    ·exact ⟨_, _, _, _, _, _, _, _, _, _, _, _, _, _, rfl, ((HS.front 1 rfl).front 1 rfl), (by omega)⟩
   ·have hlt : j = 8 := by have := of_decide_eq_false hc34; omega
    subst hlt
    rw [show (List.range 8).flatMap (bdS q) = stB q from rfl] at HS
    obtain ⟨A51, c52, hv53, hcp54, -⟩ := row_reads (HS.get (.head _))
    rw [stB_len hq] at hv53 hcp54
    subst hv53
    obtain ⟨ad, hA⟩ := rd_some (row_rd (HS.get (.head _))).2.2 (by rw [stB_len hq]; omega)
    subst hA
    refine wp_exit ?_
    refine hK20 _ _ ?_
    refine wp_seq_k (fun K55 hK56 => ?_)
    refine c_region (fun ops58 hops57 => ?_)
    clear hops57
    refine p_run _ (x_move (.slice (some ad) 192 c52) rfl rfl) rfl ?_
    refine w_call [.slice (some ad) 192 c52] Try.func54 (by kernel_rfl) (by rfl) rfl ?_
    refine (St.newR0 HS _ _ _ (stB q) (stB_len hq).symm (row_rd (HS.get (.head _))).2.2 (by have := (row_rd (HS.get (.head _))).2.1; rw [stB_len hq]; omega) (by rw [stB_len hq]; omega)).mono ?_
    clear HS
    rintro e w61 ⟨g59, g60, rfl, HS⟩
    refine ⟨_, rfl, ?_⟩
    refine w_call [.pointer (some ⟨g60, 0, none⟩), .int .i64 2] Try.func55 (by kernel_rfl) (by rfl) rfl ?_
    refine (St.num HS 2).mono ?_
    clear HS
    rintro e w62 ⟨he_, HS⟩
    rw [rn_sz hq] at he_
    subst he_
    replace HS := HS.drop
    refine ⟨_, rfl, ?_⟩
    refine p_run _ (x_conv (k := .u64) (m := (szR q : Int)) .i64 ((szR q : Int)) rfl (by rw [Try.underlying25]; rfl) Try.underlying3 rfl (wr64' (by have := szR_lt q; omega))) rfl ?_
    refine p_run _ (x_assign (.int .i64 (szR q : Int)) rfl rfl) rfl ?_
    refine wpList_nil ?_
    obtain ⟨qz63, hqz63⟩ : ∃ q_ : V8, q_ = ⟨.int .i64 (8 : Int), .bool (decide ((8 : Int) < 8)), u18, u19, u20, u21, u22, u23⟩ := ⟨_, rfl⟩
    obtain ⟨qz64, hqz64⟩ : ∃ q_ : V8, q_ = ⟨u24, u25, u26, u27, u28, .slice (some ad) 192 c52, .pointer (some ⟨g60, 0, none⟩), .int .u64 (szR q : Int)⟩ := ⟨_, rfl⟩
    refine fr_at (l' := (.agg ((nums .u8 (q.map bv))).toArray :: .int .u64 (s : Int) :: .pointer (some ⟨g5, 0, none⟩) :: undef :: .slice none 0 0 :: .int .u64 0 :: .int .u64 (uv (hdB q 0)) :: .slice (some ad) 192 c52 :: u8 :: u9 :: .int .i64 (szR q : Int) :: undef :: .agg ((nums .u8 (q.map bv))).toArray :: .slice (some ag_) 8 nc13 :: .pointer (some ((ag_).add (0))) :: .int .u64 (uv (hdB q 0)) :: V8.l qz63 (V8.l qz64 (.int .i64 (szR q : Int) :: U16r2 (U8r2 ([])))))) (by subst hqz63 hqz64; rfl) ?_
    refine hK56 _ _ ?_
    refine wp_seq_k (fun K65 hK66 => ?_)
    refine wp_seq_k (fun K67 hK68 => ?_)
    rcases op_split q s with ⟨hok, h1⟩ | ⟨hok, h1, h2⟩ | ⟨hok, h1, h2, h3⟩ | ⟨hok, h1, h2, h3, h4⟩ | ⟨hok, h1, h2, h3, h4⟩
    ·refine c_region (fun ops70 hops69 => ?_)
     refine p_run _ (x_move (.int .u64 (uv (hdB q 0))) rfl rfl) rfl ?_
     refine p_run _ (x_cmp (k := .u64) (m := (uv (hdB q 0))) (n := 0) .eql true rfl rfl rfl (by rw [h1]; rfl) rfl) rfl ?_
     refine p_run _ (x_move (.bool true) rfl rfl) rfl ?_
     refine p_off (by rw [hops69]; rfl) rfl ?_
     refine p_off (by rw [hops69]; rfl) rfl ?_
     refine p_off (by rw [hops69]; rfl) rfl ?_
     refine p_off (l' := (.agg ((nums .u8 (q.map bv))).toArray :: .int .u64 (s : Int) :: .pointer (some ⟨g5, 0, none⟩) :: undef :: .slice none 0 0 :: .int .u64 0 :: .int .u64 (uv (hdB q 0)) :: .slice (some ad) 192 c52 :: u8 :: u9 :: .int .i64 (szR q : Int) :: undef :: .agg ((nums .u8 (q.map bv))).toArray :: .slice (some ag_) 8 nc13 :: .pointer (some ((ag_).add (0))) :: .int .u64 (uv (hdB q 0)) :: V8.l qz63 (V8.l qz64 (.int .i64 (szR q : Int) :: .int .u64 (uv (hdB q 0)) :: .bool true :: .bool true :: U16r2 (U4r2 (undef :: [])))))) (by rw [hops69]; rfl) rfl ?_
     refine p_run _ (x_pick true (.bool true) (undef) (.bool true) rfl rfl rfl rfl rfl) rfl ?_
     refine p_run _ (x_move (.bool true) rfl rfl) rfl ?_
     refine p_off (by rw [hops69]; rfl) rfl ?_
     refine p_off (by rw [hops69]; rfl) rfl ?_
     refine p_run _ (x_pick true (.bool true) (undef) (.bool true) rfl rfl rfl rfl rfl) rfl ?_
     clear hops69
     refine wpList_nil ?_
     obtain ⟨qz71, hqz71⟩ : ∃ q_ : V8, q_ = ⟨.int .i64 (szR q : Int), .int .u64 (uv (hdB q 0)), .bool true, .bool true, undef, undef, undef, undef⟩ := ⟨_, rfl⟩
     refine fr_at (l' := (.agg ((nums .u8 (q.map bv))).toArray :: .int .u64 (s : Int) :: .pointer (some ⟨g5, 0, none⟩) :: undef :: .slice none 0 0 :: .int .u64 0 :: .int .u64 (uv (hdB q 0)) :: .slice (some ad) 192 c52 :: u8 :: u9 :: .int .i64 (szR q : Int) :: undef :: .agg ((nums .u8 (q.map bv))).toArray :: .slice (some ag_) 8 nc13 :: .pointer (some ((ag_).add (0))) :: .int .u64 (uv (hdB q 0)) :: V8.l qz63 (V8.l qz64 (V8.l qz71 (.bool true :: .bool true :: undef :: undef :: .bool true :: U8r2 (U4r2 ([]))))))) (by subst hqz71; rfl) ?_
     refine hK68 _ _ ?_
     refine c_true rfl ?_
     refine wp_seq_k (fun K72 hK73 => ?_)
     refine c_region (fun ops75 hops74 => ?_)
     clear hops74
     refine p_run _ (x_assign (.slice none 0 0) rfl rfl) rfl ?_
     refine p_run _ (x_assign (.int .u64 0) rfl rfl) rfl ?_
     refine wpList_nil ?_
     refine hK73 _ _ ?_
     refine wp_ret ?_
     try simp only [Exit.inBlock, Exit.then]
     refine c_ret (.tuple [.slice none 0 0, .int .u64 0].toArray) (r_tmp2 rfl rfl rfl) ?_
     replace HS := HS.rdpNil
     have e1 : cnU q s = [] := if_neg (by rw [hok]; decide)
     have e2 : gnU q s = 0 := if_neg (by rw [hok]; decide)
     rw [e1, e2]
     exact ⟨none, 0, rfl, ((HS.front 1 rfl).drop.front 1 rfl).drop⟩
    ·refine c_region (fun ops77 hops76 => ?_)
     refine p_run _ (x_move (.int .u64 (uv (hdB q 0))) rfl rfl) rfl ?_
     refine p_run _ (x_cmp (k := .u64) (m := (uv (hdB q 0))) (n := 0) .eql false rfl rfl rfl (by simp [cmpB, uv_nz h1]) rfl) rfl ?_
     refine p_run _ (x_move (.bool false) rfl rfl) rfl ?_
     refine p_on rfl (by rw [hops76]; rfl) ?_
     refine p_run _ (x_move (.int .u64 (uv (hdB q 0))) rfl rfl) rfl ?_
     refine p_on rfl (by rw [hops76]; rfl) ?_
     refine p_run (l' := (.agg ((nums .u8 (q.map bv))).toArray :: .int .u64 (s : Int) :: .pointer (some ⟨g5, 0, none⟩) :: undef :: .slice none 0 0 :: .int .u64 0 :: .int .u64 (uv (hdB q 0)) :: .slice (some ad) 192 c52 :: u8 :: u9 :: .int .i64 (szR q : Int) :: undef :: .agg ((nums .u8 (q.map bv))).toArray :: .slice (some ag_) 8 nc13 :: .pointer (some ((ag_).add (0))) :: .int .u64 (uv (hdB q 0)) :: V8.l qz63 (V8.l qz64 (.int .i64 (szR q : Int) :: .int .u64 (uv (hdB q 0)) :: .bool false :: .bool false :: .int .u64 (uv (hdB q 0)) :: .int .u64 (uv (hdB q 0) % 2) :: U16r2 (undef :: undef :: undef :: []))))) _ (x_rem (k := .u64) (m := (uv (hdB q 0))) (n := 2) ((uv (hdB q 0) % 2)) rfl rfl rfl (by decide) (mod2 _)) rfl ?_
     refine p_on rfl (by rw [hops76]; rfl) ?_
     refine p_run _ (x_move (.int .u64 (s : Int)) rfl rfl) rfl ?_
     refine p_on rfl (by rw [hops76]; rfl) ?_
     refine p_run _ (x_cmp (k := .u64) (m := (uv (hdB q 0) % 2)) (n := (s : Int)) .neq true rfl rfl rfl (by rw [uv_mod]; simp [cmpB]; omega) rfl) rfl ?_
     refine p_run _ (x_pick false (.bool true) (.bool true) (.bool true) rfl rfl rfl rfl rfl) rfl ?_
     refine p_run _ (x_move (.bool true) rfl rfl) rfl ?_
     refine p_off (by rw [hops76]; rfl) rfl ?_
     refine p_off (by rw [hops76]; rfl) rfl ?_
     refine p_run (l' := (.agg ((nums .u8 (q.map bv))).toArray :: .int .u64 (s : Int) :: .pointer (some ⟨g5, 0, none⟩) :: undef :: .slice none 0 0 :: .int .u64 0 :: .int .u64 (uv (hdB q 0)) :: .slice (some ad) 192 c52 :: u8 :: u9 :: .int .i64 (szR q : Int) :: undef :: .agg ((nums .u8 (q.map bv))).toArray :: .slice (some ag_) 8 nc13 :: .pointer (some ((ag_).add (0))) :: .int .u64 (uv (hdB q 0)) :: V8.l qz63 (V8.l qz64 (.int .i64 (szR q : Int) :: .int .u64 (uv (hdB q 0)) :: .bool false :: .bool false :: .int .u64 (uv (hdB q 0)) :: .int .u64 (uv (hdB q 0) % 2) :: .int .u64 (s : Int) :: .bool true :: .bool true :: .bool true :: undef :: undef :: .bool true :: U8r2 (U4r2 ([])))))) _ (x_pick true (.bool true) (undef) (.bool true) rfl rfl rfl rfl rfl) rfl ?_
     clear hops76
     refine wpList_nil ?_
     refine hK68 _ _ ?_
     refine c_true rfl ?_
     refine wp_seq_k (fun K78 hK79 => ?_)
     refine c_region (fun ops81 hops80 => ?_)
     clear hops80
     refine p_run _ (x_assign (.slice none 0 0) rfl rfl) rfl ?_
     refine p_run _ (x_assign (.int .u64 0) rfl rfl) rfl ?_
     refine wpList_nil ?_
     refine hK79 _ _ ?_
     refine wp_ret ?_
     try simp only [Exit.inBlock, Exit.then]
     refine c_ret (.tuple [.slice none 0 0, .int .u64 0].toArray) (r_tmp2 rfl rfl rfl) ?_
     replace HS := HS.rdpNil
     have e1 : cnU q s = [] := if_neg (by rw [hok]; decide)
     have e2 : gnU q s = 0 := if_neg (by rw [hok]; decide)
     rw [e1, e2]
     exact ⟨none, 0, rfl, ((HS.front 1 rfl).drop.front 1 rfl).drop⟩
    ·refine c_region (fun ops83 hops82 => ?_)
     refine p_run _ (x_move (.int .u64 (uv (hdB q 0))) rfl rfl) rfl ?_
     refine p_run _ (x_cmp (k := .u64) (m := (uv (hdB q 0))) (n := 0) .eql false rfl rfl rfl (by simp [cmpB, uv_nz h1]) rfl) rfl ?_
     refine p_run _ (x_move (.bool false) rfl rfl) rfl ?_
     refine p_on rfl (by rw [hops82]; rfl) ?_
     refine p_run _ (x_move (.int .u64 (uv (hdB q 0))) rfl rfl) rfl ?_
     refine p_on rfl (by rw [hops82]; rfl) ?_
     refine p_run (l' := (.agg ((nums .u8 (q.map bv))).toArray :: .int .u64 (s : Int) :: .pointer (some ⟨g5, 0, none⟩) :: undef :: .slice none 0 0 :: .int .u64 0 :: .int .u64 (uv (hdB q 0)) :: .slice (some ad) 192 c52 :: u8 :: u9 :: .int .i64 (szR q : Int) :: undef :: .agg ((nums .u8 (q.map bv))).toArray :: .slice (some ag_) 8 nc13 :: .pointer (some ((ag_).add (0))) :: .int .u64 (uv (hdB q 0)) :: V8.l qz63 (V8.l qz64 (.int .i64 (szR q : Int) :: .int .u64 (uv (hdB q 0)) :: .bool false :: .bool false :: .int .u64 (uv (hdB q 0)) :: .int .u64 (uv (hdB q 0) % 2) :: U16r2 (undef :: undef :: undef :: []))))) _ (x_rem (k := .u64) (m := (uv (hdB q 0))) (n := 2) ((uv (hdB q 0) % 2)) rfl rfl rfl (by decide) (mod2 _)) rfl ?_
     refine p_on rfl (by rw [hops82]; rfl) ?_
     refine p_run _ (x_move (.int .u64 (s : Int)) rfl rfl) rfl ?_
     refine p_on rfl (by rw [hops82]; rfl) ?_
     refine p_run _ (x_cmp (k := .u64) (m := (uv (hdB q 0) % 2)) (n := (s : Int)) .neq false rfl rfl rfl (by rw [uv_mod, h2]; simp [cmpB]) rfl) rfl ?_
     refine p_run _ (x_pick false (.bool true) (.bool false) (.bool false) rfl rfl rfl rfl rfl) rfl ?_
     refine p_run _ (x_move (.bool false) rfl rfl) rfl ?_
     refine p_on rfl (by rw [hops82]; rfl) ?_
     refine p_run _ (x_move (.int .i64 (szR q : Int)) rfl rfl) rfl ?_
     refine p_on rfl (by rw [hops82]; rfl) ?_
     refine p_run _ (x_cmp (k := .i64) (m := (szR q : Int)) (n := 186) .gtr true rfl rfl rfl (show decide _ = true from decide_eq_true (by omega)) rfl) rfl ?_
     refine p_run (l' := (.agg ((nums .u8 (q.map bv))).toArray :: .int .u64 (s : Int) :: .pointer (some ⟨g5, 0, none⟩) :: undef :: .slice none 0 0 :: .int .u64 0 :: .int .u64 (uv (hdB q 0)) :: .slice (some ad) 192 c52 :: u8 :: u9 :: .int .i64 (szR q : Int) :: undef :: .agg ((nums .u8 (q.map bv))).toArray :: .slice (some ag_) 8 nc13 :: .pointer (some ((ag_).add (0))) :: .int .u64 (uv (hdB q 0)) :: V8.l qz63 (V8.l qz64 (.int .i64 (szR q : Int) :: .int .u64 (uv (hdB q 0)) :: .bool false :: .bool false :: .int .u64 (uv (hdB q 0)) :: .int .u64 (uv (hdB q 0) % 2) :: .int .u64 (s : Int) :: .bool false :: .bool false :: .bool false :: .int .i64 (szR q : Int) :: .bool true :: .bool true :: U8r2 (U4r2 ([])))))) _ (x_pick false (.bool true) (.bool true) (.bool true) rfl rfl rfl rfl rfl) rfl ?_
     clear hops82
     refine wpList_nil ?_
     refine hK68 _ _ ?_
     refine c_true rfl ?_
     refine wp_seq_k (fun K84 hK85 => ?_)
     refine c_region (fun ops87 hops86 => ?_)
     clear hops86
     refine p_run _ (x_assign (.slice none 0 0) rfl rfl) rfl ?_
     refine p_run _ (x_assign (.int .u64 0) rfl rfl) rfl ?_
     refine wpList_nil ?_
     refine hK85 _ _ ?_
     refine wp_ret ?_
     try simp only [Exit.inBlock, Exit.then]
     refine c_ret (.tuple [.slice none 0 0, .int .u64 0].toArray) (r_tmp2 rfl rfl rfl) ?_
     replace HS := HS.rdpNil
     have e1 : cnU q s = [] := if_neg (by rw [hok]; decide)
     have e2 : gnU q s = 0 := if_neg (by rw [hok]; decide)
     rw [e1, e2]
     exact ⟨none, 0, rfl, ((HS.front 1 rfl).drop.front 1 rfl).drop⟩
    ·have hcl := ct_len hq h3
     refine c_region (fun ops89 hops88 => ?_)
     refine p_run _ (x_move (.int .u64 (uv (hdB q 0))) rfl rfl) rfl ?_
     refine p_run _ (x_cmp (k := .u64) (m := (uv (hdB q 0))) (n := 0) .eql false rfl rfl rfl (by simp [cmpB, uv_nz h1]) rfl) rfl ?_
     refine p_run _ (x_move (.bool false) rfl rfl) rfl ?_
     refine p_on rfl (by rw [hops88]; rfl) ?_
     refine p_run _ (x_move (.int .u64 (uv (hdB q 0))) rfl rfl) rfl ?_
     refine p_on rfl (by rw [hops88]; rfl) ?_
     refine p_run (l' := (.agg ((nums .u8 (q.map bv))).toArray :: .int .u64 (s : Int) :: .pointer (some ⟨g5, 0, none⟩) :: undef :: .slice none 0 0 :: .int .u64 0 :: .int .u64 (uv (hdB q 0)) :: .slice (some ad) 192 c52 :: u8 :: u9 :: .int .i64 (szR q : Int) :: undef :: .agg ((nums .u8 (q.map bv))).toArray :: .slice (some ag_) 8 nc13 :: .pointer (some ((ag_).add (0))) :: .int .u64 (uv (hdB q 0)) :: V8.l qz63 (V8.l qz64 (.int .i64 (szR q : Int) :: .int .u64 (uv (hdB q 0)) :: .bool false :: .bool false :: .int .u64 (uv (hdB q 0)) :: .int .u64 (uv (hdB q 0) % 2) :: U16r2 (undef :: undef :: undef :: []))))) _ (x_rem (k := .u64) (m := (uv (hdB q 0))) (n := 2) ((uv (hdB q 0) % 2)) rfl rfl rfl (by decide) (mod2 _)) rfl ?_
     refine p_on rfl (by rw [hops88]; rfl) ?_
     refine p_run _ (x_move (.int .u64 (s : Int)) rfl rfl) rfl ?_
     refine p_on rfl (by rw [hops88]; rfl) ?_
     refine p_run _ (x_cmp (k := .u64) (m := (uv (hdB q 0) % 2)) (n := (s : Int)) .neq false rfl rfl rfl (by rw [uv_mod, h2]; simp [cmpB]) rfl) rfl ?_
     refine p_run _ (x_pick false (.bool true) (.bool false) (.bool false) rfl rfl rfl rfl rfl) rfl ?_
     refine p_run _ (x_move (.bool false) rfl rfl) rfl ?_
     refine p_on rfl (by rw [hops88]; rfl) ?_
     refine p_run _ (x_move (.int .i64 (szR q : Int)) rfl rfl) rfl ?_
     refine p_on rfl (by rw [hops88]; rfl) ?_
     refine p_run _ (x_cmp (k := .i64) (m := (szR q : Int)) (n := 186) .gtr false rfl rfl rfl (show decide _ = false from decide_eq_false (by omega)) rfl) rfl ?_
     refine p_run (l' := (.agg ((nums .u8 (q.map bv))).toArray :: .int .u64 (s : Int) :: .pointer (some ⟨g5, 0, none⟩) :: undef :: .slice none 0 0 :: .int .u64 0 :: .int .u64 (uv (hdB q 0)) :: .slice (some ad) 192 c52 :: u8 :: u9 :: .int .i64 (szR q : Int) :: undef :: .agg ((nums .u8 (q.map bv))).toArray :: .slice (some ag_) 8 nc13 :: .pointer (some ((ag_).add (0))) :: .int .u64 (uv (hdB q 0)) :: V8.l qz63 (V8.l qz64 (.int .i64 (szR q : Int) :: .int .u64 (uv (hdB q 0)) :: .bool false :: .bool false :: .int .u64 (uv (hdB q 0)) :: .int .u64 (uv (hdB q 0) % 2) :: .int .u64 (s : Int) :: .bool false :: .bool false :: .bool false :: .int .i64 (szR q : Int) :: .bool false :: .bool false :: U8r2 (U4r2 ([])))))) _ (x_pick false (.bool true) (.bool false) (.bool false) rfl rfl rfl rfl rfl) rfl ?_
     clear hops88
     refine wpList_nil ?_
     refine hK68 _ _ ?_
     refine c_false rfl ?_
     refine wp_skip ?_
     refine hK66 _ _ ?_
     refine wp_seq_k (fun K90 hK91 => ?_)
     refine c_region (fun ops93 hops92 => ?_)
     clear hops92
     refine p_run _ (x_move (.slice (some ad) 192 c52) rfl rfl) rfl ?_
     refine p_run _ (x_move (.int .i64 (szR q : Int)) rfl rfl) rfl ?_
     refine p_run _ (x_arith (k := .i64) (m := 2) (n := (szR q : Int)) .add (((2 + szR q : Nat) : Int)) rfl rfl rfl (show IntKind.i64.wrap (2 + (szR q : Int)) = ((2 + szR q : Nat) : Int) from ((wr64' (by omega)).trans (by omega))) rfl) rfl ?_
     refine p_run (.slice (some (ad.add 2)) ((ctR q).length) (c52 - 2)) ((x_slice (sz := 1) (L := (some (.const (.int .i64 2)))) (H := (some (.tmp 47))) (lo := 2) (hi := (2 + szR q : Nat)) (some (ad.add 2)) rfl rfl Try.underlying24 (by kernel_rfl) ⟨_, _, rfl, (by decide), rfl⟩ ⟨_, _, rfl, (by omega), rfl⟩ (by omega) (by omega) (by rw [if_neg (by omega)]; simp only [Option.map_some, Nat.mul_one])).trans (by first | rfl | (rw [show (2 + szR q : Nat) - 2 = (ctR q).length from (by omega), show c52 - 2 = c52 - 2 from (by omega)]))) rfl ?_
     refine p_run _ (x_assign (.slice (some (ad.add 2)) ((ctR q).length) (c52 - 2)) rfl rfl) rfl ?_
     refine wpList_nil ?_
     obtain ⟨qz94, hqz94⟩ : ∃ q_ : V8, q_ = ⟨.int .i64 (szR q : Int), .int .u64 (uv (hdB q 0)), .bool false, .bool false, .int .u64 (uv (hdB q 0)), .int .u64 (uv (hdB q 0) % 2), .int .u64 (s : Int), .bool false⟩ := ⟨_, rfl⟩
     obtain ⟨qz95, hqz95⟩ : ∃ q_ : V8, q_ = ⟨.bool false, .bool false, .int .i64 (szR q : Int), .bool false, .bool false, .slice (some ad) 192 c52, .int .i64 (szR q : Int), .int .i64 ((2 + szR q : Nat) : Int)⟩ := ⟨_, rfl⟩
     refine fr_at (l' := (.agg ((nums .u8 (q.map bv))).toArray :: .int .u64 (s : Int) :: .pointer (some ⟨g5, 0, none⟩) :: undef :: .slice none 0 0 :: .int .u64 0 :: .int .u64 (uv (hdB q 0)) :: .slice (some ad) 192 c52 :: u8 :: u9 :: .int .i64 (szR q : Int) :: .slice (some (ad.add 2)) ((ctR q).length) (c52 - 2) :: .agg ((nums .u8 (q.map bv))).toArray :: .slice (some ag_) 8 nc13 :: .pointer (some ((ag_).add (0))) :: .int .u64 (uv (hdB q 0)) :: V8.l qz63 (V8.l qz64 (V8.l qz94 (V8.l qz95 (.slice (some (ad.add 2)) ((ctR q).length) (c52 - 2) :: U8r2 ([]))))))) (by subst hqz94 hqz95; rfl) ?_
     refine hK91 _ _ ?_
     refine wp_seq_k (fun K96 hK97 => ?_)
     refine wp_seq_k (fun K98 hK99 => ?_)
     refine free_frame (n := 6) (T := _) [0, 0, 0, 4, 14, 31] [(0, 49), (1, 50), (2, 51), (3, 52), (4, 53), (5, 54)] (fun bq_ vq_ w_ => qv ((fun i_ => match i_ with | 0 => some (.agg ((nums .u8 (q.map bv))).toArray) | 1 => some (.int .u64 (uv (hdB q 0))) | 2 => some (.slice (some (ad.add 2)) ((ctR q).length) (c52 - 2)) | 5 => some (.bool true) | _ => none) : Nat → Option Value) bq_ vq_ ∧ cond (bq_ 4) (∃ (oa102 : Option Addr) (nc103 : Nat), vq_ 3 = .slice oa102 ((rtS (ctR q)).length) nc103 ∧ vq_ 4 = .agg ((nums .u8 ((pgB (hdB q 0) (rtS (ctR q))).map bv))).toArray ∧ St w (fun _ => False) w_ ([row kByte rfl 5 (.slice oa102 ((rtS (ctR q)).length) nc103) (rtS (ctR q)), row kByte rfl 5 (.slice (some ad) 192 c52) (stB q), blk g5 ((nums .u8 (q.map bv))) 38])) (cond (bq_ 3) (∃ (oa102 : Option Addr) (nc103 : Nat), vq_ 3 = .slice oa102 ((rtS (ctR q)).length) nc103 ∧ St w (fun _ => False) w_ ([row kByte rfl 5 (.slice oa102 ((rtS (ctR q)).length) nc103) (rtS (ctR q)), row kByte rfl 5 (.slice (some ad) 192 c52) (stB q), blk g5 ((nums .u8 (q.map bv))) 38])) ((St w (fun _ => False) w_ ([row kByte rfl 5 (.slice (some ad) 192 c52) (stB q), blk g5 ((nums .u8 (q.map bv))) 38]))))) (by kernel_rfl) rfl rfl (by kernel_rfl) (by kernel_rfl) rfl (by kernel_rfl) (by kernel_rfl) ⟨qv_none, HS.draw⟩ ?_ ?_
     ·clear HS
      intro i_ hi_ bq_ vq_ a_ w_ hG hb_ hon hoff hfr hel hval
      obtain ⟨hV, hE⟩ := hG
      have hi_ := List.mem_range.1 hi_
      obtain ⟨l_, rfl⟩ := hfr
      have hv_ := fun (j t : Nat) (v : Value) (h1 : (j, t) ∈ [(0, 49), (1, 50), (2, 51), (3, 52), (4, 53), (5, 54)]) h2 h3 => (hval (j, t) h1 h3).trans (congrArg some (hV j v h2 h3))
      have hcs : i_ = 0 ∨ i_ = 1 ∨ i_ = 2 ∨ i_ = 3 ∨ i_ = 4 ∨ i_ = 5 := by omega
      rcases hcs with rfl | rfl | rfl | rfl | rfl | rfl
      ·rcases hq4 : bq_ 4 with _ | _
       ·rcases hq3 : bq_ 3 with _ | _
        ·have hE0 := hE
         rw [show bq_ 4 = false from hq4] at hE0
         rw [show bq_ 3 = false from hq3] at hE0
         simp only [cond_true, cond_false] at hE0
         have HS := hE0
         have e2 : evl l_ (.tmp 2) = .pointer (some ⟨g5, 0, none⟩) := evl_of ((hel 2 (by decide)).trans rfl)
         exact ⟨_, rfl, fun K_ hK_ => q_op _ (x_loads ((nums .u8 (q.map bv))) 256 rfl e2 (bkCells (HS.get (.tail _ (.head _))) 0 _ (whole _)) (by rfl) (by kernel_rfl) (by simp [List.length_map, hq, nums_length])) (hK_ _ _ ⟨qv_up hV (fun _ h => Option.some.inj h), hE⟩)⟩
        ·have hE0 := hE
         rw [show bq_ 4 = false from hq4] at hE0
         rw [show bq_ 3 = true from hq3] at hE0
         simp only [cond_true, cond_false] at hE0
         obtain ⟨oa102, nc103, hv3, HS⟩ := hE0
         have e2 : evl l_ (.tmp 2) = .pointer (some ⟨g5, 0, none⟩) := evl_of ((hel 2 (by decide)).trans rfl)
         exact ⟨_, rfl, fun K_ hK_ => q_op _ (x_loads ((nums .u8 (q.map bv))) 256 rfl e2 (bkCells (HS.get (.tail _ (.tail _ (.head _)))) 0 _ (whole _)) (by rfl) (by kernel_rfl) (by simp [List.length_map, hq, nums_length])) (hK_ _ _ ⟨qv_up hV (fun _ h => Option.some.inj h), hE⟩)⟩
       ·have hE0 := hE
        rw [show bq_ 4 = true from hq4] at hE0
        simp only [cond_true, cond_false] at hE0
        obtain ⟨oa102, nc103, hv3, hv4, HS⟩ := hE0
        have e2 : evl l_ (.tmp 2) = .pointer (some ⟨g5, 0, none⟩) := evl_of ((hel 2 (by decide)).trans rfl)
        exact ⟨_, rfl, fun K_ hK_ => q_op _ (x_loads ((nums .u8 (q.map bv))) 256 rfl e2 (bkCells (HS.get (.tail _ (.tail _ (.head _)))) 0 _ (whole _)) (by rfl) (by kernel_rfl) (by simp [List.length_map, hq, nums_length])) (hK_ _ _ ⟨qv_up hV (fun _ h => Option.some.inj h), hE⟩)⟩
      ·have e6 : evl l_ (.tmp 6) = .int .u64 (uv (hdB q 0)) := evl_of ((hel 6 (by decide)).trans rfl)
       exact ⟨_, rfl, fun K_ hK_ => q_op _ (x_move (.int .u64 (uv (hdB q 0))) rfl e6) (hK_ _ _ ⟨qv_up hV (fun _ h => Option.some.inj h), hE⟩)⟩
      ·have e11 : evl l_ (.tmp 11) = .slice (some (ad.add 2)) ((ctR q).length) (c52 - 2) := evl_of ((hel 11 (by decide)).trans rfl)
       exact ⟨_, rfl, fun K_ hK_ => q_op _ (x_move (.slice (some (ad.add 2)) ((ctR q).length) (c52 - 2)) rfl e11) (hK_ _ _ ⟨qv_up hV (fun _ h => Option.some.inj h), hE⟩)⟩
      ·have h51 : (fr l_).tmps[51]? = some (.slice (some (ad.add 2)) ((ctR q).length) (c52 - 2)) := hv_ 2 51 _ (by decide) rfl (hon 2 (by decide))
       have hE0 := hE
       rw [show bq_ 4 = false from (hoff 4 (by decide))] at hE0
       rw [show bq_ 3 = false from hb_] at hE0
       simp only [cond_true, cond_false] at hE0
       have HS := hE0
       have e51 : evl l_ (.tmp 51) = .slice (some (ad.add 2)) ((ctR q).length) (c52 - 2) := evl_of h51
       refine ⟨_, rfl, fun K_ hK_ => wp_of_list rfl ?_⟩
       intro ops_
       refine w_call [.slice (some (ad.add 2)) ((ctR q).length) (c52 - 2)] Try.func31 (by kernel_rfl) (by rfl) (by simp only [List.map_cons, List.map_nil, e51] <;> rfl) ?_
       refine (seal_root _ _ _ (ctR q) (sl_cut (row_rd (HS.get (.head _))).2.2 (by rw [stB_len hq]; exact (row_rd (HS.get (.head _))).2.1) 2 (szR q) (by rw [stB_len hq]; omega)).rd (by have := (row_rd (HS.get (.head _))).2.1; omega) (by omega)).mono ?_
       rintro e w900303 ⟨oa900301, nc900302, rfl, hk_⟩
       replace HS := HS.more hk_
       clear hk_
       refine ⟨_, rfl, ?_⟩
       refine wpList_nil ?_
       refine norm_put (hK_ (.slice oa900301 ((rtS (ctR q)).length) nc900302) _ ⟨qv_up hV (by intro _ h; cases h), ?_⟩)
       show cond (bq_ 4) _ _
       rw [show bq_ 4 = false from hoff 4 (by decide), cond_false]
       show cond true _ _
       rw [cond_true]
       exact ⟨oa900301, nc900302, rfl, (((HS.front 2 rfl).front 2 rfl).front 2 rfl)⟩
      ·have h50 : (fr l_).tmps[50]? = some (.int .u64 (uv (hdB q 0))) := hv_ 1 50 _ (by decide) rfl (hon 1 (by decide))
       have h52 := hval (3, 52) (by decide) (hon 3 (by decide))
       have hE0 := hE
       rw [show bq_ 4 = false from hb_] at hE0
       rw [show bq_ 3 = true from (hon 3 (by decide))] at hE0
       simp only [cond_true, cond_false] at hE0
       obtain ⟨oa102, nc103, hv3, HS⟩ := hE0
       rw [hv3] at h52
       have e50 : evl l_ (.tmp 50) = .int .u64 (uv (hdB q 0)) := evl_of h50
       have e52 : evl l_ (.tmp 52) = .slice oa102 ((rtS (ctR q)).length) nc103 := evl_of h52
       refine ⟨_, rfl, fun K_ hK_ => wp_of_list rfl ?_⟩
       intro ops_
       refine w_call [.int .u64 (uv (hdB q 0)), .slice oa102 ((rtS (ctR q)).length) nc103] Try.func30 (by kernel_rfl) (by rfl) (by simp only [List.map_cons, List.map_nil, e50, e52] <;> rfl) ?_
       refine (page_root _ (hdB q 0) _ _ (rtS (ctR q)) (row_rd (HS.get (.head _))).2.2 (row_rd (HS.get (.head _))).2.1 (by rw [rtS_len]; omega)).mono ?_
       rintro e w900401 ⟨rfl, hb_⟩
       replace HS := HS.here hb_
       clear hb_
       refine ⟨_, rfl, ?_⟩
       refine wpList_nil ?_
       refine norm_put (hK_ (.agg ((nums .u8 ((pgB (hdB q 0) (rtS (ctR q))).map bv))).toArray) _ ⟨qv_up hV (by intro _ h; cases h), ?_⟩)
       show cond true _ _
       rw [cond_true]
       exact ⟨oa102, nc103, hv3, rfl, (((HS.front 2 rfl).front 2 rfl).front 2 rfl)⟩
      ·have h53 := hval (4, 53) (by decide) (hon 4 (by decide))
       have hE0 := hE
       rw [show bq_ 4 = true from (hon 4 (by decide))] at hE0
       simp only [cond_true, cond_false] at hE0
       obtain ⟨oa102, nc103, hv3, hv4, HS⟩ := hE0
       rw [hv4] at h53
       have e49 : evl l_ (.tmp 49) = .agg ((nums .u8 (q.map bv))).toArray := evl_of (hv_ 0 49 _ (by decide) rfl (hon 0 (by decide)))
       have e53 : evl l_ (.tmp 53) = .agg ((nums .u8 ((pgB (hdB q 0) (rtS (ctR q))).map bv))).toArray := evl_of h53
       exact ⟨_, rfl, fun K_ hK_ => q_op _ (x_eq .neq (.agg ((nums .u8 (q.map bv))).toArray) (.agg ((nums .u8 ((pgB (hdB q 0) (rtS (ctR q))).map bv))).toArray) (decide ((q.map bv) = ((pgB (hdB q 0) (rtS (ctR q))).map bv))) true rfl e49 e53 (equal_nums Try.underlying38 Try.underlying5 (by kernel_rfl) (by kernel_rfl) _ _ (by simp [List.length_map, hq]) (by simp [List.length_map, pgB_len (hdB q 0) (rtS (ctR q))])) (by rw [decide_eq_false (fun e => h4 (map_bv_inj.1 e))]; rfl) rfl (guard_agg (by kernel_rfl)) (guard_agg (by kernel_rfl))) (hK_ _ _ ⟨qv_up hV (fun _ h => Option.some.inj h), hE⟩)⟩
     intro bq_ vq_ w_ hall hG
     obtain ⟨hV, hE⟩ := hG
     clear HS
     rw [show bq_ 4 = true from hall 4 (by decide)] at hE
     simp only [cond_true] at hE
     obtain ⟨oa102, nc103, hv3, hv4, HS⟩ := hE
     have hv0 := hV 0 _ rfl (hall 0 (by decide))
     have hv1 := hV 1 _ rfl (hall 1 (by decide))
     have hv2 := hV 2 _ rfl (hall 2 (by decide))
     have hv5 := hV 5 _ rfl (hall 5 (by decide))
     clear hV hall
     rw [putSel_fr]
     simp only [tells, List.map_cons, List.map_nil, setAll, List.set_cons_succ, List.set_cons_zero, hv0, hv1, hv2, hv3, hv4, hv5]
     clear hv0 hv1 hv2 hv3 hv4 hv5
     generalize w_ = w900501 at HS ⊢
     refine fr_at (l' := (.agg ((nums .u8 (q.map bv))).toArray :: .int .u64 (s : Int) :: .pointer (some ⟨g5, 0, none⟩) :: undef :: .slice none 0 0 :: .int .u64 0 :: .int .u64 (uv (hdB q 0)) :: .slice (some ad) 192 c52 :: u8 :: u9 :: .int .i64 (szR q : Int) :: .slice (some (ad.add 2)) ((ctR q).length) (c52 - 2) :: .agg ((nums .u8 (q.map bv))).toArray :: .slice (some ag_) 8 nc13 :: .pointer (some ((ag_).add (0))) :: .int .u64 (uv (hdB q 0)) :: V8.l qz63 (V8.l qz64 (V8.l qz94 (V8.l qz95 (.slice (some (ad.add 2)) ((ctR q).length) (c52 - 2) :: .agg ((nums .u8 (q.map bv))).toArray :: .int .u64 (uv (hdB q 0)) :: .slice (some (ad.add 2)) ((ctR q).length) (c52 - 2) :: .slice oa102 ((rtS (ctR q)).length) nc103 :: .agg ((nums .u8 ((pgB (hdB q 0) (rtS (ctR q))).map bv))).toArray :: .bool true :: undef :: undef :: [])))))) rfl ?_
     refine hK99 _ _ ?_
     refine c_true rfl ?_
     refine wp_seq_k (fun K900502 hK900503 => ?_)
     refine c_region (fun ops900505 hops900504 => ?_)
     clear hops900504
     refine p_run _ (x_assign (.slice none 0 0) rfl rfl) rfl ?_
     refine p_run _ (x_assign (.int .u64 0) rfl rfl) rfl ?_
     refine wpList_nil ?_
     refine hK900503 _ _ ?_
     refine wp_ret ?_
     try simp only [Exit.inBlock, Exit.then]
     refine c_ret (.tuple [.slice none 0 0, .int .u64 0].toArray) (r_tmp2 rfl rfl rfl) ?_
     replace HS := HS.rdpNil
     have e1 : cnU q s = [] := if_neg (by rw [hok]; decide)
     have e2 : gnU q s = 0 := if_neg (by rw [hok]; decide)
     rw [e1, e2]
     exact ⟨none, 0, rfl, (((HS.front 1 rfl).drop.front 1 rfl).drop.front 1 rfl).drop⟩
    ·have hcl := ct_len hq h3
     refine c_region (fun ops900507 hops900506 => ?_)
     refine p_run _ (x_move (.int .u64 (uv (hdB q 0))) rfl rfl) rfl ?_
     refine p_run _ (x_cmp (k := .u64) (m := (uv (hdB q 0))) (n := 0) .eql false rfl rfl rfl (by simp [cmpB, uv_nz h1]) rfl) rfl ?_
     refine p_run _ (x_move (.bool false) rfl rfl) rfl ?_
     refine p_on rfl (by rw [hops900506]; rfl) ?_
     refine p_run _ (x_move (.int .u64 (uv (hdB q 0))) rfl rfl) rfl ?_
     refine p_on rfl (by rw [hops900506]; rfl) ?_
     refine p_run (l' := (.agg ((nums .u8 (q.map bv))).toArray :: .int .u64 (s : Int) :: .pointer (some ⟨g5, 0, none⟩) :: undef :: .slice none 0 0 :: .int .u64 0 :: .int .u64 (uv (hdB q 0)) :: .slice (some ad) 192 c52 :: u8 :: u9 :: .int .i64 (szR q : Int) :: undef :: .agg ((nums .u8 (q.map bv))).toArray :: .slice (some ag_) 8 nc13 :: .pointer (some ((ag_).add (0))) :: .int .u64 (uv (hdB q 0)) :: V8.l qz63 (V8.l qz64 (.int .i64 (szR q : Int) :: .int .u64 (uv (hdB q 0)) :: .bool false :: .bool false :: .int .u64 (uv (hdB q 0)) :: .int .u64 (uv (hdB q 0) % 2) :: U16r2 (undef :: undef :: undef :: []))))) _ (x_rem (k := .u64) (m := (uv (hdB q 0))) (n := 2) ((uv (hdB q 0) % 2)) rfl rfl rfl (by decide) (mod2 _)) rfl ?_
     refine p_on rfl (by rw [hops900506]; rfl) ?_
     refine p_run _ (x_move (.int .u64 (s : Int)) rfl rfl) rfl ?_
     refine p_on rfl (by rw [hops900506]; rfl) ?_
     refine p_run _ (x_cmp (k := .u64) (m := (uv (hdB q 0) % 2)) (n := (s : Int)) .neq false rfl rfl rfl (by rw [uv_mod, h2]; simp [cmpB]) rfl) rfl ?_
     refine p_run _ (x_pick false (.bool true) (.bool false) (.bool false) rfl rfl rfl rfl rfl) rfl ?_
     refine p_run _ (x_move (.bool false) rfl rfl) rfl ?_
     refine p_on rfl (by rw [hops900506]; rfl) ?_
     refine p_run _ (x_move (.int .i64 (szR q : Int)) rfl rfl) rfl ?_
     refine p_on rfl (by rw [hops900506]; rfl) ?_
     refine p_run _ (x_cmp (k := .i64) (m := (szR q : Int)) (n := 186) .gtr false rfl rfl rfl (show decide _ = false from decide_eq_false (by omega)) rfl) rfl ?_
     refine p_run (l' := (.agg ((nums .u8 (q.map bv))).toArray :: .int .u64 (s : Int) :: .pointer (some ⟨g5, 0, none⟩) :: undef :: .slice none 0 0 :: .int .u64 0 :: .int .u64 (uv (hdB q 0)) :: .slice (some ad) 192 c52 :: u8 :: u9 :: .int .i64 (szR q : Int) :: undef :: .agg ((nums .u8 (q.map bv))).toArray :: .slice (some ag_) 8 nc13 :: .pointer (some ((ag_).add (0))) :: .int .u64 (uv (hdB q 0)) :: V8.l qz63 (V8.l qz64 (.int .i64 (szR q : Int) :: .int .u64 (uv (hdB q 0)) :: .bool false :: .bool false :: .int .u64 (uv (hdB q 0)) :: .int .u64 (uv (hdB q 0) % 2) :: .int .u64 (s : Int) :: .bool false :: .bool false :: .bool false :: .int .i64 (szR q : Int) :: .bool false :: .bool false :: U8r2 (U4r2 ([])))))) _ (x_pick false (.bool true) (.bool false) (.bool false) rfl rfl rfl rfl rfl) rfl ?_
     clear hops900506
     refine wpList_nil ?_
     refine hK68 _ _ ?_
     refine c_false rfl ?_
     refine wp_skip ?_
     refine hK66 _ _ ?_
     refine wp_seq_k (fun K900508 hK900509 => ?_)
     refine c_region (fun ops900511 hops900510 => ?_)
     clear hops900510
     refine p_run _ (x_move (.slice (some ad) 192 c52) rfl rfl) rfl ?_
     refine p_run _ (x_move (.int .i64 (szR q : Int)) rfl rfl) rfl ?_
     refine p_run _ (x_arith (k := .i64) (m := 2) (n := (szR q : Int)) .add (((2 + szR q : Nat) : Int)) rfl rfl rfl (show IntKind.i64.wrap (2 + (szR q : Int)) = ((2 + szR q : Nat) : Int) from ((wr64' (by omega)).trans (by omega))) rfl) rfl ?_
     refine p_run (.slice (some (ad.add 2)) ((ctR q).length) (c52 - 2)) ((x_slice (sz := 1) (L := (some (.const (.int .i64 2)))) (H := (some (.tmp 47))) (lo := 2) (hi := (2 + szR q : Nat)) (some (ad.add 2)) rfl rfl Try.underlying24 (by kernel_rfl) ⟨_, _, rfl, (by decide), rfl⟩ ⟨_, _, rfl, (by omega), rfl⟩ (by omega) (by omega) (by rw [if_neg (by omega)]; simp only [Option.map_some, Nat.mul_one])).trans (by first | rfl | (rw [show (2 + szR q : Nat) - 2 = (ctR q).length from (by omega), show c52 - 2 = c52 - 2 from (by omega)]))) rfl ?_
     refine p_run _ (x_assign (.slice (some (ad.add 2)) ((ctR q).length) (c52 - 2)) rfl rfl) rfl ?_
     refine wpList_nil ?_
     obtain ⟨qz900512, hqz900512⟩ : ∃ q_ : V8, q_ = ⟨.int .i64 (szR q : Int), .int .u64 (uv (hdB q 0)), .bool false, .bool false, .int .u64 (uv (hdB q 0)), .int .u64 (uv (hdB q 0) % 2), .int .u64 (s : Int), .bool false⟩ := ⟨_, rfl⟩
     obtain ⟨qz900513, hqz900513⟩ : ∃ q_ : V8, q_ = ⟨.bool false, .bool false, .int .i64 (szR q : Int), .bool false, .bool false, .slice (some ad) 192 c52, .int .i64 (szR q : Int), .int .i64 ((2 + szR q : Nat) : Int)⟩ := ⟨_, rfl⟩
     refine fr_at (l' := (.agg ((nums .u8 (q.map bv))).toArray :: .int .u64 (s : Int) :: .pointer (some ⟨g5, 0, none⟩) :: undef :: .slice none 0 0 :: .int .u64 0 :: .int .u64 (uv (hdB q 0)) :: .slice (some ad) 192 c52 :: u8 :: u9 :: .int .i64 (szR q : Int) :: .slice (some (ad.add 2)) ((ctR q).length) (c52 - 2) :: .agg ((nums .u8 (q.map bv))).toArray :: .slice (some ag_) 8 nc13 :: .pointer (some ((ag_).add (0))) :: .int .u64 (uv (hdB q 0)) :: V8.l qz63 (V8.l qz64 (V8.l qz900512 (V8.l qz900513 (.slice (some (ad.add 2)) ((ctR q).length) (c52 - 2) :: U8r2 ([]))))))) (by subst hqz900512 hqz900513; rfl) ?_
     refine hK900509 _ _ ?_
     refine wp_seq_k (fun K900514 hK900515 => ?_)
     refine wp_seq_k (fun K900516 hK900517 => ?_)
     refine free_frame (n := 6) (T := _) [0, 0, 0, 4, 14, 31] [(0, 49), (1, 50), (2, 51), (3, 52), (4, 53), (5, 54)] (fun bq_ vq_ w_ => qv ((fun i_ => match i_ with | 0 => some (.agg ((nums .u8 (q.map bv))).toArray) | 1 => some (.int .u64 (uv (hdB q 0))) | 2 => some (.slice (some (ad.add 2)) ((ctR q).length) (c52 - 2)) | 5 => some (.bool false) | _ => none) : Nat → Option Value) bq_ vq_ ∧ cond (bq_ 4) (∃ (oa900520 : Option Addr) (nc900521 : Nat), vq_ 3 = .slice oa900520 ((rtS (ctR q)).length) nc900521 ∧ vq_ 4 = .agg ((nums .u8 ((pgB (hdB q 0) (rtS (ctR q))).map bv))).toArray ∧ St w (fun _ => False) w_ ([row kByte rfl 5 (.slice oa900520 ((rtS (ctR q)).length) nc900521) (rtS (ctR q)), row kByte rfl 5 (.slice (some ad) 192 c52) (stB q), blk g5 ((nums .u8 (q.map bv))) 38])) (cond (bq_ 3) (∃ (oa900520 : Option Addr) (nc900521 : Nat), vq_ 3 = .slice oa900520 ((rtS (ctR q)).length) nc900521 ∧ St w (fun _ => False) w_ ([row kByte rfl 5 (.slice oa900520 ((rtS (ctR q)).length) nc900521) (rtS (ctR q)), row kByte rfl 5 (.slice (some ad) 192 c52) (stB q), blk g5 ((nums .u8 (q.map bv))) 38])) ((St w (fun _ => False) w_ ([row kByte rfl 5 (.slice (some ad) 192 c52) (stB q), blk g5 ((nums .u8 (q.map bv))) 38]))))) (by kernel_rfl) rfl rfl (by kernel_rfl) (by kernel_rfl) rfl (by kernel_rfl) (by kernel_rfl) ⟨qv_none, HS.draw⟩ ?_ ?_
     ·clear HS
      intro i_ hi_ bq_ vq_ a_ w_ hG hb_ hon hoff hfr hel hval
      obtain ⟨hV, hE⟩ := hG
      have hi_ := List.mem_range.1 hi_
      obtain ⟨l_, rfl⟩ := hfr
      have hv_ := fun (j t : Nat) (v : Value) (h1 : (j, t) ∈ [(0, 49), (1, 50), (2, 51), (3, 52), (4, 53), (5, 54)]) h2 h3 => (hval (j, t) h1 h3).trans (congrArg some (hV j v h2 h3))
      have hcs : i_ = 0 ∨ i_ = 1 ∨ i_ = 2 ∨ i_ = 3 ∨ i_ = 4 ∨ i_ = 5 := by omega
      rcases hcs with rfl | rfl | rfl | rfl | rfl | rfl
      ·rcases hq4 : bq_ 4 with _ | _
       ·rcases hq3 : bq_ 3 with _ | _
        ·have hE0 := hE
         rw [show bq_ 4 = false from hq4] at hE0
         rw [show bq_ 3 = false from hq3] at hE0
         simp only [cond_true, cond_false] at hE0
         have HS := hE0
         have e2 : evl l_ (.tmp 2) = .pointer (some ⟨g5, 0, none⟩) := evl_of ((hel 2 (by decide)).trans rfl)
         exact ⟨_, rfl, fun K_ hK_ => q_op _ (x_loads ((nums .u8 (q.map bv))) 256 rfl e2 (bkCells (HS.get (.tail _ (.head _))) 0 _ (whole _)) (by rfl) (by kernel_rfl) (by simp [List.length_map, hq, nums_length])) (hK_ _ _ ⟨qv_up hV (fun _ h => Option.some.inj h), hE⟩)⟩
        ·have hE0 := hE
         rw [show bq_ 4 = false from hq4] at hE0
         rw [show bq_ 3 = true from hq3] at hE0
         simp only [cond_true, cond_false] at hE0
         obtain ⟨oa900520, nc900521, hv3, HS⟩ := hE0
         have e2 : evl l_ (.tmp 2) = .pointer (some ⟨g5, 0, none⟩) := evl_of ((hel 2 (by decide)).trans rfl)
         exact ⟨_, rfl, fun K_ hK_ => q_op _ (x_loads ((nums .u8 (q.map bv))) 256 rfl e2 (bkCells (HS.get (.tail _ (.tail _ (.head _)))) 0 _ (whole _)) (by rfl) (by kernel_rfl) (by simp [List.length_map, hq, nums_length])) (hK_ _ _ ⟨qv_up hV (fun _ h => Option.some.inj h), hE⟩)⟩
       ·have hE0 := hE
        rw [show bq_ 4 = true from hq4] at hE0
        simp only [cond_true, cond_false] at hE0
        obtain ⟨oa900520, nc900521, hv3, hv4, HS⟩ := hE0
        have e2 : evl l_ (.tmp 2) = .pointer (some ⟨g5, 0, none⟩) := evl_of ((hel 2 (by decide)).trans rfl)
        exact ⟨_, rfl, fun K_ hK_ => q_op _ (x_loads ((nums .u8 (q.map bv))) 256 rfl e2 (bkCells (HS.get (.tail _ (.tail _ (.head _)))) 0 _ (whole _)) (by rfl) (by kernel_rfl) (by simp [List.length_map, hq, nums_length])) (hK_ _ _ ⟨qv_up hV (fun _ h => Option.some.inj h), hE⟩)⟩
      ·have e6 : evl l_ (.tmp 6) = .int .u64 (uv (hdB q 0)) := evl_of ((hel 6 (by decide)).trans rfl)
       exact ⟨_, rfl, fun K_ hK_ => q_op _ (x_move (.int .u64 (uv (hdB q 0))) rfl e6) (hK_ _ _ ⟨qv_up hV (fun _ h => Option.some.inj h), hE⟩)⟩
      ·have e11 : evl l_ (.tmp 11) = .slice (some (ad.add 2)) ((ctR q).length) (c52 - 2) := evl_of ((hel 11 (by decide)).trans rfl)
       exact ⟨_, rfl, fun K_ hK_ => q_op _ (x_move (.slice (some (ad.add 2)) ((ctR q).length) (c52 - 2)) rfl e11) (hK_ _ _ ⟨qv_up hV (fun _ h => Option.some.inj h), hE⟩)⟩
      ·have h51 : (fr l_).tmps[51]? = some (.slice (some (ad.add 2)) ((ctR q).length) (c52 - 2)) := hv_ 2 51 _ (by decide) rfl (hon 2 (by decide))
       have hE0 := hE
       rw [show bq_ 4 = false from (hoff 4 (by decide))] at hE0
       rw [show bq_ 3 = false from hb_] at hE0
       simp only [cond_true, cond_false] at hE0
       have HS := hE0
       have e51 : evl l_ (.tmp 51) = .slice (some (ad.add 2)) ((ctR q).length) (c52 - 2) := evl_of h51
       refine ⟨_, rfl, fun K_ hK_ => wp_of_list rfl ?_⟩
       intro ops_
       refine w_call [.slice (some (ad.add 2)) ((ctR q).length) (c52 - 2)] Try.func31 (by kernel_rfl) (by rfl) (by simp only [List.map_cons, List.map_nil, e51] <;> rfl) ?_
       refine (seal_root _ _ _ (ctR q) (sl_cut (row_rd (HS.get (.head _))).2.2 (by rw [stB_len hq]; exact (row_rd (HS.get (.head _))).2.1) 2 (szR q) (by rw [stB_len hq]; omega)).rd (by have := (row_rd (HS.get (.head _))).2.1; omega) (by omega)).mono ?_
       rintro e w900303 ⟨oa900301, nc900302, rfl, hk_⟩
       replace HS := HS.more hk_
       clear hk_
       refine ⟨_, rfl, ?_⟩
       refine wpList_nil ?_
       refine norm_put (hK_ (.slice oa900301 ((rtS (ctR q)).length) nc900302) _ ⟨qv_up hV (by intro _ h; cases h), ?_⟩)
       show cond (bq_ 4) _ _
       rw [show bq_ 4 = false from hoff 4 (by decide), cond_false]
       show cond true _ _
       rw [cond_true]
       exact ⟨oa900301, nc900302, rfl, (((HS.front 2 rfl).front 2 rfl).front 2 rfl)⟩
      ·have h50 : (fr l_).tmps[50]? = some (.int .u64 (uv (hdB q 0))) := hv_ 1 50 _ (by decide) rfl (hon 1 (by decide))
       have h52 := hval (3, 52) (by decide) (hon 3 (by decide))
       have hE0 := hE
       rw [show bq_ 4 = false from hb_] at hE0
       rw [show bq_ 3 = true from (hon 3 (by decide))] at hE0
       simp only [cond_true, cond_false] at hE0
       obtain ⟨oa900520, nc900521, hv3, HS⟩ := hE0
       rw [hv3] at h52
       have e50 : evl l_ (.tmp 50) = .int .u64 (uv (hdB q 0)) := evl_of h50
       have e52 : evl l_ (.tmp 52) = .slice oa900520 ((rtS (ctR q)).length) nc900521 := evl_of h52
       refine ⟨_, rfl, fun K_ hK_ => wp_of_list rfl ?_⟩
       intro ops_
       refine w_call [.int .u64 (uv (hdB q 0)), .slice oa900520 ((rtS (ctR q)).length) nc900521] Try.func30 (by kernel_rfl) (by rfl) (by simp only [List.map_cons, List.map_nil, e50, e52] <;> rfl) ?_
       refine (page_root _ (hdB q 0) _ _ (rtS (ctR q)) (row_rd (HS.get (.head _))).2.2 (row_rd (HS.get (.head _))).2.1 (by rw [rtS_len]; omega)).mono ?_
       rintro e w900401 ⟨rfl, hb_⟩
       replace HS := HS.here hb_
       clear hb_
       refine ⟨_, rfl, ?_⟩
       refine wpList_nil ?_
       refine norm_put (hK_ (.agg ((nums .u8 ((pgB (hdB q 0) (rtS (ctR q))).map bv))).toArray) _ ⟨qv_up hV (by intro _ h; cases h), ?_⟩)
       show cond true _ _
       rw [cond_true]
       exact ⟨oa900520, nc900521, hv3, rfl, (((HS.front 2 rfl).front 2 rfl).front 2 rfl)⟩
      ·have h53 := hval (4, 53) (by decide) (hon 4 (by decide))
       have hE0 := hE
       rw [show bq_ 4 = true from (hon 4 (by decide))] at hE0
       simp only [cond_true, cond_false] at hE0
       obtain ⟨oa900520, nc900521, hv3, hv4, HS⟩ := hE0
       rw [hv4] at h53
       have e49 : evl l_ (.tmp 49) = .agg ((nums .u8 (q.map bv))).toArray := evl_of (hv_ 0 49 _ (by decide) rfl (hon 0 (by decide)))
       have e53 : evl l_ (.tmp 53) = .agg ((nums .u8 ((pgB (hdB q 0) (rtS (ctR q))).map bv))).toArray := evl_of h53
       exact ⟨_, rfl, fun K_ hK_ => q_op _ (x_eq .neq (.agg ((nums .u8 (q.map bv))).toArray) (.agg ((nums .u8 ((pgB (hdB q 0) (rtS (ctR q))).map bv))).toArray) (decide ((q.map bv) = ((pgB (hdB q 0) (rtS (ctR q))).map bv))) false rfl e49 e53 (equal_nums Try.underlying38 Try.underlying5 (by kernel_rfl) (by kernel_rfl) _ _ (by simp [List.length_map, hq]) (by simp [List.length_map, pgB_len (hdB q 0) (rtS (ctR q))])) (by rw [← h4, decide_eq_true rfl]; rfl) rfl (guard_agg (by kernel_rfl)) (guard_agg (by kernel_rfl))) (hK_ _ _ ⟨qv_up hV (fun _ h => Option.some.inj h), hE⟩)⟩
     intro bq_ vq_ w_ hall hG
     obtain ⟨hV, hE⟩ := hG
     clear HS
     rw [show bq_ 4 = true from hall 4 (by decide)] at hE
     simp only [cond_true] at hE
     obtain ⟨oa900520, nc900521, hv3, hv4, HS⟩ := hE
     have hv0 := hV 0 _ rfl (hall 0 (by decide))
     have hv1 := hV 1 _ rfl (hall 1 (by decide))
     have hv2 := hV 2 _ rfl (hall 2 (by decide))
     have hv5 := hV 5 _ rfl (hall 5 (by decide))
     clear hV hall
     rw [putSel_fr]
     simp only [tells, List.map_cons, List.map_nil, setAll, List.set_cons_succ, List.set_cons_zero, hv0, hv1, hv2, hv3, hv4, hv5]
     clear hv0 hv1 hv2 hv3 hv4 hv5
     generalize w_ = w900501 at HS ⊢
     refine fr_at (l' := (.agg ((nums .u8 (q.map bv))).toArray :: .int .u64 (s : Int) :: .pointer (some ⟨g5, 0, none⟩) :: undef :: .slice none 0 0 :: .int .u64 0 :: .int .u64 (uv (hdB q 0)) :: .slice (some ad) 192 c52 :: u8 :: u9 :: .int .i64 (szR q : Int) :: .slice (some (ad.add 2)) ((ctR q).length) (c52 - 2) :: .agg ((nums .u8 (q.map bv))).toArray :: .slice (some ag_) 8 nc13 :: .pointer (some ((ag_).add (0))) :: .int .u64 (uv (hdB q 0)) :: V8.l qz63 (V8.l qz64 (V8.l qz900512 (V8.l qz900513 (.slice (some (ad.add 2)) ((ctR q).length) (c52 - 2) :: .agg ((nums .u8 (q.map bv))).toArray :: .int .u64 (uv (hdB q 0)) :: .slice (some (ad.add 2)) ((ctR q).length) (c52 - 2) :: .slice oa900520 ((rtS (ctR q)).length) nc900521 :: .agg ((nums .u8 ((pgB (hdB q 0) (rtS (ctR q))).map bv))).toArray :: .bool false :: undef :: undef :: [])))))) rfl ?_
     refine hK900517 _ _ ?_
     refine c_false rfl ?_
     refine wp_skip ?_
     refine hK900515 _ _ ?_
     refine wp_seq_k (fun K900502 hK900503 => ?_)
     refine c_region (fun ops900505 hops900504 => ?_)
     clear hops900504
     refine p_run _ (x_move (.slice (some (ad.add 2)) ((ctR q).length) (c52 - 2)) rfl rfl) rfl ?_
     refine p_run _ (x_move (.int .u64 (uv (hdB q 0))) rfl rfl) rfl ?_
     refine p_run _ (x_assign (.slice (some (ad.add 2)) ((ctR q).length) (c52 - 2)) rfl rfl) rfl ?_
     refine p_run _ (x_assign (.int .u64 (uv (hdB q 0))) rfl rfl) rfl ?_
     refine wpList_nil ?_
     refine hK900503 _ _ ?_
     refine wp_ret ?_
     try simp only [Exit.inBlock, Exit.then]
     refine c_ret (.tuple [.slice (some (ad.add 2)) ((ctR q).length) (c52 - 2), .int .u64 (uv (hdB q 0))].toArray) (r_tmp2 rfl rfl rfl) ?_
     replace HS := (HS.front 1 rfl)
     replace HS := HS.toRdp 2 (szR q) (by rw [stB_len hq]; omega)
     have e1 : cnU q s = ctR q := if_pos hok
     have e2 : gnU q s = hdB q 0 := if_pos hok
     rw [e1, e2]
     exact ⟨_, _, rfl, ((HS.front 1 rfl).drop.front 1 rfl).drop⟩
end Go.Proofs.Ytenlkobjldhfgaa
