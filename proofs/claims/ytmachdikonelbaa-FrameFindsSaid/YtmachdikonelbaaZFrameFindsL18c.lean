/- FrameFinds. -/
import Derived.Test.YtmachdikonelbaaZFrameFindsL18a
import Derived.Test.YtmachdikonelbaaZFrameFindsWkSS
set_option linter.unusedVariables false
set_option linter.unusedSimpArgs false
namespace Go.Proofs.Ytmachdikonelbaa
open Go.RowKit Go.Proofs.YtmachdikonelbaaW.PrintWords Go.Proofs.YtmachdikonelbaaW.PrintLast Crc
abbrev U4lc (l : List Value) : List Value := undef :: undef :: undef :: undef :: l
abbrev U8lc (l : List Value) : List Value := U4lc (U4lc l)
abbrev U16lc (l : List Value) : List Value := U8lc (U8lc l)
abbrev U32lc (l : List Value) : List Value := U16lc (U16lc l)
theorem fread_cut (w : World) (A : Option Addr) (c : Nat) (b : List UInt8) (n : Nat) (hn : n = b.length) (hr : Sl w A c b) (hl : b.length ≤ 100000) : Calls Try.prog 10 #[.slice A n c] w fun e w' => ∃ A1 c1 A2 c2, e = .returned (.tuple #[mgV (frM b) A1 c1 A2 c2, .int .i64 (frE b)]) ∧ St w (fun _ => False) w' [row kIt rfl 53 (.slice A1 (frM b).its.length c1) (frM b).its, row kHv rfl 55 (.slice A2 (frM b).hvs.length c2) (frM b).hvs] := by
  subst hn
  exact fread_any w A c b hr hl
theorem row_bytes {w : World} {e : Nat} {v : Value} {xs : List UInt8} {hE : kByte.E = []} (h : (row kByte hE e v xs).holds w) (hn : xs ≠ []) : ∃ g c sp, v = .slice (some ⟨g, 0, none⟩) xs.length c ∧ (blk g (nums .u8 (xs.map bv) ++ sp) e).holds w := by
  have hpos : 0 < xs.length := by
    cases xs with
    | nil => exact absurd rfl hn
    | cons => simp
  have ho := Kd.own_of_R (row_own h)
  rcases ho.2 with ⟨-, h0⟩ | ⟨g', cap', cur, rfl, hge, hg', hnc, hcm, hcs, htake⟩
  · omega
  · have e1 : nums .u8 (xs.map bv) = cur.toList.take (xs.length * 1) := by rw [htake]; simp [nums, encs]
    refine ⟨g', cap', cur.toList.drop (xs.length * 1), rfl, ?_⟩
    rw [e1, List.take_append_drop]
    show w.heap[g']? = _
    simpa using hg'
theorem xor_k (x y : UInt8) : IntKind.u8.wrap (((((bv x) % 2 ^ IntKind.u8.bits).toNat ^^^ ((bv y) % 2 ^ IntKind.u8.bits).toNat : Nat)) : Int) = bv (x ^^^ y) := by
  have hx := x.toNat_lt
  have hy := y.toNat_lt
  have hxy := (x ^^^ y).toNat_lt
  have e1 : ((bv x) % 2 ^ IntKind.u8.bits).toNat = x.toNat := by unfold bv; show ((x.toNat : Int) % 256).toNat = _; omega
  have e2 : ((bv y) % 2 ^ IntKind.u8.bits).toNat = y.toNat := by unfold bv; show ((y.toNat : Int) % 256).toNat = _; omega
  rw [e1, e2, ← UInt8.toNat_xor, IntKind.wrap_u8]
  unfold bv
  omega
theorem gt_at {xs : List UInt8} {sp : List Value} {q : Nat} (h : q < xs.length) : (nums .u8 (xs.map bv) ++ sp)[q * 1]? = some (.int .u8 (bv (xs.getD q 0))) := by
  rw [Nat.mul_one, List.getElem?_append_left (by rw [nums_length, List.length_map]; exact h)]
  simp [nums, h]
theorem st_at {xs : List UInt8} {sp : List Value} {q : Nat} (h : q < xs.length) (x : UInt8) : (nums .u8 (xs.map bv) ++ sp).set (q * 1) (.int .u8 (bv x)) = nums .u8 ((xs.set q x).map bv) ++ sp := by
  rw [Nat.mul_one, List.set_append, if_pos (by rw [nums_length, List.length_map]; exact h), nums_set, List.map_set]
theorem blk_sl {w : World} {g t c : Nat} {xs : List UInt8} {sp : List Value} (h : (blk g (nums .u8 (xs.map bv) ++ sp) t).holds w) (hc : xs.length ≤ c) (hl : xs.length ≤ 100000) : Sl w (some ⟨g, 0, none⟩) c xs :=
  ⟨rd_sub h 0 (by rw [List.drop_zero, List.take_left' (by rw [nums_length, List.length_map])]) (by omega), hc, fun h => by cases h⟩
theorem trn_eq (l : List UInt8) (q : Nat) (a b : UInt8) (h : q + 1 < l.length) : (l.set q (l.getD q 0 ^^^ a)).set (q + 1) ((l.set q (l.getD q 0 ^^^ a)).getD (q + 1) 0 ^^^ b) = trnB l q a b := by
  unfold trnB
  have m1 : ∀ (l : List UInt8) (q : Nat) (a : UInt8), q < l.length → l.modify q (· ^^^ a) = l.set q (l.getD q 0 ^^^ a) := fun l q a h => by
    apply List.ext_getElem?
    intro i
    rw [List.getElem?_modify, List.getElem?_set]
    by_cases e : q = i
    · subst e; simp [h]
    · simp [e]
  rw [m1 l q a (by omega), m1 _ (q + 1) b (by rw [List.length_set]; exact h)]
theorem mask_eq (a b : UInt8) : ([bv a, bv b] = [0, 0]) ↔ (a = 0 ∧ b = 0) := by
  simp only [List.cons.injEq, and_true]
  constructor
  · rintro ⟨h1, h2⟩; exact ⟨bv_inj h1, bv_inj h2⟩
  · rintro ⟨rfl, rfl⟩; exact ⟨rfl, rfl⟩
theorem fd4 (m : Mg) (at_ : Int) : mgOk m = false ∨ (mgOk m = true ∧ at_ < 0) ∨ (mgOk m = true ∧ (0 ≤ at_ ∧ ((fbB m).length : Int) - 1 ≤ at_)) ∨ (mgOk m = true ∧ 0 ≤ at_ ∧ at_ < ((fbB m).length : Int) - 1) := by
  rcases mgOk m with _ | _
  · exact .inl rfl
  · rcases (by omega : at_ < 0 ∨ (0 ≤ at_ ∧ ((fbB m).length : Int) - 1 ≤ at_) ∨ (0 ≤ at_ ∧ at_ < ((fbB m).length : Int) - 1)) with h | h | h
    · exact .inr (.inl ⟨rfl, h⟩)
    · exact .inr (.inr (.inl ⟨rfl, h⟩))
    · exact .inr (.inr (.inr ⟨rfl, h⟩))
set_option maxRecDepth 10000 in
set_option maxHeartbeats 4000000 in
theorem ffinds_law (w : World) (m : Mg) (hw : m.wf) (A : Option Addr) (c : Nat) (hA : kIt.C w A m.its.length m.its) (B : Option Addr) (d : Nat) (hB : kHv.C w B m.hvs.length m.hvs) (at_ : Int) (hat : -9223372036854775808 ≤ at_ ∧ at_ ≤ 9223372036854775807) (ma mb : UInt8) : Calls Try.prog 7 #[mgV m A c B d, .int .i64 at_, .agg ([.int .u8 (bv ma), .int .u8 (bv mb)] : List Value).toArray] w fun e w' => e = .returned (.bool true) ∧ Below w.heap.size w w' := by
  have HS := St.empty w
  rcases hg : grB m with _ | _
  · skip
    obtain ⟨hg1, hg1'⟩ := great_no hg
    refine c_enter Try.func7 rfl 61 rfl (mgV m A c B d :: .int .i64 at_ :: .agg ([.int .u8 (bv ma), .int .u8 (bv mb)] : List Value).toArray :: U32lc (U16lc (U8lc (undef :: undef :: [])))) rfl ?_
    refine wp_seq_k (fun K1 hK2 => ?_)
    refine c_region (fun ops4 hops3 => ?_)
    clear hops3
    refine St.wBox HS (cs := [.int .i64 m.k, .int .u32 m.e, .int .u64 m.s, .int .u32 m.te, .int .u32 m.ts, .int .u32 m.be, .int .u32 m.bs, .int .i64 m.ix, .int .i64 m.tt, .int .u32 m.tk, .slice A m.its.length c, .slice B m.hvs.length d]) (mgV m A c B d) rfl rfl ?_
    clear HS
    intro g5 w6 hg7 HS
    refine St.wBox HS (cs := [.int .u8 (bv ma), .int .u8 (bv mb)]) (.agg ([.int .u8 (bv ma), .int .u8 (bv mb)] : List Value).toArray) rfl rfl ?_
    clear HS
    intro g8 w9 hg10 HS
    refine p_run _ (x_assign (.bool false) rfl rfl) rfl ?_
    refine wpList_nil ?_
    refine fr_at (l' := (mgV m A c B d :: .int .i64 at_ :: .agg ([.int .u8 (bv ma), .int .u8 (bv mb)] : List Value).toArray :: .pointer (some ⟨g5, 0, none⟩) :: undef :: .pointer (some ⟨g8, 0, none⟩) :: .bool false :: U32lc (U16lc (U4lc (undef :: undef :: []))))) rfl ?_
    refine hK2 _ _ ?_
    refine wp_seq_k (fun K11 hK12 => ?_)
    refine wp_seq_k (fun K13 hK14 => ?_)
    refine c_region (fun ops16 hops15 => ?_)
    clear hops15
    refine w_call [] Try.func11 (by kernel_rfl) (by rfl) rfl ?_
    refine (falive_any _).mono ?_
    rintro e w17 ⟨rfl, hb_⟩
    replace HS := HS.here hb_
    clear hb_
    refine ⟨_, rfl, ?_⟩
    refine p_run _ (x_not true rfl rfl) rfl ?_
    refine wpList_nil ?_
    refine hK14 _ _ ?_
    refine c_false rfl ?_
    refine wp_skip ?_
    refine hK12 _ _ ?_
    refine wp_seq_k (fun K18 hK19 => ?_)
    refine wp_seq_k (fun K20 hK21 => ?_)
    refine c_region (fun ops23 hops22 => ?_)
    clear hops22
    refine p_run _ (x_loads [.int .i64 m.k, .int .u32 m.e, .int .u64 m.s, .int .u32 m.te, .int .u32 m.ts, .int .u32 m.be, .int .u32 m.bs, .int .i64 m.ix, .int .i64 m.tt, .int .u32 m.tk, .slice A m.its.length c, .slice B m.hvs.length d] 12 rfl rfl (bkCells (HS.get (.tail _ (.head _))) 0 _ rfl) (by rfl) (by kernel_rfl) rfl) rfl ?_
    refine w_call [mgV m A c B d] Try.func12 (by kernel_rfl) (by rfl) rfl ?_
    refine (fgreat_any _ m A c B d).mono ?_
    rintro e w24 ⟨he_, hb_⟩
    rw [hg] at he_
    subst he_
    replace HS := HS.here hb_
    clear hb_
    refine ⟨_, rfl, ?_⟩
    refine wpList_nil ?_
    refine fr_at (l' := (mgV m A c B d :: .int .i64 at_ :: .agg ([.int .u8 (bv ma), .int .u8 (bv mb)] : List Value).toArray :: .pointer (some ⟨g5, 0, none⟩) :: undef :: .pointer (some ⟨g8, 0, none⟩) :: .bool false :: U4lc (.bool true :: .bool false :: mgV m A c B d :: .bool false :: U32lc (U8lc (U4lc (undef :: undef :: [])))))) rfl ?_
    refine hK21 _ _ ?_
    refine c_false rfl ?_
    refine wp_skip ?_
    refine hK19 _ _ ?_
    refine wp_seq_k (fun K25 hK26 => ?_)
    refine c_region (fun ops28 hops27 => ?_)
    clear hops27
    refine p_run _ (x_loads [.int .i64 m.k, .int .u32 m.e, .int .u64 m.s, .int .u32 m.te, .int .u32 m.ts, .int .u32 m.be, .int .u32 m.bs, .int .i64 m.ix, .int .i64 m.tt, .int .u32 m.tk, .slice A m.its.length c, .slice B m.hvs.length d] 12 rfl rfl (bkCells (HS.get (.tail _ (.head _))) 0 _ rfl) (by rfl) (by kernel_rfl) rfl) rfl ?_
    refine w_call [mgV m A c B d] Try.func9 (by kernel_rfl) (by rfl) rfl ?_
    refine (fbytes_any _ m A c (Kd.C_below hA HS.belowOf) B d (Kd.C_below hB HS.belowOf) (by omega) (by omega) hw).mono ?_
    rintro e w31 ⟨A29, c30, rfl, hk_⟩
    replace HS := HS.more hk_
    clear hk_
    refine ⟨_, rfl, ?_⟩
    refine p_run _ (x_move (.tuple [.slice A29 ((fbB m).length) c30, .int .i64 (fbE m)].toArray) rfl rfl) rfl ?_
    refine p_run _ (x_extract (vs := [.slice A29 ((fbB m).length) c30, .int .i64 (fbE m)]) 0 (.slice A29 ((fbB m).length) c30) rfl rfl rfl) rfl ?_
    refine p_run (l' := (mgV m A c B d :: .int .i64 at_ :: .agg ([.int .u8 (bv ma), .int .u8 (bv mb)] : List Value).toArray :: .pointer (some ⟨g5, 0, none⟩) :: undef :: .pointer (some ⟨g8, 0, none⟩) :: .bool false :: U4lc (.bool true :: .bool false :: mgV m A c B d :: .bool false :: .tuple [.slice A29 ((fbB m).length) c30, .int .i64 (fbE m)].toArray :: mgV m A c B d :: .tuple [.slice A29 ((fbB m).length) c30, .int .i64 (fbE m)].toArray :: .slice A29 ((fbB m).length) c30 :: .int .i64 (fbE m) :: U32lc (U8lc (undef :: []))))) _ (x_extract (vs := [.slice A29 ((fbB m).length) c30, .int .i64 (fbE m)]) 1 (.int .i64 (fbE m)) rfl rfl rfl) rfl ?_
    refine p_run _ (x_assign (.slice A29 ((fbB m).length) c30) rfl rfl) rfl ?_
    refine p_run _ (x_assign (.int .i64 (fbE m)) rfl rfl) rfl ?_
    refine wpList_nil ?_
    refine hK26 _ _ ?_
    refine wp_seq_k (fun K32 hK33 => ?_)
    refine wp_seq_k (fun K34 hK35 => ?_)
    rcases fd4 m at_ with h1 | ⟨h1, hp⟩ | ⟨h1, hp⟩ | ⟨h1, hp0, hp⟩
    · skip
      refine c_region (fun ops37 hops36 => ?_)
      refine p_run _ (x_move (.int .i64 (fbE m)) rfl rfl) rfl ?_
      refine p_run _ (x_cmp (k := .i64) (m := (fbE m)) (n := 0) .neq true rfl rfl rfl (by rw [(fb_no h1).2]; rfl) rfl) rfl ?_
      refine p_run (l' := (mgV m A c B d :: .int .i64 at_ :: .agg ([.int .u8 (bv ma), .int .u8 (bv mb)] : List Value).toArray :: .pointer (some ⟨g5, 0, none⟩) :: undef :: .pointer (some ⟨g8, 0, none⟩) :: .bool false :: .slice A29 ((fbB m).length) c30 :: .int .i64 (fbE m) :: undef :: undef :: .bool true :: .bool false :: mgV m A c B d :: .bool false :: .tuple [.slice A29 ((fbB m).length) c30, .int .i64 (fbE m)].toArray :: mgV m A c B d :: .tuple [.slice A29 ((fbB m).length) c30, .int .i64 (fbE m)].toArray :: .slice A29 ((fbB m).length) c30 :: .int .i64 (fbE m) :: .int .i64 (fbE m) :: .bool true :: .bool true :: U32lc (U4lc (undef :: undef :: [])))) _ (x_move (.bool true) rfl rfl) rfl ?_
      refine p_off (by rw [hops36]; rfl) rfl ?_
      refine p_off (by rw [hops36]; rfl) rfl ?_
      refine p_run _ (x_pick true (.bool true) (undef) (.bool true) rfl rfl rfl rfl rfl) rfl ?_
      refine p_run _ (x_move (.bool true) rfl rfl) rfl ?_
      refine p_off (l' := (mgV m A c B d :: .int .i64 at_ :: .agg ([.int .u8 (bv ma), .int .u8 (bv mb)] : List Value).toArray :: .pointer (some ⟨g5, 0, none⟩) :: undef :: .pointer (some ⟨g8, 0, none⟩) :: .bool false :: .slice A29 ((fbB m).length) c30 :: .int .i64 (fbE m) :: undef :: undef :: .bool true :: .bool false :: mgV m A c B d :: .bool false :: .tuple [.slice A29 ((fbB m).length) c30, .int .i64 (fbE m)].toArray :: mgV m A c B d :: .tuple [.slice A29 ((fbB m).length) c30, .int .i64 (fbE m)].toArray :: .slice A29 ((fbB m).length) c30 :: .int .i64 (fbE m) :: .int .i64 (fbE m) :: .bool true :: .bool true :: undef :: undef :: .bool true :: .bool true :: U32lc (undef :: undef :: []))) (by rw [hops36]; rfl) rfl ?_
      refine p_off (by rw [hops36]; rfl) rfl ?_
      refine p_off (by rw [hops36]; rfl) rfl ?_
      refine p_off (by rw [hops36]; rfl) rfl ?_
      refine p_off (by rw [hops36]; rfl) rfl ?_
      refine p_run (l' := (mgV m A c B d :: .int .i64 at_ :: .agg ([.int .u8 (bv ma), .int .u8 (bv mb)] : List Value).toArray :: .pointer (some ⟨g5, 0, none⟩) :: undef :: .pointer (some ⟨g8, 0, none⟩) :: .bool false :: .slice A29 ((fbB m).length) c30 :: .int .i64 (fbE m) :: undef :: undef :: .bool true :: .bool false :: mgV m A c B d :: .bool false :: .tuple [.slice A29 ((fbB m).length) c30, .int .i64 (fbE m)].toArray :: mgV m A c B d :: .tuple [.slice A29 ((fbB m).length) c30, .int .i64 (fbE m)].toArray :: .slice A29 ((fbB m).length) c30 :: .int .i64 (fbE m) :: .int .i64 (fbE m) :: .bool true :: .bool true :: undef :: undef :: .bool true :: .bool true :: U4lc (undef :: .bool true :: U16lc (U8lc (U4lc ([])))))) _ (x_pick true (.bool true) (undef) (.bool true) rfl rfl rfl rfl rfl) rfl ?_
      clear hops36
      refine wpList_nil ?_
      refine hK35 _ _ ?_
      refine c_true rfl ?_
      refine wp_seq_k (fun K38 hK39 => ?_)
      refine c_region (fun ops41 hops40 => ?_)
      clear hops40
      refine p_run _ (x_assign (.bool true) rfl rfl) rfl ?_
      refine wpList_nil ?_
      refine hK39 _ _ ?_
      refine wp_ret ?_
      try simp only [Exit.inBlock, Exit.then]
      refine c_ret (.bool true) (r_tmp rfl rfl) ?_
      exact ⟨rfl, HS.belowOf⟩
    · skip
      refine c_region (fun ops43 hops42 => ?_)
      refine p_run _ (x_move (.int .i64 (fbE m)) rfl rfl) rfl ?_
      refine p_run _ (x_cmp (k := .i64) (m := (fbE m)) (n := 0) .neq false rfl rfl rfl (by rw [(fb_yes h1).2]; rfl) rfl) rfl ?_
      refine p_run _ (x_move (.bool false) rfl rfl) rfl ?_
      refine p_on rfl (by rw [hops42]; rfl) ?_
      refine p_run (l' := (mgV m A c B d :: .int .i64 at_ :: .agg ([.int .u8 (bv ma), .int .u8 (bv mb)] : List Value).toArray :: .pointer (some ⟨g5, 0, none⟩) :: undef :: .pointer (some ⟨g8, 0, none⟩) :: .bool false :: .slice A29 ((fbB m).length) c30 :: .int .i64 (fbE m) :: undef :: undef :: .bool true :: .bool false :: mgV m A c B d :: .bool false :: .tuple [.slice A29 ((fbB m).length) c30, .int .i64 (fbE m)].toArray :: mgV m A c B d :: .tuple [.slice A29 ((fbB m).length) c30, .int .i64 (fbE m)].toArray :: .slice A29 ((fbB m).length) c30 :: .int .i64 (fbE m) :: .int .i64 (fbE m) :: .bool false :: .bool false :: .int .i64 at_ :: U32lc (U4lc (undef :: [])))) _ (x_move (.int .i64 at_) rfl rfl) rfl ?_
      refine p_on rfl (by rw [hops42]; rfl) ?_
      refine p_run _ (x_cmp (k := .i64) (m := at_) (n := 0) .lss true rfl rfl rfl (show decide _ = true from decide_eq_true (by omega)) rfl) rfl ?_
      refine p_run _ (x_pick false (.bool true) (.bool true) (.bool true) rfl rfl rfl rfl rfl) rfl ?_
      refine p_run _ (x_move (.bool true) rfl rfl) rfl ?_
      refine p_off (by rw [hops42]; rfl) rfl ?_
      refine p_off (l' := (mgV m A c B d :: .int .i64 at_ :: .agg ([.int .u8 (bv ma), .int .u8 (bv mb)] : List Value).toArray :: .pointer (some ⟨g5, 0, none⟩) :: undef :: .pointer (some ⟨g8, 0, none⟩) :: .bool false :: .slice A29 ((fbB m).length) c30 :: .int .i64 (fbE m) :: undef :: undef :: .bool true :: .bool false :: mgV m A c B d :: .bool false :: .tuple [.slice A29 ((fbB m).length) c30, .int .i64 (fbE m)].toArray :: mgV m A c B d :: .tuple [.slice A29 ((fbB m).length) c30, .int .i64 (fbE m)].toArray :: .slice A29 ((fbB m).length) c30 :: .int .i64 (fbE m) :: .int .i64 (fbE m) :: .bool false :: .bool false :: .int .i64 at_ :: .bool true :: .bool true :: .bool true :: U32lc (undef :: undef :: []))) (by rw [hops42]; rfl) rfl ?_
      refine p_off (by rw [hops42]; rfl) rfl ?_
      refine p_off (by rw [hops42]; rfl) rfl ?_
      refine p_off (by rw [hops42]; rfl) rfl ?_
      refine p_run _ (x_pick true (.bool true) (undef) (.bool true) rfl rfl rfl rfl rfl) rfl ?_
      clear hops42
      refine wpList_nil ?_
      obtain ⟨qz44, hqz44⟩ : ∃ q_ : V8, q_ = ⟨mgV m A c B d, .tuple [.slice A29 ((fbB m).length) c30, .int .i64 (fbE m)].toArray, .slice A29 ((fbB m).length) c30, .int .i64 (fbE m), .int .i64 (fbE m), .bool false, .bool false, .int .i64 at_⟩ := ⟨_, rfl⟩
      obtain ⟨qz45, hqz45⟩ : ∃ q_ : V8, q_ = ⟨.bool true, .bool true, .bool true, undef, undef, undef, undef, undef⟩ := ⟨_, rfl⟩
      refine fr_at (l' := (mgV m A c B d :: .int .i64 at_ :: .agg ([.int .u8 (bv ma), .int .u8 (bv mb)] : List Value).toArray :: .pointer (some ⟨g5, 0, none⟩) :: undef :: .pointer (some ⟨g8, 0, none⟩) :: .bool false :: .slice A29 ((fbB m).length) c30 :: .int .i64 (fbE m) :: undef :: undef :: .bool true :: .bool false :: mgV m A c B d :: .bool false :: .tuple [.slice A29 ((fbB m).length) c30, .int .i64 (fbE m)].toArray :: V8.l qz44 (V8.l qz45 (.bool true :: U16lc (U8lc (U4lc ([]))))))) (by subst hqz44 hqz45; rfl) ?_
      refine hK35 _ _ ?_
      refine c_true rfl ?_
      refine wp_seq_k (fun K46 hK47 => ?_)
      refine c_region (fun ops49 hops48 => ?_)
      clear hops48
      refine p_run _ (x_assign (.bool true) rfl rfl) rfl ?_
      refine wpList_nil ?_
      refine hK47 _ _ ?_
      refine wp_ret ?_
      try simp only [Exit.inBlock, Exit.then]
      refine c_ret (.bool true) (r_tmp rfl rfl) ?_
      exact ⟨rfl, HS.belowOf⟩
    · skip
      refine c_region (fun ops51 hops50 => ?_)
      refine p_run _ (x_move (.int .i64 (fbE m)) rfl rfl) rfl ?_
      refine p_run _ (x_cmp (k := .i64) (m := (fbE m)) (n := 0) .neq false rfl rfl rfl (by rw [(fb_yes h1).2]; rfl) rfl) rfl ?_
      refine p_run _ (x_move (.bool false) rfl rfl) rfl ?_
      refine p_on rfl (by rw [hops50]; rfl) ?_
      refine p_run (l' := (mgV m A c B d :: .int .i64 at_ :: .agg ([.int .u8 (bv ma), .int .u8 (bv mb)] : List Value).toArray :: .pointer (some ⟨g5, 0, none⟩) :: undef :: .pointer (some ⟨g8, 0, none⟩) :: .bool false :: .slice A29 ((fbB m).length) c30 :: .int .i64 (fbE m) :: undef :: undef :: .bool true :: .bool false :: mgV m A c B d :: .bool false :: .tuple [.slice A29 ((fbB m).length) c30, .int .i64 (fbE m)].toArray :: mgV m A c B d :: .tuple [.slice A29 ((fbB m).length) c30, .int .i64 (fbE m)].toArray :: .slice A29 ((fbB m).length) c30 :: .int .i64 (fbE m) :: .int .i64 (fbE m) :: .bool false :: .bool false :: .int .i64 at_ :: U32lc (U4lc (undef :: [])))) _ (x_move (.int .i64 at_) rfl rfl) rfl ?_
      refine p_on rfl (by rw [hops50]; rfl) ?_
      refine p_run _ (x_cmp (k := .i64) (m := at_) (n := 0) .lss false rfl rfl rfl (lss_no (by omega)) rfl) rfl ?_
      refine p_run _ (x_pick false (.bool true) (.bool false) (.bool false) rfl rfl rfl rfl rfl) rfl ?_
      refine p_run _ (x_move (.bool false) rfl rfl) rfl ?_
      refine p_on rfl (by rw [hops50]; rfl) ?_
      refine p_run _ (x_move (.int .i64 at_) rfl rfl) rfl ?_
      refine p_on rfl (by rw [hops50]; rfl) ?_
      refine p_run (l' := (mgV m A c B d :: .int .i64 at_ :: .agg ([.int .u8 (bv ma), .int .u8 (bv mb)] : List Value).toArray :: .pointer (some ⟨g5, 0, none⟩) :: undef :: .pointer (some ⟨g8, 0, none⟩) :: .bool false :: .slice A29 ((fbB m).length) c30 :: .int .i64 (fbE m) :: undef :: undef :: .bool true :: .bool false :: mgV m A c B d :: .bool false :: .tuple [.slice A29 ((fbB m).length) c30, .int .i64 (fbE m)].toArray :: mgV m A c B d :: .tuple [.slice A29 ((fbB m).length) c30, .int .i64 (fbE m)].toArray :: .slice A29 ((fbB m).length) c30 :: .int .i64 (fbE m) :: .int .i64 (fbE m) :: .bool false :: .bool false :: .int .i64 at_ :: .bool false :: .bool false :: .bool false :: .int .i64 at_ :: .slice A29 ((fbB m).length) c30 :: U32lc ([]))) _ (x_move (.slice A29 ((fbB m).length) c30) rfl rfl) rfl ?_
      refine p_on rfl (by rw [hops50]; rfl) ?_
      refine p_run _ (x_len rfl rfl Try.underlying22) rfl ?_
      refine p_on rfl (by rw [hops50]; rfl) ?_
      refine p_run _ (x_arith (k := .i64) (m := ((fbB m).length : Int)) (n := 1) .sub (((fbB m).length : Int) - 1) rfl rfl rfl (show IntKind.i64.wrap (((fbB m).length : Int) - 1) = ((fbB m).length : Int) - 1 from (wr64' (by have := fb_le (m := m) hw; omega))) rfl) rfl ?_
      refine p_on rfl (by rw [hops50]; rfl) ?_
      refine p_run _ (x_cmp (k := .i64) (m := at_) (n := ((fbB m).length : Int) - 1) .geq true rfl rfl rfl (show decide _ = true from decide_eq_true (by omega)) rfl) rfl ?_
      refine p_run _ (x_pick false (.bool true) (.bool true) (.bool true) rfl rfl rfl rfl rfl) rfl ?_
      clear hops50
      refine wpList_nil ?_
      obtain ⟨qz52, hqz52⟩ : ∃ q_ : V8, q_ = ⟨mgV m A c B d, .tuple [.slice A29 ((fbB m).length) c30, .int .i64 (fbE m)].toArray, .slice A29 ((fbB m).length) c30, .int .i64 (fbE m), .int .i64 (fbE m), .bool false, .bool false, .int .i64 at_⟩ := ⟨_, rfl⟩
      obtain ⟨qz53, hqz53⟩ : ∃ q_ : V8, q_ = ⟨.bool false, .bool false, .bool false, .int .i64 at_, .slice A29 ((fbB m).length) c30, .int .i64 ((fbB m).length : Int), .int .i64 (((fbB m).length : Int) - 1), .bool true⟩ := ⟨_, rfl⟩
      refine fr_at (l' := (mgV m A c B d :: .int .i64 at_ :: .agg ([.int .u8 (bv ma), .int .u8 (bv mb)] : List Value).toArray :: .pointer (some ⟨g5, 0, none⟩) :: undef :: .pointer (some ⟨g8, 0, none⟩) :: .bool false :: .slice A29 ((fbB m).length) c30 :: .int .i64 (fbE m) :: undef :: undef :: .bool true :: .bool false :: mgV m A c B d :: .bool false :: .tuple [.slice A29 ((fbB m).length) c30, .int .i64 (fbE m)].toArray :: V8.l qz52 (V8.l qz53 (.bool true :: U16lc (U8lc (U4lc ([]))))))) (by subst hqz52 hqz53; rfl) ?_
      refine hK35 _ _ ?_
      refine c_true rfl ?_
      refine wp_seq_k (fun K54 hK55 => ?_)
      refine c_region (fun ops57 hops56 => ?_)
      clear hops56
      refine p_run _ (x_assign (.bool true) rfl rfl) rfl ?_
      refine wpList_nil ?_
      refine hK55 _ _ ?_
      refine wp_ret ?_
      try simp only [Exit.inBlock, Exit.then]
      refine c_ret (.bool true) (r_tmp rfl rfl) ?_
      exact ⟨rfl, HS.belowOf⟩
    · skip
      obtain ⟨q, rfl⟩ := Int.eq_ofNat_of_zero_le hp0
      have hq : q + 1 < (fbB m).length := by omega
      have hfr := fr_turn hw h1 q ma mb hq
      refine c_region (fun ops59 hops58 => ?_)
      refine p_run _ (x_move (.int .i64 (fbE m)) rfl rfl) rfl ?_
      refine p_run _ (x_cmp (k := .i64) (m := (fbE m)) (n := 0) .neq false rfl rfl rfl (by rw [(fb_yes h1).2]; rfl) rfl) rfl ?_
      refine p_run _ (x_move (.bool false) rfl rfl) rfl ?_
      refine p_on rfl (by rw [hops58]; rfl) ?_
      refine p_run (l' := (mgV m A c B d :: .int .i64 (q : Int) :: .agg ([.int .u8 (bv ma), .int .u8 (bv mb)] : List Value).toArray :: .pointer (some ⟨g5, 0, none⟩) :: undef :: .pointer (some ⟨g8, 0, none⟩) :: .bool false :: .slice A29 ((fbB m).length) c30 :: .int .i64 (fbE m) :: undef :: undef :: .bool true :: .bool false :: mgV m A c B d :: .bool false :: .tuple [.slice A29 ((fbB m).length) c30, .int .i64 (fbE m)].toArray :: mgV m A c B d :: .tuple [.slice A29 ((fbB m).length) c30, .int .i64 (fbE m)].toArray :: .slice A29 ((fbB m).length) c30 :: .int .i64 (fbE m) :: .int .i64 (fbE m) :: .bool false :: .bool false :: .int .i64 (q : Int) :: U32lc (U4lc (undef :: [])))) _ (x_move (.int .i64 (q : Int)) rfl rfl) rfl ?_
      refine p_on rfl (by rw [hops58]; rfl) ?_
      refine p_run _ (x_cmp (k := .i64) (m := (q : Int)) (n := 0) .lss false rfl rfl rfl (lss_no (by omega)) rfl) rfl ?_
      refine p_run _ (x_pick false (.bool true) (.bool false) (.bool false) rfl rfl rfl rfl rfl) rfl ?_
      refine p_run _ (x_move (.bool false) rfl rfl) rfl ?_
      refine p_on rfl (by rw [hops58]; rfl) ?_
      refine p_run _ (x_move (.int .i64 (q : Int)) rfl rfl) rfl ?_
      refine p_on rfl (by rw [hops58]; rfl) ?_
      refine p_run (l' := (mgV m A c B d :: .int .i64 (q : Int) :: .agg ([.int .u8 (bv ma), .int .u8 (bv mb)] : List Value).toArray :: .pointer (some ⟨g5, 0, none⟩) :: undef :: .pointer (some ⟨g8, 0, none⟩) :: .bool false :: .slice A29 ((fbB m).length) c30 :: .int .i64 (fbE m) :: undef :: undef :: .bool true :: .bool false :: mgV m A c B d :: .bool false :: .tuple [.slice A29 ((fbB m).length) c30, .int .i64 (fbE m)].toArray :: mgV m A c B d :: .tuple [.slice A29 ((fbB m).length) c30, .int .i64 (fbE m)].toArray :: .slice A29 ((fbB m).length) c30 :: .int .i64 (fbE m) :: .int .i64 (fbE m) :: .bool false :: .bool false :: .int .i64 (q : Int) :: .bool false :: .bool false :: .bool false :: .int .i64 (q : Int) :: .slice A29 ((fbB m).length) c30 :: U32lc ([]))) _ (x_move (.slice A29 ((fbB m).length) c30) rfl rfl) rfl ?_
      refine p_on rfl (by rw [hops58]; rfl) ?_
      refine p_run _ (x_len rfl rfl Try.underlying22) rfl ?_
      refine p_on rfl (by rw [hops58]; rfl) ?_
      refine p_run _ (x_arith (k := .i64) (m := ((fbB m).length : Int)) (n := 1) .sub (((fbB m).length : Int) - 1) rfl rfl rfl (show IntKind.i64.wrap (((fbB m).length : Int) - 1) = ((fbB m).length : Int) - 1 from (wr64' (by have := fb_le (m := m) hw; omega))) rfl) rfl ?_
      refine p_on rfl (by rw [hops58]; rfl) ?_
      refine p_run _ (x_cmp (k := .i64) (m := (q : Int)) (n := ((fbB m).length : Int) - 1) .geq false rfl rfl rfl (show decide _ = false from decide_eq_false (by omega)) rfl) rfl ?_
      refine p_run _ (x_pick false (.bool true) (.bool false) (.bool false) rfl rfl rfl rfl rfl) rfl ?_
      clear hops58
      refine wpList_nil ?_
      obtain ⟨qz60, hqz60⟩ : ∃ q_ : V8, q_ = ⟨mgV m A c B d, .tuple [.slice A29 ((fbB m).length) c30, .int .i64 (fbE m)].toArray, .slice A29 ((fbB m).length) c30, .int .i64 (fbE m), .int .i64 (fbE m), .bool false, .bool false, .int .i64 (q : Int)⟩ := ⟨_, rfl⟩
      obtain ⟨qz61, hqz61⟩ : ∃ q_ : V8, q_ = ⟨.bool false, .bool false, .bool false, .int .i64 (q : Int), .slice A29 ((fbB m).length) c30, .int .i64 ((fbB m).length : Int), .int .i64 (((fbB m).length : Int) - 1), .bool false⟩ := ⟨_, rfl⟩
      refine fr_at (l' := (mgV m A c B d :: .int .i64 (q : Int) :: .agg ([.int .u8 (bv ma), .int .u8 (bv mb)] : List Value).toArray :: .pointer (some ⟨g5, 0, none⟩) :: undef :: .pointer (some ⟨g8, 0, none⟩) :: .bool false :: .slice A29 ((fbB m).length) c30 :: .int .i64 (fbE m) :: undef :: undef :: .bool true :: .bool false :: mgV m A c B d :: .bool false :: .tuple [.slice A29 ((fbB m).length) c30, .int .i64 (fbE m)].toArray :: V8.l qz60 (V8.l qz61 (.bool false :: U16lc (U8lc (U4lc ([]))))))) (by subst hqz60 hqz61; rfl) ?_
      refine hK35 _ _ ?_
      refine c_false rfl ?_
      refine wp_skip ?_
      refine hK33 _ _ ?_
      refine wp_seq_k (fun K62 hK63 => ?_)
      have hcp := (row_rd (HS.get (.head _))).2.1
      obtain ⟨gp, cp, spp, hvp, hbp⟩ := row_bytes (HS.get (.head _)) (by intro h0; rw [h0] at hq; simp at hq)
      injection hvp with hv1 hv2 hv3
      subst hv1 hv3
      replace HS := HS.alter hbp (fun b' h => (congrArg some (show b' = gp from h)).symm)
      refine free_frame (n := 9) (T := _) [0, 0, 3, 7, 0, 16, 63, 127, 255] [(0, 33), (1, 34), (2, 35), (3, 36), (4, 37), (5, 38), (6, 39), (7, 40)] (fun bq_ vq_ w_ => qv ((fun i_ => match i_ with | 0 => some (.slice (some ⟨gp, 0, none⟩) ((fbB m).length) c30) | 1 => some (.int .i64 (q : Int)) | 2 => some (.pointer (some ⟨gp, q * 1, none⟩)) | 3 => some (.int .u8 (bv ((fbB m).getD q 0))) | 4 => some (.pointer (some ⟨g8, 0, none⟩)) | 5 => some (.int .u8 (bv ma)) | 6 => some (.int .u8 (bv ((fbB m).getD q 0 ^^^ ma))) | 7 => some (.pointer (some ⟨gp, q * 1, none⟩)) | _ => none) : Nat → Option Value) bq_ vq_ ∧ cond (bq_ 8) (St w (fun _ => False) w_ ([blk gp ((nums .u8 (((fbB m).set q ((fbB m).getD q 0 ^^^ ma)).map bv) ++ spp)) 5, blk g8 [.int .u8 (bv ma), .int .u8 (bv mb)] 45, blk g5 [.int .i64 m.k, .int .u32 m.e, .int .u64 m.s, .int .u32 m.te, .int .u32 m.ts, .int .u32 m.be, .int .u32 m.bs, .int .i64 m.ix, .int .i64 m.tt, .int .u32 m.tk, .slice A m.its.length c, .slice B m.hvs.length d] 33])) ((St w (fun _ => False) w_ ([blk gp ((nums .u8 ((fbB m).map bv) ++ spp)) 5, blk g8 [.int .u8 (bv ma), .int .u8 (bv mb)] 45, blk g5 [.int .i64 m.k, .int .u32 m.e, .int .u64 m.s, .int .u32 m.te, .int .u32 m.ts, .int .u32 m.be, .int .u32 m.bs, .int .i64 m.ix, .int .i64 m.tt, .int .u32 m.tk, .slice A m.its.length c, .slice B m.hvs.length d] 33])))) (by kernel_rfl) rfl rfl (by kernel_rfl) (by kernel_rfl) rfl (by kernel_rfl) (by kernel_rfl) ⟨qv_none, HS.draw⟩ ?_ ?_
      · clear HS
        intro i_ hi_ bq_ vq_ a_ w_ hG hb_ hon hoff hfr hel hval
        obtain ⟨hV, hE⟩ := hG
        have hi_ := List.mem_range.1 hi_
        obtain ⟨l_, rfl⟩ := hfr
        have hv_ := fun (j t : Nat) (v : Value) (h1 : (j, t) ∈ [(0, 33), (1, 34), (2, 35), (3, 36), (4, 37), (5, 38), (6, 39), (7, 40)]) h2 h3 => (hval (j, t) h1 h3).trans (congrArg some (hV j v h2 h3))
        have hcs : i_ = 0 ∨ i_ = 1 ∨ i_ = 2 ∨ i_ = 3 ∨ i_ = 4 ∨ i_ = 5 ∨ i_ = 6 ∨ i_ = 7 ∨ i_ = 8 := by omega
        rcases hcs with rfl | rfl | rfl | rfl | rfl | rfl | rfl | rfl | rfl
        · have e7 : evl l_ (.tmp 7) = .slice (some ⟨gp, 0, none⟩) ((fbB m).length) c30 := evl_of ((hel 7 (by decide)).trans rfl)
          exact ⟨_, rfl, fun K_ hK_ => q_op _ (x_move (.slice (some ⟨gp, 0, none⟩) ((fbB m).length) c30) rfl e7) (hK_ _ _ ⟨qv_up hV (fun _ h => Option.some.inj h), hE⟩)⟩
        · have e1 : evl l_ (.tmp 1) = .int .i64 (q : Int) := evl_of ((hel 1 (by decide)).trans rfl)
          exact ⟨_, rfl, fun K_ hK_ => q_op _ (x_move (.int .i64 (q : Int)) rfl e1) (hK_ _ _ ⟨qv_up hV (fun _ h => Option.some.inj h), hE⟩)⟩
        · have e33 : evl l_ (.tmp 33) = .slice (some ⟨gp, 0, none⟩) ((fbB m).length) c30 := evl_of (hv_ 0 33 _ (by decide) rfl (hon 0 (by decide)))
          have e34 : evl l_ (.tmp 34) = .int .i64 (q : Int) := evl_of (hv_ 1 34 _ (by decide) rfl (hon 1 (by decide)))
          exact ⟨_, rfl, fun K_ hK_ => q_op (.pointer (some ⟨gp, q * 1, none⟩)) ((x_index (A := ⟨gp, 0, none⟩) (j := q * 1) (sz := 1) rfl e33 e34 Try.underlying22 (by kernel_rfl) (by omega) rfl).trans (by rw [add_mk, Nat.zero_add])) (hK_ _ _ ⟨qv_up hV (fun _ h => Option.some.inj h), hE⟩)⟩
        · have hE0 := hE
          rw [show bq_ 8 = false from (hoff 8 (by decide))] at hE0
          simp only [cond_true, cond_false] at hE0
          have HS := hE0
          have e35 : evl l_ (.tmp 35) = .pointer (some ⟨gp, q * 1, none⟩) := evl_of (hv_ 2 35 _ (by decide) rfl (hon 2 (by decide)))
          exact ⟨_, rfl, fun K_ hK_ => q_op _ (x_load (.int .u8 (bv ((fbB m).getD q 0))) rfl e35 (bkCell (HS.get (.head _)) (q * 1) _ (gt_at (by omega))) (by rfl)) (hK_ _ _ ⟨qv_up hV (fun _ h => Option.some.inj h), hE⟩)⟩
        · have e5 : evl l_ (.tmp 5) = .pointer (some ⟨g8, 0, none⟩) := evl_of ((hel 5 (by decide)).trans rfl)
          exact ⟨_, rfl, fun K_ hK_ => q_op _ (x_indexArr (sz := 1) (j := 0) rfl e5 rfl Try.underlying45 (by kernel_rfl) (by omega) rfl) (hK_ _ _ ⟨qv_up hV (fun _ h => Option.some.inj h), hE⟩)⟩
        · have hE0 := hE
          rw [show bq_ 8 = false from (hoff 8 (by decide))] at hE0
          simp only [cond_true, cond_false] at hE0
          have HS := hE0
          have e37 : evl l_ (.tmp 37) = .pointer (some ⟨g8, 0, none⟩) := evl_of (hv_ 4 37 _ (by decide) rfl (hon 4 (by decide)))
          exact ⟨_, rfl, fun K_ hK_ => q_op _ (x_load (.int .u8 (bv ma)) rfl e37 (bkCell (HS.get (.tail _ (.head _))) 0 _ rfl) (by rfl)) (hK_ _ _ ⟨qv_up hV (fun _ h => Option.some.inj h), hE⟩)⟩
        · have e36 : evl l_ (.tmp 36) = .int .u8 (bv ((fbB m).getD q 0)) := evl_of (hv_ 3 36 _ (by decide) rfl (hon 3 (by decide)))
          have e38 : evl l_ (.tmp 38) = .int .u8 (bv ma) := evl_of (hv_ 5 38 _ (by decide) rfl (hon 5 (by decide)))
          exact ⟨_, rfl, fun K_ hK_ => q_op _ (x_xor (k := .u8) (m := (bv ((fbB m).getD q 0))) (n := (bv ma)) ((bv ((fbB m).getD q 0 ^^^ ma))) rfl e36 e38 (xor_k ((fbB m).getD q 0) ma)) (hK_ _ _ ⟨qv_up hV (fun _ h => Option.some.inj h), hE⟩)⟩
        · have e33 : evl l_ (.tmp 33) = .slice (some ⟨gp, 0, none⟩) ((fbB m).length) c30 := evl_of (hv_ 0 33 _ (by decide) rfl (hon 0 (by decide)))
          have e34 : evl l_ (.tmp 34) = .int .i64 (q : Int) := evl_of (hv_ 1 34 _ (by decide) rfl (hon 1 (by decide)))
          exact ⟨_, rfl, fun K_ hK_ => q_op (.pointer (some ⟨gp, q * 1, none⟩)) ((x_index (A := ⟨gp, 0, none⟩) (j := q * 1) (sz := 1) rfl e33 e34 Try.underlying22 (by kernel_rfl) (by omega) rfl).trans (by rw [add_mk, Nat.zero_add])) (hK_ _ _ ⟨qv_up hV (fun _ h => Option.some.inj h), hE⟩)⟩
        · have h39 : (fr l_).tmps[39]? = some (.int .u8 (bv ((fbB m).getD q 0 ^^^ ma))) := hv_ 6 39 _ (by decide) rfl (hon 6 (by decide))
          have h40 : (fr l_).tmps[40]? = some (.pointer (some ⟨gp, q * 1, none⟩)) := hv_ 7 40 _ (by decide) rfl (hon 7 (by decide))
          have hE0 := hE
          rw [show bq_ 8 = false from hb_] at hE0
          simp only [cond_true, cond_false] at hE0
          have HS := hE0
          have e39 : evl l_ (.tmp 39) = .int .u8 (bv ((fbB m).getD q 0 ^^^ ma)) := evl_of h39
          have e40 : evl l_ (.tmp 40) = .pointer (some ⟨gp, q * 1, none⟩) := evl_of h40
          refine ⟨_, rfl, fun K_ hK_ => wp_of_list rfl ?_⟩
          intro ops_
          refine St.store (cs' := (nums .u8 (((fbB m).set q ((fbB m).getD q 0 ^^^ ma)).map bv) ++ spp)) HS (.int .u8 (bv ((fbB m).getD q 0 ^^^ ma))) e40 e39 rfl (by kernel_rfl) (decide_eq_true (by rw [List.length_append, nums_length, List.length_map]; omega)) (st_at (by omega) _) ?_
          clear HS
          intro w900801 HS
          refine wpList_nil ?_
          refine norm_none (hK_ undef _ ⟨qv_up hV (by intro _ h; cases h), ?_⟩)
          show cond true _ _
          rw [cond_true]
          exact (((HS.front 2 rfl).front 2 rfl).front 2 rfl)
      intro bq_ vq_ w_ hall hG
      obtain ⟨hV, hE⟩ := hG
      clear HS
      rw [show bq_ 8 = true from hall 8 (by decide)] at hE
      simp only [cond_true] at hE
      have HS := hE
      have hv0 := hV 0 _ rfl (hall 0 (by decide))
      have hv1 := hV 1 _ rfl (hall 1 (by decide))
      have hv2 := hV 2 _ rfl (hall 2 (by decide))
      have hv3 := hV 3 _ rfl (hall 3 (by decide))
      have hv4 := hV 4 _ rfl (hall 4 (by decide))
      have hv5 := hV 5 _ rfl (hall 5 (by decide))
      have hv6 := hV 6 _ rfl (hall 6 (by decide))
      have hv7 := hV 7 _ rfl (hall 7 (by decide))
      clear hV hall
      rw [putSel_fr]
      simp only [tells, List.map_cons, List.map_nil, setAll, List.set_cons_succ, List.set_cons_zero, hv0, hv1, hv2, hv3, hv4, hv5, hv6, hv7]
      clear hv0 hv1 hv2 hv3 hv4 hv5 hv6 hv7
      generalize w_ = w900802 at HS ⊢
      refine fr_at (l' := (mgV m A c B d :: .int .i64 (q : Int) :: .agg ([.int .u8 (bv ma), .int .u8 (bv mb)] : List Value).toArray :: .pointer (some ⟨g5, 0, none⟩) :: undef :: .pointer (some ⟨g8, 0, none⟩) :: .bool false :: .slice (some ⟨gp, 0, none⟩) ((fbB m).length) c30 :: .int .i64 (fbE m) :: undef :: undef :: .bool true :: .bool false :: mgV m A c B d :: .bool false :: .tuple [.slice (some ⟨gp, 0, none⟩) ((fbB m).length) c30, .int .i64 (fbE m)].toArray :: V8.l qz60 (V8.l qz61 (.bool false :: .slice (some ⟨gp, 0, none⟩) ((fbB m).length) c30 :: .int .i64 (q : Int) :: .pointer (some ⟨gp, q * 1, none⟩) :: .int .u8 (bv ((fbB m).getD q 0)) :: .pointer (some ⟨g8, 0, none⟩) :: .int .u8 (bv ma) :: .int .u8 (bv ((fbB m).getD q 0 ^^^ ma)) :: .pointer (some ⟨gp, q * 1, none⟩) :: U16lc (U4lc ([])))))) rfl ?_
      refine hK63 _ _ ?_
      refine wp_seq_k (fun K900803 hK900804 => ?_)
      refine free_frame (n := 10) (T := _) [0, 0, 2, 7, 15, 0, 32, 127, 255, 511] [(0, 41), (1, 42), (2, 43), (3, 44), (4, 45), (5, 46), (6, 47), (7, 48), (8, 49)] (fun bq_ vq_ w_ => qv ((fun i_ => match i_ with | 0 => some (.slice (some ⟨gp, 0, none⟩) ((fbB m).length) c30) | 1 => some (.int .i64 (q : Int)) | 2 => some (.int .i64 ((q + 1 : Nat) : Int)) | 3 => some (.pointer (some ⟨gp, (q + 1 : Nat) * 1, none⟩)) | 4 => some (.int .u8 (bv (((fbB m).set q ((fbB m).getD q 0 ^^^ ma)).getD (q + 1) 0))) | 5 => some (.pointer (some ⟨g8, 1, none⟩)) | 6 => some (.int .u8 (bv mb)) | 7 => some (.int .u8 (bv (((fbB m).set q ((fbB m).getD q 0 ^^^ ma)).getD (q + 1) 0 ^^^ mb))) | 8 => some (.pointer (some ⟨gp, (q + 1 : Nat) * 1, none⟩)) | _ => none) : Nat → Option Value) bq_ vq_ ∧ cond (bq_ 9) (St w (fun _ => False) w_ ([blk gp ((nums .u8 ((((fbB m).set q ((fbB m).getD q 0 ^^^ ma)).set (q + 1) (((fbB m).set q ((fbB m).getD q 0 ^^^ ma)).getD (q + 1) 0 ^^^ mb)).map bv) ++ spp)) 5, blk g8 [.int .u8 (bv ma), .int .u8 (bv mb)] 45, blk g5 [.int .i64 m.k, .int .u32 m.e, .int .u64 m.s, .int .u32 m.te, .int .u32 m.ts, .int .u32 m.be, .int .u32 m.bs, .int .i64 m.ix, .int .i64 m.tt, .int .u32 m.tk, .slice A m.its.length c, .slice B m.hvs.length d] 33])) ((St w (fun _ => False) w_ ([blk gp ((nums .u8 (((fbB m).set q ((fbB m).getD q 0 ^^^ ma)).map bv) ++ spp)) 5, blk g8 [.int .u8 (bv ma), .int .u8 (bv mb)] 45, blk g5 [.int .i64 m.k, .int .u32 m.e, .int .u64 m.s, .int .u32 m.te, .int .u32 m.ts, .int .u32 m.be, .int .u32 m.bs, .int .i64 m.ix, .int .i64 m.tt, .int .u32 m.tk, .slice A m.its.length c, .slice B m.hvs.length d] 33])))) (by kernel_rfl) rfl rfl (by kernel_rfl) (by kernel_rfl) rfl (by kernel_rfl) (by kernel_rfl) ⟨qv_none, HS.draw⟩ ?_ ?_
      · clear HS
        intro i_ hi_ bq_ vq_ a_ w_ hG hb_ hon hoff hfr hel hval
        obtain ⟨hV, hE⟩ := hG
        have hi_ := List.mem_range.1 hi_
        obtain ⟨l_, rfl⟩ := hfr
        have hv_ := fun (j t : Nat) (v : Value) (h1 : (j, t) ∈ [(0, 41), (1, 42), (2, 43), (3, 44), (4, 45), (5, 46), (6, 47), (7, 48), (8, 49)]) h2 h3 => (hval (j, t) h1 h3).trans (congrArg some (hV j v h2 h3))
        have hcs : i_ = 0 ∨ i_ = 1 ∨ i_ = 2 ∨ i_ = 3 ∨ i_ = 4 ∨ i_ = 5 ∨ i_ = 6 ∨ i_ = 7 ∨ i_ = 8 ∨ i_ = 9 := by omega
        rcases hcs with rfl | rfl | rfl | rfl | rfl | rfl | rfl | rfl | rfl | rfl
        · have e7 : evl l_ (.tmp 7) = .slice (some ⟨gp, 0, none⟩) ((fbB m).length) c30 := evl_of ((hel 7 (by decide)).trans rfl)
          exact ⟨_, rfl, fun K_ hK_ => q_op _ (x_move (.slice (some ⟨gp, 0, none⟩) ((fbB m).length) c30) rfl e7) (hK_ _ _ ⟨qv_up hV (fun _ h => Option.some.inj h), hE⟩)⟩
        · have e1 : evl l_ (.tmp 1) = .int .i64 (q : Int) := evl_of ((hel 1 (by decide)).trans rfl)
          exact ⟨_, rfl, fun K_ hK_ => q_op _ (x_move (.int .i64 (q : Int)) rfl e1) (hK_ _ _ ⟨qv_up hV (fun _ h => Option.some.inj h), hE⟩)⟩
        · have e42 : evl l_ (.tmp 42) = .int .i64 (q : Int) := evl_of (hv_ 1 42 _ (by decide) rfl (hon 1 (by decide)))
          exact ⟨_, rfl, fun K_ hK_ => q_op _ (x_arith (k := .i64) (m := (q : Int)) (n := 1) .add (((q + 1 : Nat) : Int)) rfl e42 rfl (show IntKind.i64.wrap ((q : Int) + 1) = ((q + 1 : Nat) : Int) from ((wr64' (by have := fb_le (m := m) hw; omega)).trans (by omega))) rfl) (hK_ _ _ ⟨qv_up hV (fun _ h => Option.some.inj h), hE⟩)⟩
        · have e41 : evl l_ (.tmp 41) = .slice (some ⟨gp, 0, none⟩) ((fbB m).length) c30 := evl_of (hv_ 0 41 _ (by decide) rfl (hon 0 (by decide)))
          have e43 : evl l_ (.tmp 43) = .int .i64 ((q + 1 : Nat) : Int) := evl_of (hv_ 2 43 _ (by decide) rfl (hon 2 (by decide)))
          exact ⟨_, rfl, fun K_ hK_ => q_op (.pointer (some ⟨gp, (q + 1 : Nat) * 1, none⟩)) ((x_index (A := ⟨gp, 0, none⟩) (j := (q + 1 : Nat) * 1) (sz := 1) rfl e41 e43 Try.underlying22 (by kernel_rfl) (by omega) rfl).trans (by rw [add_mk, Nat.zero_add])) (hK_ _ _ ⟨qv_up hV (fun _ h => Option.some.inj h), hE⟩)⟩
        · have hE0 := hE
          rw [show bq_ 9 = false from (hoff 9 (by decide))] at hE0
          simp only [cond_true, cond_false] at hE0
          have HS := hE0
          have e44 : evl l_ (.tmp 44) = .pointer (some ⟨gp, (q + 1 : Nat) * 1, none⟩) := evl_of (hv_ 3 44 _ (by decide) rfl (hon 3 (by decide)))
          exact ⟨_, rfl, fun K_ hK_ => q_op _ (x_load (.int .u8 (bv (((fbB m).set q ((fbB m).getD q 0 ^^^ ma)).getD (q + 1) 0))) rfl e44 (bkCell (HS.get (.head _)) ((q + 1 : Nat) * 1) _ (gt_at (by rw [List.length_set]; omega))) (by rfl)) (hK_ _ _ ⟨qv_up hV (fun _ h => Option.some.inj h), hE⟩)⟩
        · have e5 : evl l_ (.tmp 5) = .pointer (some ⟨g8, 0, none⟩) := evl_of ((hel 5 (by decide)).trans rfl)
          exact ⟨_, rfl, fun K_ hK_ => q_op _ (x_indexArr (sz := 1) (j := 1) rfl e5 rfl Try.underlying45 (by kernel_rfl) (by omega) rfl) (hK_ _ _ ⟨qv_up hV (fun _ h => Option.some.inj h), hE⟩)⟩
        · have hE0 := hE
          rw [show bq_ 9 = false from (hoff 9 (by decide))] at hE0
          simp only [cond_true, cond_false] at hE0
          have HS := hE0
          have e46 : evl l_ (.tmp 46) = .pointer (some ⟨g8, 1, none⟩) := evl_of (hv_ 5 46 _ (by decide) rfl (hon 5 (by decide)))
          exact ⟨_, rfl, fun K_ hK_ => q_op _ (x_load (.int .u8 (bv mb)) rfl e46 (bkCell (HS.get (.tail _ (.head _))) 1 _ rfl) (by rfl)) (hK_ _ _ ⟨qv_up hV (fun _ h => Option.some.inj h), hE⟩)⟩
        · have e45 : evl l_ (.tmp 45) = .int .u8 (bv (((fbB m).set q ((fbB m).getD q 0 ^^^ ma)).getD (q + 1) 0)) := evl_of (hv_ 4 45 _ (by decide) rfl (hon 4 (by decide)))
          have e47 : evl l_ (.tmp 47) = .int .u8 (bv mb) := evl_of (hv_ 6 47 _ (by decide) rfl (hon 6 (by decide)))
          exact ⟨_, rfl, fun K_ hK_ => q_op _ (x_xor (k := .u8) (m := (bv (((fbB m).set q ((fbB m).getD q 0 ^^^ ma)).getD (q + 1) 0))) (n := (bv mb)) ((bv (((fbB m).set q ((fbB m).getD q 0 ^^^ ma)).getD (q + 1) 0 ^^^ mb))) rfl e45 e47 (xor_k (((fbB m).set q ((fbB m).getD q 0 ^^^ ma)).getD (q + 1) 0) mb)) (hK_ _ _ ⟨qv_up hV (fun _ h => Option.some.inj h), hE⟩)⟩
        · have e41 : evl l_ (.tmp 41) = .slice (some ⟨gp, 0, none⟩) ((fbB m).length) c30 := evl_of (hv_ 0 41 _ (by decide) rfl (hon 0 (by decide)))
          have e43 : evl l_ (.tmp 43) = .int .i64 ((q + 1 : Nat) : Int) := evl_of (hv_ 2 43 _ (by decide) rfl (hon 2 (by decide)))
          exact ⟨_, rfl, fun K_ hK_ => q_op (.pointer (some ⟨gp, (q + 1 : Nat) * 1, none⟩)) ((x_index (A := ⟨gp, 0, none⟩) (j := (q + 1 : Nat) * 1) (sz := 1) rfl e41 e43 Try.underlying22 (by kernel_rfl) (by omega) rfl).trans (by rw [add_mk, Nat.zero_add])) (hK_ _ _ ⟨qv_up hV (fun _ h => Option.some.inj h), hE⟩)⟩
        · have h48 : (fr l_).tmps[48]? = some (.int .u8 (bv (((fbB m).set q ((fbB m).getD q 0 ^^^ ma)).getD (q + 1) 0 ^^^ mb))) := hv_ 7 48 _ (by decide) rfl (hon 7 (by decide))
          have h49 : (fr l_).tmps[49]? = some (.pointer (some ⟨gp, (q + 1 : Nat) * 1, none⟩)) := hv_ 8 49 _ (by decide) rfl (hon 8 (by decide))
          have hE0 := hE
          rw [show bq_ 9 = false from hb_] at hE0
          simp only [cond_true, cond_false] at hE0
          have HS := hE0
          have e48 : evl l_ (.tmp 48) = .int .u8 (bv (((fbB m).set q ((fbB m).getD q 0 ^^^ ma)).getD (q + 1) 0 ^^^ mb)) := evl_of h48
          have e49 : evl l_ (.tmp 49) = .pointer (some ⟨gp, (q + 1 : Nat) * 1, none⟩) := evl_of h49
          refine ⟨_, rfl, fun K_ hK_ => wp_of_list rfl ?_⟩
          intro ops_
          refine St.store (cs' := (nums .u8 ((((fbB m).set q ((fbB m).getD q 0 ^^^ ma)).set (q + 1) (((fbB m).set q ((fbB m).getD q 0 ^^^ ma)).getD (q + 1) 0 ^^^ mb)).map bv) ++ spp)) HS (.int .u8 (bv (((fbB m).set q ((fbB m).getD q 0 ^^^ ma)).getD (q + 1) 0 ^^^ mb))) e49 e48 rfl (by kernel_rfl) (decide_eq_true (by rw [List.length_append, nums_length, List.length_map, List.length_set]; omega)) (st_at (by rw [List.length_set]; omega) _) ?_
          clear HS
          intro w900901 HS
          refine wpList_nil ?_
          refine norm_none (hK_ undef _ ⟨qv_up hV (by intro _ h; cases h), ?_⟩)
          show cond true _ _
          rw [cond_true]
          exact (((HS.front 2 rfl).front 2 rfl).front 2 rfl)
      intro bq_ vq_ w_ hall hG
      obtain ⟨hV, hE⟩ := hG
      clear HS
      rw [show bq_ 9 = true from hall 9 (by decide)] at hE
      simp only [cond_true] at hE
      have HS := hE
      have hv0 := hV 0 _ rfl (hall 0 (by decide))
      have hv1 := hV 1 _ rfl (hall 1 (by decide))
      have hv2 := hV 2 _ rfl (hall 2 (by decide))
      have hv3 := hV 3 _ rfl (hall 3 (by decide))
      have hv4 := hV 4 _ rfl (hall 4 (by decide))
      have hv5 := hV 5 _ rfl (hall 5 (by decide))
      have hv6 := hV 6 _ rfl (hall 6 (by decide))
      have hv7 := hV 7 _ rfl (hall 7 (by decide))
      have hv8 := hV 8 _ rfl (hall 8 (by decide))
      clear hV hall
      rw [putSel_fr]
      simp only [tells, List.map_cons, List.map_nil, setAll, List.set_cons_succ, List.set_cons_zero, hv0, hv1, hv2, hv3, hv4, hv5, hv6, hv7, hv8]
      clear hv0 hv1 hv2 hv3 hv4 hv5 hv6 hv7 hv8
      generalize w_ = w900902 at HS ⊢
      refine fr_at (l' := (mgV m A c B d :: .int .i64 (q : Int) :: .agg ([.int .u8 (bv ma), .int .u8 (bv mb)] : List Value).toArray :: .pointer (some ⟨g5, 0, none⟩) :: undef :: .pointer (some ⟨g8, 0, none⟩) :: .bool false :: .slice (some ⟨gp, 0, none⟩) ((fbB m).length) c30 :: .int .i64 (fbE m) :: undef :: undef :: .bool true :: .bool false :: mgV m A c B d :: .bool false :: .tuple [.slice (some ⟨gp, 0, none⟩) ((fbB m).length) c30, .int .i64 (fbE m)].toArray :: V8.l qz60 (V8.l qz61 (.bool false :: .slice (some ⟨gp, 0, none⟩) ((fbB m).length) c30 :: .int .i64 (q : Int) :: .pointer (some ⟨gp, q * 1, none⟩) :: .int .u8 (bv ((fbB m).getD q 0)) :: .pointer (some ⟨g8, 0, none⟩) :: .int .u8 (bv ma) :: .int .u8 (bv ((fbB m).getD q 0 ^^^ ma)) :: .pointer (some ⟨gp, q * 1, none⟩) :: .slice (some ⟨gp, 0, none⟩) ((fbB m).length) c30 :: .int .i64 (q : Int) :: .int .i64 ((q + 1 : Nat) : Int) :: .pointer (some ⟨gp, (q + 1 : Nat) * 1, none⟩) :: .int .u8 (bv (((fbB m).set q ((fbB m).getD q 0 ^^^ ma)).getD (q + 1) 0)) :: .pointer (some ⟨g8, 1, none⟩) :: .int .u8 (bv mb) :: .int .u8 (bv (((fbB m).set q ((fbB m).getD q 0 ^^^ ma)).getD (q + 1) 0 ^^^ mb)) :: .pointer (some ⟨gp, (q + 1 : Nat) * 1, none⟩) :: U8lc (undef :: undef :: undef :: []))))) rfl ?_
      rw [trn_eq (fbB m) q ma mb hq] at HS
      refine hK900804 _ _ ?_
      refine wp_seq_k (fun K900903 hK900904 => ?_)
      refine c_region (fun ops900906 hops900905 => ?_)
      clear hops900905
      refine p_run _ (x_move (.slice (some ⟨gp, 0, none⟩) ((fbB m).length) c30) rfl rfl) rfl ?_
      refine w_call [.slice (some ⟨gp, 0, none⟩) ((fbB m).length) c30] Try.func10 (by kernel_rfl) (by rfl) rfl ?_
      refine (fread_cut _ (some ⟨gp, 0, none⟩) c30 (trnB (fbB m) q ma mb) (fbB m).length (trnB_length _ _ _ _).symm (blk_sl (HS.get (.head _)) (by rw [trnB_length]; exact hcp) (by rw [trnB_length]; have := fb_le (m := m) hw; omega)) (by rw [trnB_length]; have := fb_le (m := m) hw; omega)).mono ?_
      rintro e w900911 ⟨A900907, c900908, B900909, d900910, rfl, hk_⟩
      replace HS := HS.more hk_
      clear hk_
      refine ⟨_, rfl, ?_⟩
      refine p_run _ (x_move (.tuple [mgV (frM (trnB (fbB m) q ma mb)) A900907 c900908 B900909 d900910, .int .i64 (frE (trnB (fbB m) q ma mb))].toArray) rfl rfl) rfl ?_
      refine p_run _ (x_extract (vs := [mgV (frM (trnB (fbB m) q ma mb)) A900907 c900908 B900909 d900910, .int .i64 (frE (trnB (fbB m) q ma mb))]) 0 (mgV (frM (trnB (fbB m) q ma mb)) A900907 c900908 B900909 d900910) rfl rfl rfl) rfl ?_
      refine p_run (l' := (mgV m A c B d :: .int .i64 (q : Int) :: .agg ([.int .u8 (bv ma), .int .u8 (bv mb)] : List Value).toArray :: .pointer (some ⟨g5, 0, none⟩) :: undef :: .pointer (some ⟨g8, 0, none⟩) :: .bool false :: .slice (some ⟨gp, 0, none⟩) ((fbB m).length) c30 :: .int .i64 (fbE m) :: undef :: undef :: .bool true :: .bool false :: mgV m A c B d :: .bool false :: .tuple [.slice (some ⟨gp, 0, none⟩) ((fbB m).length) c30, .int .i64 (fbE m)].toArray :: V8.l qz60 (V8.l qz61 (.bool false :: .slice (some ⟨gp, 0, none⟩) ((fbB m).length) c30 :: .int .i64 (q : Int) :: .pointer (some ⟨gp, q * 1, none⟩) :: .int .u8 (bv ((fbB m).getD q 0)) :: .pointer (some ⟨g8, 0, none⟩) :: .int .u8 (bv ma) :: .int .u8 (bv ((fbB m).getD q 0 ^^^ ma)) :: .pointer (some ⟨gp, q * 1, none⟩) :: .slice (some ⟨gp, 0, none⟩) ((fbB m).length) c30 :: .int .i64 (q : Int) :: .int .i64 ((q + 1 : Nat) : Int) :: .pointer (some ⟨gp, (q + 1 : Nat) * 1, none⟩) :: .int .u8 (bv (((fbB m).set q ((fbB m).getD q 0 ^^^ ma)).getD (q + 1) 0)) :: .pointer (some ⟨g8, 1, none⟩) :: .int .u8 (bv mb) :: .int .u8 (bv (((fbB m).set q ((fbB m).getD q 0 ^^^ ma)).getD (q + 1) 0 ^^^ mb)) :: .pointer (some ⟨gp, (q + 1 : Nat) * 1, none⟩) :: .tuple [mgV (frM (trnB (fbB m) q ma mb)) A900907 c900908 B900909 d900910, .int .i64 (frE (trnB (fbB m) q ma mb))].toArray :: .slice (some ⟨gp, 0, none⟩) ((fbB m).length) c30 :: .tuple [mgV (frM (trnB (fbB m) q ma mb)) A900907 c900908 B900909 d900910, .int .i64 (frE (trnB (fbB m) q ma mb))].toArray :: mgV (frM (trnB (fbB m) q ma mb)) A900907 c900908 B900909 d900910 :: .int .i64 (frE (trnB (fbB m) q ma mb)) :: U4lc (undef :: undef :: []))))) _ (x_extract (vs := [mgV (frM (trnB (fbB m) q ma mb)) A900907 c900908 B900909 d900910, .int .i64 (frE (trnB (fbB m) q ma mb))]) 1 (.int .i64 (frE (trnB (fbB m) q ma mb))) rfl rfl rfl) rfl ?_
      refine St.wAlloc HS (cs := [.int .i64 0, .int .u32 0, .int .u64 0, .int .u32 0, .int .u32 0, .int .u32 0, .int .u32 0, .int .i64 0, .int .i64 0, .int .u32 0, .slice none 0 0, .slice none 0 0]) (.agg [.int .i64 0, .int .u32 0, .int .u64 0, .int .u32 0, .int .u32 0, .int .u32 0, .int .u32 0, .int .i64 0, .int .i64 0, .int .u32 0, .slice none 0 0, .slice none 0 0].toArray) (by kernel_rfl) rfl ?_
      clear HS
      intro g900912 w900913 hg900914 HS
      refine St.stores (cs' := [.int .i64 ((frM (trnB (fbB m) q ma mb)).k), .int .u32 ((frM (trnB (fbB m) q ma mb)).e), .int .u64 ((frM (trnB (fbB m) q ma mb)).s), .int .u32 ((frM (trnB (fbB m) q ma mb)).te), .int .u32 ((frM (trnB (fbB m) q ma mb)).ts), .int .u32 ((frM (trnB (fbB m) q ma mb)).be), .int .u32 ((frM (trnB (fbB m) q ma mb)).bs), .int .i64 ((frM (trnB (fbB m) q ma mb)).ix), .int .i64 ((frM (trnB (fbB m) q ma mb)).tt), .int .u32 ((frM (trnB (fbB m) q ma mb)).tk), .slice A900907 ((frM (trnB (fbB m) q ma mb)).its.length) c900908, .slice B900909 ((frM (trnB (fbB m) q ma mb)).hvs.length) d900910]) HS [.int .i64 ((frM (trnB (fbB m) q ma mb)).k), .int .u32 ((frM (trnB (fbB m) q ma mb)).e), .int .u64 ((frM (trnB (fbB m) q ma mb)).s), .int .u32 ((frM (trnB (fbB m) q ma mb)).te), .int .u32 ((frM (trnB (fbB m) q ma mb)).ts), .int .u32 ((frM (trnB (fbB m) q ma mb)).be), .int .u32 ((frM (trnB (fbB m) q ma mb)).bs), .int .i64 ((frM (trnB (fbB m) q ma mb)).ix), .int .i64 ((frM (trnB (fbB m) q ma mb)).tt), .int .u32 ((frM (trnB (fbB m) q ma mb)).tk), .slice A900907 ((frM (trnB (fbB m) q ma mb)).its.length) c900908, .slice B900909 ((frM (trnB (fbB m) q ma mb)).hvs.length) d900910] 12 rfl rfl (by rfl) (by kernel_rfl) rfl (by simp) rfl ?_
      clear HS
      intro w900915 HS
      refine p_run _ (x_assign (.int .i64 (frE (trnB (fbB m) q ma mb))) rfl rfl) rfl ?_
      refine wpList_nil ?_
      refine hK900904 _ _ ?_
      refine wp_seq_k (fun K900916 hK900917 => ?_)
      by_cases hz : ma = 0 ∧ mb = 0
      · skip
        refine c_region (fun ops900919 hops900918 => ?_)
        clear hops900918
        refine p_run _ (x_move (.int .i64 (frE (trnB (fbB m) q ma mb))) rfl rfl) rfl ?_
        refine p_run _ (x_cmp (k := .i64) (m := (frE (trnB (fbB m) q ma mb))) (n := 0) .eql true rfl rfl rfl (by rw [hfr, if_pos hz]; rfl) rfl) rfl ?_
        refine p_run (l' := (mgV m A c B d :: .int .i64 (q : Int) :: .agg ([.int .u8 (bv ma), .int .u8 (bv mb)] : List Value).toArray :: .pointer (some ⟨g5, 0, none⟩) :: undef :: .pointer (some ⟨g8, 0, none⟩) :: .bool false :: .slice (some ⟨gp, 0, none⟩) ((fbB m).length) c30 :: .int .i64 (fbE m) :: .pointer (some ⟨g900912, 0, none⟩) :: .int .i64 (frE (trnB (fbB m) q ma mb)) :: .bool true :: .bool false :: mgV m A c B d :: .bool false :: .tuple [.slice (some ⟨gp, 0, none⟩) ((fbB m).length) c30, .int .i64 (fbE m)].toArray :: V8.l qz60 (V8.l qz61 (.bool false :: .slice (some ⟨gp, 0, none⟩) ((fbB m).length) c30 :: .int .i64 (q : Int) :: .pointer (some ⟨gp, q * 1, none⟩) :: .int .u8 (bv ((fbB m).getD q 0)) :: .pointer (some ⟨g8, 0, none⟩) :: .int .u8 (bv ma) :: .int .u8 (bv ((fbB m).getD q 0 ^^^ ma)) :: .pointer (some ⟨gp, q * 1, none⟩) :: .slice (some ⟨gp, 0, none⟩) ((fbB m).length) c30 :: .int .i64 (q : Int) :: .int .i64 ((q + 1 : Nat) : Int) :: .pointer (some ⟨gp, (q + 1 : Nat) * 1, none⟩) :: .int .u8 (bv (((fbB m).set q ((fbB m).getD q 0 ^^^ ma)).getD (q + 1) 0)) :: .pointer (some ⟨g8, 1, none⟩) :: .int .u8 (bv mb) :: .int .u8 (bv (((fbB m).set q ((fbB m).getD q 0 ^^^ ma)).getD (q + 1) 0 ^^^ mb)) :: .pointer (some ⟨gp, (q + 1 : Nat) * 1, none⟩) :: .tuple [mgV (frM (trnB (fbB m) q ma mb)) A900907 c900908 B900909 d900910, .int .i64 (frE (trnB (fbB m) q ma mb))].toArray :: .slice (some ⟨gp, 0, none⟩) ((fbB m).length) c30 :: .tuple [mgV (frM (trnB (fbB m) q ma mb)) A900907 c900908 B900909 d900910, .int .i64 (frE (trnB (fbB m) q ma mb))].toArray :: mgV (frM (trnB (fbB m) q ma mb)) A900907 c900908 B900909 d900910 :: .int .i64 (frE (trnB (fbB m) q ma mb)) :: .int .i64 (frE (trnB (fbB m) q ma mb)) :: .bool true :: .agg ([.int .u8 (bv ma), .int .u8 (bv mb)] : List Value).toArray :: undef :: undef :: undef :: [])))) _ (x_loads [.int .u8 (bv ma), .int .u8 (bv mb)] 2 rfl rfl (bkCells (HS.get (.tail _ (.tail _ (.tail _ (.tail _ (.head _)))))) 0 _ rfl) (by rfl) (by kernel_rfl) rfl) rfl ?_
        refine p_run _ (x_build [.int .u8 0, .int .u8 0] rfl (by kernel_rfl)) rfl ?_
        refine p_run _ (x_eq .eql (.agg #[.int .u8 (bv ma), .int .u8 (bv mb)]) (.agg #[.int .u8 0, .int .u8 0]) (decide ([bv ma, bv mb] = [0, 0])) true rfl rfl rfl (equal_nums Try.underlying45 Try.underlying5 (by kernel_rfl) (by kernel_rfl) [bv ma, bv mb] [0, 0] rfl rfl) (by rw [decide_eq_true ((mask_eq _ _).2 hz)]; rfl) rfl (guard_agg (by kernel_rfl)) (guard_agg (by kernel_rfl))) rfl ?_
        refine p_run _ (x_boolcmp .eql true true true rfl rfl rfl Try.underlying4 rfl rfl) rfl ?_
        refine p_run _ (x_assign (.bool true) rfl rfl) rfl ?_
        refine wpList_nil ?_
        obtain ⟨qz900920, hqz900920⟩ : ∃ q_ : V8, q_ = ⟨.int .i64 (fbE m), .pointer (some ⟨g900912, 0, none⟩), .int .i64 (frE (trnB (fbB m) q ma mb)), .bool true, .bool false, mgV m A c B d, .bool false, .tuple [.slice (some ⟨gp, 0, none⟩) ((fbB m).length) c30, .int .i64 (fbE m)].toArray⟩ := ⟨_, rfl⟩
        obtain ⟨qz900921, hqz900921⟩ : ∃ q_ : V8, q_ = ⟨.bool false, .slice (some ⟨gp, 0, none⟩) ((fbB m).length) c30, .int .i64 (q : Int), .pointer (some ⟨gp, q * 1, none⟩), .int .u8 (bv ((fbB m).getD q 0)), .pointer (some ⟨g8, 0, none⟩), .int .u8 (bv ma), .int .u8 (bv ((fbB m).getD q 0 ^^^ ma))⟩ := ⟨_, rfl⟩
        obtain ⟨qz900922, hqz900922⟩ : ∃ q_ : V8, q_ = ⟨.pointer (some ⟨gp, q * 1, none⟩), .slice (some ⟨gp, 0, none⟩) ((fbB m).length) c30, .int .i64 (q : Int), .int .i64 ((q + 1 : Nat) : Int), .pointer (some ⟨gp, (q + 1 : Nat) * 1, none⟩), .int .u8 (bv (((fbB m).set q ((fbB m).getD q 0 ^^^ ma)).getD (q + 1) 0)), .pointer (some ⟨g8, 1, none⟩), .int .u8 (bv mb)⟩ := ⟨_, rfl⟩
        obtain ⟨qz900923, hqz900923⟩ : ∃ q_ : V8, q_ = ⟨.int .u8 (bv (((fbB m).set q ((fbB m).getD q 0 ^^^ ma)).getD (q + 1) 0 ^^^ mb)), .pointer (some ⟨gp, (q + 1 : Nat) * 1, none⟩), .tuple [mgV (frM (trnB (fbB m) q ma mb)) A900907 c900908 B900909 d900910, .int .i64 (frE (trnB (fbB m) q ma mb))].toArray, .slice (some ⟨gp, 0, none⟩) ((fbB m).length) c30, .tuple [mgV (frM (trnB (fbB m) q ma mb)) A900907 c900908 B900909 d900910, .int .i64 (frE (trnB (fbB m) q ma mb))].toArray, mgV (frM (trnB (fbB m) q ma mb)) A900907 c900908 B900909 d900910, .int .i64 (frE (trnB (fbB m) q ma mb)), .int .i64 (frE (trnB (fbB m) q ma mb))⟩ := ⟨_, rfl⟩
        refine fr_at (l' := (mgV m A c B d :: .int .i64 (q : Int) :: .agg ([.int .u8 (bv ma), .int .u8 (bv mb)] : List Value).toArray :: .pointer (some ⟨g5, 0, none⟩) :: undef :: .pointer (some ⟨g8, 0, none⟩) :: .bool true :: .slice (some ⟨gp, 0, none⟩) ((fbB m).length) c30 :: V8.l qz900920 (V8.l qz60 (V8.l qz61 (V8.l qz900921 (V8.l qz900922 (V8.l qz900923 (.bool true :: .agg ([.int .u8 (bv ma), .int .u8 (bv mb)] : List Value).toArray :: .agg ([.int .u8 0, .int .u8 0] : List Value).toArray :: .bool true :: .bool true :: [])))))))) (by subst hqz900920 hqz900921 hqz900922 hqz900923; rfl) ?_
        refine hK900917 _ _ ?_
        refine wp_ret ?_
        try simp only [Exit.inBlock, Exit.then]
        refine c_ret (.bool true) (r_tmp rfl rfl) ?_
        exact ⟨rfl, HS.belowOf⟩
      · skip
        refine c_region (fun ops900925 hops900924 => ?_)
        clear hops900924
        refine p_run _ (x_move (.int .i64 (frE (trnB (fbB m) q ma mb))) rfl rfl) rfl ?_
        refine p_run _ (x_cmp (k := .i64) (m := (frE (trnB (fbB m) q ma mb))) (n := 0) .eql false rfl rfl rfl (by rw [hfr, if_neg hz]; rfl) rfl) rfl ?_
        refine p_run _ (x_loads [.int .u8 (bv ma), .int .u8 (bv mb)] 2 rfl rfl (bkCells (HS.get (.tail _ (.tail _ (.tail _ (.tail _ (.head _)))))) 0 _ rfl) (by rfl) (by kernel_rfl) rfl) rfl ?_
        refine p_run _ (x_build [.int .u8 0, .int .u8 0] rfl (by kernel_rfl)) rfl ?_
        refine p_run (l' := (mgV m A c B d :: .int .i64 (q : Int) :: .agg ([.int .u8 (bv ma), .int .u8 (bv mb)] : List Value).toArray :: .pointer (some ⟨g5, 0, none⟩) :: undef :: .pointer (some ⟨g8, 0, none⟩) :: .bool false :: .slice (some ⟨gp, 0, none⟩) ((fbB m).length) c30 :: .int .i64 (fbE m) :: .pointer (some ⟨g900912, 0, none⟩) :: .int .i64 (frE (trnB (fbB m) q ma mb)) :: .bool true :: .bool false :: mgV m A c B d :: .bool false :: .tuple [.slice (some ⟨gp, 0, none⟩) ((fbB m).length) c30, .int .i64 (fbE m)].toArray :: V8.l qz60 (V8.l qz61 (.bool false :: .slice (some ⟨gp, 0, none⟩) ((fbB m).length) c30 :: .int .i64 (q : Int) :: .pointer (some ⟨gp, q * 1, none⟩) :: .int .u8 (bv ((fbB m).getD q 0)) :: .pointer (some ⟨g8, 0, none⟩) :: .int .u8 (bv ma) :: .int .u8 (bv ((fbB m).getD q 0 ^^^ ma)) :: .pointer (some ⟨gp, q * 1, none⟩) :: .slice (some ⟨gp, 0, none⟩) ((fbB m).length) c30 :: .int .i64 (q : Int) :: .int .i64 ((q + 1 : Nat) : Int) :: .pointer (some ⟨gp, (q + 1 : Nat) * 1, none⟩) :: .int .u8 (bv (((fbB m).set q ((fbB m).getD q 0 ^^^ ma)).getD (q + 1) 0)) :: .pointer (some ⟨g8, 1, none⟩) :: .int .u8 (bv mb) :: .int .u8 (bv (((fbB m).set q ((fbB m).getD q 0 ^^^ ma)).getD (q + 1) 0 ^^^ mb)) :: .pointer (some ⟨gp, (q + 1 : Nat) * 1, none⟩) :: .tuple [mgV (frM (trnB (fbB m) q ma mb)) A900907 c900908 B900909 d900910, .int .i64 (frE (trnB (fbB m) q ma mb))].toArray :: .slice (some ⟨gp, 0, none⟩) ((fbB m).length) c30 :: .tuple [mgV (frM (trnB (fbB m) q ma mb)) A900907 c900908 B900909 d900910, .int .i64 (frE (trnB (fbB m) q ma mb))].toArray :: mgV (frM (trnB (fbB m) q ma mb)) A900907 c900908 B900909 d900910 :: .int .i64 (frE (trnB (fbB m) q ma mb)) :: .int .i64 (frE (trnB (fbB m) q ma mb)) :: .bool false :: .agg ([.int .u8 (bv ma), .int .u8 (bv mb)] : List Value).toArray :: .agg ([.int .u8 0, .int .u8 0] : List Value).toArray :: .bool false :: undef :: [])))) _ (x_eq .eql (.agg #[.int .u8 (bv ma), .int .u8 (bv mb)]) (.agg #[.int .u8 0, .int .u8 0]) (decide ([bv ma, bv mb] = [0, 0])) false rfl rfl rfl (equal_nums Try.underlying45 Try.underlying5 (by kernel_rfl) (by kernel_rfl) [bv ma, bv mb] [0, 0] rfl rfl) (by rw [decide_eq_false (fun h => hz ((mask_eq _ _).1 h))]; rfl) rfl (guard_agg (by kernel_rfl)) (guard_agg (by kernel_rfl))) rfl ?_
        refine p_run _ (x_boolcmp .eql false false true rfl rfl rfl Try.underlying4 rfl rfl) rfl ?_
        refine p_run _ (x_assign (.bool true) rfl rfl) rfl ?_
        refine wpList_nil ?_
        refine hK900917 _ _ ?_
        refine wp_ret ?_
        try simp only [Exit.inBlock, Exit.then]
        refine c_ret (.bool true) (r_tmp rfl rfl) ?_
        exact ⟨rfl, HS.belowOf⟩
  · skip
    refine c_enter Try.func7 rfl 61 rfl (mgV m A c B d :: .int .i64 at_ :: .agg ([.int .u8 (bv ma), .int .u8 (bv mb)] : List Value).toArray :: U32lc (U16lc (U8lc (undef :: undef :: [])))) rfl ?_
    refine wp_seq_k (fun K1 hK2 => ?_)
    refine c_region (fun ops4 hops3 => ?_)
    clear hops3
    refine St.wBox HS (cs := [.int .i64 m.k, .int .u32 m.e, .int .u64 m.s, .int .u32 m.te, .int .u32 m.ts, .int .u32 m.be, .int .u32 m.bs, .int .i64 m.ix, .int .i64 m.tt, .int .u32 m.tk, .slice A m.its.length c, .slice B m.hvs.length d]) (mgV m A c B d) rfl rfl ?_
    clear HS
    intro g5 w6 hg7 HS
    refine St.wBox HS (cs := [.int .u8 (bv ma), .int .u8 (bv mb)]) (.agg ([.int .u8 (bv ma), .int .u8 (bv mb)] : List Value).toArray) rfl rfl ?_
    clear HS
    intro g8 w9 hg10 HS
    refine p_run _ (x_assign (.bool false) rfl rfl) rfl ?_
    refine wpList_nil ?_
    refine fr_at (l' := (mgV m A c B d :: .int .i64 at_ :: .agg ([.int .u8 (bv ma), .int .u8 (bv mb)] : List Value).toArray :: .pointer (some ⟨g5, 0, none⟩) :: undef :: .pointer (some ⟨g8, 0, none⟩) :: .bool false :: U32lc (U16lc (U4lc (undef :: undef :: []))))) rfl ?_
    refine hK2 _ _ ?_
    refine wp_seq_k (fun K11 hK12 => ?_)
    refine wp_seq_k (fun K13 hK14 => ?_)
    refine c_region (fun ops16 hops15 => ?_)
    clear hops15
    refine w_call [] Try.func11 (by kernel_rfl) (by rfl) rfl ?_
    refine (falive_any _).mono ?_
    rintro e w17 ⟨rfl, hb_⟩
    replace HS := HS.here hb_
    clear hb_
    refine ⟨_, rfl, ?_⟩
    refine p_run _ (x_not true rfl rfl) rfl ?_
    refine wpList_nil ?_
    refine hK14 _ _ ?_
    refine c_false rfl ?_
    refine wp_skip ?_
    refine hK12 _ _ ?_
    refine wp_seq_k (fun K18 hK19 => ?_)
    refine wp_seq_k (fun K20 hK21 => ?_)
    refine c_region (fun ops23 hops22 => ?_)
    clear hops22
    refine p_run _ (x_loads [.int .i64 m.k, .int .u32 m.e, .int .u64 m.s, .int .u32 m.te, .int .u32 m.ts, .int .u32 m.be, .int .u32 m.bs, .int .i64 m.ix, .int .i64 m.tt, .int .u32 m.tk, .slice A m.its.length c, .slice B m.hvs.length d] 12 rfl rfl (bkCells (HS.get (.tail _ (.head _))) 0 _ rfl) (by rfl) (by kernel_rfl) rfl) rfl ?_
    refine w_call [mgV m A c B d] Try.func12 (by kernel_rfl) (by rfl) rfl ?_
    refine (fgreat_any _ m A c B d).mono ?_
    rintro e w24 ⟨he_, hb_⟩
    rw [hg] at he_
    subst he_
    replace HS := HS.here hb_
    clear hb_
    refine ⟨_, rfl, ?_⟩
    refine wpList_nil ?_
    refine fr_at (l' := (mgV m A c B d :: .int .i64 at_ :: .agg ([.int .u8 (bv ma), .int .u8 (bv mb)] : List Value).toArray :: .pointer (some ⟨g5, 0, none⟩) :: undef :: .pointer (some ⟨g8, 0, none⟩) :: .bool false :: U4lc (.bool true :: .bool false :: mgV m A c B d :: .bool true :: U32lc (U8lc (U4lc (undef :: undef :: [])))))) rfl ?_
    refine hK21 _ _ ?_
    refine c_true rfl ?_
    refine wp_seq_k (fun K25 hK26 => ?_)
    refine c_region (fun ops28 hops27 => ?_)
    clear hops27
    refine p_run _ (x_assign (.bool true) rfl rfl) rfl ?_
    refine wpList_nil ?_
    refine hK26 _ _ ?_
    refine wp_ret ?_
    try simp only [Exit.inBlock, Exit.then]
    refine c_ret (.bool true) (r_tmp rfl rfl) ?_
    exact ⟨rfl, HS.belowOf⟩
theorem ffinds_any (m : Mg) (A : Option Addr) (c : Nat) (B : Option Addr) (d : Nat) (at_ : Int) (ms : List UInt8) (w : World) (hw : m.wf) (hA : kIt.C w A m.its.length m.its) (hB : kHv.C w B m.hvs.length m.hvs) (hat : -9223372036854775808 ≤ at_ ∧ at_ ≤ 9223372036854775807) (hm : ms.length = 2) : Calls Try.prog 7 #[mgV m A c B d, .int .i64 at_, .agg (nums .u8 (ms.map bv)).toArray] w fun e w' => e = .returned (.bool true) ∧ Below w.heap.size w w' := by
  match ms, hm with
  | [a, b], _ => exact ffinds_law w m hw A c hA B d hB at_ hat a b
end Go.Proofs.Ytmachdikonelbaa
