/- The document's Read of messages. -/
import Derived.Test.YtmachdikonelbaaZFrameReadsRg3
import Derived.Test.YtmachdikonelbaaZFrameReadsFrL
set_option linter.unusedVariables false
set_option linter.unusedSimpArgs false
namespace Go.Proofs.Ytmachdikonelbaa
open Go.RowKit Go.Proofs.YtmachdikonelbaaW.PrintWords Go.Proofs.YtmachdikonelbaaW.PrintLast Crc
abbrev U4g4 (l : List Value) : List Value := undef :: undef :: undef :: undef :: l
abbrev U8g4 (l : List Value) : List Value := U4g4 (U4g4 l)
abbrev U16g4 (l : List Value) : List Value := U8g4 (U8g4 l)
abbrev U32g4 (l : List Value) : List Value := U16g4 (U16g4 l)
abbrev U64g4 (l : List Value) : List Value := U32g4 (U32g4 l)
theorem rg_seq {a b : List UInt8} : ((strB a).toList == (strB b).toList) = decide (a = b) := by
  rw [strB_list, strB_list]
  by_cases e : a = b
  · rw [e]; simp
  · simp [e]
def cpy (O : List UInt8) (j : Nat) : List UInt8 := O.take j ++ List.replicate (16 - j) 0
theorem cpy_end {O : List UInt8} : cpy O O.length = pad16 O := by unfold cpy pad16; rw [List.take_length]
theorem cpy_len {O : List UInt8} {j : Nat} (h : j ≤ O.length) (h2 : O.length ≤ 16) : (cpy O j).length = 16 := by unfold cpy; rw [List.length_append, List.length_take, List.length_replicate]; omega
theorem cpy_set {O : List UInt8} {j : Nat} (hj : j < O.length) (h2 : O.length ≤ 16) : (cpy O j).set j O[j] = cpy O (j + 1) := by
  unfold cpy
  have l1 : (O.take j).length = j := by rw [List.length_take]; omega
  rw [List.set_append, if_neg (by omega), l1, Nat.sub_self, show 16 - j = (16 - (j + 1)) + 1 by omega, List.replicate_succ, List.set_cons_zero, List.take_succ_eq_append_getElem hj, List.append_assoc]
  rfl
theorem it_set {k : Int} {h : Bool} {O : List UInt8} {j : Nat} (hj : j < O.length) (h2 : O.length ≤ 16) : (itC (k, h, cpy O j)).set (2 + j) (.int .u8 (bv O[j])) = itC (k, h, cpy O (j + 1)) := by
  unfold itC
  rw [Nat.add_comm 2 j, List.set_cons_succ, List.set_cons_succ]
  dsimp only
  rw [nums_set, ← cpy_set hj h2, List.map_set]
def rfOk (b : List UInt8) : Bool := mgOk (rdM b) && decide (sealB (mgB (rdM b)) = b)
theorem rf_of {b : List UInt8} {z : Bool} (h : ((fbE (rdM b) != 0) || !(decide (fbB (rdM b) = b))) = z) : rfOk b = !z := by
  unfold rfOk
  rcases hm : mgOk (rdM b) with _ | _
  · rw [(fb_no hm).2] at h; subst h; rfl
  · rw [(fb_yes hm).2, (fb_yes hm).1] at h
    subst h
    rw [Bool.true_and]
    simp
theorem rd_mgr {m : Mg} (hw : m.wf) (h : mgOk m = true) (r : List UInt8) : rdM (mgB m ++ r) = m := by
  obtain ⟨⟨k1, k2⟩, ⟨e1, e2⟩, ⟨x1, x2, t1, t2⟩, hi, hh, hio, hho⟩ := nm_of h
  have N : ∀ (W : Nat) (hw : wideB (W : Int) = true) (hW : W ≤ 8) (x : Int) (h0 : 0 ≤ x) (h1 : x < 256 ^ W) (r : List UInt8), rn (W : Int) (nB W x ++ r, false) = x ∧ rs (W : Int) (nB W x ++ r, false) = (r, false) := fun W hw hW x h0 h1 r => rn_nB W hw hW h0 h1 r
  have hI : rdL rdIt m.its.length (m.its.flatMap itB ++ (nB 1 (m.hvs.length : Int) ++ (m.hvs.flatMap hvB ++ r)), false) = (m.its, (nB 1 (m.hvs.length : Int) ++ (m.hvs.flatMap hvB ++ r), false)) := by
    rw [rd_all m.its _ (fun x hx r => rd_it (hw.its x hx) (hio x hx) r) m.its.length (Nat.le_refl _), List.take_of_length_le (Nat.le_refl _), List.drop_of_length_le (Nat.le_refl _)]
    rfl
  have hH : rdL rdHv m.hvs.length (m.hvs.flatMap hvB ++ r, false) = (m.hvs, (r, false)) := by
    rw [rd_all m.hvs r (fun x hx r => rd_hv (hw.hvs x hx) r) m.hvs.length (Nat.le_refl _), List.take_of_length_le (Nat.le_refl _), List.drop_of_length_le (Nat.le_refl _)]
    rfl
  have uI : upN (m.its.length : Int) 4 = m.its.length := by unfold upN; rw [Int.toNat_natCast]; omega
  have uH : upN (m.hvs.length : Int) 8 = m.hvs.length := by unfold upN; rw [Int.toNat_natCast]; omega
  have g1 := fun r => N 1 (by decide) (by decide) m.k (by omega) (by omega) r
  have g2 := fun r => N 4 (by decide) (by decide) m.e (by omega) (by omega) r
  have g3 := fun r => N 8 (by decide) (by decide) m.s hw.s.1 hw.s.2 r
  have g4 := fun r => N 4 (by decide) (by decide) m.te hw.te.1 hw.te.2 r
  have g5 := fun r => N 4 (by decide) (by decide) m.ts hw.ts.1 hw.ts.2 r
  have g6 := fun r => N 4 (by decide) (by decide) m.be hw.be.1 hw.be.2 r
  have g7 := fun r => N 4 (by decide) (by decide) m.bs hw.bs.1 hw.bs.2 r
  have g8 := fun r => N 1 (by decide) (by decide) m.ix (by omega) (by omega) r
  have g9 := fun r => N 1 (by decide) (by decide) m.tt (by omega) (by omega) r
  have g10 := fun r => N 4 (by decide) (by decide) m.tk hw.tk.1 hw.tk.2 r
  have g11 := fun r => N 1 (by decide) (by decide) (m.its.length : Int) (by omega) (by omega) r
  have g12 := fun r => N 1 (by decide) (by decide) (m.hvs.length : Int) (by omega) (by omega) r
  have c1 : ((1 : Nat) : Int) = 1 := rfl
  have c4 : ((4 : Nat) : Int) = 4 := rfl
  have c8 : ((8 : Nat) : Int) = 8 := rfl
  simp only [c1, c4, c8] at g1 g2 g3 g4 g5 g6 g7 g8 g9 g10 g11 g12
  unfold rdM mgB
  simp only [List.append_assoc, (g1 _).1, (g1 _).2, (g2 _).1, (g2 _).2, (g3 _).1, (g3 _).2, (g4 _).1, (g4 _).2, (g5 _).1, (g5 _).2, (g6 _).1, (g6 _).2, (g7 _).1, (g7 _).2, (g8 _).1, (g8 _).2, (g9 _).1, (g9 _).2, (g10 _).1, (g10 _).2, (g11 _).1, (g11 _).2, uI, hI, (g12 _).1, (g12 _).2, uH, hH]
theorem rf_ok (b : List UInt8) : rfOk b = fOk b := by
  have h1 : ∀ z, fOk b = z → rfOk b = z := by
    intro z hz
    rcases z with _ | _
    · rcases hr : rfOk b with _ | _
      · rfl
      · unfold rfOk at hr
        simp only [Bool.and_eq_true, decide_eq_true_eq] at hr
        have := (fr_back (rdM_wf b) hr.1).1
        rw [(fb_yes hr.1).1, hr.2, hz] at this
        cases this
    · have hm : mgOk (inM b) = true ∧ sealB (mgB (inM b)) = b := by
        unfold fOk at hz
        simp only [Bool.and_eq_true, decide_eq_true_eq] at hz
        exact ⟨hz.1.2, hz.2⟩
      have hd : rdM b = inM b := by
        conv => lhs; rw [← hm.2]
        unfold sealB
        exact rd_mgr (rdM_wf _) hm.1 _
      unfold rfOk
      rw [hd, hm.1, decide_eq_true hm.2]
      rfl
  exact h1 _ rfl
theorem rf_yes {b : List UInt8} (h : rfOk b = true) : frM b = rdM b ∧ frE b = 0 := by
  have h2 := h
  rw [rf_ok] at h2
  have hm : mgOk (inM b) = true ∧ sealB (mgB (inM b)) = b := by
    have h3 := h2
    unfold fOk at h3
    simp only [Bool.and_eq_true, decide_eq_true_eq] at h3
    exact ⟨h3.1.2, h3.2⟩
  have hd : rdM b = inM b := by
    conv => lhs; rw [← hm.2]
    unfold sealB
    exact rd_mgr (rdM_wf _) hm.1 _
  rw [hd]
  exact fr_yes h2
theorem rf_no {b : List UInt8} (h : rfOk b = false) : frM b = zMg ∧ frE b = 181 := by rw [rf_ok] at h; exact fr_no h
set_option maxRecDepth 10000 in
set_option maxHeartbeats 8000000 in
theorem r18read_any (w : World) (A : Option Addr) (c : Nat) (b : List UInt8) (hr : Sl w A c b) (hl : b.length ≤ 100000) : Calls Try.prog 18 #[.slice A b.length c] w fun e w' => ∃ A1 c1 A2 c2, e = .returned (.tuple #[mgV (frM b) A1 c1 A2 c2, .int .i64 (frE b)]) ∧ St w (fun _ => False) w' [row kIt rfl 53 (.slice A1 (frM b).its.length c1) (frM b).its, row kHv rfl 55 (.slice A2 (frM b).hvs.length c2) (frM b).hvs] := by
  have HS := St.empty w
  · skip
    refine c_enter Try.func18 rfl 139 rfl (.slice A b.length c :: U64g4 (U64g4 (U8g4 (undef :: undef :: [])))) rfl ?_
    refine wp_seq_k (fun K1 hK2 => ?_)
    refine c_region (fun ops4 hops3 => ?_)
    clear hops3
    refine St.wAlloc HS (cs := [.int .i64 0, .int .u32 0, .int .u64 0, .int .u32 0, .int .u32 0, .int .u32 0, .int .u32 0, .int .i64 0, .int .i64 0, .int .u32 0, .slice none 0 0, .slice none 0 0]) (.agg [.int .i64 0, .int .u32 0, .int .u64 0, .int .u32 0, .int .u32 0, .int .u32 0, .int .u32 0, .int .i64 0, .int .i64 0, .int .u32 0, .slice none 0 0, .slice none 0 0].toArray) (by kernel_rfl) rfl ?_
    clear HS
    intro g5 w6 hg7 HS
    refine p_run _ (x_assign (.int .i64 0) rfl rfl) rfl ?_
    refine wpList_nil ?_
    refine hK2 _ _ ?_
    refine wp_seq_k (fun K8 hK9 => ?_)
    refine c_region (fun ops11 hops10 => ?_)
    clear hops10
    refine p_run _ (x_move (.slice A b.length c) rfl rfl) rfl ?_
    refine p_run _ (x_build [.slice A b.length c, .int .i64 0, .bool false] rfl (by kernel_rfl)) rfl ?_
    refine St.wBox HS (cs := [.slice A b.length c, .int .i64 0, .bool false]) (.agg ([.slice A b.length c, .int .i64 0, .bool false] : List Value).toArray) rfl rfl ?_
    clear HS
    intro g12 w13 hg14 HS
    refine p_run _ (x_assign (.pointer (some ⟨g12, 0, none⟩)) rfl rfl) rfl ?_
    refine wpList_nil ?_
    refine fr_at (l' := (.slice A b.length c :: undef :: .pointer (some ⟨g5, 0, none⟩) :: .int .i64 0 :: .pointer (some ⟨g12, 0, none⟩) :: U8g4 (undef :: undef :: undef :: .slice A b.length c :: .agg ([.slice A b.length c, .int .i64 0, .bool false] : List Value).toArray :: .pointer (some ⟨g12, 0, none⟩) :: U64g4 (U32g4 (U16g4 (U8g4 ([]))))))) rfl ?_
    refine hK9 _ _ ?_
    refine wp_seq_k (fun K15 hK16 => ?_)
    refine c_region (fun ops18 hops17 => ?_)
    clear hops17
    refine p_run _ (x_build [.int .i64 0, .int .u32 0, .int .u64 0, .int .u32 0, .int .u32 0, .int .u32 0, .int .u32 0, .int .i64 0, .int .i64 0, .int .u32 0, .slice none 0 0, .slice none 0 0] rfl (by kernel_rfl)) rfl ?_
    refine St.wAlloc HS (cs := [.int .i64 0, .int .u32 0, .int .u64 0, .int .u32 0, .int .u32 0, .int .u32 0, .int .u32 0, .int .i64 0, .int .i64 0, .int .u32 0, .slice none 0 0, .slice none 0 0]) (.agg [.int .i64 0, .int .u32 0, .int .u64 0, .int .u32 0, .int .u32 0, .int .u32 0, .int .u32 0, .int .i64 0, .int .i64 0, .int .u32 0, .slice none 0 0, .slice none 0 0].toArray) (by kernel_rfl) rfl ?_
    clear HS
    intro g19 w20 hg21 HS
    refine St.stores (cs' := [.int .i64 0, .int .u32 0, .int .u64 0, .int .u32 0, .int .u32 0, .int .u32 0, .int .u32 0, .int .i64 0, .int .i64 0, .int .u32 0, .slice none 0 0, .slice none 0 0]) HS [.int .i64 0, .int .u32 0, .int .u64 0, .int .u32 0, .int .u32 0, .int .u32 0, .int .u32 0, .int .i64 0, .int .i64 0, .int .u32 0, .slice none 0 0, .slice none 0 0] 12 rfl rfl (by rfl) (by kernel_rfl) rfl (by simp) rfl ?_
    clear HS
    intro w22 HS
    refine wpList_nil ?_
    refine hK16 _ _ ?_
    refine wp_seq_k (fun K23 hK24 => ?_)
    refine c_region (fun ops26 hops25 => ?_)
    clear hops25
    refine p_run _ (x_move (.pointer (some ⟨g12, 0, none⟩)) rfl rfl) rfl ?_
    refine w_call [.pointer (some ⟨g12, 0, none⟩), .int .i64 1] Try.func41 (by kernel_rfl) (by rfl) rfl ?_
    replace HS := (HS.front 1 rfl)
    refine (r18num_any (s := (b, false)) (at_ := 0) HS hr hl ⟨rfl, Nat.zero_le _⟩ (n := 1) (.inl rfl)).mono ?_
    clear HS
    rintro e w29 ⟨at27, rfl, hat28, HS⟩
    replace HS : St w (fun _ => False) w29 ([blk g12 [.slice A b.length c, .int .i64 (at27 : Int), .bool ((st1 b).2)] 80, blk g19 [.int .i64 0, .int .u32 0, .int .u64 0, .int .u32 0, .int .u32 0, .int .u32 0, .int .u32 0, .int .i64 0, .int .i64 0, .int .u32 0, .slice none 0 0, .slice none 0 0] 33, blk g5 [.int .i64 0, .int .u32 0, .int .u64 0, .int .u32 0, .int .u32 0, .int .u32 0, .int .u32 0, .int .i64 0, .int .i64 0, .int .u32 0, .slice none 0 0, .slice none 0 0] 33]) := HS
    refine ⟨_, rfl, ?_⟩
    refine p_run _ (x_conv (k := .u64) (m := (rn 1 (b, false))) .i64 ((rn 1 (b, false))) rfl (by rw [Try.underlying27]; rfl) Try.underlying3 rfl (wr64' (by have := bd1 (b, false); omega))) rfl ?_
    refine p_run _ (x_field (j := 0) _ _ rfl rfl Try.underlying33 rfl (by rfl) rfl) rfl ?_
    refine St.store (cs' := [.int .i64 (rn 1 (b, false)), .int .u32 0, .int .u64 0, .int .u32 0, .int .u32 0, .int .u32 0, .int .u32 0, .int .i64 0, .int .i64 0, .int .u32 0, .slice none 0 0, .slice none 0 0]) (HS.front 1 rfl) (.int .i64 (rn 1 (b, false))) rfl rfl rfl (by kernel_rfl) (by rfl) rfl ?_
    clear HS
    intro w30 HS
    refine wpList_nil ?_
    obtain ⟨qz31, hqz31⟩ : ∃ q_ : V8, q_ = ⟨.slice A b.length c, .agg ([.slice A b.length c, .int .i64 0, .bool false] : List Value).toArray, .pointer (some ⟨g12, 0, none⟩), .agg ([.int .i64 0, .int .u32 0, .int .u64 0, .int .u32 0, .int .u32 0, .int .u32 0, .int .u32 0, .int .i64 0, .int .i64 0, .int .u32 0, .slice none 0 0, .slice none 0 0] : List Value).toArray, .pointer (some ⟨g12, 0, none⟩), .int .u64 (rn 1 (b, false)), .int .i64 (rn 1 (b, false)), .pointer (some ⟨g19, 0, none⟩)⟩ := ⟨_, rfl⟩
    refine fr_at (l' := (.slice A b.length c :: undef :: .pointer (some ⟨g5, 0, none⟩) :: .int .i64 0 :: .pointer (some ⟨g12, 0, none⟩) :: .pointer (some ⟨g19, 0, none⟩) :: U8g4 (undef :: undef :: V8.l qz31 (U64g4 (U32g4 (U16g4 (undef :: undef :: undef :: []))))))) (by subst hqz31; rfl) ?_
    refine hK24 _ _ ?_
    refine wp_seq_k (fun K32 hK33 => ?_)
    refine c_region (fun ops35 hops34 => ?_)
    clear hops34
    refine p_run _ (x_move (.pointer (some ⟨g12, 0, none⟩)) rfl rfl) rfl ?_
    refine w_call [.pointer (some ⟨g12, 0, none⟩), .int .i64 4] Try.func41 (by kernel_rfl) (by rfl) rfl ?_
    replace HS := (HS.front 1 rfl)
    refine (r18num_any (s := (st1 b)) (at_ := at27) HS hr hl hat28 (n := 4) (.inr (.inl rfl))).mono ?_
    clear HS
    rintro e w38 ⟨at36, rfl, hat37, HS⟩
    replace HS : St w (fun _ => False) w38 ([blk g12 [.slice A b.length c, .int .i64 (at36 : Int), .bool ((st2 b).2)] 80, blk g19 [.int .i64 (rn 1 (b, false)), .int .u32 0, .int .u64 0, .int .u32 0, .int .u32 0, .int .u32 0, .int .u32 0, .int .i64 0, .int .i64 0, .int .u32 0, .slice none 0 0, .slice none 0 0] 33, blk g5 [.int .i64 0, .int .u32 0, .int .u64 0, .int .u32 0, .int .u32 0, .int .u32 0, .int .u32 0, .int .i64 0, .int .i64 0, .int .u32 0, .slice none 0 0, .slice none 0 0] 33]) := HS
    refine ⟨_, rfl, ?_⟩
    refine p_run _ (x_conv (k := .u64) (m := (rn 4 (st1 b))) .u32 ((rn 4 (st1 b))) rfl (by rw [Try.underlying27]; rfl) Try.underlying26 rfl (wu32 (bd4 _))) rfl ?_
    refine p_run _ (x_field (j := 1) _ _ rfl rfl Try.underlying33 rfl (by rfl) rfl) rfl ?_
    refine St.store (cs' := [.int .i64 (rn 1 (b, false)), .int .u32 (rn 4 (st1 b)), .int .u64 0, .int .u32 0, .int .u32 0, .int .u32 0, .int .u32 0, .int .i64 0, .int .i64 0, .int .u32 0, .slice none 0 0, .slice none 0 0]) (HS.front 1 rfl) (.int .u32 (rn 4 (st1 b))) rfl rfl rfl (by kernel_rfl) (by rfl) rfl ?_
    clear HS
    intro w39 HS
    refine wpList_nil ?_
    refine fr_at (l' := (.slice A b.length c :: undef :: .pointer (some ⟨g5, 0, none⟩) :: .int .i64 0 :: .pointer (some ⟨g12, 0, none⟩) :: .pointer (some ⟨g19, 0, none⟩) :: U8g4 (undef :: undef :: V8.l qz31 (.pointer (some ⟨g12, 0, none⟩) :: .int .u64 (rn 4 (st1 b)) :: .int .u32 (rn 4 (st1 b)) :: .pointer (some ⟨g19, 1, none⟩) :: U64g4 (U32g4 (U8g4 (U4g4 (undef :: undef :: undef :: [])))))))) rfl ?_
    refine hK33 _ _ ?_
    refine wp_seq_k (fun K40 hK41 => ?_)
    refine c_region (fun ops43 hops42 => ?_)
    clear hops42
    refine p_run _ (x_move (.pointer (some ⟨g12, 0, none⟩)) rfl rfl) rfl ?_
    refine w_call [.pointer (some ⟨g12, 0, none⟩), .int .i64 8] Try.func41 (by kernel_rfl) (by rfl) rfl ?_
    replace HS := (HS.front 1 rfl)
    refine (r18num_any (s := (st2 b)) (at_ := at36) HS hr hl hat37 (n := 8) (.inr (.inr rfl))).mono ?_
    clear HS
    rintro e w46 ⟨at44, rfl, hat45, HS⟩
    replace HS : St w (fun _ => False) w46 ([blk g12 [.slice A b.length c, .int .i64 (at44 : Int), .bool ((st3 b).2)] 80, blk g19 [.int .i64 (rn 1 (b, false)), .int .u32 (rn 4 (st1 b)), .int .u64 0, .int .u32 0, .int .u32 0, .int .u32 0, .int .u32 0, .int .i64 0, .int .i64 0, .int .u32 0, .slice none 0 0, .slice none 0 0] 33, blk g5 [.int .i64 0, .int .u32 0, .int .u64 0, .int .u32 0, .int .u32 0, .int .u32 0, .int .u32 0, .int .i64 0, .int .i64 0, .int .u32 0, .slice none 0 0, .slice none 0 0] 33]) := HS
    refine ⟨_, rfl, ?_⟩
    refine p_run _ (x_field (j := 2) _ _ rfl rfl Try.underlying33 rfl (by rfl) rfl) rfl ?_
    refine St.store (cs' := [.int .i64 (rn 1 (b, false)), .int .u32 (rn 4 (st1 b)), .int .u64 (rn 8 (st2 b)), .int .u32 0, .int .u32 0, .int .u32 0, .int .u32 0, .int .i64 0, .int .i64 0, .int .u32 0, .slice none 0 0, .slice none 0 0]) (HS.front 1 rfl) (.int .u64 (rn 8 (st2 b))) rfl rfl rfl (by kernel_rfl) (by rfl) rfl ?_
    clear HS
    intro w47 HS
    refine wpList_nil ?_
    refine hK41 _ _ ?_
    refine wp_seq_k (fun K48 hK49 => ?_)
    refine c_region (fun ops51 hops50 => ?_)
    clear hops50
    refine p_run _ (x_move (.pointer (some ⟨g12, 0, none⟩)) rfl rfl) rfl ?_
    refine w_call [.pointer (some ⟨g12, 0, none⟩)] Try.func42 (by kernel_rfl) (by rfl) rfl ?_
    replace HS := (HS.front 1 rfl)
    refine (r18lab_any (s := (st3 b)) (at_ := at44) HS hr hl hat45).mono ?_
    clear HS
    rintro e w54 ⟨at52, rfl, hat53, HS⟩
    replace HS : St w (fun _ => False) w54 ([blk g12 [.slice A b.length c, .int .i64 (at52 : Int), .bool ((st5 b).2)] 80, blk g19 [.int .i64 (rn 1 (b, false)), .int .u32 (rn 4 (st1 b)), .int .u64 (rn 8 (st2 b)), .int .u32 0, .int .u32 0, .int .u32 0, .int .u32 0, .int .i64 0, .int .i64 0, .int .u32 0, .slice none 0 0, .slice none 0 0] 33, blk g5 [.int .i64 0, .int .u32 0, .int .u64 0, .int .u32 0, .int .u32 0, .int .u32 0, .int .u32 0, .int .i64 0, .int .i64 0, .int .u32 0, .slice none 0 0, .slice none 0 0] 33]) := HS
    refine ⟨_, rfl, ?_⟩
    refine p_run _ (x_field (j := 3) _ _ rfl rfl Try.underlying33 rfl (by rfl) rfl) rfl ?_
    refine St.stores (cs' := [.int .i64 (rn 1 (b, false)), .int .u32 (rn 4 (st1 b)), .int .u64 (rn 8 (st2 b)), .int .u32 (rn 4 (st3 b)), .int .u32 (rn 4 (st4 b)), .int .u32 0, .int .u32 0, .int .i64 0, .int .i64 0, .int .u32 0, .slice none 0 0, .slice none 0 0]) (HS.front 1 rfl) [.int .u32 (rn 4 (st3 b)), .int .u32 (rn 4 (st4 b))] 2 rfl rfl (by rfl) (by kernel_rfl) rfl (by simp) rfl ?_
    clear HS
    intro w55 HS
    refine wpList_nil ?_
    obtain ⟨qz56, hqz56⟩ : ∃ q_ : V8, q_ = ⟨.pointer (some ⟨g12, 0, none⟩), .int .u64 (rn 4 (st1 b)), .int .u32 (rn 4 (st1 b)), .pointer (some ⟨g19, 1, none⟩), .pointer (some ⟨g12, 0, none⟩), .int .u64 (rn 8 (st2 b)), .pointer (some ⟨g19, 2, none⟩), .pointer (some ⟨g12, 0, none⟩)⟩ := ⟨_, rfl⟩
    refine fr_at (l' := (.slice A b.length c :: undef :: .pointer (some ⟨g5, 0, none⟩) :: .int .i64 0 :: .pointer (some ⟨g12, 0, none⟩) :: .pointer (some ⟨g19, 0, none⟩) :: U8g4 (undef :: undef :: V8.l qz31 (V8.l qz56 (.agg ([.int .u32 (rn 4 (st3 b)), .int .u32 (rn 4 (st4 b))] : List Value).toArray :: .pointer (some ⟨g19, 3, none⟩) :: U64g4 (U32g4 (U8g4 (undef :: [])))))))) (by subst hqz56; rfl) ?_
    refine hK49 _ _ ?_
    refine wp_seq_k (fun K57 hK58 => ?_)
    refine c_region (fun ops60 hops59 => ?_)
    clear hops59
    refine p_run _ (x_move (.pointer (some ⟨g12, 0, none⟩)) rfl rfl) rfl ?_
    refine w_call [.pointer (some ⟨g12, 0, none⟩)] Try.func42 (by kernel_rfl) (by rfl) rfl ?_
    replace HS := (HS.front 1 rfl)
    refine (r18lab_any (s := (st5 b)) (at_ := at52) HS hr hl hat53).mono ?_
    clear HS
    rintro e w63 ⟨at61, rfl, hat62, HS⟩
    replace HS : St w (fun _ => False) w63 ([blk g12 [.slice A b.length c, .int .i64 (at61 : Int), .bool ((st7 b).2)] 80, blk g19 [.int .i64 (rn 1 (b, false)), .int .u32 (rn 4 (st1 b)), .int .u64 (rn 8 (st2 b)), .int .u32 (rn 4 (st3 b)), .int .u32 (rn 4 (st4 b)), .int .u32 0, .int .u32 0, .int .i64 0, .int .i64 0, .int .u32 0, .slice none 0 0, .slice none 0 0] 33, blk g5 [.int .i64 0, .int .u32 0, .int .u64 0, .int .u32 0, .int .u32 0, .int .u32 0, .int .u32 0, .int .i64 0, .int .i64 0, .int .u32 0, .slice none 0 0, .slice none 0 0] 33]) := HS
    refine ⟨_, rfl, ?_⟩
    refine p_run _ (x_field (j := 5) _ _ rfl rfl Try.underlying33 rfl (by rfl) rfl) rfl ?_
    refine St.stores (cs' := [.int .i64 (rn 1 (b, false)), .int .u32 (rn 4 (st1 b)), .int .u64 (rn 8 (st2 b)), .int .u32 (rn 4 (st3 b)), .int .u32 (rn 4 (st4 b)), .int .u32 (rn 4 (st5 b)), .int .u32 (rn 4 (st6 b)), .int .i64 0, .int .i64 0, .int .u32 0, .slice none 0 0, .slice none 0 0]) (HS.front 1 rfl) [.int .u32 (rn 4 (st5 b)), .int .u32 (rn 4 (st6 b))] 2 rfl rfl (by rfl) (by kernel_rfl) rfl (by simp) rfl ?_
    clear HS
    intro w64 HS
    refine wpList_nil ?_
    refine hK58 _ _ ?_
    refine wp_seq_k (fun K65 hK66 => ?_)
    refine c_region (fun ops68 hops67 => ?_)
    clear hops67
    refine p_run _ (x_move (.pointer (some ⟨g12, 0, none⟩)) rfl rfl) rfl ?_
    refine w_call [.pointer (some ⟨g12, 0, none⟩), .int .i64 1] Try.func41 (by kernel_rfl) (by rfl) rfl ?_
    replace HS := (HS.front 1 rfl)
    refine (r18num_any (s := (st7 b)) (at_ := at61) HS hr hl hat62 (n := 1) (.inl rfl)).mono ?_
    clear HS
    rintro e w71 ⟨at69, rfl, hat70, HS⟩
    replace HS : St w (fun _ => False) w71 ([blk g12 [.slice A b.length c, .int .i64 (at69 : Int), .bool ((st8 b).2)] 80, blk g19 [.int .i64 (rn 1 (b, false)), .int .u32 (rn 4 (st1 b)), .int .u64 (rn 8 (st2 b)), .int .u32 (rn 4 (st3 b)), .int .u32 (rn 4 (st4 b)), .int .u32 (rn 4 (st5 b)), .int .u32 (rn 4 (st6 b)), .int .i64 0, .int .i64 0, .int .u32 0, .slice none 0 0, .slice none 0 0] 33, blk g5 [.int .i64 0, .int .u32 0, .int .u64 0, .int .u32 0, .int .u32 0, .int .u32 0, .int .u32 0, .int .i64 0, .int .i64 0, .int .u32 0, .slice none 0 0, .slice none 0 0] 33]) := HS
    refine ⟨_, rfl, ?_⟩
    refine p_run _ (x_conv (k := .u64) (m := (rn 1 (st7 b))) .i64 ((rn 1 (st7 b))) rfl (by rw [Try.underlying27]; rfl) Try.underlying3 rfl (wr64' (by have := bd1 (st7 b); omega))) rfl ?_
    refine p_run (l' := (.slice A b.length c :: undef :: .pointer (some ⟨g5, 0, none⟩) :: .int .i64 0 :: .pointer (some ⟨g12, 0, none⟩) :: .pointer (some ⟨g19, 0, none⟩) :: U8g4 (undef :: undef :: V8.l qz31 (V8.l qz56 (.agg ([.int .u32 (rn 4 (st3 b)), .int .u32 (rn 4 (st4 b))] : List Value).toArray :: .pointer (some ⟨g19, 3, none⟩) :: .pointer (some ⟨g12, 0, none⟩) :: .agg ([.int .u32 (rn 4 (st5 b)), .int .u32 (rn 4 (st6 b))] : List Value).toArray :: .pointer (some ⟨g19, 5, none⟩) :: .pointer (some ⟨g12, 0, none⟩) :: .int .u64 (rn 1 (st7 b)) :: .int .i64 (rn 1 (st7 b)) :: .pointer (some ⟨g19, 7, none⟩) :: U64g4 (U32g4 (undef :: undef :: []))))))) _ (x_field (j := 7) _ _ rfl rfl Try.underlying33 rfl (by rfl) rfl) rfl ?_
    refine St.store (cs' := [.int .i64 (rn 1 (b, false)), .int .u32 (rn 4 (st1 b)), .int .u64 (rn 8 (st2 b)), .int .u32 (rn 4 (st3 b)), .int .u32 (rn 4 (st4 b)), .int .u32 (rn 4 (st5 b)), .int .u32 (rn 4 (st6 b)), .int .i64 (rn 1 (st7 b)), .int .i64 0, .int .u32 0, .slice none 0 0, .slice none 0 0]) (HS.front 1 rfl) (.int .i64 (rn 1 (st7 b))) rfl rfl rfl (by kernel_rfl) (by rfl) rfl ?_
    clear HS
    intro w72 HS
    refine wpList_nil ?_
    refine hK66 _ _ ?_
    refine wp_seq_k (fun K73 hK74 => ?_)
    refine c_region (fun ops76 hops75 => ?_)
    clear hops75
    refine p_run _ (x_move (.pointer (some ⟨g12, 0, none⟩)) rfl rfl) rfl ?_
    refine w_call [.pointer (some ⟨g12, 0, none⟩), .int .i64 1] Try.func41 (by kernel_rfl) (by rfl) rfl ?_
    replace HS := (HS.front 1 rfl)
    refine (r18num_any (s := (st8 b)) (at_ := at69) HS hr hl hat70 (n := 1) (.inl rfl)).mono ?_
    clear HS
    rintro e w79 ⟨at77, rfl, hat78, HS⟩
    replace HS : St w (fun _ => False) w79 ([blk g12 [.slice A b.length c, .int .i64 (at77 : Int), .bool ((st9 b).2)] 80, blk g19 [.int .i64 (rn 1 (b, false)), .int .u32 (rn 4 (st1 b)), .int .u64 (rn 8 (st2 b)), .int .u32 (rn 4 (st3 b)), .int .u32 (rn 4 (st4 b)), .int .u32 (rn 4 (st5 b)), .int .u32 (rn 4 (st6 b)), .int .i64 (rn 1 (st7 b)), .int .i64 0, .int .u32 0, .slice none 0 0, .slice none 0 0] 33, blk g5 [.int .i64 0, .int .u32 0, .int .u64 0, .int .u32 0, .int .u32 0, .int .u32 0, .int .u32 0, .int .i64 0, .int .i64 0, .int .u32 0, .slice none 0 0, .slice none 0 0] 33]) := HS
    refine ⟨_, rfl, ?_⟩
    refine p_run _ (x_conv (k := .u64) (m := (rn 1 (st8 b))) .i64 ((rn 1 (st8 b))) rfl (by rw [Try.underlying27]; rfl) Try.underlying3 rfl (wr64' (by have := bd1 (st8 b); omega))) rfl ?_
    refine p_run _ (x_field (j := 8) _ _ rfl rfl Try.underlying33 rfl (by rfl) rfl) rfl ?_
    refine St.store (cs' := [.int .i64 (rn 1 (b, false)), .int .u32 (rn 4 (st1 b)), .int .u64 (rn 8 (st2 b)), .int .u32 (rn 4 (st3 b)), .int .u32 (rn 4 (st4 b)), .int .u32 (rn 4 (st5 b)), .int .u32 (rn 4 (st6 b)), .int .i64 (rn 1 (st7 b)), .int .i64 (rn 1 (st8 b)), .int .u32 0, .slice none 0 0, .slice none 0 0]) (HS.front 1 rfl) (.int .i64 (rn 1 (st8 b))) rfl rfl rfl (by kernel_rfl) (by rfl) rfl ?_
    clear HS
    intro w80 HS
    refine wpList_nil ?_
    obtain ⟨qz81, hqz81⟩ : ∃ q_ : V8, q_ = ⟨.agg ([.int .u32 (rn 4 (st3 b)), .int .u32 (rn 4 (st4 b))] : List Value).toArray, .pointer (some ⟨g19, 3, none⟩), .pointer (some ⟨g12, 0, none⟩), .agg ([.int .u32 (rn 4 (st5 b)), .int .u32 (rn 4 (st6 b))] : List Value).toArray, .pointer (some ⟨g19, 5, none⟩), .pointer (some ⟨g12, 0, none⟩), .int .u64 (rn 1 (st7 b)), .int .i64 (rn 1 (st7 b))⟩ := ⟨_, rfl⟩
    refine fr_at (l' := (.slice A b.length c :: undef :: .pointer (some ⟨g5, 0, none⟩) :: .int .i64 0 :: .pointer (some ⟨g12, 0, none⟩) :: .pointer (some ⟨g19, 0, none⟩) :: U8g4 (undef :: undef :: V8.l qz31 (V8.l qz56 (V8.l qz81 (.pointer (some ⟨g19, 7, none⟩) :: .pointer (some ⟨g12, 0, none⟩) :: .int .u64 (rn 1 (st8 b)) :: .int .i64 (rn 1 (st8 b)) :: .pointer (some ⟨g19, 8, none⟩) :: U64g4 (U16g4 (U8g4 (U4g4 (undef :: undef :: [])))))))))) (by subst hqz81; rfl) ?_
    refine hK74 _ _ ?_
    refine wp_seq_k (fun K82 hK83 => ?_)
    refine c_region (fun ops85 hops84 => ?_)
    clear hops84
    refine p_run _ (x_move (.pointer (some ⟨g12, 0, none⟩)) rfl rfl) rfl ?_
    refine w_call [.pointer (some ⟨g12, 0, none⟩), .int .i64 4] Try.func41 (by kernel_rfl) (by rfl) rfl ?_
    replace HS := (HS.front 1 rfl)
    refine (r18num_any (s := (st9 b)) (at_ := at77) HS hr hl hat78 (n := 4) (.inr (.inl rfl))).mono ?_
    clear HS
    rintro e w88 ⟨at86, rfl, hat87, HS⟩
    replace HS : St w (fun _ => False) w88 ([blk g12 [.slice A b.length c, .int .i64 (at86 : Int), .bool ((st10 b).2)] 80, blk g19 [.int .i64 (rn 1 (b, false)), .int .u32 (rn 4 (st1 b)), .int .u64 (rn 8 (st2 b)), .int .u32 (rn 4 (st3 b)), .int .u32 (rn 4 (st4 b)), .int .u32 (rn 4 (st5 b)), .int .u32 (rn 4 (st6 b)), .int .i64 (rn 1 (st7 b)), .int .i64 (rn 1 (st8 b)), .int .u32 0, .slice none 0 0, .slice none 0 0] 33, blk g5 [.int .i64 0, .int .u32 0, .int .u64 0, .int .u32 0, .int .u32 0, .int .u32 0, .int .u32 0, .int .i64 0, .int .i64 0, .int .u32 0, .slice none 0 0, .slice none 0 0] 33]) := HS
    refine ⟨_, rfl, ?_⟩
    refine p_run _ (x_conv (k := .u64) (m := (rn 4 (st9 b))) .u32 ((rn 4 (st9 b))) rfl (by rw [Try.underlying27]; rfl) Try.underlying26 rfl (wu32 (bd4 _))) rfl ?_
    refine p_run _ (x_field (j := 9) _ _ rfl rfl Try.underlying33 rfl (by rfl) rfl) rfl ?_
    refine St.store (cs' := [.int .i64 (rn 1 (b, false)), .int .u32 (rn 4 (st1 b)), .int .u64 (rn 8 (st2 b)), .int .u32 (rn 4 (st3 b)), .int .u32 (rn 4 (st4 b)), .int .u32 (rn 4 (st5 b)), .int .u32 (rn 4 (st6 b)), .int .i64 (rn 1 (st7 b)), .int .i64 (rn 1 (st8 b)), .int .u32 (rn 4 (st9 b)), .slice none 0 0, .slice none 0 0]) (HS.front 1 rfl) (.int .u32 (rn 4 (st9 b))) rfl rfl rfl (by kernel_rfl) (by rfl) rfl ?_
    clear HS
    intro w89 HS
    refine wpList_nil ?_
    obtain ⟨qz90, hqz90⟩ : ∃ q_ : V8, q_ = ⟨.pointer (some ⟨g19, 7, none⟩), .pointer (some ⟨g12, 0, none⟩), .int .u64 (rn 1 (st8 b)), .int .i64 (rn 1 (st8 b)), .pointer (some ⟨g19, 8, none⟩), .pointer (some ⟨g12, 0, none⟩), .int .u64 (rn 4 (st9 b)), .int .u32 (rn 4 (st9 b))⟩ := ⟨_, rfl⟩
    refine fr_at (l' := (.slice A b.length c :: undef :: .pointer (some ⟨g5, 0, none⟩) :: .int .i64 0 :: .pointer (some ⟨g12, 0, none⟩) :: .pointer (some ⟨g19, 0, none⟩) :: U8g4 (undef :: undef :: V8.l qz31 (V8.l qz56 (V8.l qz81 (V8.l qz90 (.pointer (some ⟨g19, 9, none⟩) :: U64g4 (U16g4 (U8g4 (undef :: undef :: [])))))))))) (by subst hqz90; rfl) ?_
    refine hK83 _ _ ?_
    refine wp_seq_k (fun K91 hK92 => ?_)
    refine c_region (fun ops94 hops93 => ?_)
    clear hops93
    refine p_run _ (x_move (.pointer (some ⟨g12, 0, none⟩)) rfl rfl) rfl ?_
    refine w_call [.pointer (some ⟨g12, 0, none⟩), .int .i64 1] Try.func41 (by kernel_rfl) (by rfl) rfl ?_
    replace HS := (HS.front 1 rfl)
    refine (r18num_any (s := (st10 b)) (at_ := at86) HS hr hl hat87 (n := 1) (.inl rfl)).mono ?_
    clear HS
    rintro e w97 ⟨at95, rfl, hat96, HS⟩
    replace HS : St w (fun _ => False) w97 ([blk g12 [.slice A b.length c, .int .i64 (at95 : Int), .bool ((st11 b).2)] 80, blk g19 [.int .i64 (rn 1 (b, false)), .int .u32 (rn 4 (st1 b)), .int .u64 (rn 8 (st2 b)), .int .u32 (rn 4 (st3 b)), .int .u32 (rn 4 (st4 b)), .int .u32 (rn 4 (st5 b)), .int .u32 (rn 4 (st6 b)), .int .i64 (rn 1 (st7 b)), .int .i64 (rn 1 (st8 b)), .int .u32 (rn 4 (st9 b)), .slice none 0 0, .slice none 0 0] 33, blk g5 [.int .i64 0, .int .u32 0, .int .u64 0, .int .u32 0, .int .u32 0, .int .u32 0, .int .u32 0, .int .i64 0, .int .i64 0, .int .u32 0, .slice none 0 0, .slice none 0 0] 33]) := HS
    refine ⟨_, rfl, ?_⟩
    refine p_run _ (x_assign (.int .u64 (rn 1 (st10 b))) rfl rfl) rfl ?_
    refine wpList_nil ?_
    refine hK92 _ _ ?_
    refine wp_seq_k (fun K98 hK99 => ?_)
    refine wp_seq_k (fun K100 hK101 => ?_)
    refine c_region (fun ops103 hops102 => ?_)
    clear hops102
    refine p_run _ (x_assign (.int .u64 0) rfl rfl) rfl ?_
    refine wpList_nil ?_
    refine fr_at (l' := (.slice A b.length c :: undef :: .pointer (some ⟨g5, 0, none⟩) :: .int .i64 0 :: .pointer (some ⟨g12, 0, none⟩) :: .pointer (some ⟨g19, 0, none⟩) :: .int .u64 (rn 1 (st10 b)) :: .int .u64 0 :: U8g4 (V8.l qz31 (V8.l qz56 (V8.l qz81 (V8.l qz90 (.pointer (some ⟨g19, 9, none⟩) :: .pointer (some ⟨g12, 0, none⟩) :: .int .u64 (rn 1 (st10 b)) :: U64g4 (U16g4 (U8g4 ([])))))))))) rfl ?_
    refine hK101 _ _ ?_
    refine wp_block ?_
    replace HS := HS.nil kIt rfl 53
    refine c_loop (ι := Nat × Value × Nat) (fun i_ a_ w_ => match i_ with | (j, vi, ati) => ∃ (q104 : V8) (q105 : V8) (q106 : V8) (q107 : V8) (q108 : V8) (q109 : V8) (q110 : V8), a_ = fr (.slice A b.length c :: undef :: .pointer (some ⟨g5, 0, none⟩) :: .int .i64 0 :: .pointer (some ⟨g12, 0, none⟩) :: .pointer (some ⟨g19, 0, none⟩) :: .int .u64 (rn 1 (st10 b)) :: .int .u64 (j : Int) :: q104.a :: q104.b :: q104.c :: q104.d :: U4g4 (V8.l qz31 (V8.l qz56 (V8.l qz81 (V8.l qz90 (.pointer (some ⟨g19, 9, none⟩) :: .pointer (some ⟨g12, 0, none⟩) :: .int .u64 (rn 1 (st10 b)) :: q104.e :: q104.f :: q104.g :: q104.h :: V8.l q105 (V8.l q106 (V8.l q107 (V8.l q108 (V8.l q109 (q110.a :: q110.b :: q110.c :: U32g4 (U8g4 (undef :: []))))))))))))) ∧ St w (fun _ => False) w_ ([row kIt rfl 53 vi ((stI b j).1), blk g19 [.int .i64 (rn 1 (b, false)), .int .u32 (rn 4 (st1 b)), .int .u64 (rn 8 (st2 b)), .int .u32 (rn 4 (st3 b)), .int .u32 (rn 4 (st4 b)), .int .u32 (rn 4 (st5 b)), .int .u32 (rn 4 (st6 b)), .int .i64 (rn 1 (st7 b)), .int .i64 (rn 1 (st8 b)), .int .u32 (rn 4 (st9 b)), vi, .slice none 0 0] 33, blk g12 [.slice A b.length c, .int .i64 (ati : Int), .bool ((stI b j).2.2)] 80, blk g5 [.int .i64 0, .int .u32 0, .int .u64 0, .int .u32 0, .int .u32 0, .int .u32 0, .int .u32 0, .int .i64 0, .int .i64 0, .int .u32 0, .slice none 0 0, .slice none 0 0] 33]) ∧ (j ≤ nIt b ∧ b.drop ati = (stI b j).2.1 ∧ ati ≤ b.length)) (fun i_ => match i_ with | (j, vi, ati) => nIt b - j) (0, .slice none 0 0, at95) ?_ ?_
    · exact ⟨⟨undef, undef, undef, undef, undef, undef, undef, undef⟩, ⟨undef, undef, undef, undef, undef, undef, undef, undef⟩, ⟨undef, undef, undef, undef, undef, undef, undef, undef⟩, ⟨undef, undef, undef, undef, undef, undef, undef, undef⟩, ⟨undef, undef, undef, undef, undef, undef, undef, undef⟩, ⟨undef, undef, undef, undef, undef, undef, undef, undef⟩, ⟨undef, undef, undef, undef, undef, undef, undef, undef⟩, rfl, ((((HS.front 3 rfl).front 2 rfl).front 3 rfl).front 3 rfl), ⟨Nat.zero_le _, hat96⟩⟩
    · clear HS
      rintro ⟨j, vi, ati⟩ a_ w113 ⟨q104, q105, q106, q107, q108, q109, q110, rfl, HS, hI⟩ J111 hJ112
      obtain ⟨hjl, hati⟩ := hI
      refine wp_seq_k (fun K114 hK115 => ?_)
      refine wp_seq_k (fun K116 hK117 => ?_)
      refine c_region (fun ops119 hops118 => ?_)
      refine p_run _ (x_move (.int .u64 (j : Int)) rfl rfl) rfl ?_
      refine p_run _ (x_move (.int .u64 (rn 1 (st10 b))) rfl rfl) rfl ?_
      refine p_run _ (x_cmp (k := .u64) (m := (j : Int)) (n := (rn 1 (st10 b))) .lss (decide ((j : Int) < (rn 1 (st10 b)))) rfl rfl rfl rfl rfl) rfl ?_
      refine p_run _ (x_move (.bool (decide ((j : Int) < (rn 1 (st10 b))))) rfl rfl) rfl ?_
      obtain ⟨bz120, hbz120⟩ : ∃ b_, b_ = (decide ((j : Int) < (rn 1 (st10 b)))) := ⟨_, rfl⟩
      rw [← hbz120]
      refine p_tail 3 (fun a_ w_ => ∃ (uz55 uz56 : Value) (bz121 : Bool), a_ = fr (.slice A b.length c :: undef :: .pointer (some ⟨g5, 0, none⟩) :: .int .i64 0 :: .pointer (some ⟨g12, 0, none⟩) :: .pointer (some ⟨g19, 0, none⟩) :: .int .u64 (rn 1 (st10 b)) :: .int .u64 (j : Int) :: q104.a :: q104.b :: q104.c :: q104.d :: U4g4 (V8.l qz31 (V8.l qz56 (V8.l qz81 (V8.l qz90 (.pointer (some ⟨g19, 9, none⟩) :: .pointer (some ⟨g12, 0, none⟩) :: .int .u64 (rn 1 (st10 b)) :: .int .u64 (j : Int) :: .int .u64 (rn 1 (st10 b)) :: .bool bz120 :: .bool bz120 :: uz55 :: uz56 :: .bool bz121 :: q105.d :: q105.e :: q105.f :: q105.g :: q105.h :: V8.l q106 (V8.l q107 (V8.l q108 (V8.l q109 (q110.a :: q110.b :: q110.c :: U32g4 (U8g4 (undef :: [])))))))))))) ∧ bz121 = (bz120 && (decide ((j : Int) < 4))) ∧ St w (fun _ => False) w_ ([row kIt rfl 53 vi ((stI b j).1), blk g19 [.int .i64 (rn 1 (b, false)), .int .u32 (rn 4 (st1 b)), .int .u64 (rn 8 (st2 b)), .int .u32 (rn 4 (st3 b)), .int .u32 (rn 4 (st4 b)), .int .u32 (rn 4 (st5 b)), .int .u32 (rn 4 (st6 b)), .int .i64 (rn 1 (st7 b)), .int .i64 (rn 1 (st8 b)), .int .u32 (rn 4 (st9 b)), vi, .slice none 0 0] 33, blk g12 [.slice A b.length c, .int .i64 (ati : Int), .bool ((stI b j).2.2)] 80, blk g5 [.int .i64 0, .int .u32 0, .int .u64 0, .int .u32 0, .int .u32 0, .int .u32 0, .int .u32 0, .int .i64 0, .int .i64 0, .int .u32 0, .slice none 0 0, .slice none 0 0] 33])) (fun T122 => ?_) ?_
      · cases bz120
        · skip
          refine p_off (by rw [hops118]; rfl) rfl ?_
          refine p_off (by rw [hops118]; rfl) rfl ?_
          refine p_run _ (x_pick false (undef) (.bool false) (.bool false) rfl rfl rfl rfl rfl) rfl ?_
          exact T122 _ _ ⟨undef, undef, false, rfl, rfl, HS⟩
        · skip
          refine p_on rfl (by rw [hops118]; rfl) ?_
          refine p_run _ (x_move (.int .u64 (j : Int)) rfl rfl) rfl ?_
          refine p_on rfl (by rw [hops118]; rfl) ?_
          refine p_run _ (x_cmp (k := .u64) (m := (j : Int)) (n := 4) .lss (decide ((j : Int) < 4)) rfl rfl rfl rfl rfl) rfl ?_
          refine p_run _ (x_pick true (.bool (decide ((j : Int) < 4))) (.bool false) (.bool (decide ((j : Int) < 4))) rfl rfl rfl rfl rfl) rfl ?_
          exact T122 _ _ ⟨(.int .u64 (j : Int)), (.bool (decide ((j : Int) < 4))), (decide ((j : Int) < 4)), rfl, rfl, HS⟩
      clear HS
      rintro _ w_ ⟨uz55, uz56, bz121, rfl, hbz121, HS⟩
      skip
      clear hops118
      refine wpList_nil ?_
      refine hK117 _ _ ?_
      refine c_cond (t := bz121) rfl (fun hc124 => ?_) (fun hc124 => ?_)
      · rw [hbz121, hbz120] at hc124
        have hlt : j < nIt b := by
          simp only [Bool.and_eq_true, decide_eq_true_eq] at hc124
          unfold nIt upN
          omega
        refine wp_skip ?_
        refine hK115 _ _ ?_
        refine wp_seq_k (fun K125 hK126 => ?_)
        refine wp_block ?_
        refine wp_seq_k (fun K127 hK128 => ?_)
        refine c_region (fun ops130 hops129 => ?_)
        clear hops129
        refine p_run _ (x_build (Value.int .i64 0 :: Value.bool false :: (nums .u8 (zB16.map bv))) rfl (by kernel_rfl)) rfl ?_
        refine St.wAlloc HS (cs := (Value.int .i64 0 :: Value.bool false :: (nums .u8 (zB16.map bv)))) (.agg (Value.int .i64 0 :: Value.bool false :: (nums .u8 (zB16.map bv))).toArray) (by kernel_rfl) rfl ?_
        clear HS
        intro g131 w132 hg133 HS
        refine St.stores (cs' := (Value.int .i64 0 :: Value.bool false :: (nums .u8 (zB16.map bv)))) HS (Value.int .i64 0 :: Value.bool false :: (nums .u8 (zB16.map bv))) 18 rfl rfl (all1 rfl (all1 rfl (nums_one _ _))) (by kernel_rfl) (by simp [List.length_map, nums_length, zB16_len]) (by simp [List.length_map, nums_length, zB16_len]) (lay_all _ _ (by simp [List.length_map, nums_length, zB16_len])) ?_
        clear HS
        intro w134 HS
        refine wpList_nil ?_
        refine hK128 _ _ ?_
        refine wp_seq_k (fun K135 hK136 => ?_)
        refine c_region (fun ops138 hops137 => ?_)
        clear hops137
        refine p_run _ (x_move (.pointer (some ⟨g12, 0, none⟩)) rfl rfl) rfl ?_
        refine w_call [.pointer (some ⟨g12, 0, none⟩), .int .i64 1] Try.func41 (by kernel_rfl) (by rfl) rfl ?_
        replace HS := (HS.front 3 rfl)
        refine (r18num_any (s := (stI b j).2) (at_ := ati) HS hr hl hati (n := 1) (.inl rfl)).mono ?_
        clear HS
        rintro e w141 ⟨at139, rfl, hat140, HS⟩
        replace HS : St w (fun _ => False) w141 ([blk g12 [.slice A b.length c, .int .i64 (at139 : Int), .bool ((rs 1 (stI b j).2).2)] 80, blk g131 (Value.int .i64 0 :: Value.bool false :: (nums .u8 (zB16.map bv))) 53, row kIt rfl 53 vi ((stI b j).1), blk g19 [.int .i64 (rn 1 (b, false)), .int .u32 (rn 4 (st1 b)), .int .u64 (rn 8 (st2 b)), .int .u32 (rn 4 (st3 b)), .int .u32 (rn 4 (st4 b)), .int .u32 (rn 4 (st5 b)), .int .u32 (rn 4 (st6 b)), .int .i64 (rn 1 (st7 b)), .int .i64 (rn 1 (st8 b)), .int .u32 (rn 4 (st9 b)), vi, .slice none 0 0] 33, blk g5 [.int .i64 0, .int .u32 0, .int .u64 0, .int .u32 0, .int .u32 0, .int .u32 0, .int .u32 0, .int .i64 0, .int .i64 0, .int .u32 0, .slice none 0 0, .slice none 0 0] 33]) := HS
        refine ⟨_, rfl, ?_⟩
        refine p_run _ (x_conv (k := .u64) (m := (rn 1 (stI b j).2)) .i64 ((rn 1 (stI b j).2)) rfl (by rw [Try.underlying27]; rfl) Try.underlying3 rfl (wr64' (by have := bd1 ((stI b j).2); omega))) rfl ?_
        refine p_run _ (x_field (j := 0) _ _ rfl rfl Try.underlying53 rfl (by rfl) rfl) rfl ?_
        refine St.store (cs' := (Value.int .i64 (rn 1 (stI b j).2) :: Value.bool false :: (nums .u8 (zB16.map bv)))) (HS.front 1 rfl) (.int .i64 (rn 1 (stI b j).2)) rfl rfl rfl (by kernel_rfl) (by simp [List.length_map, nums_length, zB16_len]) (by simp [List.set_append, List.length_map, nums_length, zB16_len]) ?_
        clear HS
        intro w142 HS
        refine wpList_nil ?_
        refine fr_at (l' := (.slice A b.length c :: undef :: .pointer (some ⟨g5, 0, none⟩) :: .int .i64 0 :: .pointer (some ⟨g12, 0, none⟩) :: .pointer (some ⟨g19, 0, none⟩) :: .int .u64 (rn 1 (st10 b)) :: .int .u64 (j : Int) :: .pointer (some ⟨g131, 0, none⟩) :: q104.b :: q104.c :: q104.d :: U4g4 (V8.l qz31 (V8.l qz56 (V8.l qz81 (V8.l qz90 (.pointer (some ⟨g19, 9, none⟩) :: .pointer (some ⟨g12, 0, none⟩) :: .int .u64 (rn 1 (st10 b)) :: .int .u64 (j : Int) :: .int .u64 (rn 1 (st10 b)) :: .bool bz120 :: .bool bz120 :: uz55 :: uz56 :: .bool bz121 :: q105.d :: q105.e :: .agg (Value.int .i64 0 :: Value.bool false :: (nums .u8 (zB16.map bv))).toArray :: .pointer (some ⟨g12, 0, none⟩) :: .int .u64 (rn 1 (stI b j).2) :: .int .i64 (rn 1 (stI b j).2) :: .pointer (some ⟨g131, 0, none⟩) :: q106.c :: q106.d :: q106.e :: q106.f :: q106.g :: q106.h :: V8.l q107 (V8.l q108 (V8.l q109 (q110.a :: q110.b :: q110.c :: U32g4 (U8g4 (undef :: [])))))))))))) rfl ?_
        refine hK136 _ _ ?_
        refine wp_seq_k (fun K143 hK144 => ?_)
        refine c_region (fun ops146 hops145 => ?_)
        clear hops145
        refine p_run _ (x_move (.pointer (some ⟨g12, 0, none⟩)) rfl rfl) rfl ?_
        refine w_call [.pointer (some ⟨g12, 0, none⟩), .int .i64 1] Try.func41 (by kernel_rfl) (by rfl) rfl ?_
        replace HS := (HS.front 1 rfl)
        refine (r18num_any (s := (rs 1 (stI b j).2)) (at_ := at139) HS hr hl hat140 (n := 1) (.inl rfl)).mono ?_
        clear HS
        rintro e w149 ⟨at147, rfl, hat148, HS⟩
        replace HS : St w (fun _ => False) w149 ([blk g12 [.slice A b.length c, .int .i64 (at147 : Int), .bool ((rs 1 (rs 1 (stI b j).2)).2)] 80, blk g131 (Value.int .i64 (rn 1 (stI b j).2) :: Value.bool false :: (nums .u8 (zB16.map bv))) 53, row kIt rfl 53 vi ((stI b j).1), blk g19 [.int .i64 (rn 1 (b, false)), .int .u32 (rn 4 (st1 b)), .int .u64 (rn 8 (st2 b)), .int .u32 (rn 4 (st3 b)), .int .u32 (rn 4 (st4 b)), .int .u32 (rn 4 (st5 b)), .int .u32 (rn 4 (st6 b)), .int .i64 (rn 1 (st7 b)), .int .i64 (rn 1 (st8 b)), .int .u32 (rn 4 (st9 b)), vi, .slice none 0 0] 33, blk g5 [.int .i64 0, .int .u32 0, .int .u64 0, .int .u32 0, .int .u32 0, .int .u32 0, .int .u32 0, .int .i64 0, .int .i64 0, .int .u32 0, .slice none 0 0, .slice none 0 0] 33]) := HS
        refine ⟨_, rfl, ?_⟩
        refine p_run _ (x_cmp (k := .u64) (m := (rn 1 (rs 1 (stI b j).2))) (n := 1) .eql ((rn 1 (rs 1 (stI b j).2)) == 1) rfl rfl rfl rfl rfl) rfl ?_
        refine p_run _ (x_field (j := 1) _ _ rfl rfl Try.underlying53 rfl (by rfl) rfl) rfl ?_
        refine St.store (cs' := (Value.int .i64 (rn 1 (stI b j).2) :: Value.bool ((rn 1 (rs 1 (stI b j).2)) == 1) :: (nums .u8 (zB16.map bv)))) (HS.front 1 rfl) (.bool ((rn 1 (rs 1 (stI b j).2)) == 1)) rfl rfl rfl (by kernel_rfl) (by simp [List.length_map, nums_length, zB16_len]) (by simp [List.set_append, List.length_map, nums_length, zB16_len]) ?_
        clear HS
        intro w150 HS
        refine wpList_nil ?_
        refine fr_at (l' := (.slice A b.length c :: undef :: .pointer (some ⟨g5, 0, none⟩) :: .int .i64 0 :: .pointer (some ⟨g12, 0, none⟩) :: .pointer (some ⟨g19, 0, none⟩) :: .int .u64 (rn 1 (st10 b)) :: .int .u64 (j : Int) :: .pointer (some ⟨g131, 0, none⟩) :: q104.b :: q104.c :: q104.d :: U4g4 (V8.l qz31 (V8.l qz56 (V8.l qz81 (V8.l qz90 (.pointer (some ⟨g19, 9, none⟩) :: .pointer (some ⟨g12, 0, none⟩) :: .int .u64 (rn 1 (st10 b)) :: .int .u64 (j : Int) :: .int .u64 (rn 1 (st10 b)) :: .bool bz120 :: .bool bz120 :: uz55 :: uz56 :: .bool bz121 :: q105.d :: q105.e :: .agg (Value.int .i64 0 :: Value.bool false :: (nums .u8 (zB16.map bv))).toArray :: .pointer (some ⟨g12, 0, none⟩) :: .int .u64 (rn 1 (stI b j).2) :: .int .i64 (rn 1 (stI b j).2) :: .pointer (some ⟨g131, 0, none⟩) :: .pointer (some ⟨g12, 0, none⟩) :: .int .u64 (rn 1 (rs 1 (stI b j).2)) :: .bool ((rn 1 (rs 1 (stI b j).2)) == 1) :: .pointer (some ⟨g131, 1, none⟩) :: q106.g :: q106.h :: V8.l q107 (V8.l q108 (V8.l q109 (q110.a :: q110.b :: q110.c :: U32g4 (U8g4 (undef :: [])))))))))))) rfl ?_
        refine hK144 _ _ ?_
        refine wp_seq_k (fun K151 hK152 => ?_)
        refine c_region (fun ops154 hops153 => ?_)
        clear hops153
        refine p_run _ (x_move (.pointer (some ⟨g12, 0, none⟩)) rfl rfl) rfl ?_
        refine p_run _ (x_nil rfl rfl) rfl ?_
        refine p_run _ (x_loads [.slice A b.length c, .int .i64 (at147 : Int), .bool ((rs 1 (rs 1 (stI b j).2)).2)] 3 rfl rfl (bkCells (HS.get (.tail _ (.head _))) 0 _ rfl) (by rfl) (by kernel_rfl) rfl) rfl ?_
        refine w_call [.agg ([.slice A b.length c, .int .i64 (at147 : Int), .bool ((rs 1 (rs 1 (stI b j).2)).2)] : List Value).toArray, .int .i64 16] Try.func43 (by kernel_rfl) (by rfl) rfl ?_
        refine (r1take_any _ A c b (hr.below HS.belowOf) hl at147 hat148.2 (rs 1 (rs 1 (stI b j).2)).2 16 (by omega)).mono ?_
        rw [hat148.1]
        rintro e w159 ⟨at155, A157, c158, rfl, hat156, hk_⟩
        replace HS := HS.more hk_
        clear hk_
        refine ⟨_, rfl, ?_⟩
        refine p_run _ (x_move (.tuple [.agg ([.slice A b.length c, .int .i64 (at155 : Int), .bool (takeBad (rs 1 (rs 1 (stI b j).2)).1 (rs 1 (rs 1 (stI b j).2)).2 16)] : List Value).toArray, .slice A157 ((takeOut (rs 1 (rs 1 (stI b j).2)).1 (rs 1 (rs 1 (stI b j).2)).2 16).length) c158].toArray) rfl rfl) rfl ?_
        refine p_run _ (x_extract (vs := [.agg ([.slice A b.length c, .int .i64 (at155 : Int), .bool (takeBad (rs 1 (rs 1 (stI b j).2)).1 (rs 1 (rs 1 (stI b j).2)).2 16)] : List Value).toArray, .slice A157 ((takeOut (rs 1 (rs 1 (stI b j).2)).1 (rs 1 (rs 1 (stI b j).2)).2 16).length) c158]) 0 (.agg ([.slice A b.length c, .int .i64 (at155 : Int), .bool (takeBad (rs 1 (rs 1 (stI b j).2)).1 (rs 1 (rs 1 (stI b j).2)).2 16)] : List Value).toArray) rfl rfl rfl) rfl ?_
        refine p_run (l' := (.slice A b.length c :: undef :: .pointer (some ⟨g5, 0, none⟩) :: .int .i64 0 :: .pointer (some ⟨g12, 0, none⟩) :: .pointer (some ⟨g19, 0, none⟩) :: .int .u64 (rn 1 (st10 b)) :: .int .u64 (j : Int) :: .pointer (some ⟨g131, 0, none⟩) :: q104.b :: q104.c :: q104.d :: U4g4 (V8.l qz31 (V8.l qz56 (V8.l qz81 (V8.l qz90 (.pointer (some ⟨g19, 9, none⟩) :: .pointer (some ⟨g12, 0, none⟩) :: .int .u64 (rn 1 (st10 b)) :: .int .u64 (j : Int) :: .int .u64 (rn 1 (st10 b)) :: .bool bz120 :: .bool bz120 :: uz55 :: uz56 :: .bool bz121 :: q105.d :: q105.e :: .agg (Value.int .i64 0 :: Value.bool false :: (nums .u8 (zB16.map bv))).toArray :: .pointer (some ⟨g12, 0, none⟩) :: .int .u64 (rn 1 (stI b j).2) :: .int .i64 (rn 1 (stI b j).2) :: .pointer (some ⟨g131, 0, none⟩) :: .pointer (some ⟨g12, 0, none⟩) :: .int .u64 (rn 1 (rs 1 (stI b j).2)) :: .bool ((rn 1 (rs 1 (stI b j).2)) == 1) :: .pointer (some ⟨g131, 1, none⟩) :: .tuple [.agg ([.slice A b.length c, .int .i64 (at155 : Int), .bool (takeBad (rs 1 (rs 1 (stI b j).2)).1 (rs 1 (rs 1 (stI b j).2)).2 16)] : List Value).toArray, .slice A157 ((takeOut (rs 1 (rs 1 (stI b j).2)).1 (rs 1 (rs 1 (stI b j).2)).2 16).length) c158].toArray :: .pointer (some ⟨g12, 0, none⟩) :: .pointer (some ⟨g12, 0, none⟩) :: .agg ([.slice A b.length c, .int .i64 (at147 : Int), .bool ((rs 1 (rs 1 (stI b j).2)).2)] : List Value).toArray :: .tuple [.agg ([.slice A b.length c, .int .i64 (at155 : Int), .bool (takeBad (rs 1 (rs 1 (stI b j).2)).1 (rs 1 (rs 1 (stI b j).2)).2 16)] : List Value).toArray, .slice A157 ((takeOut (rs 1 (rs 1 (stI b j).2)).1 (rs 1 (rs 1 (stI b j).2)).2 16).length) c158].toArray :: .agg ([.slice A b.length c, .int .i64 (at155 : Int), .bool (takeBad (rs 1 (rs 1 (stI b j).2)).1 (rs 1 (rs 1 (stI b j).2)).2 16)] : List Value).toArray :: .slice A157 ((takeOut (rs 1 (rs 1 (stI b j).2)).1 (rs 1 (rs 1 (stI b j).2)).2 16).length) c158 :: q107.f :: q107.g :: q107.h :: V8.l q108 (V8.l q109 (q110.a :: q110.b :: q110.c :: U32g4 (U8g4 (undef :: []))))))))))) _ (x_extract (vs := [.agg ([.slice A b.length c, .int .i64 (at155 : Int), .bool (takeBad (rs 1 (rs 1 (stI b j).2)).1 (rs 1 (rs 1 (stI b j).2)).2 16)] : List Value).toArray, .slice A157 ((takeOut (rs 1 (rs 1 (stI b j).2)).1 (rs 1 (rs 1 (stI b j).2)).2 16).length) c158]) 1 (.slice A157 ((takeOut (rs 1 (rs 1 (stI b j).2)).1 (rs 1 (rs 1 (stI b j).2)).2 16).length) c158) rfl rfl rfl) rfl ?_
        refine St.wAlloc HS (cs := [.slice none 0 0, .int .i64 0, .bool false]) (.agg [.slice none 0 0, .int .i64 0, .bool false].toArray) (by kernel_rfl) rfl ?_
        clear HS
        intro g160 w161 hg162 HS
        refine St.stores (cs' := [.slice A b.length c, .int .i64 (at155 : Int), .bool (takeBad (rs 1 (rs 1 (stI b j).2)).1 (rs 1 (rs 1 (stI b j).2)).2 16)]) HS [.slice A b.length c, .int .i64 (at155 : Int), .bool (takeBad (rs 1 (rs 1 (stI b j).2)).1 (rs 1 (rs 1 (stI b j).2)).2 16)] 3 rfl rfl (by rfl) (by kernel_rfl) rfl (by simp) rfl ?_
        clear HS
        intro w163 HS
        refine p_run _ (x_assign (.slice A157 ((takeOut (rs 1 (rs 1 (stI b j).2)).1 (rs 1 (rs 1 (stI b j).2)).2 16).length) c158) rfl rfl) rfl ?_
        refine wpList_nil ?_
        refine hK152 _ _ ?_
        refine wp_seq_k (fun K164 hK165 => ?_)
        refine c_region (fun ops167 hops166 => ?_)
        clear hops166
        refine p_run _ (x_move (.pointer (some ⟨g12, 0, none⟩)) rfl rfl) rfl ?_
        refine p_run _ (x_loads [.slice A b.length c, .int .i64 (at155 : Int), .bool (takeBad (rs 1 (rs 1 (stI b j).2)).1 (rs 1 (rs 1 (stI b j).2)).2 16)] 3 rfl rfl (bkCells (HS.get (.head _)) 0 _ rfl) (by rfl) (by kernel_rfl) rfl) rfl ?_
        refine p_run _ (x_nil rfl rfl) rfl ?_
        refine St.stores (cs' := [.slice A b.length c, .int .i64 (at155 : Int), .bool (takeBad (rs 1 (rs 1 (stI b j).2)).1 (rs 1 (rs 1 (stI b j).2)).2 16)]) (HS.front 3 rfl) [.slice A b.length c, .int .i64 (at155 : Int), .bool (takeBad (rs 1 (rs 1 (stI b j).2)).1 (rs 1 (rs 1 (stI b j).2)).2 16)] 3 rfl rfl (by rfl) (by kernel_rfl) rfl (by simp) rfl ?_
        clear HS
        intro w168 HS
        refine wpList_nil ?_
        refine fr_at (l' := (.slice A b.length c :: undef :: .pointer (some ⟨g5, 0, none⟩) :: .int .i64 0 :: .pointer (some ⟨g12, 0, none⟩) :: .pointer (some ⟨g19, 0, none⟩) :: .int .u64 (rn 1 (st10 b)) :: .int .u64 (j : Int) :: .pointer (some ⟨g131, 0, none⟩) :: .pointer (some ⟨g160, 0, none⟩) :: .slice A157 ((takeOut (rs 1 (rs 1 (stI b j).2)).1 (rs 1 (rs 1 (stI b j).2)).2 16).length) c158 :: q104.d :: U4g4 (V8.l qz31 (V8.l qz56 (V8.l qz81 (V8.l qz90 (.pointer (some ⟨g19, 9, none⟩) :: .pointer (some ⟨g12, 0, none⟩) :: .int .u64 (rn 1 (st10 b)) :: .int .u64 (j : Int) :: .int .u64 (rn 1 (st10 b)) :: .bool bz120 :: .bool bz120 :: uz55 :: uz56 :: .bool bz121 :: q105.d :: q105.e :: .agg (Value.int .i64 0 :: Value.bool false :: (nums .u8 (zB16.map bv))).toArray :: .pointer (some ⟨g12, 0, none⟩) :: .int .u64 (rn 1 (stI b j).2) :: .int .i64 (rn 1 (stI b j).2) :: .pointer (some ⟨g131, 0, none⟩) :: .pointer (some ⟨g12, 0, none⟩) :: .int .u64 (rn 1 (rs 1 (stI b j).2)) :: .bool ((rn 1 (rs 1 (stI b j).2)) == 1) :: .pointer (some ⟨g131, 1, none⟩) :: .tuple [.agg ([.slice A b.length c, .int .i64 (at155 : Int), .bool (takeBad (rs 1 (rs 1 (stI b j).2)).1 (rs 1 (rs 1 (stI b j).2)).2 16)] : List Value).toArray, .slice A157 ((takeOut (rs 1 (rs 1 (stI b j).2)).1 (rs 1 (rs 1 (stI b j).2)).2 16).length) c158].toArray :: .pointer (some ⟨g12, 0, none⟩) :: .pointer (some ⟨g12, 0, none⟩) :: .agg ([.slice A b.length c, .int .i64 (at147 : Int), .bool ((rs 1 (rs 1 (stI b j).2)).2)] : List Value).toArray :: .tuple [.agg ([.slice A b.length c, .int .i64 (at155 : Int), .bool (takeBad (rs 1 (rs 1 (stI b j).2)).1 (rs 1 (rs 1 (stI b j).2)).2 16)] : List Value).toArray, .slice A157 ((takeOut (rs 1 (rs 1 (stI b j).2)).1 (rs 1 (rs 1 (stI b j).2)).2 16).length) c158].toArray :: .agg ([.slice A b.length c, .int .i64 (at155 : Int), .bool (takeBad (rs 1 (rs 1 (stI b j).2)).1 (rs 1 (rs 1 (stI b j).2)).2 16)] : List Value).toArray :: .slice A157 ((takeOut (rs 1 (rs 1 (stI b j).2)).1 (rs 1 (rs 1 (stI b j).2)).2 16).length) c158 :: .pointer (some ⟨g12, 0, none⟩) :: .agg ([.slice A b.length c, .int .i64 (at155 : Int), .bool (takeBad (rs 1 (rs 1 (stI b j).2)).1 (rs 1 (rs 1 (stI b j).2)).2 16)] : List Value).toArray :: .pointer (some ⟨g12, 0, none⟩) :: V8.l q108 (V8.l q109 (q110.a :: q110.b :: q110.c :: U32g4 (U8g4 (undef :: []))))))))))) rfl ?_
        refine hK165 _ _ ?_
        refine wp_seq_k (fun K169 hK170 => ?_)
        refine wp_seq_k (fun K171 hK172 => ?_)
        refine c_region (fun ops174 hops173 => ?_)
        clear hops173
        refine p_run _ (x_move (.slice A157 ((takeOut (rs 1 (rs 1 (stI b j).2)).1 (rs 1 (rs 1 (stI b j).2)).2 16).length) c158) rfl rfl) rfl ?_
        refine p_run _ (x_len rfl rfl Try.underlying22) rfl ?_
        refine p_run _ (x_move (.int .i64 0) rfl rfl) rfl ?_
        refine wpList_nil ?_
        refine fr_at (l' := (.slice A b.length c :: undef :: .pointer (some ⟨g5, 0, none⟩) :: .int .i64 0 :: .pointer (some ⟨g12, 0, none⟩) :: .pointer (some ⟨g19, 0, none⟩) :: .int .u64 (rn 1 (st10 b)) :: .int .u64 (j : Int) :: .pointer (some ⟨g131, 0, none⟩) :: .pointer (some ⟨g160, 0, none⟩) :: .slice A157 ((takeOut (rs 1 (rs 1 (stI b j).2)).1 (rs 1 (rs 1 (stI b j).2)).2 16).length) c158 :: q104.d :: U4g4 (V8.l qz31 (V8.l qz56 (V8.l qz81 (V8.l qz90 (.pointer (some ⟨g19, 9, none⟩) :: .pointer (some ⟨g12, 0, none⟩) :: .int .u64 (rn 1 (st10 b)) :: .int .u64 (j : Int) :: .int .u64 (rn 1 (st10 b)) :: .bool bz120 :: .bool bz120 :: uz55 :: uz56 :: .bool bz121 :: q105.d :: q105.e :: .agg (Value.int .i64 0 :: Value.bool false :: (nums .u8 (zB16.map bv))).toArray :: .pointer (some ⟨g12, 0, none⟩) :: .int .u64 (rn 1 (stI b j).2) :: .int .i64 (rn 1 (stI b j).2) :: .pointer (some ⟨g131, 0, none⟩) :: .pointer (some ⟨g12, 0, none⟩) :: .int .u64 (rn 1 (rs 1 (stI b j).2)) :: .bool ((rn 1 (rs 1 (stI b j).2)) == 1) :: .pointer (some ⟨g131, 1, none⟩) :: .tuple [.agg ([.slice A b.length c, .int .i64 (at155 : Int), .bool (takeBad (rs 1 (rs 1 (stI b j).2)).1 (rs 1 (rs 1 (stI b j).2)).2 16)] : List Value).toArray, .slice A157 ((takeOut (rs 1 (rs 1 (stI b j).2)).1 (rs 1 (rs 1 (stI b j).2)).2 16).length) c158].toArray :: .pointer (some ⟨g12, 0, none⟩) :: .pointer (some ⟨g12, 0, none⟩) :: .agg ([.slice A b.length c, .int .i64 (at147 : Int), .bool ((rs 1 (rs 1 (stI b j).2)).2)] : List Value).toArray :: .tuple [.agg ([.slice A b.length c, .int .i64 (at155 : Int), .bool (takeBad (rs 1 (rs 1 (stI b j).2)).1 (rs 1 (rs 1 (stI b j).2)).2 16)] : List Value).toArray, .slice A157 ((takeOut (rs 1 (rs 1 (stI b j).2)).1 (rs 1 (rs 1 (stI b j).2)).2 16).length) c158].toArray :: .agg ([.slice A b.length c, .int .i64 (at155 : Int), .bool (takeBad (rs 1 (rs 1 (stI b j).2)).1 (rs 1 (rs 1 (stI b j).2)).2 16)] : List Value).toArray :: .slice A157 ((takeOut (rs 1 (rs 1 (stI b j).2)).1 (rs 1 (rs 1 (stI b j).2)).2 16).length) c158 :: .pointer (some ⟨g12, 0, none⟩) :: .agg ([.slice A b.length c, .int .i64 (at155 : Int), .bool (takeBad (rs 1 (rs 1 (stI b j).2)).1 (rs 1 (rs 1 (stI b j).2)).2 16)] : List Value).toArray :: .pointer (some ⟨g12, 0, none⟩) :: .slice A157 ((takeOut (rs 1 (rs 1 (stI b j).2)).1 (rs 1 (rs 1 (stI b j).2)).2 16).length) c158 :: .int .i64 ((takeOut (rs 1 (rs 1 (stI b j).2)).1 (rs 1 (rs 1 (stI b j).2)).2 16).length : Int) :: .int .i64 0 :: q108.d :: q108.e :: q108.f :: q108.g :: q108.h :: V8.l q109 (q110.a :: q110.b :: q110.c :: U32g4 (U8g4 (undef :: [])))))))))) rfl ?_
        refine hK172 _ _ ?_
        refine wp_block ?_
        have hO16 : (takeOut (rs 1 (rs 1 (stI b j).2)).1 (rs 1 (rs 1 (stI b j).2)).2 16).length ≤ 16 := tkO_len (rs 1 (rs 1 (stI b j).2))
        refine c_loop (ι := Nat) (fun i_ a_ w_ => match i_ with | q => ∃ (u11 : Value) (u82 : Value) (u83 : Value) (u84 : Value) (u85 : Value) (u86 : Value) (u87 : Value) (u88 : Value) (u89 : Value) (u90 : Value) (u91 : Value), a_ = fr (.slice A b.length c :: undef :: .pointer (some ⟨g5, 0, none⟩) :: .int .i64 0 :: .pointer (some ⟨g12, 0, none⟩) :: .pointer (some ⟨g19, 0, none⟩) :: .int .u64 (rn 1 (st10 b)) :: .int .u64 (j : Int) :: .pointer (some ⟨g131, 0, none⟩) :: .pointer (some ⟨g160, 0, none⟩) :: .slice A157 ((takeOut (rs 1 (rs 1 (stI b j).2)).1 (rs 1 (rs 1 (stI b j).2)).2 16).length) c158 :: u11 :: U4g4 (V8.l qz31 (V8.l qz56 (V8.l qz81 (V8.l qz90 (.pointer (some ⟨g19, 9, none⟩) :: .pointer (some ⟨g12, 0, none⟩) :: .int .u64 (rn 1 (st10 b)) :: .int .u64 (j : Int) :: .int .u64 (rn 1 (st10 b)) :: .bool bz120 :: .bool bz120 :: uz55 :: uz56 :: .bool bz121 :: q105.d :: q105.e :: .agg (Value.int .i64 0 :: Value.bool false :: (nums .u8 (zB16.map bv))).toArray :: .pointer (some ⟨g12, 0, none⟩) :: .int .u64 (rn 1 (stI b j).2) :: .int .i64 (rn 1 (stI b j).2) :: .pointer (some ⟨g131, 0, none⟩) :: .pointer (some ⟨g12, 0, none⟩) :: .int .u64 (rn 1 (rs 1 (stI b j).2)) :: .bool ((rn 1 (rs 1 (stI b j).2)) == 1) :: .pointer (some ⟨g131, 1, none⟩) :: .tuple [.agg ([.slice A b.length c, .int .i64 (at155 : Int), .bool (takeBad (rs 1 (rs 1 (stI b j).2)).1 (rs 1 (rs 1 (stI b j).2)).2 16)] : List Value).toArray, .slice A157 ((takeOut (rs 1 (rs 1 (stI b j).2)).1 (rs 1 (rs 1 (stI b j).2)).2 16).length) c158].toArray :: .pointer (some ⟨g12, 0, none⟩) :: .pointer (some ⟨g12, 0, none⟩) :: .agg ([.slice A b.length c, .int .i64 (at147 : Int), .bool ((rs 1 (rs 1 (stI b j).2)).2)] : List Value).toArray :: .tuple [.agg ([.slice A b.length c, .int .i64 (at155 : Int), .bool (takeBad (rs 1 (rs 1 (stI b j).2)).1 (rs 1 (rs 1 (stI b j).2)).2 16)] : List Value).toArray, .slice A157 ((takeOut (rs 1 (rs 1 (stI b j).2)).1 (rs 1 (rs 1 (stI b j).2)).2 16).length) c158].toArray :: .agg ([.slice A b.length c, .int .i64 (at155 : Int), .bool (takeBad (rs 1 (rs 1 (stI b j).2)).1 (rs 1 (rs 1 (stI b j).2)).2 16)] : List Value).toArray :: .slice A157 ((takeOut (rs 1 (rs 1 (stI b j).2)).1 (rs 1 (rs 1 (stI b j).2)).2 16).length) c158 :: .pointer (some ⟨g12, 0, none⟩) :: .agg ([.slice A b.length c, .int .i64 (at155 : Int), .bool (takeBad (rs 1 (rs 1 (stI b j).2)).1 (rs 1 (rs 1 (stI b j).2)).2 16)] : List Value).toArray :: .pointer (some ⟨g12, 0, none⟩) :: .slice A157 ((takeOut (rs 1 (rs 1 (stI b j).2)).1 (rs 1 (rs 1 (stI b j).2)).2 16).length) c158 :: .int .i64 ((takeOut (rs 1 (rs 1 (stI b j).2)).1 (rs 1 (rs 1 (stI b j).2)).2 16).length : Int) :: .int .i64 (q : Int) :: u82 :: u83 :: u84 :: u85 :: u86 :: u87 :: u88 :: u89 :: u90 :: u91 :: q109.f :: q109.g :: q109.h :: q110.a :: q110.b :: q110.c :: U32g4 (U8g4 (undef :: [])))))))) ∧ St w (fun _ => False) w_ ([blk g131 ((itC ((rn 1 (stI b j).2), ((rn 1 (rs 1 (stI b j).2)) == 1), cpy (takeOut (rs 1 (rs 1 (stI b j).2)).1 (rs 1 (rs 1 (stI b j).2)).2 16) q))) 53, blk g12 [.slice A b.length c, .int .i64 (at155 : Int), .bool (takeBad (rs 1 (rs 1 (stI b j).2)).1 (rs 1 (rs 1 (stI b j).2)).2 16)] 80, blk g160 [.slice A b.length c, .int .i64 (at155 : Int), .bool (takeBad (rs 1 (rs 1 (stI b j).2)).1 (rs 1 (rs 1 (stI b j).2)).2 16)] 80, row kByte rfl 5 (.slice A157 ((takeOut (rs 1 (rs 1 (stI b j).2)).1 (rs 1 (rs 1 (stI b j).2)).2 16).length) c158) (takeOut (rs 1 (rs 1 (stI b j).2)).1 (rs 1 (rs 1 (stI b j).2)).2 16), row kIt rfl 53 vi ((stI b j).1), blk g19 [.int .i64 (rn 1 (b, false)), .int .u32 (rn 4 (st1 b)), .int .u64 (rn 8 (st2 b)), .int .u32 (rn 4 (st3 b)), .int .u32 (rn 4 (st4 b)), .int .u32 (rn 4 (st5 b)), .int .u32 (rn 4 (st6 b)), .int .i64 (rn 1 (st7 b)), .int .i64 (rn 1 (st8 b)), .int .u32 (rn 4 (st9 b)), vi, .slice none 0 0] 33, blk g5 [.int .i64 0, .int .u32 0, .int .u64 0, .int .u32 0, .int .u32 0, .int .u32 0, .int .u32 0, .int .i64 0, .int .i64 0, .int .u32 0, .slice none 0 0, .slice none 0 0] 33]) ∧ (q ≤ (takeOut (rs 1 (rs 1 (stI b j).2)).1 (rs 1 (rs 1 (stI b j).2)).2 16).length)) (fun i_ => match i_ with | q => (takeOut (rs 1 (rs 1 (stI b j).2)).1 (rs 1 (rs 1 (stI b j).2)).2 16).length - q) 0 ?_ ?_
        · exact ⟨_, _, _, _, _, _, _, _, _, _, _, rfl, (((((((HS.front 6 rfl).front 6 rfl).front 6 rfl).front 5 rfl).front 5 rfl).front 5 rfl).front 6 rfl), (by omega)⟩
        · clear HS
          rintro q a_ w177 ⟨u11, u82, u83, u84, u85, u86, u87, u88, u89, u90, u91, rfl, HS, hI⟩ J175 hJ176
          have hql := hI
          refine wp_seq_k (fun K178 hK179 => ?_)
          refine c_region (fun ops181 hops180 => ?_)
          clear hops180
          refine p_run _ (x_cmp (k := .i64) (m := (q : Int)) (n := ((takeOut (rs 1 (rs 1 (stI b j).2)).1 (rs 1 (rs 1 (stI b j).2)).2 16).length : Int)) .lss (decide ((q : Int) < ((takeOut (rs 1 (rs 1 (stI b j).2)).1 (rs 1 (rs 1 (stI b j).2)).2 16).length : Int))) rfl rfl rfl rfl rfl) rfl ?_
          refine wpList_nil ?_
          refine hK179 _ _ ?_
          refine wp_seq_k (fun K182 hK183 => ?_)
          refine c_cond (t := decide ((q : Int) < ((takeOut (rs 1 (rs 1 (stI b j).2)).1 (rs 1 (rs 1 (stI b j).2)).2 16).length : Int))) rfl (fun hc184 => ?_) (fun hc184 => ?_)
          · have hlq : q < (takeOut (rs 1 (rs 1 (stI b j).2)).1 (rs 1 (rs 1 (stI b j).2)).2 16).length := by have := of_decide_eq_true hc184; omega
            have hrd_ := (row_rd (HS.get (.tail _ (.tail _ (.tail _ (.head _)))))).2.2
            obtain ⟨ad, hA_⟩ := rd_some hrd_ (by omega)
            subst hA_
            refine wp_skip ?_
            refine hK183 _ _ ?_
            refine wp_seq_k (fun K185 hK186 => ?_)
            refine wp_block ?_
            refine wp_seq_k (fun K187 hK188 => ?_)
            refine c_region (fun ops190 hops189 => ?_)
            clear hops189
            refine p_run _ (x_move (.int .i64 (q : Int)) rfl rfl) rfl ?_
            refine p_run _ (x_assign (.int .i64 (q : Int)) rfl rfl) rfl ?_
            refine wpList_nil ?_
            refine hK188 _ _ ?_
            refine c_region (fun ops192 hops191 => ?_)
            clear hops191
            refine p_run _ (x_move (.int .i64 (q : Int)) rfl rfl) rfl ?_
            refine p_run _ (x_move (.slice (some ad) ((takeOut (rs 1 (rs 1 (stI b j).2)).1 (rs 1 (rs 1 (stI b j).2)).2 16).length) c158) rfl rfl) rfl ?_
            refine p_run _ (x_move (.int .i64 (q : Int)) rfl rfl) rfl ?_
            refine p_run (l' := (.slice A b.length c :: undef :: .pointer (some ⟨g5, 0, none⟩) :: .int .i64 0 :: .pointer (some ⟨g12, 0, none⟩) :: .pointer (some ⟨g19, 0, none⟩) :: .int .u64 (rn 1 (st10 b)) :: .int .u64 (j : Int) :: .pointer (some ⟨g131, 0, none⟩) :: .pointer (some ⟨g160, 0, none⟩) :: .slice (some ad) ((takeOut (rs 1 (rs 1 (stI b j).2)).1 (rs 1 (rs 1 (stI b j).2)).2 16).length) c158 :: .int .i64 (q : Int) :: U4g4 (V8.l qz31 (V8.l qz56 (V8.l qz81 (V8.l qz90 (.pointer (some ⟨g19, 9, none⟩) :: .pointer (some ⟨g12, 0, none⟩) :: .int .u64 (rn 1 (st10 b)) :: .int .u64 (j : Int) :: .int .u64 (rn 1 (st10 b)) :: .bool bz120 :: .bool bz120 :: uz55 :: uz56 :: .bool bz121 :: q105.d :: q105.e :: .agg (Value.int .i64 0 :: Value.bool false :: (nums .u8 (zB16.map bv))).toArray :: .pointer (some ⟨g12, 0, none⟩) :: .int .u64 (rn 1 (stI b j).2) :: .int .i64 (rn 1 (stI b j).2) :: .pointer (some ⟨g131, 0, none⟩) :: .pointer (some ⟨g12, 0, none⟩) :: .int .u64 (rn 1 (rs 1 (stI b j).2)) :: .bool ((rn 1 (rs 1 (stI b j).2)) == 1) :: .pointer (some ⟨g131, 1, none⟩) :: .tuple [.agg ([.slice A b.length c, .int .i64 (at155 : Int), .bool (takeBad (rs 1 (rs 1 (stI b j).2)).1 (rs 1 (rs 1 (stI b j).2)).2 16)] : List Value).toArray, .slice (some ad) ((takeOut (rs 1 (rs 1 (stI b j).2)).1 (rs 1 (rs 1 (stI b j).2)).2 16).length) c158].toArray :: .pointer (some ⟨g12, 0, none⟩) :: .pointer (some ⟨g12, 0, none⟩) :: .agg ([.slice A b.length c, .int .i64 (at147 : Int), .bool ((rs 1 (rs 1 (stI b j).2)).2)] : List Value).toArray :: .tuple [.agg ([.slice A b.length c, .int .i64 (at155 : Int), .bool (takeBad (rs 1 (rs 1 (stI b j).2)).1 (rs 1 (rs 1 (stI b j).2)).2 16)] : List Value).toArray, .slice (some ad) ((takeOut (rs 1 (rs 1 (stI b j).2)).1 (rs 1 (rs 1 (stI b j).2)).2 16).length) c158].toArray :: .agg ([.slice A b.length c, .int .i64 (at155 : Int), .bool (takeBad (rs 1 (rs 1 (stI b j).2)).1 (rs 1 (rs 1 (stI b j).2)).2 16)] : List Value).toArray :: .slice (some ad) ((takeOut (rs 1 (rs 1 (stI b j).2)).1 (rs 1 (rs 1 (stI b j).2)).2 16).length) c158 :: .pointer (some ⟨g12, 0, none⟩) :: .agg ([.slice A b.length c, .int .i64 (at155 : Int), .bool (takeBad (rs 1 (rs 1 (stI b j).2)).1 (rs 1 (rs 1 (stI b j).2)).2 16)] : List Value).toArray :: .pointer (some ⟨g12, 0, none⟩) :: .slice (some ad) ((takeOut (rs 1 (rs 1 (stI b j).2)).1 (rs 1 (rs 1 (stI b j).2)).2 16).length) c158 :: .int .i64 ((takeOut (rs 1 (rs 1 (stI b j).2)).1 (rs 1 (rs 1 (stI b j).2)).2 16).length : Int) :: .int .i64 (q : Int) :: .bool (decide ((q : Int) < ((takeOut (rs 1 (rs 1 (stI b j).2)).1 (rs 1 (rs 1 (stI b j).2)).2 16).length : Int))) :: .int .i64 (q : Int) :: .int .i64 (q : Int) :: .slice (some ad) ((takeOut (rs 1 (rs 1 (stI b j).2)).1 (rs 1 (rs 1 (stI b j).2)).2 16).length) c158 :: .int .i64 (q : Int) :: .pointer (some ((ad).add (q * 1))) :: u88 :: u89 :: u90 :: u91 :: q109.f :: q109.g :: q109.h :: q110.a :: q110.b :: q110.c :: U32g4 (U8g4 (undef :: []))))))))) _ (x_index (A := ad) (j := q * 1) (sz := 1) rfl rfl rfl Try.underlying22 (by kernel_rfl) (by have := hO16; omega) rfl) rfl ?_
            refine p_run _ (x_load (.int .u8 (bv (takeOut (rs 1 (rs 1 (stI b j).2)).1 (rs 1 (rs 1 (stI b j).2)).2 16)[q])) rfl rfl (rd_cell hrd_ q hlq) (by rfl)) rfl ?_
            refine p_run _ (x_field (j := 2) _ _ rfl rfl Try.underlying53 rfl (by rfl) rfl) rfl ?_
            refine p_run _ (x_indexArr (sz := 1) (j := 2 + q) rfl rfl rfl Try.underlying51 (by kernel_rfl) (by have := hO16; omega) (by first | rfl | (simp; done) | (simp <;> omega) | omega)) rfl ?_
            refine St.store (cs' := (itC ((rn 1 (stI b j).2), ((rn 1 (rs 1 (stI b j).2)) == 1), cpy (takeOut (rs 1 (rs 1 (stI b j).2)).1 (rs 1 (rs 1 (stI b j).2)).2 16) (q + 1)))) HS (.int .u8 (bv (takeOut (rs 1 (rs 1 (stI b j).2)).1 (rs 1 (rs 1 (stI b j).2)).2 16)[q])) rfl rfl rfl (by kernel_rfl) (decide_eq_true (by simp only [List.length_cons, nums_length, List.length_map, cpy_len (Nat.le_of_lt hlq) hO16]; omega)) (it_set hlq hO16) ?_
            clear HS
            intro w193 HS
            refine wpList_nil ?_
            refine hK186 _ _ ?_
            refine c_region (fun ops195 hops194 => ?_)
            clear hops194
            refine p_run _ (x_arith (k := .i64) (m := (q : Int)) (n := 1) .add (((q + 1 : Nat) : Int)) rfl rfl rfl (show IntKind.i64.wrap ((q : Int) + 1) = ((q + 1 : Nat) : Int) from ((wr64' (by omega)).trans (by omega))) rfl) rfl ?_
            refine p_run _ (x_move (.int .i64 ((q + 1 : Nat) : Int)) rfl rfl) rfl ?_
            refine wpList_nil ?_
            refine fr_at (l' := (.slice A b.length c :: undef :: .pointer (some ⟨g5, 0, none⟩) :: .int .i64 0 :: .pointer (some ⟨g12, 0, none⟩) :: .pointer (some ⟨g19, 0, none⟩) :: .int .u64 (rn 1 (st10 b)) :: .int .u64 (j : Int) :: .pointer (some ⟨g131, 0, none⟩) :: .pointer (some ⟨g160, 0, none⟩) :: .slice (some ad) ((takeOut (rs 1 (rs 1 (stI b j).2)).1 (rs 1 (rs 1 (stI b j).2)).2 16).length) c158 :: .int .i64 (q : Int) :: U4g4 (V8.l qz31 (V8.l qz56 (V8.l qz81 (V8.l qz90 (.pointer (some ⟨g19, 9, none⟩) :: .pointer (some ⟨g12, 0, none⟩) :: .int .u64 (rn 1 (st10 b)) :: .int .u64 (j : Int) :: .int .u64 (rn 1 (st10 b)) :: .bool bz120 :: .bool bz120 :: uz55 :: uz56 :: .bool bz121 :: q105.d :: q105.e :: .agg (Value.int .i64 0 :: Value.bool false :: (nums .u8 (zB16.map bv))).toArray :: .pointer (some ⟨g12, 0, none⟩) :: .int .u64 (rn 1 (stI b j).2) :: .int .i64 (rn 1 (stI b j).2) :: .pointer (some ⟨g131, 0, none⟩) :: .pointer (some ⟨g12, 0, none⟩) :: .int .u64 (rn 1 (rs 1 (stI b j).2)) :: .bool ((rn 1 (rs 1 (stI b j).2)) == 1) :: .pointer (some ⟨g131, 1, none⟩) :: .tuple [.agg ([.slice A b.length c, .int .i64 (at155 : Int), .bool (takeBad (rs 1 (rs 1 (stI b j).2)).1 (rs 1 (rs 1 (stI b j).2)).2 16)] : List Value).toArray, .slice (some ad) ((takeOut (rs 1 (rs 1 (stI b j).2)).1 (rs 1 (rs 1 (stI b j).2)).2 16).length) c158].toArray :: .pointer (some ⟨g12, 0, none⟩) :: .pointer (some ⟨g12, 0, none⟩) :: .agg ([.slice A b.length c, .int .i64 (at147 : Int), .bool ((rs 1 (rs 1 (stI b j).2)).2)] : List Value).toArray :: .tuple [.agg ([.slice A b.length c, .int .i64 (at155 : Int), .bool (takeBad (rs 1 (rs 1 (stI b j).2)).1 (rs 1 (rs 1 (stI b j).2)).2 16)] : List Value).toArray, .slice (some ad) ((takeOut (rs 1 (rs 1 (stI b j).2)).1 (rs 1 (rs 1 (stI b j).2)).2 16).length) c158].toArray :: .agg ([.slice A b.length c, .int .i64 (at155 : Int), .bool (takeBad (rs 1 (rs 1 (stI b j).2)).1 (rs 1 (rs 1 (stI b j).2)).2 16)] : List Value).toArray :: .slice (some ad) ((takeOut (rs 1 (rs 1 (stI b j).2)).1 (rs 1 (rs 1 (stI b j).2)).2 16).length) c158 :: .pointer (some ⟨g12, 0, none⟩) :: .agg ([.slice A b.length c, .int .i64 (at155 : Int), .bool (takeBad (rs 1 (rs 1 (stI b j).2)).1 (rs 1 (rs 1 (stI b j).2)).2 16)] : List Value).toArray :: .pointer (some ⟨g12, 0, none⟩) :: .slice (some ad) ((takeOut (rs 1 (rs 1 (stI b j).2)).1 (rs 1 (rs 1 (stI b j).2)).2 16).length) c158 :: .int .i64 ((takeOut (rs 1 (rs 1 (stI b j).2)).1 (rs 1 (rs 1 (stI b j).2)).2 16).length : Int) :: .int .i64 ((q + 1 : Nat) : Int) :: .bool (decide ((q : Int) < ((takeOut (rs 1 (rs 1 (stI b j).2)).1 (rs 1 (rs 1 (stI b j).2)).2 16).length : Int))) :: .int .i64 (q : Int) :: .int .i64 (q : Int) :: .slice (some ad) ((takeOut (rs 1 (rs 1 (stI b j).2)).1 (rs 1 (rs 1 (stI b j).2)).2 16).length) c158 :: .int .i64 (q : Int) :: .pointer (some ((ad).add (q * 1))) :: .int .u8 (bv (takeOut (rs 1 (rs 1 (stI b j).2)).1 (rs 1 (rs 1 (stI b j).2)).2 16)[q]) :: .pointer (some ⟨g131, 2, none⟩) :: .pointer (some ⟨g131, 2 + q, none⟩) :: .int .i64 ((q + 1 : Nat) : Int) :: q109.f :: q109.g :: q109.h :: q110.a :: q110.b :: q110.c :: U32g4 (U8g4 (undef :: []))))))))) rfl ?_
            refine hJ176 (q + 1) _ _ ?_ ?_
            · show (takeOut (rs 1 (rs 1 (stI b j).2)).1 (rs 1 (rs 1 (stI b j).2)).2 16).length - (q + 1) < (takeOut (rs 1 (rs 1 (stI b j).2)).1 (rs 1 (rs 1 (stI b j).2)).2 16).length - q; omega
            · exact ⟨_, _, _, _, _, _, _, _, _, _, _, rfl, (((((((HS.front 6 rfl).front 6 rfl).front 6 rfl).front 6 rfl).front 6 rfl).front 6 rfl).front 6 rfl), (by omega)⟩
          · have hlq : q = (takeOut (rs 1 (rs 1 (stI b j).2)).1 (rs 1 (rs 1 (stI b j).2)).2 16).length := by have := of_decide_eq_false hc184; omega
            subst hlq
            rw [cpy_end] at HS
            replace HS : St w (fun _ => False) w177 ([blk g131 (Value.int .i64 ((rdIt (stI b j).2).1.1) :: Value.bool ((rdIt (stI b j).2).1.2.1) :: (nums .u8 ((rdIt (stI b j).2).1.2.2.map bv))) 53, blk g12 [.slice A b.length c, .int .i64 (at155 : Int), .bool ((rdIt (stI b j).2).2.2)] 80, blk g160 [.slice A b.length c, .int .i64 (at155 : Int), .bool (takeBad (rs 1 (rs 1 (stI b j).2)).1 (rs 1 (rs 1 (stI b j).2)).2 16)] 80, row kByte rfl 5 (.slice A157 ((takeOut (rs 1 (rs 1 (stI b j).2)).1 (rs 1 (rs 1 (stI b j).2)).2 16).length) c158) (takeOut (rs 1 (rs 1 (stI b j).2)).1 (rs 1 (rs 1 (stI b j).2)).2 16), row kIt rfl 53 vi ((stI b j).1), blk g19 [.int .i64 (rn 1 (b, false)), .int .u32 (rn 4 (st1 b)), .int .u64 (rn 8 (st2 b)), .int .u32 (rn 4 (st3 b)), .int .u32 (rn 4 (st4 b)), .int .u32 (rn 4 (st5 b)), .int .u32 (rn 4 (st6 b)), .int .i64 (rn 1 (st7 b)), .int .i64 (rn 1 (st8 b)), .int .u32 (rn 4 (st9 b)), vi, .slice none 0 0] 33, blk g5 [.int .i64 0, .int .u32 0, .int .u64 0, .int .u32 0, .int .u32 0, .int .u32 0, .int .u32 0, .int .i64 0, .int .i64 0, .int .u32 0, .slice none 0 0, .slice none 0 0] 33]) := HS
            refine wp_exit ?_
            refine hK170 _ _ ?_
            refine c_region (fun ops197 hops196 => ?_)
            clear hops196
            refine p_run _ (x_field (j := 10) _ _ rfl rfl Try.underlying33 rfl (by rfl) rfl) rfl ?_
            refine p_run _ (x_load (vi) rfl rfl (bkCell (HS.get (.tail _ (.tail _ (.tail _ (.tail _ (.tail _ (.head _))))))) 10 _ rfl) (by rfl)) rfl ?_
            refine p_run _ (x_loads (Value.int .i64 ((rdIt (stI b j).2).1.1) :: Value.bool ((rdIt (stI b j).2).1.2.1) :: (nums .u8 ((rdIt (stI b j).2).1.2.2.map bv))) 18 rfl rfl (bkCells (HS.get (.head _)) 0 _ (whole _)) (by rfl) (by kernel_rfl) (by simp [List.length_map, nums_length, rdIt_len])) rfl ?_
            refine St.wLit1 HS (Value.int .i64 ((rdIt (stI b j).2).1.1) :: Value.bool ((rdIt (stI b j).2).1.2.1) :: (nums .u8 ((rdIt (stI b j).2).1.2.2.map bv))) 18 (.agg (Value.int .i64 0 :: Value.bool false :: (nums .u8 (zB16.map bv))).toArray) (.agg (Value.int .i64 ((rdIt (stI b j).2).1.1) :: Value.bool ((rdIt (stI b j).2).1.2.1) :: (nums .u8 ((rdIt (stI b j).2).1.2.2.map bv))).toArray) Try.underlying30 (by kernel_rfl) (by decide) rfl rfl (by simp [List.length_map, nums_length, rdIt_len]) ?_
            clear HS
            intro g198 w199 hg200 HS
            replace HS := (HS.front 5 rfl)
            refine St.wAppend HS ((.agg (.int .i64 0 :: .bool false :: nums .u8 (zB16.map bv)).toArray)) 32 Try.underlying30 (by kernel_rfl) (by kernel_rfl) (by decide) (by decide) [(rdIt (stI b j).2).1] _ _ _ rfl rfl (lit_reads (HS.get (.tail _ (.head _))) ((Reps.none _ _).snoc (p := (rdIt (stI b j).2).1) ⟨rfl, rdIt_len _⟩ (by simp [kIt, flatK, nums_length, rdIt_len])) (by simp)) (fun _ _ h => h) (by have h_ := rdL_len rdIt j (st11 b); have := nIt_le b; unfold stI; omega) ?_
            clear HS
            intro v201 w202 HS
            refine p_run _ (x_field (j := 10) _ _ rfl rfl Try.underlying33 rfl (by rfl) rfl) rfl ?_
            refine St.store (cs' := [.int .i64 (rn 1 (b, false)), .int .u32 (rn 4 (st1 b)), .int .u64 (rn 8 (st2 b)), .int .u32 (rn 4 (st3 b)), .int .u32 (rn 4 (st4 b)), .int .u32 (rn 4 (st5 b)), .int .u32 (rn 4 (st6 b)), .int .i64 (rn 1 (st7 b)), .int .i64 (rn 1 (st8 b)), .int .u32 (rn 4 (st9 b)), v201, .slice none 0 0]) (HS.front 6 rfl) (v201) rfl rfl (row_one (HS.get (.head _))) (by kernel_rfl) (by rfl) rfl ?_
            clear HS
            intro w203 HS
            refine wpList_nil ?_
            refine fr_at (l' := (.slice A b.length c :: undef :: .pointer (some ⟨g5, 0, none⟩) :: .int .i64 0 :: .pointer (some ⟨g12, 0, none⟩) :: .pointer (some ⟨g19, 0, none⟩) :: .int .u64 (rn 1 (st10 b)) :: .int .u64 (j : Int) :: .pointer (some ⟨g131, 0, none⟩) :: .pointer (some ⟨g160, 0, none⟩) :: .slice A157 ((takeOut (rs 1 (rs 1 (stI b j).2)).1 (rs 1 (rs 1 (stI b j).2)).2 16).length) c158 :: u11 :: U4g4 (V8.l qz31 (V8.l qz56 (V8.l qz81 (V8.l qz90 (.pointer (some ⟨g19, 9, none⟩) :: .pointer (some ⟨g12, 0, none⟩) :: .int .u64 (rn 1 (st10 b)) :: .int .u64 (j : Int) :: .int .u64 (rn 1 (st10 b)) :: .bool bz120 :: .bool bz120 :: uz55 :: uz56 :: .bool bz121 :: q105.d :: q105.e :: .agg (Value.int .i64 0 :: Value.bool false :: (nums .u8 (zB16.map bv))).toArray :: .pointer (some ⟨g12, 0, none⟩) :: .int .u64 (rn 1 (stI b j).2) :: .int .i64 (rn 1 (stI b j).2) :: .pointer (some ⟨g131, 0, none⟩) :: .pointer (some ⟨g12, 0, none⟩) :: .int .u64 (rn 1 (rs 1 (stI b j).2)) :: .bool ((rn 1 (rs 1 (stI b j).2)) == 1) :: .pointer (some ⟨g131, 1, none⟩) :: .tuple [.agg ([.slice A b.length c, .int .i64 (at155 : Int), .bool (takeBad (rs 1 (rs 1 (stI b j).2)).1 (rs 1 (rs 1 (stI b j).2)).2 16)] : List Value).toArray, .slice A157 ((takeOut (rs 1 (rs 1 (stI b j).2)).1 (rs 1 (rs 1 (stI b j).2)).2 16).length) c158].toArray :: .pointer (some ⟨g12, 0, none⟩) :: .pointer (some ⟨g12, 0, none⟩) :: .agg ([.slice A b.length c, .int .i64 (at147 : Int), .bool ((rs 1 (rs 1 (stI b j).2)).2)] : List Value).toArray :: .tuple [.agg ([.slice A b.length c, .int .i64 (at155 : Int), .bool (takeBad (rs 1 (rs 1 (stI b j).2)).1 (rs 1 (rs 1 (stI b j).2)).2 16)] : List Value).toArray, .slice A157 ((takeOut (rs 1 (rs 1 (stI b j).2)).1 (rs 1 (rs 1 (stI b j).2)).2 16).length) c158].toArray :: .agg ([.slice A b.length c, .int .i64 (at155 : Int), .bool (takeBad (rs 1 (rs 1 (stI b j).2)).1 (rs 1 (rs 1 (stI b j).2)).2 16)] : List Value).toArray :: .slice A157 ((takeOut (rs 1 (rs 1 (stI b j).2)).1 (rs 1 (rs 1 (stI b j).2)).2 16).length) c158 :: .pointer (some ⟨g12, 0, none⟩) :: .agg ([.slice A b.length c, .int .i64 (at155 : Int), .bool (takeBad (rs 1 (rs 1 (stI b j).2)).1 (rs 1 (rs 1 (stI b j).2)).2 16)] : List Value).toArray :: .pointer (some ⟨g12, 0, none⟩) :: .slice A157 ((takeOut (rs 1 (rs 1 (stI b j).2)).1 (rs 1 (rs 1 (stI b j).2)).2 16).length) c158 :: .int .i64 ((takeOut (rs 1 (rs 1 (stI b j).2)).1 (rs 1 (rs 1 (stI b j).2)).2 16).length : Int) :: .int .i64 ((takeOut (rs 1 (rs 1 (stI b j).2)).1 (rs 1 (rs 1 (stI b j).2)).2 16).length : Int) :: .bool (decide (((takeOut (rs 1 (rs 1 (stI b j).2)).1 (rs 1 (rs 1 (stI b j).2)).2 16).length : Int) < ((takeOut (rs 1 (rs 1 (stI b j).2)).1 (rs 1 (rs 1 (stI b j).2)).2 16).length : Int))) :: u83 :: u84 :: u85 :: u86 :: u87 :: u88 :: u89 :: u90 :: u91 :: .pointer (some ⟨g19, 10, none⟩) :: vi :: .agg (Value.int .i64 ((rdIt (stI b j).2).1.1) :: Value.bool ((rdIt (stI b j).2).1.2.1) :: (nums .u8 ((rdIt (stI b j).2).1.2.2.map bv))).toArray :: .slice (some ⟨g198, 0, none⟩) 1 1 :: v201 :: .pointer (some ⟨g19, 10, none⟩) :: U32g4 (U8g4 (undef :: []))))))))) rfl ?_
            refine hK126 _ _ ?_
            refine c_region (fun ops205 hops204 => ?_)
            clear hops204
            refine p_run _ (x_move (.int .u64 (j : Int)) rfl rfl) rfl ?_
            refine p_run _ (x_arith (k := .u64) (m := (j : Int)) (n := 1) .add (((j + 1 : Nat) : Int)) rfl rfl rfl (show IntKind.u64.wrap ((j : Int) + 1) = ((j + 1 : Nat) : Int) from ((wru64 (by have := nIt_le b; omega)).trans (by omega))) rfl) rfl ?_
            refine p_run _ (x_assign (.int .u64 ((j + 1 : Nat) : Int)) rfl rfl) rfl ?_
            refine wpList_nil ?_
            refine fr_at (l' := (.slice A b.length c :: undef :: .pointer (some ⟨g5, 0, none⟩) :: .int .i64 0 :: .pointer (some ⟨g12, 0, none⟩) :: .pointer (some ⟨g19, 0, none⟩) :: .int .u64 (rn 1 (st10 b)) :: .int .u64 ((j + 1 : Nat) : Int) :: .pointer (some ⟨g131, 0, none⟩) :: .pointer (some ⟨g160, 0, none⟩) :: .slice A157 ((takeOut (rs 1 (rs 1 (stI b j).2)).1 (rs 1 (rs 1 (stI b j).2)).2 16).length) c158 :: u11 :: U4g4 (V8.l qz31 (V8.l qz56 (V8.l qz81 (V8.l qz90 (.pointer (some ⟨g19, 9, none⟩) :: .pointer (some ⟨g12, 0, none⟩) :: .int .u64 (rn 1 (st10 b)) :: .int .u64 (j : Int) :: .int .u64 (rn 1 (st10 b)) :: .bool bz120 :: .bool bz120 :: uz55 :: uz56 :: .bool bz121 :: .int .u64 (j : Int) :: .int .u64 ((j + 1 : Nat) : Int) :: .agg (Value.int .i64 0 :: Value.bool false :: (nums .u8 (zB16.map bv))).toArray :: .pointer (some ⟨g12, 0, none⟩) :: .int .u64 (rn 1 (stI b j).2) :: .int .i64 (rn 1 (stI b j).2) :: .pointer (some ⟨g131, 0, none⟩) :: .pointer (some ⟨g12, 0, none⟩) :: .int .u64 (rn 1 (rs 1 (stI b j).2)) :: .bool ((rn 1 (rs 1 (stI b j).2)) == 1) :: .pointer (some ⟨g131, 1, none⟩) :: .tuple [.agg ([.slice A b.length c, .int .i64 (at155 : Int), .bool (takeBad (rs 1 (rs 1 (stI b j).2)).1 (rs 1 (rs 1 (stI b j).2)).2 16)] : List Value).toArray, .slice A157 ((takeOut (rs 1 (rs 1 (stI b j).2)).1 (rs 1 (rs 1 (stI b j).2)).2 16).length) c158].toArray :: .pointer (some ⟨g12, 0, none⟩) :: .pointer (some ⟨g12, 0, none⟩) :: .agg ([.slice A b.length c, .int .i64 (at147 : Int), .bool ((rs 1 (rs 1 (stI b j).2)).2)] : List Value).toArray :: .tuple [.agg ([.slice A b.length c, .int .i64 (at155 : Int), .bool (takeBad (rs 1 (rs 1 (stI b j).2)).1 (rs 1 (rs 1 (stI b j).2)).2 16)] : List Value).toArray, .slice A157 ((takeOut (rs 1 (rs 1 (stI b j).2)).1 (rs 1 (rs 1 (stI b j).2)).2 16).length) c158].toArray :: .agg ([.slice A b.length c, .int .i64 (at155 : Int), .bool (takeBad (rs 1 (rs 1 (stI b j).2)).1 (rs 1 (rs 1 (stI b j).2)).2 16)] : List Value).toArray :: .slice A157 ((takeOut (rs 1 (rs 1 (stI b j).2)).1 (rs 1 (rs 1 (stI b j).2)).2 16).length) c158 :: .pointer (some ⟨g12, 0, none⟩) :: .agg ([.slice A b.length c, .int .i64 (at155 : Int), .bool (takeBad (rs 1 (rs 1 (stI b j).2)).1 (rs 1 (rs 1 (stI b j).2)).2 16)] : List Value).toArray :: .pointer (some ⟨g12, 0, none⟩) :: .slice A157 ((takeOut (rs 1 (rs 1 (stI b j).2)).1 (rs 1 (rs 1 (stI b j).2)).2 16).length) c158 :: .int .i64 ((takeOut (rs 1 (rs 1 (stI b j).2)).1 (rs 1 (rs 1 (stI b j).2)).2 16).length : Int) :: .int .i64 ((takeOut (rs 1 (rs 1 (stI b j).2)).1 (rs 1 (rs 1 (stI b j).2)).2 16).length : Int) :: .bool (decide (((takeOut (rs 1 (rs 1 (stI b j).2)).1 (rs 1 (rs 1 (stI b j).2)).2 16).length : Int) < ((takeOut (rs 1 (rs 1 (stI b j).2)).1 (rs 1 (rs 1 (stI b j).2)).2 16).length : Int))) :: u83 :: u84 :: u85 :: u86 :: u87 :: u88 :: u89 :: u90 :: u91 :: .pointer (some ⟨g19, 10, none⟩) :: vi :: .agg (Value.int .i64 ((rdIt (stI b j).2).1.1) :: Value.bool ((rdIt (stI b j).2).1.2.1) :: (nums .u8 ((rdIt (stI b j).2).1.2.2.map bv))).toArray :: .slice (some ⟨g198, 0, none⟩) 1 1 :: v201 :: .pointer (some ⟨g19, 10, none⟩) :: U32g4 (U8g4 (undef :: []))))))))) rfl ?_
            refine hJ112 (j + 1, v201, at155) _ _ ?_ ?_
            · show nIt b - (j + 1) < nIt b - j; omega
            · exact ⟨⟨.pointer (some ⟨g131, 0, none⟩), .pointer (some ⟨g160, 0, none⟩), .slice A157 ((takeOut (rs 1 (rs 1 (stI b j).2)).1 (rs 1 (rs 1 (stI b j).2)).2 16).length) c158, u11, .int .u64 (j : Int), .int .u64 (rn 1 (st10 b)), .bool bz120, .bool bz120⟩, ⟨uz55, uz56, .bool bz121, .int .u64 (j : Int), .int .u64 ((j + 1 : Nat) : Int), .agg (Value.int .i64 0 :: Value.bool false :: (nums .u8 (zB16.map bv))).toArray, .pointer (some ⟨g12, 0, none⟩), .int .u64 (rn 1 (stI b j).2)⟩, ⟨.int .i64 (rn 1 (stI b j).2), .pointer (some ⟨g131, 0, none⟩), .pointer (some ⟨g12, 0, none⟩), .int .u64 (rn 1 (rs 1 (stI b j).2)), .bool ((rn 1 (rs 1 (stI b j).2)) == 1), .pointer (some ⟨g131, 1, none⟩), .tuple [.agg ([.slice A b.length c, .int .i64 (at155 : Int), .bool (takeBad (rs 1 (rs 1 (stI b j).2)).1 (rs 1 (rs 1 (stI b j).2)).2 16)] : List Value).toArray, .slice A157 ((takeOut (rs 1 (rs 1 (stI b j).2)).1 (rs 1 (rs 1 (stI b j).2)).2 16).length) c158].toArray, .pointer (some ⟨g12, 0, none⟩)⟩, ⟨.pointer (some ⟨g12, 0, none⟩), .agg ([.slice A b.length c, .int .i64 (at147 : Int), .bool ((rs 1 (rs 1 (stI b j).2)).2)] : List Value).toArray, .tuple [.agg ([.slice A b.length c, .int .i64 (at155 : Int), .bool (takeBad (rs 1 (rs 1 (stI b j).2)).1 (rs 1 (rs 1 (stI b j).2)).2 16)] : List Value).toArray, .slice A157 ((takeOut (rs 1 (rs 1 (stI b j).2)).1 (rs 1 (rs 1 (stI b j).2)).2 16).length) c158].toArray, .agg ([.slice A b.length c, .int .i64 (at155 : Int), .bool (takeBad (rs 1 (rs 1 (stI b j).2)).1 (rs 1 (rs 1 (stI b j).2)).2 16)] : List Value).toArray, .slice A157 ((takeOut (rs 1 (rs 1 (stI b j).2)).1 (rs 1 (rs 1 (stI b j).2)).2 16).length) c158, .pointer (some ⟨g12, 0, none⟩), .agg ([.slice A b.length c, .int .i64 (at155 : Int), .bool (takeBad (rs 1 (rs 1 (stI b j).2)).1 (rs 1 (rs 1 (stI b j).2)).2 16)] : List Value).toArray, .pointer (some ⟨g12, 0, none⟩)⟩, ⟨.slice A157 ((takeOut (rs 1 (rs 1 (stI b j).2)).1 (rs 1 (rs 1 (stI b j).2)).2 16).length) c158, .int .i64 ((takeOut (rs 1 (rs 1 (stI b j).2)).1 (rs 1 (rs 1 (stI b j).2)).2 16).length : Int), .int .i64 ((takeOut (rs 1 (rs 1 (stI b j).2)).1 (rs 1 (rs 1 (stI b j).2)).2 16).length : Int), .bool (decide (((takeOut (rs 1 (rs 1 (stI b j).2)).1 (rs 1 (rs 1 (stI b j).2)).2 16).length : Int) < ((takeOut (rs 1 (rs 1 (stI b j).2)).1 (rs 1 (rs 1 (stI b j).2)).2 16).length : Int))), u83, u84, u85, u86⟩, ⟨u87, u88, u89, u90, u91, .pointer (some ⟨g19, 10, none⟩), vi, .agg (Value.int .i64 ((rdIt (stI b j).2).1.1) :: Value.bool ((rdIt (stI b j).2).1.2.1) :: (nums .u8 ((rdIt (stI b j).2).1.2.2.map bv))).toArray⟩, ⟨.slice (some ⟨g198, 0, none⟩) 1 1, v201, .pointer (some ⟨g19, 10, none⟩), undef, undef, undef, undef, undef⟩, rfl, ((((((((HS.front 2 rfl).drop.front 2 rfl).drop.front 3 rfl).drop.front 3 rfl).drop.front 3 rfl).front 3 rfl).front 2 rfl).front 3 rfl), ⟨by omega, hat156⟩⟩
      · rw [hbz121, hbz120] at hc124
        have hlt : j = nIt b := by
          have hj_ := hjl
          simp only [Bool.and_eq_false_iff, decide_eq_false_iff_not] at hc124
          unfold nIt upN at hj_ ⊢
          have := bd1 (st10 b)
          omega
        subst hlt
        refine wp_exit ?_
        refine hK99 _ _ ?_
        refine wp_seq_k (fun K206 hK207 => ?_)
        refine c_region (fun ops209 hops208 => ?_)
        clear hops208
        refine p_run _ (x_move (.pointer (some ⟨g12, 0, none⟩)) rfl rfl) rfl ?_
        refine w_call [.pointer (some ⟨g12, 0, none⟩), .int .i64 1] Try.func41 (by kernel_rfl) (by rfl) rfl ?_
        replace HS := (HS.front 2 rfl)
        refine (r18num_any (s := (stI b (nIt b)).2) (at_ := ati) HS hr hl hati (n := 1) (.inl rfl)).mono ?_
        clear HS
        rintro e w212 ⟨at210, rfl, hat211, HS⟩
        replace HS : St w (fun _ => False) w212 ([blk g12 [.slice A b.length c, .int .i64 (at210 : Int), .bool ((st12 b).2)] 80, row kIt rfl 53 vi ((stI b (nIt b)).1), blk g19 [.int .i64 (rn 1 (b, false)), .int .u32 (rn 4 (st1 b)), .int .u64 (rn 8 (st2 b)), .int .u32 (rn 4 (st3 b)), .int .u32 (rn 4 (st4 b)), .int .u32 (rn 4 (st5 b)), .int .u32 (rn 4 (st6 b)), .int .i64 (rn 1 (st7 b)), .int .i64 (rn 1 (st8 b)), .int .u32 (rn 4 (st9 b)), vi, .slice none 0 0] 33, blk g5 [.int .i64 0, .int .u32 0, .int .u64 0, .int .u32 0, .int .u32 0, .int .u32 0, .int .u32 0, .int .i64 0, .int .i64 0, .int .u32 0, .slice none 0 0, .slice none 0 0] 33]) := HS
        refine ⟨_, rfl, ?_⟩
        refine p_run _ (x_assign (.int .u64 (rn 1 (stI b (nIt b)).2)) rfl rfl) rfl ?_
        refine wpList_nil ?_
        refine hK207 _ _ ?_
        refine wp_seq_k (fun K213 hK214 => ?_)
        refine wp_seq_k (fun K215 hK216 => ?_)
        refine c_region (fun ops218 hops217 => ?_)
        clear hops217
        refine p_run _ (x_assign (.int .u64 0) rfl rfl) rfl ?_
        refine wpList_nil ?_
        obtain ⟨qz219, hqz219⟩ : ∃ q_ : V8, q_ = ⟨.pointer (some ⟨g19, 9, none⟩), .pointer (some ⟨g12, 0, none⟩), .int .u64 (rn 1 (st10 b)), .int .u64 ((nIt b) : Int), .int .u64 (rn 1 (st10 b)), .bool bz120, .bool bz120, uz55⟩ := ⟨_, rfl⟩
        obtain ⟨qz220, hqz220⟩ : ∃ q_ : V8, q_ = ⟨uz56, .bool bz121, q105.d, q105.e, q105.f, q105.g, q105.h, q106.a⟩ := ⟨_, rfl⟩
        obtain ⟨qz221, hqz221⟩ : ∃ q_ : V8, q_ = ⟨q106.b, q106.c, q106.d, q106.e, q106.f, q106.g, q106.h, q107.a⟩ := ⟨_, rfl⟩
        obtain ⟨qz222, hqz222⟩ : ∃ q_ : V8, q_ = ⟨q107.b, q107.c, q107.d, q107.e, q107.f, q107.g, q107.h, q108.a⟩ := ⟨_, rfl⟩
        obtain ⟨qz223, hqz223⟩ : ∃ q_ : V8, q_ = ⟨q108.b, q108.c, q108.d, q108.e, q108.f, q108.g, q108.h, q109.a⟩ := ⟨_, rfl⟩
        obtain ⟨qz224, hqz224⟩ : ∃ q_ : V8, q_ = ⟨q109.b, q109.c, q109.d, q109.e, q109.f, q109.g, q109.h, q110.a⟩ := ⟨_, rfl⟩
        refine fr_at (l' := (.slice A b.length c :: undef :: .pointer (some ⟨g5, 0, none⟩) :: .int .i64 0 :: .pointer (some ⟨g12, 0, none⟩) :: .pointer (some ⟨g19, 0, none⟩) :: .int .u64 (rn 1 (stI b (nIt b)).2) :: .int .u64 ((nIt b) : Int) :: q104.a :: q104.b :: q104.c :: q104.d :: .int .u64 0 :: undef :: undef :: undef :: V8.l qz31 (V8.l qz56 (V8.l qz81 (V8.l qz90 (V8.l qz219 (V8.l qz220 (V8.l qz221 (V8.l qz222 (V8.l qz223 (V8.l qz224 (q110.b :: q110.c :: .pointer (some ⟨g12, 0, none⟩) :: .int .u64 (rn 1 (stI b (nIt b)).2) :: U32g4 (U4g4 (undef :: undef :: undef :: [])))))))))))))) (by subst hqz219 hqz220 hqz221 hqz222 hqz223 hqz224; rfl) ?_
        refine hK216 _ _ ?_
        refine wp_block ?_
        replace HS := HS.nil kHv rfl 55
        refine c_loop (ι := Nat × Value × Nat) (fun i_ a_ w_ => match i_ with | (j, vh, ath) => ∃ (u13 : Value) (u100 : Value) (u101 : Value) (u102 : Value) (u103 : Value) (u104 : Value) (u105 : Value) (u106 : Value) (u107 : Value) (u108 : Value) (u109 : Value) (u110 : Value) (u111 : Value) (u112 : Value) (u113 : Value) (u114 : Value) (u115 : Value) (u116 : Value) (u117 : Value) (u118 : Value) (u119 : Value) (u120 : Value) (u121 : Value) (u122 : Value), a_ = fr (.slice A b.length c :: undef :: .pointer (some ⟨g5, 0, none⟩) :: .int .i64 0 :: .pointer (some ⟨g12, 0, none⟩) :: .pointer (some ⟨g19, 0, none⟩) :: .int .u64 (rn 1 (stI b (nIt b)).2) :: .int .u64 ((nIt b) : Int) :: q104.a :: q104.b :: q104.c :: q104.d :: .int .u64 (j : Int) :: u13 :: undef :: undef :: V8.l qz31 (V8.l qz56 (V8.l qz81 (V8.l qz90 (V8.l qz219 (V8.l qz220 (V8.l qz221 (V8.l qz222 (V8.l qz223 (V8.l qz224 (q110.b :: q110.c :: .pointer (some ⟨g12, 0, none⟩) :: .int .u64 (rn 1 (stI b (nIt b)).2) :: u100 :: u101 :: u102 :: u103 :: u104 :: u105 :: u106 :: u107 :: u108 :: u109 :: u110 :: u111 :: u112 :: u113 :: u114 :: u115 :: u116 :: u117 :: u118 :: u119 :: u120 :: u121 :: u122 :: U16g4 ([])))))))))))) ∧ St w (fun _ => False) w_ ([row kHv rfl 55 vh ((stH b j).1), blk g19 [.int .i64 (rn 1 (b, false)), .int .u32 (rn 4 (st1 b)), .int .u64 (rn 8 (st2 b)), .int .u32 (rn 4 (st3 b)), .int .u32 (rn 4 (st4 b)), .int .u32 (rn 4 (st5 b)), .int .u32 (rn 4 (st6 b)), .int .i64 (rn 1 (st7 b)), .int .i64 (rn 1 (st8 b)), .int .u32 (rn 4 (st9 b)), vi, vh] 33, blk g12 [.slice A b.length c, .int .i64 (ath : Int), .bool ((stH b j).2.2)] 80, row kIt rfl 53 vi ((stI b (nIt b)).1), blk g5 [.int .i64 0, .int .u32 0, .int .u64 0, .int .u32 0, .int .u32 0, .int .u32 0, .int .u32 0, .int .i64 0, .int .i64 0, .int .u32 0, .slice none 0 0, .slice none 0 0] 33]) ∧ (j ≤ nHv b ∧ b.drop ath = (stH b j).2.1 ∧ ath ≤ b.length)) (fun i_ => match i_ with | (j, vh, ath) => nHv b - j) (0, .slice none 0 0, at210) ?_ ?_
        · exact ⟨_, _, _, _, _, _, _, _, _, _, _, _, _, _, _, _, _, _, _, _, _, _, _, _, rfl, (((((HS.front 4 rfl).front 3 rfl).front 3 rfl).front 4 rfl).front 4 rfl), ⟨Nat.zero_le _, hat211⟩⟩
        · clear HS
          rintro ⟨j, vh, ath⟩ a_ w227 ⟨u13, u100, u101, u102, u103, u104, u105, u106, u107, u108, u109, u110, u111, u112, u113, u114, u115, u116, u117, u118, u119, u120, u121, u122, rfl, HS, hI⟩ J225 hJ226
          obtain ⟨hjl, hath⟩ := hI
          refine wp_seq_k (fun K228 hK229 => ?_)
          refine wp_seq_k (fun K230 hK231 => ?_)
          refine c_region (fun ops233 hops232 => ?_)
          refine p_run _ (x_move (.int .u64 (j : Int)) rfl rfl) rfl ?_
          refine p_run _ (x_move (.int .u64 (rn 1 (stI b (nIt b)).2)) rfl rfl) rfl ?_
          refine p_run _ (x_cmp (k := .u64) (m := (j : Int)) (n := (rn 1 (stI b (nIt b)).2)) .lss (decide ((j : Int) < (rn 1 (stI b (nIt b)).2))) rfl rfl rfl rfl rfl) rfl ?_
          refine p_run _ (x_move (.bool (decide ((j : Int) < (rn 1 (stI b (nIt b)).2)))) rfl rfl) rfl ?_
          obtain ⟨bz234, hbz234⟩ : ∃ b_, b_ = (decide ((j : Int) < (rn 1 (stI b (nIt b)).2))) := ⟨_, rfl⟩
          rw [← hbz234]
          refine p_tail 3 (fun a_ w_ => ∃ (uz104 uz105 : Value) (bz235 : Bool), a_ = fr (.slice A b.length c :: undef :: .pointer (some ⟨g5, 0, none⟩) :: .int .i64 0 :: .pointer (some ⟨g12, 0, none⟩) :: .pointer (some ⟨g19, 0, none⟩) :: .int .u64 (rn 1 (stI b (nIt b)).2) :: .int .u64 ((nIt b) : Int) :: q104.a :: q104.b :: q104.c :: q104.d :: .int .u64 (j : Int) :: u13 :: undef :: undef :: V8.l qz31 (V8.l qz56 (V8.l qz81 (V8.l qz90 (V8.l qz219 (V8.l qz220 (V8.l qz221 (V8.l qz222 (V8.l qz223 (V8.l qz224 (q110.b :: q110.c :: .pointer (some ⟨g12, 0, none⟩) :: .int .u64 (rn 1 (stI b (nIt b)).2) :: .int .u64 (j : Int) :: .int .u64 (rn 1 (stI b (nIt b)).2) :: .bool bz234 :: .bool bz234 :: uz104 :: uz105 :: .bool bz235 :: u107 :: u108 :: u109 :: u110 :: u111 :: u112 :: u113 :: u114 :: u115 :: u116 :: u117 :: u118 :: u119 :: u120 :: u121 :: u122 :: U16g4 ([])))))))))))) ∧ bz235 = (bz234 && (decide ((j : Int) < 8))) ∧ St w (fun _ => False) w_ ([row kHv rfl 55 vh ((stH b j).1), blk g19 [.int .i64 (rn 1 (b, false)), .int .u32 (rn 4 (st1 b)), .int .u64 (rn 8 (st2 b)), .int .u32 (rn 4 (st3 b)), .int .u32 (rn 4 (st4 b)), .int .u32 (rn 4 (st5 b)), .int .u32 (rn 4 (st6 b)), .int .i64 (rn 1 (st7 b)), .int .i64 (rn 1 (st8 b)), .int .u32 (rn 4 (st9 b)), vi, vh] 33, blk g12 [.slice A b.length c, .int .i64 (ath : Int), .bool ((stH b j).2.2)] 80, row kIt rfl 53 vi ((stI b (nIt b)).1), blk g5 [.int .i64 0, .int .u32 0, .int .u64 0, .int .u32 0, .int .u32 0, .int .u32 0, .int .u32 0, .int .i64 0, .int .i64 0, .int .u32 0, .slice none 0 0, .slice none 0 0] 33])) (fun T236 => ?_) ?_
          · cases bz234
            · skip
              refine p_off (by rw [hops232]; rfl) rfl ?_
              refine p_off (by rw [hops232]; rfl) rfl ?_
              refine p_run _ (x_pick false (undef) (.bool false) (.bool false) rfl rfl rfl rfl rfl) rfl ?_
              exact T236 _ _ ⟨undef, undef, false, rfl, rfl, HS⟩
            · skip
              refine p_on rfl (by rw [hops232]; rfl) ?_
              refine p_run _ (x_move (.int .u64 (j : Int)) rfl rfl) rfl ?_
              refine p_on rfl (by rw [hops232]; rfl) ?_
              refine p_run _ (x_cmp (k := .u64) (m := (j : Int)) (n := 8) .lss (decide ((j : Int) < 8)) rfl rfl rfl rfl rfl) rfl ?_
              refine p_run _ (x_pick true (.bool (decide ((j : Int) < 8))) (.bool false) (.bool (decide ((j : Int) < 8))) rfl rfl rfl rfl rfl) rfl ?_
              exact T236 _ _ ⟨(.int .u64 (j : Int)), (.bool (decide ((j : Int) < 8))), (decide ((j : Int) < 8)), rfl, rfl, HS⟩
          clear HS
          rintro _ w_ ⟨uz104, uz105, bz235, rfl, hbz235, HS⟩
          skip
          clear hops232
          refine wpList_nil ?_
          refine hK231 _ _ ?_
          refine c_cond (t := bz235) rfl (fun hc238 => ?_) (fun hc238 => ?_)
          · rw [hbz235, hbz234] at hc238
            have hlt : j < nHv b := by
              simp only [Bool.and_eq_true, decide_eq_true_eq] at hc238
              unfold nHv upN
              omega
            refine wp_skip ?_
            refine hK229 _ _ ?_
            refine wp_seq_k (fun K239 hK240 => ?_)
            refine wp_block ?_
            refine wp_seq_k (fun K241 hK242 => ?_)
            refine c_region (fun ops244 hops243 => ?_)
            clear hops243
            refine p_run _ (x_build [.int .u32 0, .int .u32 0, .int .u32 0] rfl (by kernel_rfl)) rfl ?_
            refine St.wAlloc HS (cs := [.int .u32 0, .int .u32 0, .int .u32 0]) (.agg [.int .u32 0, .int .u32 0, .int .u32 0].toArray) (by kernel_rfl) rfl ?_
            clear HS
            intro g245 w246 hg247 HS
            refine St.stores (cs' := [.int .u32 0, .int .u32 0, .int .u32 0]) HS [.int .u32 0, .int .u32 0, .int .u32 0] 3 rfl rfl (by rfl) (by kernel_rfl) rfl (by simp) rfl ?_
            clear HS
            intro w248 HS
            refine wpList_nil ?_
            refine hK242 _ _ ?_
            refine wp_seq_k (fun K249 hK250 => ?_)
            refine c_region (fun ops252 hops251 => ?_)
            clear hops251
            refine p_run _ (x_move (.pointer (some ⟨g12, 0, none⟩)) rfl rfl) rfl ?_
            refine w_call [.pointer (some ⟨g12, 0, none⟩)] Try.func42 (by kernel_rfl) (by rfl) rfl ?_
            replace HS := (HS.front 3 rfl)
            refine (r18lab_any (s := (stH b j).2) (at_ := ath) HS hr hl hath).mono ?_
            clear HS
            rintro e w255 ⟨at253, rfl, hat254, HS⟩
            replace HS : St w (fun _ => False) w255 ([blk g12 [.slice A b.length c, .int .i64 (at253 : Int), .bool ((rs 4 (rs 4 (stH b j).2)).2)] 80, blk g245 [.int .u32 0, .int .u32 0, .int .u32 0] 55, row kHv rfl 55 vh ((stH b j).1), blk g19 [.int .i64 (rn 1 (b, false)), .int .u32 (rn 4 (st1 b)), .int .u64 (rn 8 (st2 b)), .int .u32 (rn 4 (st3 b)), .int .u32 (rn 4 (st4 b)), .int .u32 (rn 4 (st5 b)), .int .u32 (rn 4 (st6 b)), .int .i64 (rn 1 (st7 b)), .int .i64 (rn 1 (st8 b)), .int .u32 (rn 4 (st9 b)), vi, vh] 33, row kIt rfl 53 vi ((stI b (nIt b)).1), blk g5 [.int .i64 0, .int .u32 0, .int .u64 0, .int .u32 0, .int .u32 0, .int .u32 0, .int .u32 0, .int .i64 0, .int .i64 0, .int .u32 0, .slice none 0 0, .slice none 0 0] 33]) := HS
            refine ⟨_, rfl, ?_⟩
            refine p_run _ (x_field (j := 0) _ _ rfl rfl Try.underlying55 rfl (by rfl) rfl) rfl ?_
            refine St.stores (cs' := [.int .u32 (rn 4 (stH b j).2), .int .u32 (rn 4 (rs 4 (stH b j).2)), .int .u32 0]) (HS.front 1 rfl) [.int .u32 (rn 4 (stH b j).2), .int .u32 (rn 4 (rs 4 (stH b j).2))] 2 rfl rfl (by rfl) (by kernel_rfl) rfl (by simp) rfl ?_
            clear HS
            intro w256 HS
            refine wpList_nil ?_
            refine fr_at (l' := (.slice A b.length c :: undef :: .pointer (some ⟨g5, 0, none⟩) :: .int .i64 0 :: .pointer (some ⟨g12, 0, none⟩) :: .pointer (some ⟨g19, 0, none⟩) :: .int .u64 (rn 1 (stI b (nIt b)).2) :: .int .u64 ((nIt b) : Int) :: q104.a :: q104.b :: q104.c :: q104.d :: .int .u64 (j : Int) :: .pointer (some ⟨g245, 0, none⟩) :: undef :: undef :: V8.l qz31 (V8.l qz56 (V8.l qz81 (V8.l qz90 (V8.l qz219 (V8.l qz220 (V8.l qz221 (V8.l qz222 (V8.l qz223 (V8.l qz224 (q110.b :: q110.c :: .pointer (some ⟨g12, 0, none⟩) :: .int .u64 (rn 1 (stI b (nIt b)).2) :: .int .u64 (j : Int) :: .int .u64 (rn 1 (stI b (nIt b)).2) :: .bool bz234 :: .bool bz234 :: uz104 :: uz105 :: .bool bz235 :: u107 :: u108 :: .agg ([.int .u32 0, .int .u32 0, .int .u32 0] : List Value).toArray :: .pointer (some ⟨g12, 0, none⟩) :: .agg ([.int .u32 (rn 4 (stH b j).2), .int .u32 (rn 4 (rs 4 (stH b j).2))] : List Value).toArray :: .pointer (some ⟨g245, 0, none⟩) :: u113 :: u114 :: u115 :: u116 :: u117 :: u118 :: u119 :: u120 :: u121 :: u122 :: U16g4 ([]))))))))))))) rfl ?_
            refine hK250 _ _ ?_
            refine wp_seq_k (fun K257 hK258 => ?_)
            refine c_region (fun ops260 hops259 => ?_)
            clear hops259
            refine p_run _ (x_move (.pointer (some ⟨g12, 0, none⟩)) rfl rfl) rfl ?_
            refine w_call [.pointer (some ⟨g12, 0, none⟩), .int .i64 4] Try.func41 (by kernel_rfl) (by rfl) rfl ?_
            replace HS := (HS.front 1 rfl)
            refine (r18num_any (s := (rs 4 (rs 4 (stH b j).2))) (at_ := at253) HS hr hl hat254 (n := 4) (.inr (.inl rfl))).mono ?_
            clear HS
            rintro e w263 ⟨at261, rfl, hat262, HS⟩
            replace HS : St w (fun _ => False) w263 ([blk g12 [.slice A b.length c, .int .i64 (at261 : Int), .bool ((rs 4 (rs 4 (rs 4 (stH b j).2))).2)] 80, blk g245 [.int .u32 (rn 4 (stH b j).2), .int .u32 (rn 4 (rs 4 (stH b j).2)), .int .u32 0] 55, row kHv rfl 55 vh ((stH b j).1), blk g19 [.int .i64 (rn 1 (b, false)), .int .u32 (rn 4 (st1 b)), .int .u64 (rn 8 (st2 b)), .int .u32 (rn 4 (st3 b)), .int .u32 (rn 4 (st4 b)), .int .u32 (rn 4 (st5 b)), .int .u32 (rn 4 (st6 b)), .int .i64 (rn 1 (st7 b)), .int .i64 (rn 1 (st8 b)), .int .u32 (rn 4 (st9 b)), vi, vh] 33, row kIt rfl 53 vi ((stI b (nIt b)).1), blk g5 [.int .i64 0, .int .u32 0, .int .u64 0, .int .u32 0, .int .u32 0, .int .u32 0, .int .u32 0, .int .i64 0, .int .i64 0, .int .u32 0, .slice none 0 0, .slice none 0 0] 33]) := HS
            refine ⟨_, rfl, ?_⟩
            refine p_run _ (x_conv (k := .u64) (m := (rn 4 (rs 4 (rs 4 (stH b j).2)))) .u32 ((rn 4 (rs 4 (rs 4 (stH b j).2)))) rfl (by rw [Try.underlying27]; rfl) Try.underlying26 rfl (wu32 (bd4 _))) rfl ?_
            refine p_run _ (x_field (j := 2) _ _ rfl rfl Try.underlying55 rfl (by rfl) rfl) rfl ?_
            refine St.store (cs' := [.int .u32 (rn 4 (stH b j).2), .int .u32 (rn 4 (rs 4 (stH b j).2)), .int .u32 (rn 4 (rs 4 (rs 4 (stH b j).2)))]) (HS.front 1 rfl) (.int .u32 (rn 4 (rs 4 (rs 4 (stH b j).2)))) rfl rfl rfl (by kernel_rfl) (by rfl) rfl ?_
            clear HS
            intro w264 HS
            refine wpList_nil ?_
            refine fr_at (l' := (.slice A b.length c :: undef :: .pointer (some ⟨g5, 0, none⟩) :: .int .i64 0 :: .pointer (some ⟨g12, 0, none⟩) :: .pointer (some ⟨g19, 0, none⟩) :: .int .u64 (rn 1 (stI b (nIt b)).2) :: .int .u64 ((nIt b) : Int) :: q104.a :: q104.b :: q104.c :: q104.d :: .int .u64 (j : Int) :: .pointer (some ⟨g245, 0, none⟩) :: undef :: undef :: V8.l qz31 (V8.l qz56 (V8.l qz81 (V8.l qz90 (V8.l qz219 (V8.l qz220 (V8.l qz221 (V8.l qz222 (V8.l qz223 (V8.l qz224 (q110.b :: q110.c :: .pointer (some ⟨g12, 0, none⟩) :: .int .u64 (rn 1 (stI b (nIt b)).2) :: .int .u64 (j : Int) :: .int .u64 (rn 1 (stI b (nIt b)).2) :: .bool bz234 :: .bool bz234 :: uz104 :: uz105 :: .bool bz235 :: u107 :: u108 :: .agg ([.int .u32 0, .int .u32 0, .int .u32 0] : List Value).toArray :: .pointer (some ⟨g12, 0, none⟩) :: .agg ([.int .u32 (rn 4 (stH b j).2), .int .u32 (rn 4 (rs 4 (stH b j).2))] : List Value).toArray :: .pointer (some ⟨g245, 0, none⟩) :: .pointer (some ⟨g12, 0, none⟩) :: .int .u64 (rn 4 (rs 4 (rs 4 (stH b j).2))) :: .int .u32 (rn 4 (rs 4 (rs 4 (stH b j).2))) :: .pointer (some ⟨g245, 2, none⟩) :: u117 :: u118 :: u119 :: u120 :: u121 :: u122 :: U16g4 ([]))))))))))))) rfl ?_
            refine hK258 _ _ ?_
            refine c_region (fun ops266 hops265 => ?_)
            clear hops265
            refine p_run _ (x_field (j := 11) _ _ rfl rfl Try.underlying33 rfl (by rfl) rfl) rfl ?_
            refine p_run _ (x_load (vh) rfl rfl (bkCell (HS.get (.tail _ (.tail _ (.tail _ (.head _))))) 11 _ rfl) (by rfl)) rfl ?_
            refine p_run _ (x_loads [.int .u32 (rn 4 (stH b j).2), .int .u32 (rn 4 (rs 4 (stH b j).2)), .int .u32 (rn 4 (rs 4 (rs 4 (stH b j).2)))] 3 rfl rfl (bkCells (HS.get (.head _)) 0 _ rfl) (by rfl) (by kernel_rfl) rfl) rfl ?_
            refine St.wLit1 HS [.int .u32 (rn 4 (stH b j).2), .int .u32 (rn 4 (rs 4 (stH b j).2)), .int .u32 (rn 4 (rs 4 (rs 4 (stH b j).2)))] 3 (.agg [.int .u32 0, .int .u32 0, .int .u32 0].toArray) (.agg ([.int .u32 (rn 4 (stH b j).2), .int .u32 (rn 4 (rs 4 (stH b j).2)), .int .u32 (rn 4 (rs 4 (rs 4 (stH b j).2)))] : List Value).toArray) Try.underlying31 (by kernel_rfl) (by decide) rfl rfl rfl ?_
            clear HS
            intro g267 w268 hg269 HS
            replace HS := (HS.front 3 rfl)
            refine St.wAppend HS ((.agg #[.int .u32 0, .int .u32 0, .int .u32 0])) 12 Try.underlying31 (by kernel_rfl) (by kernel_rfl) (by decide) (by decide) [(rdHv (stH b j).2).1] _ _ _ rfl rfl (lit_reads (HS.get (.tail _ (.head _))) ((Reps.none _ _).snoc (p := (rdHv (stH b j).2).1) rfl rfl) (by simp)) (fun _ _ h => h) (by have h_ := rdL_len rdHv j (st12 b); have := nHv_le b; unfold stH; omega) ?_
            clear HS
            intro v270 w271 HS
            refine p_run _ (x_field (j := 11) _ _ rfl rfl Try.underlying33 rfl (by rfl) rfl) rfl ?_
            refine St.store (cs' := [.int .i64 (rn 1 (b, false)), .int .u32 (rn 4 (st1 b)), .int .u64 (rn 8 (st2 b)), .int .u32 (rn 4 (st3 b)), .int .u32 (rn 4 (st4 b)), .int .u32 (rn 4 (st5 b)), .int .u32 (rn 4 (st6 b)), .int .i64 (rn 1 (st7 b)), .int .i64 (rn 1 (st8 b)), .int .u32 (rn 4 (st9 b)), vi, v270]) (HS.front 4 rfl) (v270) rfl rfl (row_one (HS.get (.head _))) (by kernel_rfl) (by rfl) rfl ?_
            clear HS
            intro w272 HS
            refine wpList_nil ?_
            refine fr_at (l' := (.slice A b.length c :: undef :: .pointer (some ⟨g5, 0, none⟩) :: .int .i64 0 :: .pointer (some ⟨g12, 0, none⟩) :: .pointer (some ⟨g19, 0, none⟩) :: .int .u64 (rn 1 (stI b (nIt b)).2) :: .int .u64 ((nIt b) : Int) :: q104.a :: q104.b :: q104.c :: q104.d :: .int .u64 (j : Int) :: .pointer (some ⟨g245, 0, none⟩) :: undef :: undef :: V8.l qz31 (V8.l qz56 (V8.l qz81 (V8.l qz90 (V8.l qz219 (V8.l qz220 (V8.l qz221 (V8.l qz222 (V8.l qz223 (V8.l qz224 (q110.b :: q110.c :: .pointer (some ⟨g12, 0, none⟩) :: .int .u64 (rn 1 (stI b (nIt b)).2) :: .int .u64 (j : Int) :: .int .u64 (rn 1 (stI b (nIt b)).2) :: .bool bz234 :: .bool bz234 :: uz104 :: uz105 :: .bool bz235 :: u107 :: u108 :: .agg ([.int .u32 0, .int .u32 0, .int .u32 0] : List Value).toArray :: .pointer (some ⟨g12, 0, none⟩) :: .agg ([.int .u32 (rn 4 (stH b j).2), .int .u32 (rn 4 (rs 4 (stH b j).2))] : List Value).toArray :: .pointer (some ⟨g245, 0, none⟩) :: .pointer (some ⟨g12, 0, none⟩) :: .int .u64 (rn 4 (rs 4 (rs 4 (stH b j).2))) :: .int .u32 (rn 4 (rs 4 (rs 4 (stH b j).2))) :: .pointer (some ⟨g245, 2, none⟩) :: .pointer (some ⟨g19, 11, none⟩) :: vh :: .agg ([.int .u32 (rn 4 (stH b j).2), .int .u32 (rn 4 (rs 4 (stH b j).2)), .int .u32 (rn 4 (rs 4 (rs 4 (stH b j).2)))] : List Value).toArray :: .slice (some ⟨g267, 0, none⟩) 1 1 :: v270 :: .pointer (some ⟨g19, 11, none⟩) :: U16g4 ([]))))))))))))) rfl ?_
            refine hK240 _ _ ?_
            refine c_region (fun ops274 hops273 => ?_)
            clear hops273
            refine p_run _ (x_move (.int .u64 (j : Int)) rfl rfl) rfl ?_
            refine p_run _ (x_arith (k := .u64) (m := (j : Int)) (n := 1) .add (((j + 1 : Nat) : Int)) rfl rfl rfl (show IntKind.u64.wrap ((j : Int) + 1) = ((j + 1 : Nat) : Int) from ((wru64 (by have := nHv_le b; omega)).trans (by omega))) rfl) rfl ?_
            refine p_run _ (x_assign (.int .u64 ((j + 1 : Nat) : Int)) rfl rfl) rfl ?_
            refine wpList_nil ?_
            refine fr_at (l' := (.slice A b.length c :: undef :: .pointer (some ⟨g5, 0, none⟩) :: .int .i64 0 :: .pointer (some ⟨g12, 0, none⟩) :: .pointer (some ⟨g19, 0, none⟩) :: .int .u64 (rn 1 (stI b (nIt b)).2) :: .int .u64 ((nIt b) : Int) :: q104.a :: q104.b :: q104.c :: q104.d :: .int .u64 ((j + 1 : Nat) : Int) :: .pointer (some ⟨g245, 0, none⟩) :: undef :: undef :: V8.l qz31 (V8.l qz56 (V8.l qz81 (V8.l qz90 (V8.l qz219 (V8.l qz220 (V8.l qz221 (V8.l qz222 (V8.l qz223 (V8.l qz224 (q110.b :: q110.c :: .pointer (some ⟨g12, 0, none⟩) :: .int .u64 (rn 1 (stI b (nIt b)).2) :: .int .u64 (j : Int) :: .int .u64 (rn 1 (stI b (nIt b)).2) :: .bool bz234 :: .bool bz234 :: uz104 :: uz105 :: .bool bz235 :: .int .u64 (j : Int) :: .int .u64 ((j + 1 : Nat) : Int) :: .agg ([.int .u32 0, .int .u32 0, .int .u32 0] : List Value).toArray :: .pointer (some ⟨g12, 0, none⟩) :: .agg ([.int .u32 (rn 4 (stH b j).2), .int .u32 (rn 4 (rs 4 (stH b j).2))] : List Value).toArray :: .pointer (some ⟨g245, 0, none⟩) :: .pointer (some ⟨g12, 0, none⟩) :: .int .u64 (rn 4 (rs 4 (rs 4 (stH b j).2))) :: .int .u32 (rn 4 (rs 4 (rs 4 (stH b j).2))) :: .pointer (some ⟨g245, 2, none⟩) :: .pointer (some ⟨g19, 11, none⟩) :: vh :: .agg ([.int .u32 (rn 4 (stH b j).2), .int .u32 (rn 4 (rs 4 (stH b j).2)), .int .u32 (rn 4 (rs 4 (rs 4 (stH b j).2)))] : List Value).toArray :: .slice (some ⟨g267, 0, none⟩) 1 1 :: v270 :: .pointer (some ⟨g19, 11, none⟩) :: U16g4 ([]))))))))))))) rfl ?_
            refine hJ226 (j + 1, v270, at261) _ _ ?_ ?_
            · show nHv b - (j + 1) < nHv b - j; omega
            · exact ⟨_, _, _, _, _, _, _, _, _, _, _, _, _, _, _, _, _, _, _, _, _, _, _, _, rfl, (((((((HS.front 2 rfl).drop.front 2 rfl).drop.front 4 rfl).front 4 rfl).front 4 rfl).front 3 rfl).front 4 rfl), ⟨by omega, hat262⟩⟩
          · rw [hbz235, hbz234] at hc238
            have hlt : j = nHv b := by
              have hj_ := hjl
              simp only [Bool.and_eq_false_iff, decide_eq_false_iff_not] at hc238
              unfold nHv upN at hj_ ⊢
              have := bd1 (stI b (nIt b)).2
              omega
            subst hlt
            refine wp_exit ?_
            refine hK214 _ _ ?_
            refine wp_seq_k (fun K275 hK276 => ?_)
            skip
            · skip
              obtain ⟨A277, c278, hv279, hcp280, -⟩ := row_reads (HS.get (.tail _ (.tail _ (.tail _ (.head _)))))
              subst hv279
              obtain ⟨A281, c282, hv283, hcp284, -⟩ := row_reads (HS.get (.head _))
              subst hv283
              replace HS : St w (fun _ => False) w_ ([row kHv rfl 55 (.slice A281 ((rdM b).hvs.length) c282) ((rdM b).hvs), blk g19 [.int .i64 ((rdM b).k), .int .u32 ((rdM b).e), .int .u64 ((rdM b).s), .int .u32 ((rdM b).te), .int .u32 ((rdM b).ts), .int .u32 ((rdM b).be), .int .u32 ((rdM b).bs), .int .i64 ((rdM b).ix), .int .i64 ((rdM b).tt), .int .u32 ((rdM b).tk), .slice A277 ((rdM b).its.length) c278, .slice A281 ((rdM b).hvs.length) c282] 33, blk g12 [.slice A b.length c, .int .i64 (ath : Int), .bool ((stH b (nHv b)).2.2)] 80, row kIt rfl 53 (.slice A277 ((rdM b).its.length) c278) ((rdM b).its), blk g5 [.int .i64 0, .int .u32 0, .int .u64 0, .int .u32 0, .int .u32 0, .int .u32 0, .int .u32 0, .int .i64 0, .int .i64 0, .int .u32 0, .slice none 0 0, .slice none 0 0] 33]) := HS
              refine c_region (fun ops286 hops285 => ?_)
              clear hops285
              refine p_run _ (x_loads [.int .i64 ((rdM b).k), .int .u32 ((rdM b).e), .int .u64 ((rdM b).s), .int .u32 ((rdM b).te), .int .u32 ((rdM b).ts), .int .u32 ((rdM b).be), .int .u32 ((rdM b).bs), .int .i64 ((rdM b).ix), .int .i64 ((rdM b).tt), .int .u32 ((rdM b).tk), .slice A277 ((rdM b).its.length) c278, .slice A281 ((rdM b).hvs.length) c282] 12 rfl rfl (bkCells (HS.get (.tail _ (.head _))) 0 _ rfl) (by rfl) (by kernel_rfl) rfl) rfl ?_
              refine w_call [mgV (rdM b) A277 c278 A281 c282] Try.func13 (by kernel_rfl) (by rfl) rfl ?_
              refine (r18bytes_any _ (rdM b) A277 c278 (row_C (HS.get (.tail _ (.tail _ (.tail _ (.head _)))))).2.2 A281 c282 (row_C (HS.get (.head _))).2.2 (by have := rdM_its b; omega) (by have := rdM_hvs b; omega) (rdM_wf _)).mono ?_
              rintro e w289 ⟨A287, c288, rfl, hk_⟩
              replace HS := HS.more hk_
              clear hk_
              refine ⟨_, rfl, ?_⟩
              refine p_run _ (x_move (.tuple [.slice A287 ((fbB (rdM b)).length) c288, .int .i64 (fbE (rdM b))].toArray) rfl rfl) rfl ?_
              refine p_run _ (x_extract (vs := [.slice A287 ((fbB (rdM b)).length) c288, .int .i64 (fbE (rdM b))]) 0 (.slice A287 ((fbB (rdM b)).length) c288) rfl rfl rfl) rfl ?_
              refine p_run _ (x_extract (vs := [.slice A287 ((fbB (rdM b)).length) c288, .int .i64 (fbE (rdM b))]) 1 (.int .i64 (fbE (rdM b))) rfl rfl rfl) rfl ?_
              refine p_run _ (x_assign (.slice A287 ((fbB (rdM b)).length) c288) rfl rfl) rfl ?_
              refine p_run (l' := (.slice A b.length c :: undef :: .pointer (some ⟨g5, 0, none⟩) :: .int .i64 0 :: .pointer (some ⟨g12, 0, none⟩) :: .pointer (some ⟨g19, 0, none⟩) :: .int .u64 (rn 1 (stI b (nIt b)).2) :: .int .u64 ((nIt b) : Int) :: q104.a :: q104.b :: q104.c :: q104.d :: .int .u64 ((nHv b) : Int) :: u13 :: .slice A287 ((fbB (rdM b)).length) c288 :: .int .i64 (fbE (rdM b)) :: V8.l qz31 (V8.l qz56 (V8.l qz81 (V8.l qz90 (V8.l qz219 (V8.l qz220 (V8.l qz221 (V8.l qz222 (V8.l qz223 (V8.l qz224 (q110.b :: q110.c :: .pointer (some ⟨g12, 0, none⟩) :: .int .u64 (rn 1 (stI b (nIt b)).2) :: .int .u64 ((nHv b) : Int) :: .int .u64 (rn 1 (stI b (nIt b)).2) :: .bool bz234 :: .bool bz234 :: uz104 :: uz105 :: .bool bz235 :: u107 :: u108 :: u109 :: u110 :: u111 :: u112 :: u113 :: u114 :: u115 :: u116 :: u117 :: u118 :: u119 :: u120 :: u121 :: u122 :: .tuple [.slice A287 ((fbB (rdM b)).length) c288, .int .i64 (fbE (rdM b))].toArray :: mgV (rdM b) A277 c278 A281 c282 :: .tuple [.slice A287 ((fbB (rdM b)).length) c288, .int .i64 (fbE (rdM b))].toArray :: .slice A287 ((fbB (rdM b)).length) c288 :: .int .i64 (fbE (rdM b)) :: U8g4 (undef :: undef :: undef :: []))))))))))))) _ (x_assign (.int .i64 (fbE (rdM b))) rfl rfl) rfl ?_
              refine wpList_nil ?_
              refine hK276 _ _ ?_
              refine wp_seq_k (fun K290 hK291 => ?_)
              refine wp_seq_k (fun K292 hK293 => ?_)
              refine c_region (fun ops295 hops294 => ?_)
              refine p_run _ (x_move (.int .i64 (fbE (rdM b))) rfl rfl) rfl ?_
              refine p_run _ (x_cmp (k := .i64) (m := (fbE (rdM b))) (n := 0) .neq ((fbE (rdM b)) != 0) rfl rfl rfl rfl rfl) rfl ?_
              refine p_run _ (x_move (.bool ((fbE (rdM b)) != 0)) rfl rfl) rfl ?_
              obtain ⟨bz296, hbz296⟩ : ∃ b_, b_ = (((fbE (rdM b)) != 0)) := ⟨_, rfl⟩
              rw [← hbz296]
              refine p_tail 6 (fun a_ w_ => ∃ (qz298 qz299 qz300 qz301 qz302 qz303 : V8) (bz297 : Bool), a_ = fr (.slice A b.length c :: undef :: .pointer (some ⟨g5, 0, none⟩) :: .int .i64 0 :: .pointer (some ⟨g12, 0, none⟩) :: .pointer (some ⟨g19, 0, none⟩) :: .int .u64 (rn 1 (stI b (nIt b)).2) :: .int .u64 ((nIt b) : Int) :: V8.l qz298 (V8.l qz31 (V8.l qz56 (V8.l qz81 (V8.l qz90 (V8.l qz219 (V8.l qz220 (V8.l qz221 (V8.l qz222 (V8.l qz223 (V8.l qz224 (V8.l qz299 (V8.l qz300 (V8.l qz301 (V8.l qz302 (V8.l qz303 (.bool bz297 :: undef :: undef :: []))))))))))))))))) ∧ bz297 = (bz296 || (!(decide (fbB (rdM b) = b)))) ∧ St w (fun _ => False) w_ ([row kByte rfl 5 (.slice A287 ((fbB (rdM b)).length) c288) (fbB (rdM b)), row kHv rfl 55 (.slice A281 ((rdM b).hvs.length) c282) ((rdM b).hvs), blk g19 [.int .i64 ((rdM b).k), .int .u32 ((rdM b).e), .int .u64 ((rdM b).s), .int .u32 ((rdM b).te), .int .u32 ((rdM b).ts), .int .u32 ((rdM b).be), .int .u32 ((rdM b).bs), .int .i64 ((rdM b).ix), .int .i64 ((rdM b).tt), .int .u32 ((rdM b).tk), .slice A277 ((rdM b).its.length) c278, .slice A281 ((rdM b).hvs.length) c282] 33, blk g12 [.slice A b.length c, .int .i64 (ath : Int), .bool ((stH b (nHv b)).2.2)] 80, row kIt rfl 53 (.slice A277 ((rdM b).its.length) c278) ((rdM b).its), blk g5 [.int .i64 0, .int .u32 0, .int .u64 0, .int .u32 0, .int .u32 0, .int .u32 0, .int .u32 0, .int .i64 0, .int .i64 0, .int .u32 0, .slice none 0 0, .slice none 0 0] 33])) (fun T304 => ?_) ?_
              · cases bz296
                · skip
                  refine p_on rfl (by rw [hops294]; rfl) ?_
                  refine p_run _ (x_move (.slice A287 ((fbB (rdM b)).length) c288) rfl rfl) rfl ?_
                  refine p_on rfl (by rw [hops294]; rfl) ?_
                  refine p_run _ (x_str (xs := (fbB (rdM b))) (row_rd (HS.get (.head _))).2.2 (by first | rfl | simp) rfl rfl) rfl ?_
                  refine p_on rfl (by rw [hops294]; rfl) ?_
                  refine p_run _ (x_move (.slice A b.length c) rfl rfl) rfl ?_
                  refine p_on rfl (by rw [hops294]; rfl) ?_
                  refine p_run _ (x_str (xs := b) (hr.below HS.belowOf).rd (by first | rfl | simp) rfl rfl) rfl ?_
                  refine p_on rfl (by rw [hops294]; rfl) ?_
                  refine p_run _ (x_streq .neq (strB (fbB (rdM b))) (strB b) (!(decide (fbB (rdM b) = b))) rfl rfl rfl (congrArg not rg_seq) rfl) rfl ?_
                  refine p_run _ (x_pick false (.bool true) (.bool (!(decide (fbB (rdM b) = b)))) (.bool (!(decide (fbB (rdM b) = b)))) rfl rfl rfl rfl rfl) rfl ?_
                  exact T304 _ _ ⟨⟨q104.a, q104.b, q104.c, q104.d, .int .u64 ((nHv b) : Int), u13, .slice A287 ((fbB (rdM b)).length) c288, .int .i64 (fbE (rdM b))⟩, ⟨q110.b, q110.c, .pointer (some ⟨g12, 0, none⟩), .int .u64 (rn 1 (stI b (nIt b)).2), .int .u64 ((nHv b) : Int), .int .u64 (rn 1 (stI b (nIt b)).2), .bool bz234, .bool bz234⟩, ⟨uz104, uz105, .bool bz235, u107, u108, u109, u110, u111⟩, ⟨u112, u113, u114, u115, u116, u117, u118, u119⟩, ⟨u120, u121, u122, .tuple [.slice A287 ((fbB (rdM b)).length) c288, .int .i64 (fbE (rdM b))].toArray, mgV (rdM b) A277 c278 A281 c282, .tuple [.slice A287 ((fbB (rdM b)).length) c288, .int .i64 (fbE (rdM b))].toArray, .slice A287 ((fbB (rdM b)).length) c288, .int .i64 (fbE (rdM b))⟩, ⟨.int .i64 (fbE (rdM b)), .bool false, .bool false, .slice A287 ((fbB (rdM b)).length) c288, .string (strB (fbB (rdM b))), .slice A b.length c, .string (strB b), .bool (!(decide (fbB (rdM b) = b)))⟩, (!(decide (fbB (rdM b) = b))), rfl, rfl, HS⟩
                · skip
                  refine p_off (by rw [hops294]; rfl) rfl ?_
                  refine p_off (by rw [hops294]; rfl) rfl ?_
                  refine p_off (by rw [hops294]; rfl) rfl ?_
                  refine p_off (by rw [hops294]; rfl) rfl ?_
                  refine p_off (by rw [hops294]; rfl) rfl ?_
                  refine p_run _ (x_pick true (.bool true) (undef) (.bool true) rfl rfl rfl rfl rfl) rfl ?_
                  exact T304 _ _ ⟨⟨q104.a, q104.b, q104.c, q104.d, .int .u64 ((nHv b) : Int), u13, .slice A287 ((fbB (rdM b)).length) c288, .int .i64 (fbE (rdM b))⟩, ⟨q110.b, q110.c, .pointer (some ⟨g12, 0, none⟩), .int .u64 (rn 1 (stI b (nIt b)).2), .int .u64 ((nHv b) : Int), .int .u64 (rn 1 (stI b (nIt b)).2), .bool bz234, .bool bz234⟩, ⟨uz104, uz105, .bool bz235, u107, u108, u109, u110, u111⟩, ⟨u112, u113, u114, u115, u116, u117, u118, u119⟩, ⟨u120, u121, u122, .tuple [.slice A287 ((fbB (rdM b)).length) c288, .int .i64 (fbE (rdM b))].toArray, mgV (rdM b) A277 c278 A281 c282, .tuple [.slice A287 ((fbB (rdM b)).length) c288, .int .i64 (fbE (rdM b))].toArray, .slice A287 ((fbB (rdM b)).length) c288, .int .i64 (fbE (rdM b))⟩, ⟨.int .i64 (fbE (rdM b)), .bool true, .bool true, undef, undef, undef, undef, undef⟩, true, rfl, rfl, HS⟩
              clear HS
              rintro _ w_ ⟨qz298, qz299, qz300, qz301, qz302, qz303, bz297, rfl, hbz297, HS⟩
              skip
              clear hops294
              refine wpList_nil ?_
              refine hK293 _ _ ?_
              refine c_cond (t := bz297) rfl (fun hc306 => ?_) (fun hc306 => ?_)
              · rw [hbz297, hbz296] at hc306
                have hrf := rf_of hc306
                refine wp_seq_k (fun K307 hK308 => ?_)
                refine c_region (fun ops310 hops309 => ?_)
                clear hops309
                refine p_run _ (x_build [.int .i64 0, .int .u32 0, .int .u64 0, .int .u32 0, .int .u32 0, .int .u32 0, .int .u32 0, .int .i64 0, .int .i64 0, .int .u32 0, .slice none 0 0, .slice none 0 0] rfl (by kernel_rfl)) rfl ?_
                refine St.stores (cs' := [.int .i64 0, .int .u32 0, .int .u64 0, .int .u32 0, .int .u32 0, .int .u32 0, .int .u32 0, .int .i64 0, .int .i64 0, .int .u32 0, .slice none 0 0, .slice none 0 0]) (HS.front 5 rfl) [.int .i64 0, .int .u32 0, .int .u64 0, .int .u32 0, .int .u32 0, .int .u32 0, .int .u32 0, .int .i64 0, .int .i64 0, .int .u32 0, .slice none 0 0, .slice none 0 0] 12 rfl rfl (by rfl) (by kernel_rfl) rfl (by simp) rfl ?_
                clear HS
                intro w311 HS
                refine p_run _ (x_assign (.int .i64 181) rfl rfl) rfl ?_
                refine wpList_nil ?_
                refine hK308 _ _ ?_
                refine wp_ret ?_
                try simp only [Exit.inBlock, Exit.then]
                refine c_ret (.tuple [.agg ([.int .i64 0, .int .u32 0, .int .u64 0, .int .u32 0, .int .u32 0, .int .u32 0, .int .u32 0, .int .i64 0, .int .i64 0, .int .u32 0, .slice none 0 0, .slice none 0 0] : List Value).toArray, .int .i64 181].toArray) (r_ct rfl rfl (run_loadVar_aggn (by rfl) [.int .i64 0, .int .u32 0, .int .u64 0, .int .u32 0, .int .u32 0, .int .u32 0, .int .u32 0, .int .i64 0, .int .i64 0, .int .u32 0, .slice none 0 0, .slice none 0 0] 12 (by kernel_rfl) rfl (bkCells (HS.get (.head _)) 0 _ (whole _))) rfl) ?_
                replace HS := HS.nil kHv rfl 55
                replace HS := HS.nil kIt rfl 53
                obtain ⟨e1, e2⟩ := rf_no hrf
                rw [e1, e2]
                exact ⟨none, 0, none, 0, rfl, ((((((((HS.front 2 rfl).drop.front 2 rfl).drop.front 2 rfl).drop.front 2 rfl).drop.front 2 rfl).drop.front 2 rfl).drop.front 1 rfl).front 1 rfl)⟩
              · rw [hbz297, hbz296] at hc306
                have hrf := rf_of hc306
                refine wp_skip ?_
                refine hK291 _ _ ?_
                refine wp_seq_k (fun K312 hK313 => ?_)
                refine c_region (fun ops315 hops314 => ?_)
                clear hops314
                refine p_run _ (x_loads [.int .i64 ((rdM b).k), .int .u32 ((rdM b).e), .int .u64 ((rdM b).s), .int .u32 ((rdM b).te), .int .u32 ((rdM b).ts), .int .u32 ((rdM b).be), .int .u32 ((rdM b).bs), .int .i64 ((rdM b).ix), .int .i64 ((rdM b).tt), .int .u32 ((rdM b).tk), .slice A277 ((rdM b).its.length) c278, .slice A281 ((rdM b).hvs.length) c282] 12 rfl rfl (bkCells (HS.get (.tail _ (.tail _ (.head _)))) 0 _ rfl) (by rfl) (by kernel_rfl) rfl) rfl ?_
                refine St.stores (cs' := [.int .i64 ((rdM b).k), .int .u32 ((rdM b).e), .int .u64 ((rdM b).s), .int .u32 ((rdM b).te), .int .u32 ((rdM b).ts), .int .u32 ((rdM b).be), .int .u32 ((rdM b).bs), .int .i64 ((rdM b).ix), .int .i64 ((rdM b).tt), .int .u32 ((rdM b).tk), .slice A277 ((rdM b).its.length) c278, .slice A281 ((rdM b).hvs.length) c282]) (HS.front 5 rfl) [.int .i64 ((rdM b).k), .int .u32 ((rdM b).e), .int .u64 ((rdM b).s), .int .u32 ((rdM b).te), .int .u32 ((rdM b).ts), .int .u32 ((rdM b).be), .int .u32 ((rdM b).bs), .int .i64 ((rdM b).ix), .int .i64 ((rdM b).tt), .int .u32 ((rdM b).tk), .slice A277 ((rdM b).its.length) c278, .slice A281 ((rdM b).hvs.length) c282] 12 rfl rfl (by rfl) (by kernel_rfl) rfl (by simp) rfl ?_
                clear HS
                intro w316 HS
                refine p_run _ (x_assign (.int .i64 0) rfl rfl) rfl ?_
                refine wpList_nil ?_
                refine fr_at (l' := (.slice A b.length c :: undef :: .pointer (some ⟨g5, 0, none⟩) :: .int .i64 0 :: .pointer (some ⟨g12, 0, none⟩) :: .pointer (some ⟨g19, 0, none⟩) :: .int .u64 (rn 1 (stI b (nIt b)).2) :: .int .u64 ((nIt b) : Int) :: V8.l qz298 (V8.l qz31 (V8.l qz56 (V8.l qz81 (V8.l qz90 (V8.l qz219 (V8.l qz220 (V8.l qz221 (V8.l qz222 (V8.l qz223 (V8.l qz224 (V8.l qz299 (V8.l qz300 (V8.l qz301 (V8.l qz302 (V8.l qz303 (.bool bz297 :: undef :: mgV (rdM b) A277 c278 A281 c282 :: [])))))))))))))))))) rfl ?_
                refine hK313 _ _ ?_
                refine wp_ret ?_
                try simp only [Exit.inBlock, Exit.then]
                refine c_ret (.tuple [mgV (rdM b) A277 c278 A281 c282, .int .i64 0].toArray) (r_ct rfl rfl (run_loadVar_aggn (by rfl) [.int .i64 ((rdM b).k), .int .u32 ((rdM b).e), .int .u64 ((rdM b).s), .int .u32 ((rdM b).te), .int .u32 ((rdM b).ts), .int .u32 ((rdM b).be), .int .u32 ((rdM b).bs), .int .i64 ((rdM b).ix), .int .i64 ((rdM b).tt), .int .u32 ((rdM b).tk), .slice A277 ((rdM b).its.length) c278, .slice A281 ((rdM b).hvs.length) c282] 12 (by kernel_rfl) rfl (bkCells (HS.get (.head _)) 0 _ (whole _))) rfl) ?_
                obtain ⟨e1, e2⟩ := rf_yes hrf
                rw [e1, e2]
                exact ⟨_, _, _, _, rfl, (((HS.drop.drop.front 1 rfl).drop.front 1 rfl).drop.front 1 rfl)⟩
end Go.Proofs.Ytmachdikonelbaa
