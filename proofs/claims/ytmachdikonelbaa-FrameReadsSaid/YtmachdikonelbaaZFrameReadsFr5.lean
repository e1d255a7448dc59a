/- crc.Open, slices.Equal of bytes; frame's label and item. -/
import Derived.Test.YtmachdikonelbaaZFrameReadsFr1
import Derived.Test.YtmachdikonelbaaZFrameReadsSealR
import Derived.Test.YtmachdikonelbaaZFrameReadsShRT
set_option linter.unusedVariables false
set_option linter.unusedSimpArgs false
namespace Go.Proofs.Ytmachdikonelbaa
open Go.RowKit Go.Proofs.YtmachdikonelbaaW.PrintWords Go.Proofs.YtmachdikonelbaaW.PrintLast Crc
abbrev U4f5 (l : List Value) : List Value := undef :: undef :: undef :: undef :: l
abbrev U8f5 (l : List Value) : List Value := U4f5 (U4f5 l)
abbrev U16f5 (l : List Value) : List Value := U8f5 (U8f5 l)
def okS (xs : List UInt8) : Bool := decide (4 ≤ xs.length) && decide (sumB init xs = 0#32)
def bdyS (xs : List UInt8) : List UInt8 := if okS xs = true then xs.take (xs.length - 4) else []
theorem u_nz {s : Crc.W} (h : ¬ s = 0#32) : ¬ u s = 0 := by
  intro e
  apply h
  apply BitVec.eq_of_toNat_eq
  unfold u at e
  simpa using e
theorem lss_no {a b : Int} (h : ¬ a < b) : cmpB .lss a b = false := decide_eq_false h
theorem addr_zero (a : Addr) : a.add 0 = a := by
  obtain ⟨b, o, e⟩ := a
  cases e <;> simp [Addr.add]
theorem pow_cast' (W : Nat) : ((256 ^ W : Nat) : Int) = (256 : Int) ^ W := Int.natCast_pow 256 W
theorem rn_bd (W : Nat) (hW : W ≤ 8) (s : Rs) : 0 ≤ rn (W : Int) s ∧ rn (W : Int) s < 256 ^ W := by
  have hl : (takeOut s.1 (s.2 || !wideB (W : Int)) (W : Int)).length ≤ W := by
    unfold takeOut
    split
    · simp
    · rw [List.length_take]; omega
  unfold rn
  rw [numB_eq _ (by omega)]
  have h1 := leN_lt (takeOut s.1 (s.2 || !wideB (W : Int)) (W : Int))
  have h2 : 256 ^ (takeOut s.1 (s.2 || !wideB (W : Int)) (W : Int)).length ≤ 256 ^ W := Nat.pow_le_pow_right (by decide) hl
  rw [← pow_cast']
  omega
theorem bd4 (s : Rs) : 0 ≤ rn 4 s ∧ rn 4 s < 4294967296 := rn_bd 4 (by decide) s
theorem bd1 (s : Rs) : 0 ≤ rn 1 s ∧ rn 1 s < 256 := rn_bd 1 (by decide) s
theorem wu32 {x : Int} (h : 0 ≤ x ∧ x < 4294967296) : IntKind.u32.wrap x = x := by rw [IntKind.wrap_u32]; omega
theorem sl_one {w : World} {q t c : Nat} {A : Option Addr} {xs : List UInt8} (h : (blk q [.slice A xs.length c] t).holds w) (hr : Sl w A c xs) : Rds w (some ⟨q, 0, none⟩) [xs] := rds_one h rfl hr.cap hr.rd
theorem clone_cut (A : Option Addr) (n c : Nat) (xs : List UInt8) (w : World) (hn : n = xs.length) (hr : Sl w A c xs) (hl : xs.length ≤ 100000) : Calls Try.prog 45 #[.slice A n c] w fun e w' => ∃ v, e = .returned v ∧ Own w' w.heap.size v xs ∧ Below w.heap.size w w' := by
  subst hn
  exact clone_any A c xs w hr.rd hr.nil (by omega)
set_option maxRecDepth 10000 in
set_option maxHeartbeats 1000000 in
theorem open_any (w : World) (A : Option Addr) (c : Nat) (xs : List UInt8) (hr : Sl w A c xs) (hl : xs.length ≤ 100000) : Calls Try.prog 22 #[.slice A xs.length c] w fun e w' => ∃ A' c', e = .returned (.tuple #[.slice A' (bdyS xs).length c', .bool (okS xs)]) ∧ St w (fun _ => False) w' [row kByte rfl 5 (.slice A' (bdyS xs).length c') (bdyS xs)] := by
  have HS := St.empty w
  have hcap := hr.cap
  have hfl : [xs].flatten = xs := by simp
  by_cases h4 : xs.length < 4
  · skip
    refine c_enter Try.func22 rfl 20 rfl (.slice A xs.length c :: U16f5 (undef :: undef :: undef :: [])) rfl ?_
    refine wp_seq_k (fun K1 hK2 => ?_)
    refine c_region (fun ops4 hops3 => ?_)
    clear hops3
    refine p_run _ (x_assign (.slice none 0 0) rfl rfl) rfl ?_
    refine p_run _ (x_assign (.bool false) rfl rfl) rfl ?_
    refine wpList_nil ?_
    refine hK2 _ _ ?_
    refine wp_seq_k (fun K5 hK6 => ?_)
    refine c_region (fun ops8 hops7 => ?_)
    clear hops7
    refine p_run _ (x_move (.slice A xs.length c) rfl rfl) rfl ?_
    refine p_run _ (x_len rfl rfl Try.underlying22) rfl ?_
    refine p_run _ (x_arith (k := .i64) (m := (xs.length : Int)) (n := 4) .sub (((xs.length : Int) - 4)) rfl rfl rfl (show IntKind.i64.wrap ((xs.length : Int) - 4) = ((xs.length : Int) - 4) from ((wr64' (by omega)).trans rfl)) rfl) rfl ?_
    refine p_run _ (x_assign (.int .i64 ((xs.length : Int) - 4)) rfl rfl) rfl ?_
    refine wpList_nil ?_
    refine fr_at (l' := (.slice A xs.length c :: undef :: .slice none 0 0 :: .bool false :: .int .i64 ((xs.length : Int) - 4) :: .slice A xs.length c :: .int .i64 (xs.length : Int) :: .int .i64 ((xs.length : Int) - 4) :: U8f5 (U4f5 ([])))) rfl ?_
    refine hK6 _ _ ?_
    refine wp_seq_k (fun K9 hK10 => ?_)
    refine wp_seq_k (fun K11 hK12 => ?_)
    refine c_region (fun ops14 hops13 => ?_)
    refine p_run _ (x_move (.int .i64 ((xs.length : Int) - 4)) rfl rfl) rfl ?_
    refine p_run _ (x_cmp (k := .i64) (m := ((xs.length : Int) - 4)) (n := 0) .lss true rfl rfl rfl (show decide _ = true from decide_eq_true (by omega)) rfl) rfl ?_
    refine p_run _ (x_move (.bool true) rfl rfl) rfl ?_
    refine p_off (by rw [hops13]; rfl) rfl ?_
    refine p_off (by rw [hops13]; rfl) rfl ?_
    refine p_off (by rw [hops13]; rfl) rfl ?_
    refine p_off (l' := (.slice A xs.length c :: undef :: .slice none 0 0 :: .bool false :: .int .i64 ((xs.length : Int) - 4) :: .slice A xs.length c :: .int .i64 (xs.length : Int) :: .int .i64 ((xs.length : Int) - 4) :: .int .i64 ((xs.length : Int) - 4) :: .bool true :: .bool true :: U8f5 (undef :: []))) (by rw [hops13]; rfl) rfl ?_
    refine p_run _ (x_pick true (.bool true) (undef) (.bool true) rfl rfl rfl rfl rfl) rfl ?_
    clear hops13
    refine wpList_nil ?_
    refine hK12 _ _ ?_
    refine c_true rfl ?_
    refine wp_seq_k (fun K15 hK16 => ?_)
    refine c_region (fun ops18 hops17 => ?_)
    clear hops17
    refine p_run _ (x_assign (.slice none 0 0) rfl rfl) rfl ?_
    refine p_run _ (x_assign (.bool false) rfl rfl) rfl ?_
    refine wpList_nil ?_
    refine hK16 _ _ ?_
    refine wp_ret ?_
    try simp only [Exit.inBlock, Exit.then]
    refine c_ret (.tuple [.slice none 0 0, .bool false].toArray) (r_tmp2 rfl rfl rfl) ?_
    replace HS := HS.nil kByte rfl 5
    have e1 : okS xs = false := by unfold okS; rw [decide_eq_false (show ¬ 4 ≤ xs.length by omega), Bool.false_and]
    have e2 : bdyS xs = [] := if_neg (by rw [e1]; decide)
    rw [e1, e2]
    exact ⟨none, 0, rfl, HS⟩
  · skip
    by_cases hs : sumB init xs = 0#32
    · skip
      refine c_enter Try.func22 rfl 20 rfl (.slice A xs.length c :: U16f5 (undef :: undef :: undef :: [])) rfl ?_
      refine wp_seq_k (fun K1 hK2 => ?_)
      refine c_region (fun ops4 hops3 => ?_)
      clear hops3
      refine p_run _ (x_assign (.slice none 0 0) rfl rfl) rfl ?_
      refine p_run _ (x_assign (.bool false) rfl rfl) rfl ?_
      refine wpList_nil ?_
      refine hK2 _ _ ?_
      refine wp_seq_k (fun K5 hK6 => ?_)
      refine c_region (fun ops8 hops7 => ?_)
      clear hops7
      refine p_run _ (x_move (.slice A xs.length c) rfl rfl) rfl ?_
      refine p_run _ (x_len rfl rfl Try.underlying22) rfl ?_
      refine p_run _ (x_arith (k := .i64) (m := (xs.length : Int)) (n := 4) .sub (((xs.length - 4 : Nat) : Int)) rfl rfl rfl (show IntKind.i64.wrap ((xs.length : Int) - 4) = ((xs.length - 4 : Nat) : Int) from ((wr64' (by omega)).trans (by omega))) rfl) rfl ?_
      refine p_run _ (x_assign (.int .i64 ((xs.length - 4 : Nat) : Int)) rfl rfl) rfl ?_
      refine wpList_nil ?_
      refine fr_at (l' := (.slice A xs.length c :: undef :: .slice none 0 0 :: .bool false :: .int .i64 ((xs.length - 4 : Nat) : Int) :: .slice A xs.length c :: .int .i64 (xs.length : Int) :: .int .i64 ((xs.length - 4 : Nat) : Int) :: U8f5 (U4f5 ([])))) rfl ?_
      refine hK6 _ _ ?_
      refine wp_seq_k (fun K9 hK10 => ?_)
      refine wp_seq_k (fun K11 hK12 => ?_)
      refine c_region (fun ops14 hops13 => ?_)
      refine p_run _ (x_move (.int .i64 ((xs.length - 4 : Nat) : Int)) rfl rfl) rfl ?_
      refine p_run _ (x_cmp (k := .i64) (m := ((xs.length - 4 : Nat) : Int)) (n := 0) .lss false rfl rfl rfl (lss_no (by omega)) rfl) rfl ?_
      refine p_run _ (x_move (.bool false) rfl rfl) rfl ?_
      refine p_on rfl (by rw [hops13]; rfl) ?_
      refine p_run _ (x_move (.slice A xs.length c) rfl rfl) rfl ?_
      refine p_on rfl (by rw [hops13]; rfl) ?_
      refine St.wLit1 HS [.slice A xs.length c] 1 (.slice none 0 0) (.slice A xs.length c) Try.underlying88 (by kernel_rfl) (by decide) rfl rfl rfl ?_
      clear HS
      intro g15 w16 hg17 HS
      refine p_on rfl (by rw [hops13]; rfl) ?_
      refine w_call [.slice (some ⟨g15, 0, none⟩) 1 1] Try.func48 (by kernel_rfl) (by rfl) rfl ?_
      refine (of_any _ 1 [xs] _ (sl_one (HS.get (.head _)) (hr.below HS.belowOf))).mono ?_
      rintro e w' ⟨rfl, rfl⟩
      refine ⟨_, rfl, ?_⟩
      refine p_on rfl (by rw [hops13]; rfl) ?_
      refine p_run (l' := (.slice A xs.length c :: undef :: .slice none 0 0 :: .bool false :: .int .i64 ((xs.length - 4 : Nat) : Int) :: .slice A xs.length c :: .int .i64 (xs.length : Int) :: .int .i64 ((xs.length - 4 : Nat) : Int) :: .int .i64 ((xs.length - 4 : Nat) : Int) :: .bool false :: .bool false :: .slice A xs.length c :: .slice (some ⟨g15, 0, none⟩) 1 1 :: .int .u32 (u (sumB init [xs].flatten)) :: .bool false :: U4f5 (undef :: []))) _ (x_cmp (k := .u32) (m := (u (sumB init [xs].flatten))) (n := 0) .neq false rfl rfl rfl (by rw [hfl, hs]; rfl) rfl) rfl ?_
      refine p_run _ (x_pick false (.bool true) (.bool false) (.bool false) rfl rfl rfl rfl rfl) rfl ?_
      clear hops13
      refine wpList_nil ?_
      refine hK12 _ _ ?_
      refine c_false rfl ?_
      refine wp_skip ?_
      refine hK10 _ _ ?_
      refine wp_seq_k (fun K18 hK19 => ?_)
      refine c_region (fun ops21 hops20 => ?_)
      clear hops20
      refine p_run _ (x_move (.slice A xs.length c) rfl rfl) rfl ?_
      refine p_run _ (x_move (.int .i64 ((xs.length - 4 : Nat) : Int)) rfl rfl) rfl ?_
      refine p_run (.slice A (xs.length - 4) c) ((x_slice (sz := 1) (L := none) (H := (some (.tmp 17))) (lo := 0) (hi := (xs.length - 4 : Nat)) A rfl rfl Try.underlying22 (by kernel_rfl) rfl ⟨_, _, rfl, (by omega), rfl⟩ (by omega) (by omega) (by split; rfl; cases A; rfl; exact congrArg some (addr_zero _))).trans rfl) rfl ?_
      refine w_call [.slice A (xs.length - 4) c] Try.func45 (by kernel_rfl) (by rfl) rfl ?_
      refine (clone_cut A _ c (xs.take (xs.length - 4)) _ (by rw [List.length_take]; omega) ((hr.below HS.belowOf).take _ (by omega)) (by rw [List.length_take]; omega)).mono ?_
      rintro e w23 ⟨v22, rfl, ho_, hb_⟩
      replace HS := HS.made (hE := rfl) hb_ ho_
      clear hb_ ho_
      refine ⟨_, rfl, ?_⟩
      refine p_run _ (x_assign (v22) rfl rfl) rfl ?_
      refine p_run (l' := (.slice A xs.length c :: undef :: v22 :: .bool true :: .int .i64 ((xs.length - 4 : Nat) : Int) :: .slice A xs.length c :: .int .i64 (xs.length : Int) :: .int .i64 ((xs.length - 4 : Nat) : Int) :: .int .i64 ((xs.length - 4 : Nat) : Int) :: .bool false :: .bool false :: .slice A xs.length c :: .slice (some ⟨g15, 0, none⟩) 1 1 :: .int .u32 (u (sumB init [xs].flatten)) :: .bool false :: .bool false :: .slice A xs.length c :: .int .i64 ((xs.length - 4 : Nat) : Int) :: .slice A (xs.length - 4) c :: v22 :: [])) _ (x_assign (.bool true) rfl rfl) rfl ?_
      refine wpList_nil ?_
      refine hK19 _ _ ?_
      refine wp_ret ?_
      try simp only [Exit.inBlock, Exit.then]
      refine c_ret (.tuple [v22, .bool true].toArray) (r_tmp2 rfl rfl rfl) ?_
      have e1 : okS xs = true := by unfold okS; rw [decide_eq_true (show 4 ≤ xs.length by omega), decide_eq_true hs]; rfl
      have e2 : bdyS xs = xs.take (xs.length - 4) := if_pos e1
      rw [e1, e2]
      obtain ⟨A', c', hv_, -, -⟩ := row_reads (HS.get (.head _))
      subst hv_
      exact ⟨_, _, rfl, (HS.front 1 rfl).drop⟩
    · skip
      refine c_enter Try.func22 rfl 20 rfl (.slice A xs.length c :: U16f5 (undef :: undef :: undef :: [])) rfl ?_
      refine wp_seq_k (fun K1 hK2 => ?_)
      refine c_region (fun ops4 hops3 => ?_)
      clear hops3
      refine p_run _ (x_assign (.slice none 0 0) rfl rfl) rfl ?_
      refine p_run _ (x_assign (.bool false) rfl rfl) rfl ?_
      refine wpList_nil ?_
      refine hK2 _ _ ?_
      refine wp_seq_k (fun K5 hK6 => ?_)
      refine c_region (fun ops8 hops7 => ?_)
      clear hops7
      refine p_run _ (x_move (.slice A xs.length c) rfl rfl) rfl ?_
      refine p_run _ (x_len rfl rfl Try.underlying22) rfl ?_
      refine p_run _ (x_arith (k := .i64) (m := (xs.length : Int)) (n := 4) .sub (((xs.length - 4 : Nat) : Int)) rfl rfl rfl (show IntKind.i64.wrap ((xs.length : Int) - 4) = ((xs.length - 4 : Nat) : Int) from ((wr64' (by omega)).trans (by omega))) rfl) rfl ?_
      refine p_run _ (x_assign (.int .i64 ((xs.length - 4 : Nat) : Int)) rfl rfl) rfl ?_
      refine wpList_nil ?_
      refine fr_at (l' := (.slice A xs.length c :: undef :: .slice none 0 0 :: .bool false :: .int .i64 ((xs.length - 4 : Nat) : Int) :: .slice A xs.length c :: .int .i64 (xs.length : Int) :: .int .i64 ((xs.length - 4 : Nat) : Int) :: U8f5 (U4f5 ([])))) rfl ?_
      refine hK6 _ _ ?_
      refine wp_seq_k (fun K9 hK10 => ?_)
      refine wp_seq_k (fun K11 hK12 => ?_)
      refine c_region (fun ops14 hops13 => ?_)
      refine p_run _ (x_move (.int .i64 ((xs.length - 4 : Nat) : Int)) rfl rfl) rfl ?_
      refine p_run _ (x_cmp (k := .i64) (m := ((xs.length - 4 : Nat) : Int)) (n := 0) .lss false rfl rfl rfl (lss_no (by omega)) rfl) rfl ?_
      refine p_run _ (x_move (.bool false) rfl rfl) rfl ?_
      refine p_on rfl (by rw [hops13]; rfl) ?_
      refine p_run _ (x_move (.slice A xs.length c) rfl rfl) rfl ?_
      refine p_on rfl (by rw [hops13]; rfl) ?_
      refine St.wLit1 HS [.slice A xs.length c] 1 (.slice none 0 0) (.slice A xs.length c) Try.underlying88 (by kernel_rfl) (by decide) rfl rfl rfl ?_
      clear HS
      intro g15 w16 hg17 HS
      refine p_on rfl (by rw [hops13]; rfl) ?_
      refine w_call [.slice (some ⟨g15, 0, none⟩) 1 1] Try.func48 (by kernel_rfl) (by rfl) rfl ?_
      refine (of_any _ 1 [xs] _ (sl_one (HS.get (.head _)) (hr.below HS.belowOf))).mono ?_
      rintro e w' ⟨rfl, rfl⟩
      refine ⟨_, rfl, ?_⟩
      refine p_on rfl (by rw [hops13]; rfl) ?_
      refine p_run (l' := (.slice A xs.length c :: undef :: .slice none 0 0 :: .bool false :: .int .i64 ((xs.length - 4 : Nat) : Int) :: .slice A xs.length c :: .int .i64 (xs.length : Int) :: .int .i64 ((xs.length - 4 : Nat) : Int) :: .int .i64 ((xs.length - 4 : Nat) : Int) :: .bool false :: .bool false :: .slice A xs.length c :: .slice (some ⟨g15, 0, none⟩) 1 1 :: .int .u32 (u (sumB init [xs].flatten)) :: .bool true :: U4f5 (undef :: []))) _ (x_cmp (k := .u32) (m := (u (sumB init [xs].flatten))) (n := 0) .neq true rfl rfl rfl (by rw [hfl]; have := u_nz hs; simpa [cmpB] using this) rfl) rfl ?_
      refine p_run _ (x_pick false (.bool true) (.bool true) (.bool true) rfl rfl rfl rfl rfl) rfl ?_
      clear hops13
      refine wpList_nil ?_
      refine hK12 _ _ ?_
      refine c_true rfl ?_
      refine wp_seq_k (fun K18 hK19 => ?_)
      refine c_region (fun ops21 hops20 => ?_)
      clear hops20
      refine p_run _ (x_assign (.slice none 0 0) rfl rfl) rfl ?_
      refine p_run _ (x_assign (.bool false) rfl rfl) rfl ?_
      refine wpList_nil ?_
      refine hK19 _ _ ?_
      refine wp_ret ?_
      try simp only [Exit.inBlock, Exit.then]
      refine c_ret (.tuple [.slice none 0 0, .bool false].toArray) (r_tmp2 rfl rfl rfl) ?_
      replace HS := HS.nil kByte rfl 5
      have e1 : okS xs = false := by unfold okS; rw [decide_eq_false hs, Bool.and_false]
      have e2 : bdyS xs = [] := if_neg (by rw [e1]; decide)
      rw [e1, e2]
      exact ⟨none, 0, rfl, (HS.front 1 rfl).drop⟩
set_option maxRecDepth 10000 in
set_option maxHeartbeats 1000000 in
theorem beq_any (w : World) (A : Option Addr) (c : Nat) (xs : List UInt8) (hr : Rd w A xs) (B : Option Addr) (d : Nat) (ys : List UInt8) (hr2 : Rd w B ys) (hl : xs.length ≤ 100000) (hl2 : ys.length ≤ 100000) : Calls Try.prog 25 #[.slice A xs.length c, .slice B ys.length d] w fun e w' => e = .returned (.bool (decide (xs = ys))) ∧ Below w.heap.size w w' := by
  have HS := St.empty w
  by_cases hln : xs.length = ys.length
  · skip
    refine c_enter Try.func25 rfl 26 rfl (.slice A xs.length c :: .slice B ys.length d :: U16f5 (U8f5 ([]))) rfl ?_
    refine wp_seq_k (fun K1 hK2 => ?_)
    refine c_region (fun ops4 hops3 => ?_)
    clear hops3
    refine p_run _ (x_assign (.bool false) rfl rfl) rfl ?_
    refine wpList_nil ?_
    refine hK2 _ _ ?_
    refine wp_seq_k (fun K5 hK6 => ?_)
    refine wp_seq_k (fun K7 hK8 => ?_)
    refine c_region (fun ops10 hops9 => ?_)
    clear hops9
    refine p_run _ (x_move (.slice A xs.length c) rfl rfl) rfl ?_
    refine p_run _ (x_len rfl rfl Try.underlying22) rfl ?_
    refine p_run _ (x_move (.slice B ys.length d) rfl rfl) rfl ?_
    refine p_run _ (x_len rfl rfl Try.underlying22) rfl ?_
    refine p_run _ (x_cmp (k := .i64) (m := (xs.length : Int)) (n := (ys.length : Int)) .neq false rfl rfl rfl (by rw [hln]; simp [cmpB]) rfl) rfl ?_
    refine wpList_nil ?_
    refine fr_at (l' := (.slice A xs.length c :: .slice B ys.length d :: undef :: undef :: .bool false :: undef :: .slice A xs.length c :: .int .i64 (xs.length : Int) :: .slice B ys.length d :: .int .i64 (ys.length : Int) :: .bool false :: U8f5 (U4f5 (undef :: undef :: undef :: [])))) rfl ?_
    refine hK8 _ _ ?_
    refine c_false rfl ?_
    refine wp_skip ?_
    refine hK6 _ _ ?_
    refine wp_seq_k (fun K11 hK12 => ?_)
    refine wp_seq_k (fun K13 hK14 => ?_)
    refine c_region (fun ops16 hops15 => ?_)
    clear hops15
    refine p_run _ (x_move (.slice A xs.length c) rfl rfl) rfl ?_
    refine p_run _ (x_len rfl rfl Try.underlying22) rfl ?_
    refine p_run _ (x_move (.int .i64 0) rfl rfl) rfl ?_
    refine wpList_nil ?_
    refine fr_at (l' := (.slice A xs.length c :: .slice B ys.length d :: undef :: undef :: .bool false :: undef :: .slice A xs.length c :: .int .i64 (xs.length : Int) :: .slice B ys.length d :: .int .i64 (ys.length : Int) :: .bool false :: .slice A xs.length c :: .int .i64 (xs.length : Int) :: .int .i64 0 :: U8f5 (U4f5 ([])))) rfl ?_
    refine hK14 _ _ ?_
    refine wp_block ?_
    refine c_loop (ι := Nat) (fun i_ a_ w_ => match i_ with | j => ∃ (u4 : Value) (u5 : Value) (u14 : Value) (u15 : Value) (u16 : Value) (u17 : Value) (u18 : Value) (u19 : Value) (u20 : Value) (u21 : Value) (u22 : Value) (u23 : Value) (u24 : Value) (u25 : Value), a_ = fr (.slice A xs.length c :: .slice B ys.length d :: undef :: undef :: u4 :: u5 :: .slice A xs.length c :: .int .i64 (xs.length : Int) :: .slice B ys.length d :: .int .i64 (ys.length : Int) :: .bool false :: .slice A xs.length c :: .int .i64 (xs.length : Int) :: .int .i64 (j : Int) :: u14 :: u15 :: u16 :: u17 :: u18 :: u19 :: u20 :: u21 :: u22 :: u23 :: u24 :: u25 :: []) ∧ St w (fun _ => False) w_ ([]) ∧ (j ≤ xs.length ∧ xs.take j = ys.take j)) (fun i_ => match i_ with | j => xs.length - j) 0 ?_ ?_
    · exact ⟨_, _, _, _, _, _, _, _, _, _, _, _, _, _, rfl, HS, ⟨Nat.zero_le _, rfl⟩⟩
    · clear HS
      rintro j a_ w19 ⟨u4, u5, u14, u15, u16, u17, u18, u19, u20, u21, u22, u23, u24, u25, rfl, HS, hI⟩ J17 hJ18
      have hjl := hI.1
      refine wp_seq_k (fun K20 hK21 => ?_)
      refine c_region (fun ops23 hops22 => ?_)
      clear hops22
      refine p_run _ (x_cmp (k := .i64) (m := (j : Int)) (n := (xs.length : Int)) .lss (decide ((j : Int) < (xs.length : Int))) rfl rfl rfl rfl rfl) rfl ?_
      refine wpList_nil ?_
      refine hK21 _ _ ?_
      refine wp_seq_k (fun K24 hK25 => ?_)
      refine c_cond (t := decide ((j : Int) < (xs.length : Int))) rfl (fun hc26 => ?_) (fun hc26 => ?_)
      · have hlt : j < xs.length := by have := of_decide_eq_true hc26; omega
        obtain ⟨ad, hA_⟩ := rd_some hr (by omega)
        obtain ⟨ae, hB_⟩ := rd_some hr2 (by omega)
        subst hA_ hB_
        have hly : j < ys.length := by omega
        refine wp_skip ?_
        refine hK25 _ _ ?_
        refine wp_seq_k (fun K27 hK28 => ?_)
        refine wp_block ?_
        refine wp_seq_k (fun K29 hK30 => ?_)
        refine c_region (fun ops32 hops31 => ?_)
        clear hops31
        refine p_run _ (x_move (.int .i64 (j : Int)) rfl rfl) rfl ?_
        refine p_run _ (x_assign (.int .i64 (j : Int)) rfl rfl) rfl ?_
        refine wpList_nil ?_
        refine hK30 _ _ ?_
        refine wp_seq_k (fun K33 hK34 => ?_)
        by_cases hxy : xs[j] = ys[j]
        · skip
          refine free_frame (n := 9) (T := _) [0, 0, 3, 7, 0, 0, 48, 112, 255] [(0, 16), (1, 17), (2, 18), (3, 19), (4, 20), (5, 21), (6, 22), (7, 23), (8, 24)] (fun bq_ vq_ w_ => qv ((fun i_ => match i_ with | 0 => some (.slice (some ad) xs.length c) | 1 => some (.int .i64 (j : Int)) | 2 => some (.pointer (some ((ad).add (j * 1)))) | 3 => some (.int .u8 (bv xs[j])) | 4 => some (.slice (some ae) ys.length d) | 5 => some (.int .i64 (j : Int)) | 6 => some (.pointer (some ((ae).add (j * 1)))) | 7 => some (.int .u8 (bv ys[j])) | 8 => some (.bool false) | _ => none) : Nat → Option Value) bq_ vq_ ∧ (St w (fun _ => False) w_ ([]))) (by kernel_rfl) rfl rfl (by kernel_rfl) (by kernel_rfl) rfl (by kernel_rfl) (by kernel_rfl) ⟨qv_none, HS.draw⟩ ?_ ?_
          · clear HS
            intro i_ hi_ bq_ vq_ a_ w_ hG hb_ hon hoff hfr hel hval
            obtain ⟨hV, hE⟩ := hG
            have hi_ := List.mem_range.1 hi_
            obtain ⟨l_, rfl⟩ := hfr
            have hv_ := fun (j t : Nat) (v : Value) (h1 : (j, t) ∈ [(0, 16), (1, 17), (2, 18), (3, 19), (4, 20), (5, 21), (6, 22), (7, 23), (8, 24)]) h2 h3 => (hval (j, t) h1 h3).trans (congrArg some (hV j v h2 h3))
            have hcs : i_ = 0 ∨ i_ = 1 ∨ i_ = 2 ∨ i_ = 3 ∨ i_ = 4 ∨ i_ = 5 ∨ i_ = 6 ∨ i_ = 7 ∨ i_ = 8 := by omega
            rcases hcs with rfl | rfl | rfl | rfl | rfl | rfl | rfl | rfl | rfl
            · have e0 : evl l_ (.tmp 0) = .slice (some ad) xs.length c := evl_of ((hel 0 (by decide)).trans rfl)
              exact ⟨_, rfl, fun K_ hK_ => q_op _ (x_move (.slice (some ad) xs.length c) rfl e0) (hK_ _ _ ⟨qv_up hV (fun _ h => Option.some.inj h), hE⟩)⟩
            · have e5 : evl l_ (.tmp 5) = .int .i64 (j : Int) := evl_of ((hel 5 (by decide)).trans rfl)
              exact ⟨_, rfl, fun K_ hK_ => q_op _ (x_move (.int .i64 (j : Int)) rfl e5) (hK_ _ _ ⟨qv_up hV (fun _ h => Option.some.inj h), hE⟩)⟩
            · have e16 : evl l_ (.tmp 16) = .slice (some ad) xs.length c := evl_of (hv_ 0 16 _ (by decide) rfl (hon 0 (by decide)))
              have e17 : evl l_ (.tmp 17) = .int .i64 (j : Int) := evl_of (hv_ 1 17 _ (by decide) rfl (hon 1 (by decide)))
              exact ⟨_, rfl, fun K_ hK_ => q_op _ (x_index (A := ad) (j := j * 1) (sz := 1) rfl e16 e17 Try.underlying22 (by kernel_rfl) (by omega) rfl) (hK_ _ _ ⟨qv_up hV (fun _ h => Option.some.inj h), hE⟩)⟩
            · have hE0 := hE
              have HS := hE0
              have e18 : evl l_ (.tmp 18) = .pointer (some ((ad).add (j * 1))) := evl_of (hv_ 2 18 _ (by decide) rfl (hon 2 (by decide)))
              exact ⟨_, rfl, fun K_ hK_ => q_op _ (x_load (.int .u8 (bv xs[j])) rfl e18 (rd_cell (Rd.below hr HS.belowOf) j hlt) (by rfl)) (hK_ _ _ ⟨qv_up hV (fun _ h => Option.some.inj h), hE⟩)⟩
            · have e1 : evl l_ (.tmp 1) = .slice (some ae) ys.length d := evl_of ((hel 1 (by decide)).trans rfl)
              exact ⟨_, rfl, fun K_ hK_ => q_op _ (x_move (.slice (some ae) ys.length d) rfl e1) (hK_ _ _ ⟨qv_up hV (fun _ h => Option.some.inj h), hE⟩)⟩
            · have e5 : evl l_ (.tmp 5) = .int .i64 (j : Int) := evl_of ((hel 5 (by decide)).trans rfl)
              exact ⟨_, rfl, fun K_ hK_ => q_op _ (x_move (.int .i64 (j : Int)) rfl e5) (hK_ _ _ ⟨qv_up hV (fun _ h => Option.some.inj h), hE⟩)⟩
            · have e20 : evl l_ (.tmp 20) = .slice (some ae) ys.length d := evl_of (hv_ 4 20 _ (by decide) rfl (hon 4 (by decide)))
              have e21 : evl l_ (.tmp 21) = .int .i64 (j : Int) := evl_of (hv_ 5 21 _ (by decide) rfl (hon 5 (by decide)))
              exact ⟨_, rfl, fun K_ hK_ => q_op _ (x_index (A := ae) (j := j * 1) (sz := 1) rfl e20 e21 Try.underlying22 (by kernel_rfl) (by omega) rfl) (hK_ _ _ ⟨qv_up hV (fun _ h => Option.some.inj h), hE⟩)⟩
            · have hE0 := hE
              have HS := hE0
              have e22 : evl l_ (.tmp 22) = .pointer (some ((ae).add (j * 1))) := evl_of (hv_ 6 22 _ (by decide) rfl (hon 6 (by decide)))
              exact ⟨_, rfl, fun K_ hK_ => q_op _ (x_load (.int .u8 (bv ys[j])) rfl e22 (rd_cell (Rd.below hr2 HS.belowOf) j hly) (by rfl)) (hK_ _ _ ⟨qv_up hV (fun _ h => Option.some.inj h), hE⟩)⟩
            · have e19 : evl l_ (.tmp 19) = .int .u8 (bv xs[j]) := evl_of (hv_ 3 19 _ (by decide) rfl (hon 3 (by decide)))
              have e23 : evl l_ (.tmp 23) = .int .u8 (bv ys[j]) := evl_of (hv_ 7 23 _ (by decide) rfl (hon 7 (by decide)))
              exact ⟨_, rfl, fun K_ hK_ => q_op _ (x_cmp (k := .u8) (m := (bv xs[j])) (n := (bv ys[j])) .neq false rfl e19 e23 (by rw [hxy]; simp [cmpB]) rfl) (hK_ _ _ ⟨qv_up hV (fun _ h => Option.some.inj h), hE⟩)⟩
          intro bq_ vq_ w_ hall hG
          obtain ⟨hV, hE⟩ := hG
          clear HS
          have HS := hE
          have hv0 := hV 0 _ rfl (hall 0 (by decide))
          have hv1 := hV 1 _ rfl (hall 1 (by decide))
          have hv2 := hV 2 _ rfl (hall 2 (by decide))
          have hv3 := hV 3 _ rfl (hall 3 (by decide))
          have hv4 := hV 4 _ rfl (hall 4 (by decide))
          have hv5 := hV 5 _ rfl (hall 5 (by decide))
          have hv6 := hV 6 _ rfl (hall 6 (by decide))
          have hv7 := hV 7 _ rfl (hall 7 (by decide))
          have hv8 := hV 8 _ rfl (hall 8 (by decide))
          clear hV hall
          rw [putSel_fr]
          simp only [tells, List.map_cons, List.map_nil, setAll, List.set_cons_succ, List.set_cons_zero, hv0, hv1, hv2, hv3, hv4, hv5, hv6, hv7, hv8]
          clear hv0 hv1 hv2 hv3 hv4 hv5 hv6 hv7 hv8
          generalize w_ = w900701 at HS ⊢
          refine fr_at (l' := (.slice (some ad) xs.length c :: .slice (some ae) ys.length d :: undef :: undef :: u4 :: .int .i64 (j : Int) :: .slice (some ad) xs.length c :: .int .i64 (xs.length : Int) :: .slice (some ae) ys.length d :: .int .i64 (ys.length : Int) :: .bool false :: .slice (some ad) xs.length c :: .int .i64 (xs.length : Int) :: .int .i64 (j : Int) :: .bool (decide ((j : Int) < (xs.length : Int))) :: .int .i64 (j : Int) :: .slice (some ad) xs.length c :: .int .i64 (j : Int) :: .pointer (some ((ad).add (j * 1))) :: .int .u8 (bv xs[j]) :: .slice (some ae) ys.length d :: .int .i64 (j : Int) :: .pointer (some ((ae).add (j * 1))) :: .int .u8 (bv ys[j]) :: .bool false :: u25 :: [])) rfl ?_
          refine hK34 _ _ ?_
          refine c_false rfl ?_
          refine wp_skip ?_
          refine hK28 _ _ ?_
          refine c_region (fun ops900703 hops900702 => ?_)
          clear hops900702
          refine p_run _ (x_arith (k := .i64) (m := (j : Int)) (n := 1) .add (((j + 1 : Nat) : Int)) rfl rfl rfl (show IntKind.i64.wrap ((j : Int) + 1) = ((j + 1 : Nat) : Int) from ((wr64' (by omega)).trans (by omega))) rfl) rfl ?_
          refine p_run _ (x_move (.int .i64 ((j + 1 : Nat) : Int)) rfl rfl) rfl ?_
          refine wpList_nil ?_
          refine fr_at (l' := (.slice (some ad) xs.length c :: .slice (some ae) ys.length d :: undef :: undef :: u4 :: .int .i64 (j : Int) :: .slice (some ad) xs.length c :: .int .i64 (xs.length : Int) :: .slice (some ae) ys.length d :: .int .i64 (ys.length : Int) :: .bool false :: .slice (some ad) xs.length c :: .int .i64 (xs.length : Int) :: .int .i64 ((j + 1 : Nat) : Int) :: .bool (decide ((j : Int) < (xs.length : Int))) :: .int .i64 (j : Int) :: .slice (some ad) xs.length c :: .int .i64 (j : Int) :: .pointer (some ((ad).add (j * 1))) :: .int .u8 (bv xs[j]) :: .slice (some ae) ys.length d :: .int .i64 (j : Int) :: .pointer (some ((ae).add (j * 1))) :: .int .u8 (bv ys[j]) :: .bool false :: .int .i64 ((j + 1 : Nat) : Int) :: [])) rfl ?_
          refine hJ18 (j + 1) _ _ ?_ ?_
          · show xs.length - (j + 1) < xs.length - j; omega
          · exact ⟨_, _, _, _, _, _, _, _, _, _, _, _, _, _, rfl, HS, ⟨by omega, by rw [List.take_succ_eq_append_getElem hlt, List.take_succ_eq_append_getElem hly, hxy, hI.2]⟩⟩
        · skip
          refine free_frame (n := 9) (T := _) [0, 0, 3, 7, 0, 0, 48, 112, 255] [(0, 16), (1, 17), (2, 18), (3, 19), (4, 20), (5, 21), (6, 22), (7, 23), (8, 24)] (fun bq_ vq_ w_ => qv ((fun i_ => match i_ with | 0 => some (.slice (some ad) xs.length c) | 1 => some (.int .i64 (j : Int)) | 2 => some (.pointer (some ((ad).add (j * 1)))) | 3 => some (.int .u8 (bv xs[j])) | 4 => some (.slice (some ae) ys.length d) | 5 => some (.int .i64 (j : Int)) | 6 => some (.pointer (some ((ae).add (j * 1)))) | 7 => some (.int .u8 (bv ys[j])) | 8 => some (.bool true) | _ => none) : Nat → Option Value) bq_ vq_ ∧ (St w (fun _ => False) w_ ([]))) (by kernel_rfl) rfl rfl (by kernel_rfl) (by kernel_rfl) rfl (by kernel_rfl) (by kernel_rfl) ⟨qv_none, HS.draw⟩ ?_ ?_
          · clear HS
            intro i_ hi_ bq_ vq_ a_ w_ hG hb_ hon hoff hfr hel hval
            obtain ⟨hV, hE⟩ := hG
            have hi_ := List.mem_range.1 hi_
            obtain ⟨l_, rfl⟩ := hfr
            have hv_ := fun (j t : Nat) (v : Value) (h1 : (j, t) ∈ [(0, 16), (1, 17), (2, 18), (3, 19), (4, 20), (5, 21), (6, 22), (7, 23), (8, 24)]) h2 h3 => (hval (j, t) h1 h3).trans (congrArg some (hV j v h2 h3))
            have hcs : i_ = 0 ∨ i_ = 1 ∨ i_ = 2 ∨ i_ = 3 ∨ i_ = 4 ∨ i_ = 5 ∨ i_ = 6 ∨ i_ = 7 ∨ i_ = 8 := by omega
            rcases hcs with rfl | rfl | rfl | rfl | rfl | rfl | rfl | rfl | rfl
            · have e0 : evl l_ (.tmp 0) = .slice (some ad) xs.length c := evl_of ((hel 0 (by decide)).trans rfl)
              exact ⟨_, rfl, fun K_ hK_ => q_op _ (x_move (.slice (some ad) xs.length c) rfl e0) (hK_ _ _ ⟨qv_up hV (fun _ h => Option.some.inj h), hE⟩)⟩
            · have e5 : evl l_ (.tmp 5) = .int .i64 (j : Int) := evl_of ((hel 5 (by decide)).trans rfl)
              exact ⟨_, rfl, fun K_ hK_ => q_op _ (x_move (.int .i64 (j : Int)) rfl e5) (hK_ _ _ ⟨qv_up hV (fun _ h => Option.some.inj h), hE⟩)⟩
            · have e16 : evl l_ (.tmp 16) = .slice (some ad) xs.length c := evl_of (hv_ 0 16 _ (by decide) rfl (hon 0 (by decide)))
              have e17 : evl l_ (.tmp 17) = .int .i64 (j : Int) := evl_of (hv_ 1 17 _ (by decide) rfl (hon 1 (by decide)))
              exact ⟨_, rfl, fun K_ hK_ => q_op _ (x_index (A := ad) (j := j * 1) (sz := 1) rfl e16 e17 Try.underlying22 (by kernel_rfl) (by omega) rfl) (hK_ _ _ ⟨qv_up hV (fun _ h => Option.some.inj h), hE⟩)⟩
            · have hE0 := hE
              have HS := hE0
              have e18 : evl l_ (.tmp 18) = .pointer (some ((ad).add (j * 1))) := evl_of (hv_ 2 18 _ (by decide) rfl (hon 2 (by decide)))
              exact ⟨_, rfl, fun K_ hK_ => q_op _ (x_load (.int .u8 (bv xs[j])) rfl e18 (rd_cell (Rd.below hr HS.belowOf) j hlt) (by rfl)) (hK_ _ _ ⟨qv_up hV (fun _ h => Option.some.inj h), hE⟩)⟩
            · have e1 : evl l_ (.tmp 1) = .slice (some ae) ys.length d := evl_of ((hel 1 (by decide)).trans rfl)
              exact ⟨_, rfl, fun K_ hK_ => q_op _ (x_move (.slice (some ae) ys.length d) rfl e1) (hK_ _ _ ⟨qv_up hV (fun _ h => Option.some.inj h), hE⟩)⟩
            · have e5 : evl l_ (.tmp 5) = .int .i64 (j : Int) := evl_of ((hel 5 (by decide)).trans rfl)
              exact ⟨_, rfl, fun K_ hK_ => q_op _ (x_move (.int .i64 (j : Int)) rfl e5) (hK_ _ _ ⟨qv_up hV (fun _ h => Option.some.inj h), hE⟩)⟩
            · have e20 : evl l_ (.tmp 20) = .slice (some ae) ys.length d := evl_of (hv_ 4 20 _ (by decide) rfl (hon 4 (by decide)))
              have e21 : evl l_ (.tmp 21) = .int .i64 (j : Int) := evl_of (hv_ 5 21 _ (by decide) rfl (hon 5 (by decide)))
              exact ⟨_, rfl, fun K_ hK_ => q_op _ (x_index (A := ae) (j := j * 1) (sz := 1) rfl e20 e21 Try.underlying22 (by kernel_rfl) (by omega) rfl) (hK_ _ _ ⟨qv_up hV (fun _ h => Option.some.inj h), hE⟩)⟩
            · have hE0 := hE
              have HS := hE0
              have e22 : evl l_ (.tmp 22) = .pointer (some ((ae).add (j * 1))) := evl_of (hv_ 6 22 _ (by decide) rfl (hon 6 (by decide)))
              exact ⟨_, rfl, fun K_ hK_ => q_op _ (x_load (.int .u8 (bv ys[j])) rfl e22 (rd_cell (Rd.below hr2 HS.belowOf) j hly) (by rfl)) (hK_ _ _ ⟨qv_up hV (fun _ h => Option.some.inj h), hE⟩)⟩
            · have e19 : evl l_ (.tmp 19) = .int .u8 (bv xs[j]) := evl_of (hv_ 3 19 _ (by decide) rfl (hon 3 (by decide)))
              have e23 : evl l_ (.tmp 23) = .int .u8 (bv ys[j]) := evl_of (hv_ 7 23 _ (by decide) rfl (hon 7 (by decide)))
              exact ⟨_, rfl, fun K_ hK_ => q_op _ (x_cmp (k := .u8) (m := (bv xs[j])) (n := (bv ys[j])) .neq true rfl e19 e23 (by have := fun h => hxy (bv_inj h); simpa [cmpB] using this) rfl) (hK_ _ _ ⟨qv_up hV (fun _ h => Option.some.inj h), hE⟩)⟩
          intro bq_ vq_ w_ hall hG
          obtain ⟨hV, hE⟩ := hG
          clear HS
          have HS := hE
          have hv0 := hV 0 _ rfl (hall 0 (by decide))
          have hv1 := hV 1 _ rfl (hall 1 (by decide))
          have hv2 := hV 2 _ rfl (hall 2 (by decide))
          have hv3 := hV 3 _ rfl (hall 3 (by decide))
          have hv4 := hV 4 _ rfl (hall 4 (by decide))
          have hv5 := hV 5 _ rfl (hall 5 (by decide))
          have hv6 := hV 6 _ rfl (hall 6 (by decide))
          have hv7 := hV 7 _ rfl (hall 7 (by decide))
          have hv8 := hV 8 _ rfl (hall 8 (by decide))
          clear hV hall
          rw [putSel_fr]
          simp only [tells, List.map_cons, List.map_nil, setAll, List.set_cons_succ, List.set_cons_zero, hv0, hv1, hv2, hv3, hv4, hv5, hv6, hv7, hv8]
          clear hv0 hv1 hv2 hv3 hv4 hv5 hv6 hv7 hv8
          generalize w_ = w900701 at HS ⊢
          refine fr_at (l' := (.slice (some ad) xs.length c :: .slice (some ae) ys.length d :: undef :: undef :: u4 :: .int .i64 (j : Int) :: .slice (some ad) xs.length c :: .int .i64 (xs.length : Int) :: .slice (some ae) ys.length d :: .int .i64 (ys.length : Int) :: .bool false :: .slice (some ad) xs.length c :: .int .i64 (xs.length : Int) :: .int .i64 (j : Int) :: .bool (decide ((j : Int) < (xs.length : Int))) :: .int .i64 (j : Int) :: .slice (some ad) xs.length c :: .int .i64 (j : Int) :: .pointer (some ((ad).add (j * 1))) :: .int .u8 (bv xs[j]) :: .slice (some ae) ys.length d :: .int .i64 (j : Int) :: .pointer (some ((ae).add (j * 1))) :: .int .u8 (bv ys[j]) :: .bool true :: u25 :: [])) rfl ?_
          refine hK34 _ _ ?_
          refine c_true rfl ?_
          refine wp_seq_k (fun K900702 hK900703 => ?_)
          refine c_region (fun ops900705 hops900704 => ?_)
          clear hops900704
          refine p_run _ (x_assign (.bool false) rfl rfl) rfl ?_
          refine wpList_nil ?_
          refine hK900703 _ _ ?_
          refine wp_ret ?_
          try simp only [Exit.inBlock, Exit.then]
          refine c_ret (.bool false) (r_tmp rfl rfl) ?_
          have hne : decide (xs = ys) = false := decide_eq_false (fun h => hxy (by subst h; rfl))
          rw [hne]
          exact ⟨rfl, HS.belowOf⟩
      · have hlt : j = xs.length := by have := of_decide_eq_false hc26; omega
        subst hlt
        refine wp_exit ?_
        refine hK12 _ _ ?_
        refine wp_seq_k (fun K900706 hK900707 => ?_)
        refine c_region (fun ops900709 hops900708 => ?_)
        clear hops900708
        refine p_run _ (x_assign (.bool true) rfl rfl) rfl ?_
        refine wpList_nil ?_
        refine hK900707 _ _ ?_
        refine wp_ret ?_
        try simp only [Exit.inBlock, Exit.then]
        refine c_ret (.bool true) (r_tmp rfl rfl) ?_
        have hne : decide (xs = ys) = true := decide_eq_true (by have h := hI.2; rw [List.take_length, hln, List.take_length] at h; exact h)
        rw [hne]
        exact ⟨rfl, HS.belowOf⟩
  · skip
    refine c_enter Try.func25 rfl 26 rfl (.slice A xs.length c :: .slice B ys.length d :: U16f5 (U8f5 ([]))) rfl ?_
    refine wp_seq_k (fun K1 hK2 => ?_)
    refine c_region (fun ops4 hops3 => ?_)
    clear hops3
    refine p_run _ (x_assign (.bool false) rfl rfl) rfl ?_
    refine wpList_nil ?_
    refine hK2 _ _ ?_
    refine wp_seq_k (fun K5 hK6 => ?_)
    refine wp_seq_k (fun K7 hK8 => ?_)
    refine c_region (fun ops10 hops9 => ?_)
    clear hops9
    refine p_run _ (x_move (.slice A xs.length c) rfl rfl) rfl ?_
    refine p_run _ (x_len rfl rfl Try.underlying22) rfl ?_
    refine p_run _ (x_move (.slice B ys.length d) rfl rfl) rfl ?_
    refine p_run _ (x_len rfl rfl Try.underlying22) rfl ?_
    refine p_run _ (x_cmp (k := .i64) (m := (xs.length : Int)) (n := (ys.length : Int)) .neq true rfl rfl rfl (by simp [cmpB]; omega) rfl) rfl ?_
    refine wpList_nil ?_
    refine fr_at (l' := (.slice A xs.length c :: .slice B ys.length d :: undef :: undef :: .bool false :: undef :: .slice A xs.length c :: .int .i64 (xs.length : Int) :: .slice B ys.length d :: .int .i64 (ys.length : Int) :: .bool true :: U8f5 (U4f5 (undef :: undef :: undef :: [])))) rfl ?_
    refine hK8 _ _ ?_
    refine c_true rfl ?_
    refine wp_seq_k (fun K11 hK12 => ?_)
    refine c_region (fun ops14 hops13 => ?_)
    clear hops13
    refine p_run _ (x_assign (.bool false) rfl rfl) rfl ?_
    refine wpList_nil ?_
    refine hK12 _ _ ?_
    refine wp_ret ?_
    try simp only [Exit.inBlock, Exit.then]
    refine c_ret (.bool false) (r_tmp rfl rfl) ?_
    have hne : decide (xs = ys) = false := decide_eq_false (fun h => hln (by rw [h]))
    rw [hne]
    exact ⟨rfl, HS.belowOf⟩
section
variable {w0 W : World} {F : Nat → Prop} {L : List Res} {base R : Nat} {s : Rs}
set_option maxRecDepth 10000 in
theorem ilabel_any (HS : St w0 F W (rdr base R s :: L)) : Calls Try.prog 50 #[.agg ([.pointer (some ⟨R, 0, none⟩)] : List Value).toArray] W fun e w' => e = .returned (.agg #[.int .u32 (rn 4 s), .int .u32 (rn 4 (rs 4 s))]) ∧ St w0 F w' (rdr base R (rs 4 (rs 4 s)) :: L) := by
  skip
  · skip
    refine c_enter Try.func50 rfl 14 rfl (.agg ([.pointer (some ⟨R, 0, none⟩)] : List Value).toArray :: U8f5 (U4f5 (undef :: []))) rfl ?_
    refine wp_seq_k (fun K1 hK2 => ?_)
    refine c_region (fun ops4 hops3 => ?_)
    clear hops3
    refine St.wBox HS (cs := [.pointer (some ⟨R, 0, none⟩)]) (.agg ([.pointer (some ⟨R, 0, none⟩)] : List Value).toArray) rfl rfl ?_
    clear HS
    intro g5 w6 hg7 HS
    refine St.wAlloc HS (cs := [.int .u32 0, .int .u32 0]) (.agg [.int .u32 0, .int .u32 0].toArray) (by kernel_rfl) rfl ?_
    clear HS
    intro g8 w9 hg10 HS
    refine wpList_nil ?_
    refine hK2 _ _ ?_
    refine wp_seq_k (fun K11 hK12 => ?_)
    refine c_region (fun ops14 hops13 => ?_)
    clear hops13
    refine p_run _ (x_field (j := 0) _ _ rfl rfl Try.underlying62 rfl (by rfl) rfl) rfl ?_
    refine p_run _ (x_load (.pointer (some ⟨R, 0, none⟩)) rfl rfl (bkCell (HS.get (.tail _ (.head _))) 0 _ rfl) (by rfl)) rfl ?_
    refine w_call [.pointer (some ⟨R, 0, none⟩), .int .i64 4] Try.func49 (by kernel_rfl) (by rfl) rfl ?_
    replace HS := (HS.front 2 rfl)
    refine (St.num HS 4).mono ?_
    clear HS
    rintro e w15 ⟨rfl, HS⟩
    refine ⟨_, rfl, ?_⟩
    refine p_run _ (x_conv (k := .u64) (m := (rn 4 s)) .u32 ((rn 4 s)) rfl (by rw [Try.underlying27]; rfl) Try.underlying26 rfl (wu32 (bd4 _))) rfl ?_
    refine p_run (l' := (.agg ([.pointer (some ⟨R, 0, none⟩)] : List Value).toArray :: .pointer (some ⟨g5, 0, none⟩) :: .pointer (some ⟨g8, 0, none⟩) :: .int .u32 (rn 4 s) :: .pointer (some ⟨g5, 0, none⟩) :: .pointer (some ⟨R, 0, none⟩) :: .int .u64 (rn 4 s) :: .int .u32 (rn 4 s) :: U4f5 (undef :: undef :: []))) _ (x_assign (.int .u32 (rn 4 s)) rfl rfl) rfl ?_
    refine wpList_nil ?_
    refine hK12 _ _ ?_
    refine wp_seq_k (fun K16 hK17 => ?_)
    refine c_region (fun ops19 hops18 => ?_)
    clear hops18
    refine p_run _ (x_move (.int .u32 (rn 4 s)) rfl rfl) rfl ?_
    refine p_run _ (x_field (j := 0) _ _ rfl rfl Try.underlying62 rfl (by rfl) rfl) rfl ?_
    refine p_run _ (x_load (.pointer (some ⟨R, 0, none⟩)) rfl rfl (bkCell (HS.get (.tail _ (.tail _ (.head _)))) 0 _ rfl) (by rfl)) rfl ?_
    refine w_call [.pointer (some ⟨R, 0, none⟩), .int .i64 4] Try.func49 (by kernel_rfl) (by rfl) rfl ?_
    refine (St.num HS 4).mono ?_
    clear HS
    rintro e w20 ⟨rfl, HS⟩
    refine ⟨_, rfl, ?_⟩
    refine p_run _ (x_conv (k := .u64) (m := (rn 4 (rs 4 s))) .u32 ((rn 4 (rs 4 s))) rfl (by rw [Try.underlying27]; rfl) Try.underlying26 rfl (wu32 (bd4 _))) rfl ?_
    refine p_run _ (x_build [.int .u32 (rn 4 s), .int .u32 (rn 4 (rs 4 s))] rfl (by kernel_rfl)) rfl ?_
    refine St.stores (cs' := [.int .u32 (rn 4 s), .int .u32 (rn 4 (rs 4 s))]) (HS.front 1 rfl) [.int .u32 (rn 4 s), .int .u32 (rn 4 (rs 4 s))] 2 rfl rfl (by rfl) (by kernel_rfl) rfl (by simp) rfl ?_
    clear HS
    intro w21 HS
    refine wpList_nil ?_
    refine fr_at (l' := (.agg ([.pointer (some ⟨R, 0, none⟩)] : List Value).toArray :: .pointer (some ⟨g5, 0, none⟩) :: .pointer (some ⟨g8, 0, none⟩) :: .int .u32 (rn 4 s) :: .pointer (some ⟨g5, 0, none⟩) :: .pointer (some ⟨R, 0, none⟩) :: .int .u64 (rn 4 s) :: .int .u32 (rn 4 s) :: .int .u32 (rn 4 s) :: .pointer (some ⟨g5, 0, none⟩) :: .pointer (some ⟨R, 0, none⟩) :: .int .u64 (rn 4 (rs 4 s)) :: .int .u32 (rn 4 (rs 4 s)) :: .agg ([.int .u32 (rn 4 s), .int .u32 (rn 4 (rs 4 s))] : List Value).toArray :: [])) rfl ?_
    refine hK17 _ _ ?_
    refine wp_ret ?_
    try simp only [Exit.inBlock, Exit.then]
    refine c_ret (.agg ([.int .u32 (rn 4 s), .int .u32 (rn 4 (rs 4 s))] : List Value).toArray) (r_c rfl rfl (run_loadVar_aggn (by rfl) [.int .u32 (rn 4 s), .int .u32 (rn 4 (rs 4 s))] 2 (by kernel_rfl) rfl (bkCells (HS.get (.head _)) 0 _ (whole _)))) ?_
    exact ⟨rfl, (HS.drop.front 1 rfl).drop⟩
theorem pad16_len (b : List UInt8) (h : b.length ≤ 16) : (pad16 b).length = 16 := by unfold pad16; rw [List.length_append, List.length_replicate]; omega
theorem tkO_len (s : Rs) : (tkO s).length ≤ 16 := by
  unfold tkO takeOut
  split
  · simp
  · rw [List.length_take]; omega
theorem it_lay {k : Int} {b : Bool} {xs : List UInt8} (h : xs.length ≤ 16) : lay (.int .i64 k :: .bool b :: nums .u8 (zB16.map bv)) 2 (nums .u8 (xs.map bv)) = .int .i64 k :: .bool b :: nums .u8 ((pad16 xs).map bv) := by
  unfold lay pad16 zB16 nums
  simp only [List.take_succ_cons, List.take_zero, List.length_map, Nat.add_comm 2, List.drop_succ_cons, List.map_append, List.map_replicate, List.drop_replicate, List.cons_append, List.nil_append]
set_option maxRecDepth 10000 in
set_option maxHeartbeats 1000000 in
theorem iitem_any (HS : St w0 F W (rdr base R s :: L)) : Calls Try.prog 51 #[.agg ([.pointer (some ⟨R, 0, none⟩)] : List Value).toArray] W fun e w' => e = .returned (.agg (itC (rdIt s).1).toArray) ∧ St w0 F w' (rdr base R (rdIt s).2 :: L) := by
  skip
  · skip
    refine c_enter Try.func51 rfl 21 rfl (.agg ([.pointer (some ⟨R, 0, none⟩)] : List Value).toArray :: U16f5 (U4f5 ([]))) rfl ?_
    refine wp_seq_k (fun K1 hK2 => ?_)
    refine c_region (fun ops4 hops3 => ?_)
    clear hops3
    refine St.wBox HS (cs := [.pointer (some ⟨R, 0, none⟩)]) (.agg ([.pointer (some ⟨R, 0, none⟩)] : List Value).toArray) rfl rfl ?_
    clear HS
    intro g5 w6 hg7 HS
    refine St.wAlloc HS (cs := (Value.int .i64 0 :: Value.bool false :: (nums .u8 (zB16.map bv)))) (.agg (Value.int .i64 0 :: Value.bool false :: (nums .u8 (zB16.map bv))).toArray) (by kernel_rfl) rfl ?_
    clear HS
    intro g8 w9 hg10 HS
    refine wpList_nil ?_
    refine hK2 _ _ ?_
    refine wp_seq_k (fun K11 hK12 => ?_)
    refine c_region (fun ops14 hops13 => ?_)
    clear hops13
    refine p_run _ (x_field (j := 0) _ _ rfl rfl Try.underlying62 rfl (by rfl) rfl) rfl ?_
    refine p_run _ (x_load (.pointer (some ⟨R, 0, none⟩)) rfl rfl (bkCell (HS.get (.tail _ (.head _))) 0 _ rfl) (by rfl)) rfl ?_
    refine w_call [.pointer (some ⟨R, 0, none⟩), .int .i64 1] Try.func49 (by kernel_rfl) (by rfl) rfl ?_
    replace HS := (HS.front 2 rfl)
    refine (St.num HS 1).mono ?_
    clear HS
    rintro e w15 ⟨rfl, HS⟩
    refine ⟨_, rfl, ?_⟩
    refine p_run _ (x_conv (k := .u64) (m := (rn 1 s)) .i64 ((rn 1 s)) rfl (by rw [Try.underlying27]; rfl) Try.underlying3 rfl (wr64' (by have := bd1 s; omega))) rfl ?_
    refine p_run (l' := (.agg ([.pointer (some ⟨R, 0, none⟩)] : List Value).toArray :: .pointer (some ⟨g5, 0, none⟩) :: .pointer (some ⟨g8, 0, none⟩) :: undef :: .pointer (some ⟨g5, 0, none⟩) :: .pointer (some ⟨R, 0, none⟩) :: .int .u64 (rn 1 s) :: .int .i64 (rn 1 s) :: .agg (Value.int .i64 (rn 1 s) :: Value.bool false :: (nums .u8 (zB16.map bv))).toArray :: U8f5 (U4f5 ([])))) _ (x_build (Value.int .i64 (rn 1 s) :: Value.bool false :: (nums .u8 (zB16.map bv))) rfl (by kernel_rfl)) rfl ?_
    refine St.wAlloc HS (cs := (Value.int .i64 0 :: Value.bool false :: (nums .u8 (zB16.map bv)))) (.agg (Value.int .i64 0 :: Value.bool false :: (nums .u8 (zB16.map bv))).toArray) (by kernel_rfl) rfl ?_
    clear HS
    intro g16 w17 hg18 HS
    refine St.stores (cs' := (Value.int .i64 (rn 1 s) :: Value.bool false :: (nums .u8 (zB16.map bv)))) HS (Value.int .i64 (rn 1 s) :: Value.bool false :: (nums .u8 (zB16.map bv))) 18 rfl rfl (all1 rfl (all1 rfl (nums_one _ _))) (by kernel_rfl) (by simp [List.length_map, nums_length, zB16_len]) (by simp [List.length_map, nums_length, zB16_len]) (lay_all _ _ (by simp [List.length_map, nums_length, zB16_len])) ?_
    clear HS
    intro w19 HS
    refine wpList_nil ?_
    refine hK12 _ _ ?_
    refine wp_seq_k (fun K20 hK21 => ?_)
    refine c_region (fun ops23 hops22 => ?_)
    clear hops22
    refine p_run _ (x_field (j := 0) _ _ rfl rfl Try.underlying62 rfl (by rfl) rfl) rfl ?_
    refine p_run _ (x_load (.pointer (some ⟨R, 0, none⟩)) rfl rfl (bkCell (HS.get (.tail _ (.tail _ (.tail _ (.head _))))) 0 _ rfl) (by rfl)) rfl ?_
    refine w_call [.pointer (some ⟨R, 0, none⟩), .int .i64 1] Try.func49 (by kernel_rfl) (by rfl) rfl ?_
    replace HS := (HS.front 1 rfl)
    refine (St.num HS 1).mono ?_
    clear HS
    rintro e w24 ⟨rfl, HS⟩
    refine ⟨_, rfl, ?_⟩
    refine p_run _ (x_cmp (k := .u64) (m := (rn 1 (rs 1 s))) (n := 1) .eql ((rn 1 (rs 1 s)) == 1) rfl rfl rfl rfl rfl) rfl ?_
    refine p_run _ (x_field (j := 1) _ _ rfl rfl Try.underlying53 rfl (by rfl) rfl) rfl ?_
    refine St.store (cs' := (Value.int .i64 (rn 1 s) :: Value.bool ((rn 1 (rs 1 s)) == 1) :: (nums .u8 (zB16.map bv)))) (HS.front 1 rfl) (.bool ((rn 1 (rs 1 s)) == 1)) rfl rfl rfl (by kernel_rfl) (by simp [List.length_map, nums_length, zB16_len]) (by simp [List.set_append, List.length_map, nums_length, zB16_len]) ?_
    clear HS
    intro w25 HS
    refine wpList_nil ?_
    refine fr_at (l' := (.agg ([.pointer (some ⟨R, 0, none⟩)] : List Value).toArray :: .pointer (some ⟨g5, 0, none⟩) :: .pointer (some ⟨g8, 0, none⟩) :: .pointer (some ⟨g16, 0, none⟩) :: .pointer (some ⟨g5, 0, none⟩) :: .pointer (some ⟨R, 0, none⟩) :: .int .u64 (rn 1 s) :: .int .i64 (rn 1 s) :: .agg (Value.int .i64 (rn 1 s) :: Value.bool false :: (nums .u8 (zB16.map bv))).toArray :: .pointer (some ⟨g5, 0, none⟩) :: .pointer (some ⟨R, 0, none⟩) :: .int .u64 (rn 1 (rs 1 s)) :: .bool ((rn 1 (rs 1 s)) == 1) :: .pointer (some ⟨g16, 1, none⟩) :: U4f5 (undef :: undef :: undef :: []))) rfl ?_
    refine hK21 _ _ ?_
    refine wp_seq_k (fun K26 hK27 => ?_)
    refine free_frame (n := 6) (T := _) [0, 1, 0, 4, 12, 31] [(0, 14), (1, 15), (2, 16), (3, 17), (4, 18), (5, 19)] (fun bq_ vq_ w_ => qv ((fun i_ => match i_ with | 0 => some (.pointer (some ⟨g16, 2, none⟩)) | 1 => some (.slice (some ⟨g16, 2, none⟩) 16 16) | 2 => some (.pointer (some ⟨g5, 0, none⟩)) | 3 => some (.pointer (some ⟨R, 0, none⟩)) | _ => none) : Nat → Option Value) bq_ vq_ ∧ cond (bq_ 5) (∃ (oa30 : Option Addr) (nc31 : Nat), vq_ 4 = .slice oa30 ((takeOut (rs 1 (rs 1 s)).1 (rs 1 (rs 1 s)).2 16).length) nc31 ∧ vq_ 5 = .int .i64 ((nums .u8 ((tkO (rs 1 (rs 1 s))).map bv)).length : Int) ∧ St w0 F w_ (blk g16 (Value.int .i64 (rn 1 s) :: Value.bool (rn 1 (rs 1 s) == 1) :: (nums .u8 ((pad16 (tkO (rs 1 (rs 1 s)))).map bv))) 53 :: rdp oa30 nc31 (takeOut (rs 1 (rs 1 s)).1 (rs 1 (rs 1 s)).2 16) :: rdr base R (takeRest (rs 1 (rs 1 s)).1 (rs 1 (rs 1 s)).2 16, takeBad (rs 1 (rs 1 s)).1 (rs 1 (rs 1 s)).2 16) :: blk g8 (Value.int .i64 0 :: Value.bool false :: (nums .u8 (zB16.map bv))) 53 :: blk g5 [.pointer (some ⟨R, 0, none⟩)] 62 :: L)) (cond (bq_ 4) (∃ (oa30 : Option Addr) (nc31 : Nat), vq_ 4 = .slice oa30 ((takeOut (rs 1 (rs 1 s)).1 (rs 1 (rs 1 s)).2 16).length) nc31 ∧ St w0 F w_ (rdp oa30 nc31 (takeOut (rs 1 (rs 1 s)).1 (rs 1 (rs 1 s)).2 16) :: rdr base R (takeRest (rs 1 (rs 1 s)).1 (rs 1 (rs 1 s)).2 16, takeBad (rs 1 (rs 1 s)).1 (rs 1 (rs 1 s)).2 16) :: blk g16 (Value.int .i64 (rn 1 s) :: Value.bool ((rn 1 (rs 1 s)) == 1) :: (nums .u8 (zB16.map bv))) 53 :: blk g8 (Value.int .i64 0 :: Value.bool false :: (nums .u8 (zB16.map bv))) 53 :: blk g5 [.pointer (some ⟨R, 0, none⟩)] 62 :: L)) ((St w0 F w_ (blk g16 (Value.int .i64 (rn 1 s) :: Value.bool ((rn 1 (rs 1 s)) == 1) :: (nums .u8 (zB16.map bv))) 53 :: rdr base R (rs 1 (rs 1 s)) :: blk g8 (Value.int .i64 0 :: Value.bool false :: (nums .u8 (zB16.map bv))) 53 :: blk g5 [.pointer (some ⟨R, 0, none⟩)] 62 :: L))))) (by kernel_rfl) rfl rfl (by kernel_rfl) (by kernel_rfl) rfl (by kernel_rfl) (by kernel_rfl) ⟨qv_none, HS.draw⟩ ?_ ?_
    · clear HS
      intro i_ hi_ bq_ vq_ a_ w_ hG hb_ hon hoff hfr hel hval
      obtain ⟨hV, hE⟩ := hG
      have hi_ := List.mem_range.1 hi_
      obtain ⟨l_, rfl⟩ := hfr
      have hv_ := fun (j t : Nat) (v : Value) (h1 : (j, t) ∈ [(0, 14), (1, 15), (2, 16), (3, 17), (4, 18), (5, 19)]) h2 h3 => (hval (j, t) h1 h3).trans (congrArg some (hV j v h2 h3))
      have hcs : i_ = 0 ∨ i_ = 1 ∨ i_ = 2 ∨ i_ = 3 ∨ i_ = 4 ∨ i_ = 5 := by omega
      rcases hcs with rfl | rfl | rfl | rfl | rfl | rfl
      · have e3 : evl l_ (.tmp 3) = .pointer (some ⟨g16, 0, none⟩) := evl_of ((hel 3 (by decide)).trans rfl)
        exact ⟨_, rfl, fun K_ hK_ => q_op _ (x_field (j := 2) _ _ rfl e3 Try.underlying53 rfl (by rfl) rfl) (hK_ _ _ ⟨qv_up hV (fun _ h => Option.some.inj h), hE⟩)⟩
      · have e14 : evl l_ (.tmp 14) = .pointer (some ⟨g16, 2, none⟩) := evl_of (hv_ 0 14 _ (by decide) rfl (hon 0 (by decide)))
        exact ⟨_, rfl, fun K_ hK_ => q_op (.slice (some ⟨g16, 2, none⟩) 16 16) ((x_sliceArr (sz := 1) (L := none) (H := none) (lo := 0) (hi := 16) ⟨g16, 2, none⟩ rfl e14 Try.underlying51 (by kernel_rfl) rfl rfl (by omega) (by omega) (by first | rfl | (rw [if_neg (by omega), add_mk]; rfl))).trans rfl) (hK_ _ _ ⟨qv_up hV (fun _ h => Option.some.inj h), hE⟩)⟩
      · have e1 : evl l_ (.tmp 1) = .pointer (some ⟨g5, 0, none⟩) := evl_of ((hel 1 (by decide)).trans rfl)
        exact ⟨_, rfl, fun K_ hK_ => q_op _ (x_field (j := 0) _ _ rfl e1 Try.underlying62 rfl (by rfl) rfl) (hK_ _ _ ⟨qv_up hV (fun _ h => Option.some.inj h), hE⟩)⟩
      · have hE0 := hE
        rw [show bq_ 5 = false from (hoff 5 (by decide))] at hE0
        rw [show bq_ 4 = false from (hoff 4 (by decide))] at hE0
        simp only [cond_true, cond_false] at hE0
        have HS := hE0
        have e16 : evl l_ (.tmp 16) = .pointer (some ⟨g5, 0, none⟩) := evl_of (hv_ 2 16 _ (by decide) rfl (hon 2 (by decide)))
        exact ⟨_, rfl, fun K_ hK_ => q_op _ (x_load (.pointer (some ⟨R, 0, none⟩)) rfl e16 (bkCell (HS.get (.tail _ (.tail _ (.tail _ (.head _))))) 0 _ rfl) (by rfl)) (hK_ _ _ ⟨qv_up hV (fun _ h => Option.some.inj h), hE⟩)⟩
      · have h17 : (fr l_).tmps[17]? = some (.pointer (some ⟨R, 0, none⟩)) := hv_ 3 17 _ (by decide) rfl (hon 3 (by decide))
        have hE0 := hE
        rw [show bq_ 5 = false from (hoff 5 (by decide))] at hE0
        rw [show bq_ 4 = false from hb_] at hE0
        simp only [cond_true, cond_false] at hE0
        have HS := hE0
        have e17 : evl l_ (.tmp 17) = .pointer (some ⟨R, 0, none⟩) := evl_of h17
        refine ⟨_, rfl, fun K_ hK_ => wp_of_list rfl ?_⟩
        intro ops_
        refine w_call [.pointer (some ⟨R, 0, none⟩), .int .i64 16] Try.func64 (by kernel_rfl) (by rfl) (by simp only [List.map_cons, List.map_nil, e17] <;> rfl) ?_
        replace HS := (HS.front 1 rfl)
        refine (St.takeT HS 16).mono ?_
        clear HS
        rintro e w900403 ⟨oa900401, nc900402, rfl, HS⟩
        refine ⟨_, rfl, ?_⟩
        refine wpList_nil ?_
        refine norm_put (hK_ (.slice oa900401 ((takeOut (rs 1 (rs 1 s)).1 (rs 1 (rs 1 s)).2 16).length) nc900402) _ ⟨qv_up hV (by intro _ h; cases h), ?_⟩)
        show cond (bq_ 5) _ _
        rw [show bq_ 5 = false from hoff 5 (by decide), cond_false]
        show cond true _ _
        rw [cond_true]
        exact ⟨oa900401, nc900402, rfl, (((((HS.front 4 rfl).front 4 rfl).front 4 rfl).front 4 rfl).front 4 rfl)⟩
      · have h15 : (fr l_).tmps[15]? = some (.slice (some ⟨g16, 2, none⟩) 16 16) := hv_ 1 15 _ (by decide) rfl (hon 1 (by decide))
        have h18 := hval (4, 18) (by decide) (hon 4 (by decide))
        have hE0 := hE
        rw [show bq_ 5 = false from hb_] at hE0
        rw [show bq_ 4 = true from (hon 4 (by decide))] at hE0
        simp only [cond_true, cond_false] at hE0
        obtain ⟨oa30, nc31, hv4, HS⟩ := hE0
        rw [hv4] at h18
        have e15 : evl l_ (.tmp 15) = .slice (some ⟨g16, 2, none⟩) 16 16 := evl_of h15
        have e18 : evl l_ (.tmp 18) = .slice oa30 ((takeOut (rs 1 (rs 1 s)).1 (rs 1 (rs 1 s)).2 16).length) nc31 := evl_of h18
        refine ⟨_, rfl, fun K_ hK_ => wp_of_list rfl ?_⟩
        intro ops_
        refine St.wCopy (HS.front 2 rfl) Try.underlying22 (by kernel_rfl) e15 e18 (nums .u8 ((tkO (rs 1 (rs 1 s))).map bv)) (by rw [nums_length, List.length_map]; exact (Nat.min_eq_left (tkO_len _)).symm) (rd_cells (Sl.rd (HS.get (.head _)))) (by have := tkO_len (rs 1 (rs 1 s)); simp [nums_length, zB16_len]; omega) (nums_one _ _) (it_lay (tkO_len _)) ?_
        clear HS
        intro w900501 HS
        rw [fr_put]
        refine wpList_nil ?_
        refine norm_put (hK_ (.int .i64 ((nums .u8 ((tkO (rs 1 (rs 1 s))).map bv)).length : Int)) _ ⟨qv_up hV (by intro _ h; cases h), ?_⟩)
        show cond true _ _
        rw [cond_true]
        exact ⟨oa30, nc31, hv4, rfl, (((((HS.front 4 rfl).front 4 rfl).front 4 rfl).front 4 rfl).front 4 rfl)⟩
    intro bq_ vq_ w_ hall hG
    obtain ⟨hV, hE⟩ := hG
    clear HS
    rw [show bq_ 5 = true from hall 5 (by decide)] at hE
    simp only [cond_true] at hE
    obtain ⟨oa30, nc31, hv4, hv5, HS⟩ := hE
    have hv0 := hV 0 _ rfl (hall 0 (by decide))
    have hv1 := hV 1 _ rfl (hall 1 (by decide))
    have hv2 := hV 2 _ rfl (hall 2 (by decide))
    have hv3 := hV 3 _ rfl (hall 3 (by decide))
    clear hV hall
    rw [putSel_fr]
    simp only [tells, List.map_cons, List.map_nil, setAll, List.set_cons_succ, List.set_cons_zero, hv0, hv1, hv2, hv3, hv4, hv5]
    clear hv0 hv1 hv2 hv3 hv4 hv5
    generalize w_ = w900502 at HS ⊢
    refine fr_at (l' := (.agg ([.pointer (some ⟨R, 0, none⟩)] : List Value).toArray :: .pointer (some ⟨g5, 0, none⟩) :: .pointer (some ⟨g8, 0, none⟩) :: .pointer (some ⟨g16, 0, none⟩) :: .pointer (some ⟨g5, 0, none⟩) :: .pointer (some ⟨R, 0, none⟩) :: .int .u64 (rn 1 s) :: .int .i64 (rn 1 s) :: .agg (Value.int .i64 (rn 1 s) :: Value.bool false :: (nums .u8 (zB16.map bv))).toArray :: .pointer (some ⟨g5, 0, none⟩) :: .pointer (some ⟨R, 0, none⟩) :: .int .u64 (rn 1 (rs 1 s)) :: .bool ((rn 1 (rs 1 s)) == 1) :: .pointer (some ⟨g16, 1, none⟩) :: .pointer (some ⟨g16, 2, none⟩) :: .slice (some ⟨g16, 2, none⟩) 16 16 :: .pointer (some ⟨g5, 0, none⟩) :: .pointer (some ⟨R, 0, none⟩) :: .slice oa30 ((takeOut (rs 1 (rs 1 s)).1 (rs 1 (rs 1 s)).2 16).length) nc31 :: .int .i64 ((nums .u8 ((tkO (rs 1 (rs 1 s))).map bv)).length : Int) :: undef :: [])) rfl ?_
    refine hK27 _ _ ?_
    refine wp_seq_k (fun K900503 hK900504 => ?_)
    refine c_region (fun ops900506 hops900505 => ?_)
    clear hops900505
    refine p_run _ (x_loads (Value.int .i64 (rn 1 s) :: Value.bool (rn 1 (rs 1 s) == 1) :: (nums .u8 ((pad16 (tkO (rs 1 (rs 1 s)))).map bv))) 18 rfl rfl (bkCells (HS.get (.head _)) 0 _ (whole _)) (by rfl) (by kernel_rfl) (by simp [List.length_map, nums_length, pad16_len _ (tkO_len _)])) rfl ?_
    refine St.stores (cs' := (Value.int .i64 (rn 1 s) :: Value.bool (rn 1 (rs 1 s) == 1) :: (nums .u8 ((pad16 (tkO (rs 1 (rs 1 s)))).map bv)))) (HS.front 3 rfl) (Value.int .i64 (rn 1 s) :: Value.bool (rn 1 (rs 1 s) == 1) :: (nums .u8 ((pad16 (tkO (rs 1 (rs 1 s)))).map bv))) 18 rfl rfl (all1 rfl (all1 rfl (nums_one _ _))) (by kernel_rfl) (by simp [List.length_map, nums_length, pad16_len _ (tkO_len _)]) (by simp [List.length_map, nums_length, pad16_len _ (tkO_len _), zB16_len]) (lay_all _ _ (by simp [List.length_map, nums_length, pad16_len _ (tkO_len _), zB16_len])) ?_
    clear HS
    intro w900507 HS
    refine wpList_nil ?_
    refine hK900504 _ _ ?_
    refine wp_ret ?_
    try simp only [Exit.inBlock, Exit.then]
    refine c_ret (.agg (Value.int .i64 (rn 1 s) :: Value.bool (rn 1 (rs 1 s) == 1) :: (nums .u8 ((pad16 (tkO (rs 1 (rs 1 s)))).map bv))).toArray) (r_c rfl rfl (run_loadVar_aggn (by rfl) (Value.int .i64 (rn 1 s) :: Value.bool (rn 1 (rs 1 s) == 1) :: (nums .u8 ((pad16 (tkO (rs 1 (rs 1 s)))).map bv))) 18 (by kernel_rfl) (by simp [List.length_map, nums_length, pad16_len _ (tkO_len _)]) (bkCells (HS.get (.head _)) 0 _ (whole _)))) ?_
    exact ⟨rfl, (HS.drop.drop.drop.front 1 rfl).drop⟩
end
end Go.Proofs.Ytmachdikonelbaa
