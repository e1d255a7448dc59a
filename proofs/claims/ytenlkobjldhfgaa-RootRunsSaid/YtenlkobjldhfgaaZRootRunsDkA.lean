/- Several texts in one: Disk1, Disk2, Disk3. -/
import Derived.Test.YtenlkobjldhfgaaZRootRunsDk
import Derived.Test.YtenlkobjldhfgaaZRootRunsV8
import Derived.Test.YtenlkobjldhfgaaZRootRunsWkDE
set_option linter.unusedVariables false
set_option linter.unusedSimpArgs false
namespace Go.Proofs.Ytenlkobjldhfgaa
open Go.RowKit Go.Proofs.YtenlkobjldhfgaaW.PrintWords Go.Proofs.YtenlkobjldhfgaaW.PrintLast
abbrev U4vdisk1 (l : List Value) : List Value := undef :: undef :: undef :: undef :: l
abbrev U8vdisk1 (l : List Value) : List Value := U4vdisk1 (U4vdisk1 l)
abbrev U16vdisk1 (l : List Value) : List Value := U8vdisk1 (U8vdisk1 l)
section
variable {w0 W : World} {F : Nat → Prop} {L : List Res} {D gs gm : Nat} {v : Value} {S : Dk}
theorem wr64 {x : Int} (h : -9223372036854775808 ≤ x ∧ x < 9223372036854775808) : IntKind.i64.wrap x = x := by rw [IntKind.wrap_i64]; omega
def Dk.there (S : Dk) (i : Int) : Bool := decide (0 ≤ i ∧ i < (S.stable.length : Int))
set_option maxRecDepth 10000 in
theorem there_any (HS : St w0 F W (dsk D gs gm v S L)) (i : Int) : Calls Try.prog 33 #[.pointer (some ⟨D, 0, none⟩), .int .i64 i] W fun e w' => e = .returned (.bool (S.there i)) ∧ w' = W := by
 by_cases h0 : 0 ≤ i
 ·refine c_enter Try.func33 rfl 16 rfl (.pointer (some ⟨D, 0, none⟩) :: .int .i64 i :: U8vdisk1 (U4vdisk1 (undef :: undef :: []))) rfl ?_
  refine wp_seq_k (fun K1 hK2 => ?_)
  refine c_region (fun ops4 hops3 => ?_)
  clear hops3
  refine p_run _ (x_assign (.bool false) rfl rfl) rfl ?_
  refine wpList_nil ?_
  refine hK2 _ _ ?_
  refine wp_seq_k (fun K5 hK6 => ?_)
  refine c_region (fun ops8 hops7 => ?_)
  refine p_run _ (x_move (.int .i64 i) rfl rfl) rfl ?_
  refine p_run _ (x_cmp (k := .i64) (m := i) (n := 0) .geq true rfl rfl rfl (decide_eq_true h0) rfl) rfl ?_
  refine p_run _ (x_move (.bool true) rfl rfl) rfl ?_
  refine p_on rfl (by rw [hops7]; rfl) ?_
  refine p_run _ (x_move (.int .i64 i) rfl rfl) rfl ?_
  refine p_on rfl (by rw [hops7]; rfl) ?_
  refine p_run _ (x_move (.pointer (some ⟨D, 0, none⟩)) rfl rfl) rfl ?_
  refine p_on rfl (by rw [hops7]; rfl) ?_
  refine p_run _ (x_nil rfl rfl) rfl ?_
  refine p_on rfl (by rw [hops7]; rfl) ?_
  refine p_run _ (x_field (j := 0) _ _ rfl rfl Try.underlying72 rfl (by rfl) rfl) rfl ?_
  refine p_on rfl (by rw [hops7]; rfl) ?_
  refine p_run (l' := (.pointer (some ⟨D, 0, none⟩) :: .int .i64 i :: undef :: undef :: .bool false :: .int .i64 i :: .bool true :: .bool true :: .int .i64 i :: .pointer (some ⟨D, 0, none⟩) :: .pointer (some ⟨D, 0, none⟩) :: .pointer (some ⟨D, 0, none⟩) :: .slice (some ⟨gs, 0, none⟩) S.stable.length S.stable.length :: undef :: undef :: undef :: [])) _ (x_load (.slice (some ⟨gs, 0, none⟩) S.stable.length S.stable.length) rfl rfl (bkCell (HS.get (.head _)) 0 _ rfl) (by rfl)) rfl ?_
  refine p_on rfl (by rw [hops7]; rfl) ?_
  refine p_run _ (x_len rfl rfl Try.underlying49) rfl ?_
  refine p_on rfl (by rw [hops7]; rfl) ?_
  refine p_run _ (x_cmp (k := .i64) (m := i) (n := (S.stable.length : Int)) .lss (decide (i < (S.stable.length : Int))) rfl rfl rfl rfl rfl) rfl ?_
  refine p_run _ (x_pick true (.bool (decide (i < (S.stable.length : Int)))) (.bool false) (.bool (decide (i < (S.stable.length : Int)))) rfl rfl rfl rfl rfl) rfl ?_
  refine p_run _ (x_assign (.bool (decide (i < (S.stable.length : Int)))) rfl rfl) rfl ?_
  clear hops7
  refine wpList_nil ?_
  refine hK6 _ _ ?_
  refine wp_ret ?_
  try simp only [Exit.inBlock, Exit.then]
  refine c_ret (.bool (decide (i < (S.stable.length : Int)))) (r_tmp rfl rfl) ?_
  refine ⟨?_, rfl⟩
  unfold Dk.there
  simp [h0]
 ·refine c_enter Try.func33 rfl 16 rfl (.pointer (some ⟨D, 0, none⟩) :: .int .i64 i :: U8vdisk1 (U4vdisk1 (undef :: undef :: []))) rfl ?_
  refine wp_seq_k (fun K1 hK2 => ?_)
  refine c_region (fun ops4 hops3 => ?_)
  clear hops3
  refine p_run _ (x_assign (.bool false) rfl rfl) rfl ?_
  refine wpList_nil ?_
  refine hK2 _ _ ?_
  refine wp_seq_k (fun K5 hK6 => ?_)
  refine c_region (fun ops8 hops7 => ?_)
  refine p_run _ (x_move (.int .i64 i) rfl rfl) rfl ?_
  refine p_run _ (x_cmp (k := .i64) (m := i) (n := 0) .geq false rfl rfl rfl (decide_eq_false h0) rfl) rfl ?_
  refine p_run _ (x_move (.bool false) rfl rfl) rfl ?_
  refine p_off (by rw [hops7]; rfl) rfl ?_
  refine p_off (by rw [hops7]; rfl) rfl ?_
  refine p_off (by rw [hops7]; rfl) rfl ?_
  refine p_off (by rw [hops7]; rfl) rfl ?_
  refine p_off (l' := (.pointer (some ⟨D, 0, none⟩) :: .int .i64 i :: undef :: undef :: .bool false :: .int .i64 i :: .bool false :: .bool false :: U8vdisk1 ([]))) (by rw [hops7]; rfl) rfl ?_
  refine p_off (by rw [hops7]; rfl) rfl ?_
  refine p_off (by rw [hops7]; rfl) rfl ?_
  refine p_run _ (x_pick false (undef) (.bool false) (.bool false) rfl rfl rfl rfl rfl) rfl ?_
  refine p_run _ (x_assign (.bool false) rfl rfl) rfl ?_
  clear hops7
  refine wpList_nil ?_
  refine hK6 _ _ ?_
  refine wp_ret ?_
  try simp only [Exit.inBlock, Exit.then]
  refine c_ret (.bool false) (r_tmp rfl rfl) ?_
  refine ⟨?_, rfl⟩
  unfold Dk.there
  simp [h0]
def Dk.acts (S : Dk) : Bool := !S.down && !decide (S.left = 0)
def Dk.act (S : Dk) : Dk := if S.acts then { S with left := if 0 < S.left then S.left - 1 else S.left } else { S with down := true }
def Dk.actE (S : Dk) : Int := if S.acts then 0 else 42
set_option maxRecDepth 10000 in
theorem act_any (HS : St w0 F W (dsk D gs gm v S L)) (hl : -1 ≤ S.left ∧ S.left < 9223372036854775808) : Calls Try.prog 34 #[.pointer (some ⟨D, 0, none⟩)] W fun e w' => e = .returned (.int .i64 S.actE) ∧ St w0 F w' (dsk D gs gm v S.act L) := by
 rcases hd : S.down with _ | _
 ·by_cases hz : S.left = 0
  ·have h1 : (S.left == 0) = true := by simp [hz]
   replace HS : St w0 F W (blk D [.slice (some ⟨gs, 0, none⟩) S.stable.length S.stable.length, .map (some gm), v, .int .i64 S.left, .bool false] 72 :: blk gs (pgs S.stable) 38 :: mapR gm S.cnt S.bad :: row kWr rfl 78 v S.pending :: L) := by rw [← hd]; exact HS
   refine c_enter Try.func34 rfl 31 rfl (.pointer (some ⟨D, 0, none⟩) :: U16vdisk1 (U8vdisk1 (U4vdisk1 (undef :: undef :: [])))) rfl ?_
   refine wp_seq_k (fun K1 hK2 => ?_)
   refine c_region (fun ops4 hops3 => ?_)
   clear hops3
   refine p_run _ (x_assign (.int .i64 0) rfl rfl) rfl ?_
   refine wpList_nil ?_
   refine hK2 _ _ ?_
   refine wp_seq_k (fun K5 hK6 => ?_)
   refine wp_block ?_
   refine wp_seq_k (fun K7 hK8 => ?_)
   refine c_region (fun ops10 hops9 => ?_)
   refine p_run _ (x_move (.pointer (some ⟨D, 0, none⟩)) rfl rfl) rfl ?_
   refine p_run _ (x_nil rfl rfl) rfl ?_
   refine p_run _ (x_field (j := 4) _ _ rfl rfl Try.underlying72 rfl (by rfl) rfl) rfl ?_
   refine p_run _ (x_load (.bool false) rfl rfl (bkCell (HS.get (.head _)) 4 _ rfl) (by rfl)) rfl ?_
   refine p_run _ (x_move (.bool false) rfl rfl) rfl ?_
   refine p_on rfl (by rw [hops9]; rfl) ?_
   refine p_run _ (x_move (.pointer (some ⟨D, 0, none⟩)) rfl rfl) rfl ?_
   refine p_on rfl (by rw [hops9]; rfl) ?_
   refine p_run _ (x_nil rfl rfl) rfl ?_
   refine p_on rfl (by rw [hops9]; rfl) ?_
   refine p_run (l' := (.pointer (some ⟨D, 0, none⟩) :: undef :: .int .i64 0 :: undef :: .pointer (some ⟨D, 0, none⟩) :: .pointer (some ⟨D, 0, none⟩) :: .pointer (some ⟨D, 4, none⟩) :: .bool false :: .bool false :: .pointer (some ⟨D, 0, none⟩) :: .pointer (some ⟨D, 0, none⟩) :: .pointer (some ⟨D, 3, none⟩) :: U16vdisk1 (undef :: undef :: undef :: []))) _ (x_field (j := 3) _ _ rfl rfl Try.underlying72 rfl (by rfl) rfl) rfl ?_
   refine p_on rfl (by rw [hops9]; rfl) ?_
   refine p_run _ (x_load (.int .i64 S.left) rfl rfl (bkCell (HS.get (.head _)) 3 _ rfl) (by rfl)) rfl ?_
   refine p_on rfl (by rw [hops9]; rfl) ?_
   refine p_run _ (x_cmp (k := .i64) (m := S.left) (n := 0) .eql true rfl rfl rfl h1 rfl) rfl ?_
   refine p_run _ (x_pick false (.bool true) (.bool true) (.bool true) rfl rfl rfl rfl rfl) rfl ?_
   refine p_run _ (x_assign (.bool true) rfl rfl) rfl ?_
   clear hops9
   refine wpList_nil ?_
   refine hK8 _ _ ?_
   refine c_true rfl ?_
   refine wp_seq_k (fun K11 hK12 => ?_)
   refine c_region (fun ops14 hops13 => ?_)
   clear hops13
   refine p_run _ (x_move (.pointer (some ⟨D, 0, none⟩)) rfl rfl) rfl ?_
   refine p_run _ (x_nil rfl rfl) rfl ?_
   refine p_run _ (x_field (j := 4) _ _ rfl rfl Try.underlying72 rfl (by rfl) rfl) rfl ?_
   refine St.store (cs' := [.slice (some ⟨gs, 0, none⟩) S.stable.length S.stable.length, .map (some gm), v, .int .i64 S.left, .bool true]) HS (.bool true) rfl rfl rfl (by kernel_rfl) (by rfl) rfl ?_
   clear HS
   intro w15 HS
   refine wpList_nil ?_
   obtain ⟨qz16, hqz16⟩ : ∃ q_ : V8, q_ = ⟨.bool false, .pointer (some ⟨D, 0, none⟩), .pointer (some ⟨D, 0, none⟩), .pointer (some ⟨D, 3, none⟩), .int .i64 S.left, .bool true, .bool true, .pointer (some ⟨D, 0, none⟩)⟩ := ⟨_, rfl⟩
   refine fr_at (l' := (.pointer (some ⟨D, 0, none⟩) :: undef :: .int .i64 0 :: .bool true :: .pointer (some ⟨D, 0, none⟩) :: .pointer (some ⟨D, 0, none⟩) :: .pointer (some ⟨D, 4, none⟩) :: .bool false :: V8.l qz16 (.pointer (some ⟨D, 0, none⟩) :: .pointer (some ⟨D, 4, none⟩) :: U8vdisk1 (U4vdisk1 (undef :: []))))) (by subst hqz16; rfl) ?_
   refine hK12 _ _ ?_
   refine wp_seq_k (fun K17 hK18 => ?_)
   refine c_region (fun ops20 hops19 => ?_)
   clear hops19
   refine p_run _ (x_assign (.int .i64 42) rfl rfl) rfl ?_
   refine wpList_nil ?_
   refine hK18 _ _ ?_
   refine wp_ret ?_
   try simp only [Exit.inBlock, Exit.then]
   refine c_ret (.int .i64 42) (r_tmp rfl rfl) ?_
   have ea : S.acts = false := by unfold Dk.acts; simp [hd, hz]
   have e2 : S.act = { S with left := S.left, down := true } := by unfold Dk.act; rw [ea]; simp
   have e3 : S.actE = 42 := by unfold Dk.actE; rw [ea]; rfl
   rw [e2, e3]
   exact ⟨rfl, ((((HS.front 3 rfl).front 3 rfl).front 3 rfl).front 3 rfl)⟩
  ·have h1 : (S.left == 0) = false := by simp [hz]
   by_cases hp : 0 < S.left
   ·have h2 : decide (S.left > 0) = true := decide_eq_true hp
    replace HS : St w0 F W (blk D [.slice (some ⟨gs, 0, none⟩) S.stable.length S.stable.length, .map (some gm), v, .int .i64 S.left, .bool false] 72 :: blk gs (pgs S.stable) 38 :: mapR gm S.cnt S.bad :: row kWr rfl 78 v S.pending :: L) := by rw [← hd]; exact HS
    refine c_enter Try.func34 rfl 31 rfl (.pointer (some ⟨D, 0, none⟩) :: U16vdisk1 (U8vdisk1 (U4vdisk1 (undef :: undef :: [])))) rfl ?_
    refine wp_seq_k (fun K1 hK2 => ?_)
    refine c_region (fun ops4 hops3 => ?_)
    clear hops3
    refine p_run _ (x_assign (.int .i64 0) rfl rfl) rfl ?_
    refine wpList_nil ?_
    refine hK2 _ _ ?_
    refine wp_seq_k (fun K5 hK6 => ?_)
    refine wp_block ?_
    refine wp_seq_k (fun K7 hK8 => ?_)
    refine c_region (fun ops10 hops9 => ?_)
    refine p_run _ (x_move (.pointer (some ⟨D, 0, none⟩)) rfl rfl) rfl ?_
    refine p_run _ (x_nil rfl rfl) rfl ?_
    refine p_run _ (x_field (j := 4) _ _ rfl rfl Try.underlying72 rfl (by rfl) rfl) rfl ?_
    refine p_run _ (x_load (.bool false) rfl rfl (bkCell (HS.get (.head _)) 4 _ rfl) (by rfl)) rfl ?_
    refine p_run _ (x_move (.bool false) rfl rfl) rfl ?_
    refine p_on rfl (by rw [hops9]; rfl) ?_
    refine p_run _ (x_move (.pointer (some ⟨D, 0, none⟩)) rfl rfl) rfl ?_
    refine p_on rfl (by rw [hops9]; rfl) ?_
    refine p_run _ (x_nil rfl rfl) rfl ?_
    refine p_on rfl (by rw [hops9]; rfl) ?_
    refine p_run (l' := (.pointer (some ⟨D, 0, none⟩) :: undef :: .int .i64 0 :: undef :: .pointer (some ⟨D, 0, none⟩) :: .pointer (some ⟨D, 0, none⟩) :: .pointer (some ⟨D, 4, none⟩) :: .bool false :: .bool false :: .pointer (some ⟨D, 0, none⟩) :: .pointer (some ⟨D, 0, none⟩) :: .pointer (some ⟨D, 3, none⟩) :: U16vdisk1 (undef :: undef :: undef :: []))) _ (x_field (j := 3) _ _ rfl rfl Try.underlying72 rfl (by rfl) rfl) rfl ?_
    refine p_on rfl (by rw [hops9]; rfl) ?_
    refine p_run _ (x_load (.int .i64 S.left) rfl rfl (bkCell (HS.get (.head _)) 3 _ rfl) (by rfl)) rfl ?_
    refine p_on rfl (by rw [hops9]; rfl) ?_
    refine p_run _ (x_cmp (k := .i64) (m := S.left) (n := 0) .eql false rfl rfl rfl h1 rfl) rfl ?_
    refine p_run _ (x_pick false (.bool true) (.bool false) (.bool false) rfl rfl rfl rfl rfl) rfl ?_
    refine p_run _ (x_assign (.bool false) rfl rfl) rfl ?_
    clear hops9
    refine wpList_nil ?_
    refine hK8 _ _ ?_
    refine c_false rfl ?_
    refine wp_seq_k (fun K11 hK12 => ?_)
    refine c_region (fun ops14 hops13 => ?_)
    clear hops13
    refine p_run _ (x_move (.pointer (some ⟨D, 0, none⟩)) rfl rfl) rfl ?_
    refine p_run _ (x_nil rfl rfl) rfl ?_
    refine p_run _ (x_field (j := 3) _ _ rfl rfl Try.underlying72 rfl (by rfl) rfl) rfl ?_
    refine p_run _ (x_load (.int .i64 S.left) rfl rfl (bkCell (HS.get (.head _)) 3 _ rfl) (by rfl)) rfl ?_
    refine p_run (l' := (.pointer (some ⟨D, 0, none⟩) :: undef :: .int .i64 0 :: .bool false :: .pointer (some ⟨D, 0, none⟩) :: .pointer (some ⟨D, 0, none⟩) :: .pointer (some ⟨D, 4, none⟩) :: .bool false :: .bool false :: .pointer (some ⟨D, 0, none⟩) :: .pointer (some ⟨D, 0, none⟩) :: .pointer (some ⟨D, 3, none⟩) :: .int .i64 S.left :: .bool false :: .bool false :: U4vdisk1 (.pointer (some ⟨D, 0, none⟩) :: .pointer (some ⟨D, 0, none⟩) :: .pointer (some ⟨D, 3, none⟩) :: .int .i64 S.left :: .bool true :: U4vdisk1 (undef :: undef :: undef :: [])))) _ (x_cmp (k := .i64) (m := S.left) (n := 0) .gtr true rfl rfl rfl h2 rfl) rfl ?_
    refine p_run _ (x_assign (.bool true) rfl rfl) rfl ?_
    refine wpList_nil ?_
    refine hK12 _ _ ?_
    refine c_true rfl ?_
    refine c_region (fun ops16 hops15 => ?_)
    clear hops15
    refine p_run _ (x_move (.pointer (some ⟨D, 0, none⟩)) rfl rfl) rfl ?_
    refine p_run _ (x_nil rfl rfl) rfl ?_
    refine p_run _ (x_field (j := 3) _ _ rfl rfl Try.underlying72 rfl (by rfl) rfl) rfl ?_
    refine p_run _ (x_load (.int .i64 S.left) rfl rfl (bkCell (HS.get (.head _)) 3 _ rfl) (by rfl)) rfl ?_
    refine p_run _ (x_arith (k := .i64) (m := S.left) (n := 1) .sub (S.left - 1) rfl rfl rfl (show IntKind.i64.wrap (S.left - 1) = S.left - 1 from (wr64 (by omega))) rfl) rfl ?_
    refine p_run _ (x_nil rfl rfl) rfl ?_
    refine p_run _ (x_field (j := 3) _ _ rfl rfl Try.underlying72 rfl (by rfl) rfl) rfl ?_
    refine St.store (cs' := [.slice (some ⟨gs, 0, none⟩) S.stable.length S.stable.length, .map (some gm), v, .int .i64 (S.left - 1), .bool false]) HS (.int .i64 (S.left - 1)) rfl rfl rfl (by kernel_rfl) (by rfl) rfl ?_
    clear HS
    intro w17 HS
    refine wpList_nil ?_
    obtain ⟨qz18, hqz18⟩ : ∃ q_ : V8, q_ = ⟨.bool false, .pointer (some ⟨D, 0, none⟩), .pointer (some ⟨D, 0, none⟩), .pointer (some ⟨D, 3, none⟩), .int .i64 S.left, .bool false, .bool false, undef⟩ := ⟨_, rfl⟩
    obtain ⟨qz19, hqz19⟩ : ∃ q_ : V8, q_ = ⟨undef, undef, .bool true, .pointer (some ⟨D, 0, none⟩), .pointer (some ⟨D, 0, none⟩), .pointer (some ⟨D, 3, none⟩), .int .i64 S.left, .bool true⟩ := ⟨_, rfl⟩
    refine fr_at (l' := (.pointer (some ⟨D, 0, none⟩) :: undef :: .int .i64 0 :: .bool false :: .pointer (some ⟨D, 0, none⟩) :: .pointer (some ⟨D, 0, none⟩) :: .pointer (some ⟨D, 4, none⟩) :: .bool false :: V8.l qz18 (V8.l qz19 (.pointer (some ⟨D, 0, none⟩) :: .pointer (some ⟨D, 0, none⟩) :: .pointer (some ⟨D, 3, none⟩) :: .int .i64 S.left :: .int .i64 (S.left - 1) :: .pointer (some ⟨D, 0, none⟩) :: .pointer (some ⟨D, 3, none⟩) :: [])))) (by subst hqz18 hqz19; rfl) ?_
    refine hK6 _ _ ?_
    refine wp_seq_k (fun K20 hK21 => ?_)
    refine c_region (fun ops23 hops22 => ?_)
    clear hops22
    refine p_run _ (x_assign (.int .i64 0) rfl rfl) rfl ?_
    refine wpList_nil ?_
    refine hK21 _ _ ?_
    refine wp_ret ?_
    try simp only [Exit.inBlock, Exit.then]
    refine c_ret (.int .i64 0) (r_tmp rfl rfl) ?_
    have ea : S.acts = true := by unfold Dk.acts; simp [hd, hz]
    have e2 : S.act = { S with left := S.left - 1, down := false } := by unfold Dk.act; rw [ea]; simp [hp, hd]
    have e3 : S.actE = 0 := by unfold Dk.actE; rw [ea]; rfl
    rw [e2, e3]
    exact ⟨rfl, ((((HS.front 3 rfl).front 3 rfl).front 3 rfl).front 3 rfl)⟩
   ·have h2 : decide (S.left > 0) = false := decide_eq_false hp
    replace HS : St w0 F W (blk D [.slice (some ⟨gs, 0, none⟩) S.stable.length S.stable.length, .map (some gm), v, .int .i64 S.left, .bool false] 72 :: blk gs (pgs S.stable) 38 :: mapR gm S.cnt S.bad :: row kWr rfl 78 v S.pending :: L) := by rw [← hd]; exact HS
    refine c_enter Try.func34 rfl 31 rfl (.pointer (some ⟨D, 0, none⟩) :: U16vdisk1 (U8vdisk1 (U4vdisk1 (undef :: undef :: [])))) rfl ?_
    refine wp_seq_k (fun K1 hK2 => ?_)
    refine c_region (fun ops4 hops3 => ?_)
    clear hops3
    refine p_run _ (x_assign (.int .i64 0) rfl rfl) rfl ?_
    refine wpList_nil ?_
    refine hK2 _ _ ?_
    refine wp_seq_k (fun K5 hK6 => ?_)
    refine wp_block ?_
    refine wp_seq_k (fun K7 hK8 => ?_)
    refine c_region (fun ops10 hops9 => ?_)
    refine p_run _ (x_move (.pointer (some ⟨D, 0, none⟩)) rfl rfl) rfl ?_
    refine p_run _ (x_nil rfl rfl) rfl ?_
    refine p_run _ (x_field (j := 4) _ _ rfl rfl Try.underlying72 rfl (by rfl) rfl) rfl ?_
    refine p_run _ (x_load (.bool false) rfl rfl (bkCell (HS.get (.head _)) 4 _ rfl) (by rfl)) rfl ?_
    refine p_run _ (x_move (.bool false) rfl rfl) rfl ?_
    refine p_on rfl (by rw [hops9]; rfl) ?_
    refine p_run _ (x_move (.pointer (some ⟨D, 0, none⟩)) rfl rfl) rfl ?_
    refine p_on rfl (by rw [hops9]; rfl) ?_
    refine p_run _ (x_nil rfl rfl) rfl ?_
    refine p_on rfl (by rw [hops9]; rfl) ?_
    refine p_run (l' := (.pointer (some ⟨D, 0, none⟩) :: undef :: .int .i64 0 :: undef :: .pointer (some ⟨D, 0, none⟩) :: .pointer (some ⟨D, 0, none⟩) :: .pointer (some ⟨D, 4, none⟩) :: .bool false :: .bool false :: .pointer (some ⟨D, 0, none⟩) :: .pointer (some ⟨D, 0, none⟩) :: .pointer (some ⟨D, 3, none⟩) :: U16vdisk1 (undef :: undef :: undef :: []))) _ (x_field (j := 3) _ _ rfl rfl Try.underlying72 rfl (by rfl) rfl) rfl ?_
    refine p_on rfl (by rw [hops9]; rfl) ?_
    refine p_run _ (x_load (.int .i64 S.left) rfl rfl (bkCell (HS.get (.head _)) 3 _ rfl) (by rfl)) rfl ?_
    refine p_on rfl (by rw [hops9]; rfl) ?_
    refine p_run _ (x_cmp (k := .i64) (m := S.left) (n := 0) .eql false rfl rfl rfl h1 rfl) rfl ?_
    refine p_run _ (x_pick false (.bool true) (.bool false) (.bool false) rfl rfl rfl rfl rfl) rfl ?_
    refine p_run _ (x_assign (.bool false) rfl rfl) rfl ?_
    clear hops9
    refine wpList_nil ?_
    refine hK8 _ _ ?_
    refine c_false rfl ?_
    refine wp_seq_k (fun K11 hK12 => ?_)
    refine c_region (fun ops14 hops13 => ?_)
    clear hops13
    refine p_run _ (x_move (.pointer (some ⟨D, 0, none⟩)) rfl rfl) rfl ?_
    refine p_run _ (x_nil rfl rfl) rfl ?_
    refine p_run _ (x_field (j := 3) _ _ rfl rfl Try.underlying72 rfl (by rfl) rfl) rfl ?_
    refine p_run _ (x_load (.int .i64 S.left) rfl rfl (bkCell (HS.get (.head _)) 3 _ rfl) (by rfl)) rfl ?_
    refine p_run (l' := (.pointer (some ⟨D, 0, none⟩) :: undef :: .int .i64 0 :: .bool false :: .pointer (some ⟨D, 0, none⟩) :: .pointer (some ⟨D, 0, none⟩) :: .pointer (some ⟨D, 4, none⟩) :: .bool false :: .bool false :: .pointer (some ⟨D, 0, none⟩) :: .pointer (some ⟨D, 0, none⟩) :: .pointer (some ⟨D, 3, none⟩) :: .int .i64 S.left :: .bool false :: .bool false :: U4vdisk1 (.pointer (some ⟨D, 0, none⟩) :: .pointer (some ⟨D, 0, none⟩) :: .pointer (some ⟨D, 3, none⟩) :: .int .i64 S.left :: .bool false :: U4vdisk1 (undef :: undef :: undef :: [])))) _ (x_cmp (k := .i64) (m := S.left) (n := 0) .gtr false rfl rfl rfl h2 rfl) rfl ?_
    refine p_run _ (x_assign (.bool false) rfl rfl) rfl ?_
    refine wpList_nil ?_
    refine hK12 _ _ ?_
    refine c_false rfl ?_
    refine wp_skip ?_
    refine hK6 _ _ ?_
    refine wp_seq_k (fun K15 hK16 => ?_)
    refine c_region (fun ops18 hops17 => ?_)
    clear hops17
    refine p_run _ (x_assign (.int .i64 0) rfl rfl) rfl ?_
    refine wpList_nil ?_
    refine hK16 _ _ ?_
    refine wp_ret ?_
    try simp only [Exit.inBlock, Exit.then]
    refine c_ret (.int .i64 0) (r_tmp rfl rfl) ?_
    have ea : S.acts = true := by unfold Dk.acts; simp [hd, hz]
    have e2 : S.act = { S with left := S.left, down := false } := by unfold Dk.act; rw [ea]; simp [hp, hd]
    have e3 : S.actE = 0 := by unfold Dk.actE; rw [ea]; rfl
    rw [e2, e3]
    exact ⟨rfl, ((((HS.front 3 rfl).front 3 rfl).front 3 rfl).front 3 rfl)⟩
 ·replace HS : St w0 F W (blk D [.slice (some ⟨gs, 0, none⟩) S.stable.length S.stable.length, .map (some gm), v, .int .i64 S.left, .bool true] 72 :: blk gs (pgs S.stable) 38 :: mapR gm S.cnt S.bad :: row kWr rfl 78 v S.pending :: L) := by rw [← hd]; exact HS
  refine c_enter Try.func34 rfl 31 rfl (.pointer (some ⟨D, 0, none⟩) :: U16vdisk1 (U8vdisk1 (U4vdisk1 (undef :: undef :: [])))) rfl ?_
  refine wp_seq_k (fun K1 hK2 => ?_)
  refine c_region (fun ops4 hops3 => ?_)
  clear hops3
  refine p_run _ (x_assign (.int .i64 0) rfl rfl) rfl ?_
  refine wpList_nil ?_
  refine hK2 _ _ ?_
  refine wp_seq_k (fun K5 hK6 => ?_)
  refine wp_block ?_
  refine wp_seq_k (fun K7 hK8 => ?_)
  refine c_region (fun ops10 hops9 => ?_)
  refine p_run _ (x_move (.pointer (some ⟨D, 0, none⟩)) rfl rfl) rfl ?_
  refine p_run _ (x_nil rfl rfl) rfl ?_
  refine p_run _ (x_field (j := 4) _ _ rfl rfl Try.underlying72 rfl (by rfl) rfl) rfl ?_
  refine p_run _ (x_load (.bool true) rfl rfl (bkCell (HS.get (.head _)) 4 _ rfl) (by rfl)) rfl ?_
  refine p_run _ (x_move (.bool true) rfl rfl) rfl ?_
  refine p_off (by rw [hops9]; rfl) rfl ?_
  refine p_off (by rw [hops9]; rfl) rfl ?_
  refine p_off (l' := (.pointer (some ⟨D, 0, none⟩) :: undef :: .int .i64 0 :: undef :: .pointer (some ⟨D, 0, none⟩) :: .pointer (some ⟨D, 0, none⟩) :: .pointer (some ⟨D, 4, none⟩) :: .bool true :: .bool true :: U16vdisk1 (U4vdisk1 (undef :: undef :: [])))) (by rw [hops9]; rfl) rfl ?_
  refine p_off (by rw [hops9]; rfl) rfl ?_
  refine p_off (by rw [hops9]; rfl) rfl ?_
  refine p_run _ (x_pick true (.bool true) (undef) (.bool true) rfl rfl rfl rfl rfl) rfl ?_
  refine p_run _ (x_assign (.bool true) rfl rfl) rfl ?_
  clear hops9
  refine wpList_nil ?_
  refine hK8 _ _ ?_
  refine c_true rfl ?_
  refine wp_seq_k (fun K11 hK12 => ?_)
  refine c_region (fun ops14 hops13 => ?_)
  clear hops13
  refine p_run _ (x_move (.pointer (some ⟨D, 0, none⟩)) rfl rfl) rfl ?_
  refine p_run _ (x_nil rfl rfl) rfl ?_
  refine p_run _ (x_field (j := 4) _ _ rfl rfl Try.underlying72 rfl (by rfl) rfl) rfl ?_
  refine St.store (cs' := [.slice (some ⟨gs, 0, none⟩) S.stable.length S.stable.length, .map (some gm), v, .int .i64 S.left, .bool true]) HS (.bool true) rfl rfl rfl (by kernel_rfl) (by rfl) rfl ?_
  clear HS
  intro w15 HS
  refine wpList_nil ?_
  obtain ⟨qz16, hqz16⟩ : ∃ q_ : V8, q_ = ⟨.bool true, undef, undef, undef, undef, undef, .bool true, .pointer (some ⟨D, 0, none⟩)⟩ := ⟨_, rfl⟩
  refine fr_at (l' := (.pointer (some ⟨D, 0, none⟩) :: undef :: .int .i64 0 :: .bool true :: .pointer (some ⟨D, 0, none⟩) :: .pointer (some ⟨D, 0, none⟩) :: .pointer (some ⟨D, 4, none⟩) :: .bool true :: V8.l qz16 (.pointer (some ⟨D, 0, none⟩) :: .pointer (some ⟨D, 4, none⟩) :: U8vdisk1 (U4vdisk1 (undef :: []))))) (by subst hqz16; rfl) ?_
  refine hK12 _ _ ?_
  refine wp_seq_k (fun K17 hK18 => ?_)
  refine c_region (fun ops20 hops19 => ?_)
  clear hops19
  refine p_run _ (x_assign (.int .i64 42) rfl rfl) rfl ?_
  refine wpList_nil ?_
  refine hK18 _ _ ?_
  refine wp_ret ?_
  try simp only [Exit.inBlock, Exit.then]
  refine c_ret (.int .i64 42) (r_tmp rfl rfl) ?_
  have ea : S.acts = false := by unfold Dk.acts; simp [hd]
  have e2 : S.act = { S with left := S.left, down := true } := by unfold Dk.act; rw [ea]; simp
  have e3 : S.actE = 42 := by unfold Dk.actE; rw [ea]; rfl
  rw [e2, e3]
  exact ⟨rfl, ((((HS.front 3 rfl).front 3 rfl).front 3 rfl).front 3 rfl)⟩
end
end Go.Proofs.Ytenlkobjldhfgaa
set_option linter.unusedVariables false
set_option linter.unusedSimpArgs false
namespace Go.Proofs.Ytenlkobjldhfgaa
open Go.RowKit Go.Proofs.YtenlkobjldhfgaaW.PrintWords Go.Proofs.YtenlkobjldhfgaaW.PrintLast
abbrev U4vdisk2 (l : List Value) : List Value := undef :: undef :: undef :: undef :: l
abbrev U8vdisk2 (l : List Value) : List Value := U4vdisk2 (U4vdisk2 l)
abbrev U16vdisk2 (l : List Value) : List Value := U8vdisk2 (U8vdisk2 l)
abbrev U32vdisk2 (l : List Value) : List Value := U16vdisk2 (U16vdisk2 l)
section
variable {w0 W : World} {F : Nat → Prop} {L : List Res} {D gs gm : Nat} {v : Value} {S : Dk}
theorem there_as (HS : St w0 F W (dsk D gs gm v S L)) (i : Int) (b : Bool) (hb : S.there i = b) : Calls Try.prog 33 #[.pointer (some ⟨D, 0, none⟩), .int .i64 i] W fun e w' => e = .returned (.bool b) ∧ w' = W := hb ▸ there_any HS i
theorem act_as (HS : St w0 F W (dsk D gs gm v S L)) (hl : -1 ≤ S.left ∧ S.left < 9223372036854775808) (e : Int) (he : S.actE = e) : Calls Try.prog 34 #[.pointer (some ⟨D, 0, none⟩)] W fun e' w' => e' = .returned (.int .i64 e) ∧ St w0 F w' (dsk D gs gm v S.act L) := he ▸ act_any HS hl
theorem there_in {i : Int} (h : S.there i = true) : 0 ≤ i ∧ i < (S.stable.length : Int) := of_decide_eq_true h
def Dk.at (S : Dk) (i : Int) : List Int := S.stable.getD i.toNat zpg
theorem at_get {i : Int} (h : S.there i = true) : S.stable[i.toNat]? = some (S.at i) := by
 have := there_in h
 unfold Dk.at
 rw [List.getD_eq_getElem?_getD, List.getElem?_eq_getElem (by omega)]
 rfl
theorem at_len {i : Int} (hS : S.ok) : (S.at i).length = 256 := by
 unfold Dk.at
 rw [List.getD_eq_getElem?_getD]
 cases h : S.stable[i.toNat]? with
 | none => exact zlen
 | some p => exact hS.1 p (List.mem_of_getElem? h)
set_option maxRecDepth 10000 in
theorem stable_yes (HS : St w0 F W (dsk D gs gm v S L)) (hS : S.ok) (i : Int) (ht : S.there i = true) : Calls Try.prog 28 #[.pointer (some ⟨D, 0, none⟩), .int .i64 i] W fun e w' => e = .returned (.tuple #[.agg (nums .u8 (S.at i)).toArray, .int .i64 0]) ∧ St w0 F w' (dsk D gs gm v S L) := by
 refine c_enter Try.func28 rfl 18 rfl (.pointer (some ⟨D, 0, none⟩) :: .int .i64 i :: U16vdisk2 ([])) rfl ?_
 refine wp_seq_k (fun K1 hK2 => ?_)
 refine c_region (fun ops4 hops3 => ?_)
 clear hops3
 refine St.wAlloc HS (cs := ((nums .u8 zpg))) (.agg ((nums .u8 zpg)).toArray) (by kernel_rfl) rfl ?_
 clear HS
 intro g5 w6 hg7 HS
 refine p_run _ (x_assign (.int .i64 0) rfl rfl) rfl ?_
 refine wpList_nil ?_
 refine hK2 _ _ ?_
 refine wp_seq_k (fun K8 hK9 => ?_)
 refine wp_seq_k (fun K10 hK11 => ?_)
 refine c_region (fun ops13 hops12 => ?_)
 clear hops12
 refine p_run _ (x_move (.pointer (some ⟨D, 0, none⟩)) rfl rfl) rfl ?_
 refine p_run _ (x_move (.int .i64 i) rfl rfl) rfl ?_
 refine w_call [.pointer (some ⟨D, 0, none⟩), .int .i64 i] Try.func33 (by kernel_rfl) (by rfl) rfl ?_
 replace HS := ((((HS.front 4 rfl).front 4 rfl).front 4 rfl).front 4 rfl)
 refine (there_as HS i true ht).mono ?_
 rintro e w' ⟨rfl, rfl⟩
 refine ⟨_, rfl, ?_⟩
 refine p_run _ (x_not true rfl rfl) rfl ?_
 refine wpList_nil ?_
 refine hK11 _ _ ?_
 refine c_false rfl ?_
 refine wp_skip ?_
 refine hK9 _ _ ?_
 refine wp_seq_k (fun K14 hK15 => ?_)
 refine c_region (fun ops17 hops16 => ?_)
 clear hops16
 refine p_run _ (x_move (.pointer (some ⟨D, 0, none⟩)) rfl rfl) rfl ?_
 refine p_run _ (x_nil rfl rfl) rfl ?_
 refine p_run (l' := (.pointer (some ⟨D, 0, none⟩) :: .int .i64 i :: undef :: undef :: .pointer (some ⟨g5, 0, none⟩) :: .int .i64 0 :: .pointer (some ⟨D, 0, none⟩) :: .int .i64 i :: .bool true :: .bool false :: undef :: .pointer (some ⟨D, 0, none⟩) :: .pointer (some ⟨D, 0, none⟩) :: .pointer (some ⟨D, 0, none⟩) :: U4vdisk2 ([]))) _ (x_field (j := 0) _ _ rfl rfl Try.underlying72 rfl (by rfl) rfl) rfl ?_
 refine p_run _ (x_load (.slice (some ⟨gs, 0, none⟩) S.stable.length S.stable.length) rfl rfl (bkCell (HS.get (.head _)) 0 _ rfl) (by rfl)) rfl ?_
 refine p_run _ (x_move (.int .i64 i) rfl rfl) rfl ?_
 refine p_run (.pointer (some ⟨gs, (i).toNat * 256, none⟩)) ((x_index (A := ⟨gs, 0, none⟩) (j := (i).toNat * 256) (sz := 256) rfl rfl rfl Try.underlying49 (by kernel_rfl) (there_in ht) rfl).trans (by rw [add_mk, Nat.zero_add])) rfl ?_
 refine p_run _ (x_loads ((nums .u8 (S.at i))) 256 rfl rfl (bk_page (HS.get (.tail _ (.head _))) hS.1 (at_get ht)) (by rfl) (by kernel_rfl) (by simp [at_len hS, nums_length])) rfl ?_
 refine St.stores (cs' := ((nums .u8 (S.at i)))) (HS.front 4 rfl) ((nums .u8 (S.at i))) 256 rfl rfl (nums_one _ _) (by kernel_rfl) (by simp [at_len hS, nums_length]) (by simp [at_len hS, nums_length, zlen]) (lay_all _ _ (by simp [at_len hS, nums_length, zlen])) ?_
 clear HS
 intro w18 HS
 refine p_run _ (x_assign (.int .i64 0) rfl rfl) rfl ?_
 refine wpList_nil ?_
 refine hK15 _ _ ?_
 refine wp_ret ?_
 try simp only [Exit.inBlock, Exit.then]
 refine c_ret (.tuple [.agg ((nums .u8 (S.at i))).toArray, .int .i64 0].toArray) (r_ct rfl rfl (run_loadVar_aggn (by rfl) ((nums .u8 (S.at i))) 256 (by kernel_rfl) (by simp [at_len hS, nums_length]) (bkCells (HS.get (.head _)) 0 _ (whole _))) rfl) ?_
 exact ⟨rfl, ((((HS.drop.front 3 rfl).front 3 rfl).front 3 rfl).front 3 rfl)⟩
set_option maxRecDepth 10000 in
theorem stable_no (HS : St w0 F W (dsk D gs gm v S L)) (hS : S.ok) (i : Int) (ht : S.there i = false) : Calls Try.prog 28 #[.pointer (some ⟨D, 0, none⟩), .int .i64 i] W fun e w' => e = .returned (.tuple #[.agg (nums .u8 zpg).toArray, .int .i64 41]) ∧ St w0 F w' (dsk D gs gm v S L) := by
 refine c_enter Try.func28 rfl 18 rfl (.pointer (some ⟨D, 0, none⟩) :: .int .i64 i :: U16vdisk2 ([])) rfl ?_
 refine wp_seq_k (fun K1 hK2 => ?_)
 refine c_region (fun ops4 hops3 => ?_)
 clear hops3
 refine St.wAlloc HS (cs := ((nums .u8 zpg))) (.agg ((nums .u8 zpg)).toArray) (by kernel_rfl) rfl ?_
 clear HS
 intro g5 w6 hg7 HS
 refine p_run _ (x_assign (.int .i64 0) rfl rfl) rfl ?_
 refine wpList_nil ?_
 refine hK2 _ _ ?_
 refine wp_seq_k (fun K8 hK9 => ?_)
 refine wp_seq_k (fun K10 hK11 => ?_)
 refine c_region (fun ops13 hops12 => ?_)
 clear hops12
 refine p_run _ (x_move (.pointer (some ⟨D, 0, none⟩)) rfl rfl) rfl ?_
 refine p_run _ (x_move (.int .i64 i) rfl rfl) rfl ?_
 refine w_call [.pointer (some ⟨D, 0, none⟩), .int .i64 i] Try.func33 (by kernel_rfl) (by rfl) rfl ?_
 replace HS := ((((HS.front 4 rfl).front 4 rfl).front 4 rfl).front 4 rfl)
 refine (there_as HS i false ht).mono ?_
 rintro e w' ⟨rfl, rfl⟩
 refine ⟨_, rfl, ?_⟩
 refine p_run _ (x_not false rfl rfl) rfl ?_
 refine wpList_nil ?_
 refine hK11 _ _ ?_
 refine c_true rfl ?_
 refine wp_seq_k (fun K14 hK15 => ?_)
 refine c_region (fun ops17 hops16 => ?_)
 clear hops16
 refine p_run _ (x_build ((nums .u8 zpg)) rfl (by kernel_rfl)) rfl ?_
 refine St.stores (cs' := ((nums .u8 zpg))) (HS.front 4 rfl) ((nums .u8 zpg)) 256 rfl rfl (nums_one _ _) (by kernel_rfl) (by simp [nums_length, zlen]) (by simp [nums_length, zlen]) (lay_all _ _ (by simp [nums_length, zlen])) ?_
 clear HS
 intro w18 HS
 refine p_run _ (x_assign (.int .i64 41) rfl rfl) rfl ?_
 refine wpList_nil ?_
 refine fr_at (l' := (.pointer (some ⟨D, 0, none⟩) :: .int .i64 i :: undef :: undef :: .pointer (some ⟨g5, 0, none⟩) :: .int .i64 41 :: .pointer (some ⟨D, 0, none⟩) :: .int .i64 i :: .bool false :: .bool true :: .agg ((nums .u8 zpg)).toArray :: U4vdisk2 (undef :: undef :: undef :: []))) rfl ?_
 refine hK15 _ _ ?_
 refine wp_ret ?_
 try simp only [Exit.inBlock, Exit.then]
 refine c_ret (.tuple [.agg ((nums .u8 zpg)).toArray, .int .i64 41].toArray) (r_ct rfl rfl (run_loadVar_aggn (by rfl) ((nums .u8 zpg)) 256 (by kernel_rfl) (by simp [nums_length, zlen]) (bkCells (HS.get (.head _)) 0 _ (whole _))) rfl) ?_
 exact ⟨rfl, ((((HS.drop.front 3 rfl).front 3 rfl).front 3 rfl).front 3 rfl)⟩
def Dk.spoil (S : Dk) (i : Int) (b : Bool) : Dk := if S.there i = true then (if b = true then { S with bad := putF S.bad i (S.bad i + 1), cnt := S.cnt + 1 } else { S with bad := putF S.bad i 0 }) else S
def Dk.pageE (S : Dk) (i : Int) : Int := if S.there i = true then 0 else 41
theorem map_bd {w : World} {g cnt : Nat} {f : Int → Int} (h : (mapR g cnt f).holds w) (i : Int) : 0 ≤ f i ∧ f i ≤ cnt := h.1 i
theorem idx_bd {i : Int} (hS : S.ok) (h : S.there i = true) : -9223372036854775808 ≤ i ∧ i < 9223372036854775808 := by
 have := there_in h
 have := hS.2.1
 omega
set_option maxRecDepth 10000 in
theorem spoil_any (HS : St w0 F W (dsk D gs gm v S L)) (hS : S.ok) (hc : S.cnt < 1000000) (i : Int) (b : Bool) : Calls Try.prog 24 #[.pointer (some ⟨D, 0, none⟩), .int .i64 i, .bool b] W fun e w' => e = .returned (.int .i64 (S.pageE i)) ∧ St w0 F w' (dsk D gs gm v (S.spoil i b) L) := by
 rcases ht : S.there i with _ | _
 ·cases b
  ·have hbd := map_bd (HS.get (.tail _ (.tail _ (.head _)))) i
   refine c_enter Try.func24 rfl 26 rfl (.pointer (some ⟨D, 0, none⟩) :: .int .i64 i :: .bool false :: U16vdisk2 (U4vdisk2 (undef :: undef :: undef :: []))) rfl ?_
   refine wp_seq_k (fun K1 hK2 => ?_)
   refine c_region (fun ops4 hops3 => ?_)
   clear hops3
   refine p_run _ (x_assign (.int .i64 0) rfl rfl) rfl ?_
   refine wpList_nil ?_
   refine hK2 _ _ ?_
   refine wp_seq_k (fun K5 hK6 => ?_)
   refine wp_block ?_
   refine wp_seq_k (fun K7 hK8 => ?_)
   refine c_region (fun ops10 hops9 => ?_)
   clear hops9
   refine p_run _ (x_move (.pointer (some ⟨D, 0, none⟩)) rfl rfl) rfl ?_
   refine p_run _ (x_move (.int .i64 i) rfl rfl) rfl ?_
   refine w_call [.pointer (some ⟨D, 0, none⟩), .int .i64 i] Try.func33 (by kernel_rfl) (by rfl) rfl ?_
   replace HS := ((((HS.front 3 rfl).front 3 rfl).front 3 rfl).front 3 rfl)
   refine (there_as HS i false ht).mono ?_
   rintro e w' ⟨rfl, rfl⟩
   refine ⟨_, rfl, ?_⟩
   refine p_run _ (x_not false rfl rfl) rfl ?_
   refine p_run _ (x_assign (.bool true) rfl rfl) rfl ?_
   refine wpList_nil ?_
   refine hK8 _ _ ?_
   refine c_true rfl ?_
   refine wp_seq_k (fun K11 hK12 => ?_)
   refine c_region (fun ops14 hops13 => ?_)
   clear hops13
   refine p_run _ (x_assign (.int .i64 41) rfl rfl) rfl ?_
   refine wpList_nil ?_
   obtain ⟨qz15, hqz15⟩ : ∃ q_ : V8, q_ = ⟨undef, undef, undef, undef, .bool true, .pointer (some ⟨D, 0, none⟩), .int .i64 i, .bool false⟩ := ⟨_, rfl⟩
   refine fr_at (l' := (.pointer (some ⟨D, 0, none⟩) :: .int .i64 i :: .bool false :: undef :: undef :: undef :: .int .i64 41 :: undef :: V8.l qz15 (.bool true :: U8vdisk2 (undef :: [])))) (by subst hqz15; rfl) ?_
   refine hK12 _ _ ?_
   refine wp_ret ?_
   try simp only [Exit.inBlock, Exit.then]
   refine c_ret (.int .i64 41) (r_tmp rfl rfl) ?_
   have e1 : S.spoil i false = S := by unfold Dk.spoil; rw [if_neg (by simp [ht])]
   have e2 : S.pageE i = 41 := if_neg (by simp [ht])
   rw [e1, e2]
   exact ⟨rfl, ((((HS.front 3 rfl).front 3 rfl).front 3 rfl).front 3 rfl)⟩
  ·have hbd := map_bd (HS.get (.tail _ (.tail _ (.head _)))) i
   refine c_enter Try.func24 rfl 26 rfl (.pointer (some ⟨D, 0, none⟩) :: .int .i64 i :: .bool true :: U16vdisk2 (U4vdisk2 (undef :: undef :: undef :: []))) rfl ?_
   refine wp_seq_k (fun K1 hK2 => ?_)
   refine c_region (fun ops4 hops3 => ?_)
   clear hops3
   refine p_run _ (x_assign (.int .i64 0) rfl rfl) rfl ?_
   refine wpList_nil ?_
   refine hK2 _ _ ?_
   refine wp_seq_k (fun K5 hK6 => ?_)
   refine wp_block ?_
   refine wp_seq_k (fun K7 hK8 => ?_)
   refine c_region (fun ops10 hops9 => ?_)
   clear hops9
   refine p_run _ (x_move (.pointer (some ⟨D, 0, none⟩)) rfl rfl) rfl ?_
   refine p_run _ (x_move (.int .i64 i) rfl rfl) rfl ?_
   refine w_call [.pointer (some ⟨D, 0, none⟩), .int .i64 i] Try.func33 (by kernel_rfl) (by rfl) rfl ?_
   replace HS := ((((HS.front 3 rfl).front 3 rfl).front 3 rfl).front 3 rfl)
   refine (there_as HS i false ht).mono ?_
   rintro e w' ⟨rfl, rfl⟩
   refine ⟨_, rfl, ?_⟩
   refine p_run _ (x_not false rfl rfl) rfl ?_
   refine p_run _ (x_assign (.bool true) rfl rfl) rfl ?_
   refine wpList_nil ?_
   refine hK8 _ _ ?_
   refine c_true rfl ?_
   refine wp_seq_k (fun K11 hK12 => ?_)
   refine c_region (fun ops14 hops13 => ?_)
   clear hops13
   refine p_run _ (x_assign (.int .i64 41) rfl rfl) rfl ?_
   refine wpList_nil ?_
   obtain ⟨qz15, hqz15⟩ : ∃ q_ : V8, q_ = ⟨undef, undef, undef, undef, .bool true, .pointer (some ⟨D, 0, none⟩), .int .i64 i, .bool false⟩ := ⟨_, rfl⟩
   refine fr_at (l' := (.pointer (some ⟨D, 0, none⟩) :: .int .i64 i :: .bool true :: undef :: undef :: undef :: .int .i64 41 :: undef :: V8.l qz15 (.bool true :: U8vdisk2 (undef :: [])))) (by subst hqz15; rfl) ?_
   refine hK12 _ _ ?_
   refine wp_ret ?_
   try simp only [Exit.inBlock, Exit.then]
   refine c_ret (.int .i64 41) (r_tmp rfl rfl) ?_
   have e1 : S.spoil i true = S := by unfold Dk.spoil; rw [if_neg (by simp [ht])]
   have e2 : S.pageE i = 41 := if_neg (by simp [ht])
   rw [e1, e2]
   exact ⟨rfl, ((((HS.front 3 rfl).front 3 rfl).front 3 rfl).front 3 rfl)⟩
 ·cases b
  ·have hbd := map_bd (HS.get (.tail _ (.tail _ (.head _)))) i
   refine c_enter Try.func24 rfl 26 rfl (.pointer (some ⟨D, 0, none⟩) :: .int .i64 i :: .bool false :: U16vdisk2 (U4vdisk2 (undef :: undef :: undef :: []))) rfl ?_
   refine wp_seq_k (fun K1 hK2 => ?_)
   refine c_region (fun ops4 hops3 => ?_)
   clear hops3
   refine p_run _ (x_assign (.int .i64 0) rfl rfl) rfl ?_
   refine wpList_nil ?_
   refine hK2 _ _ ?_
   refine wp_seq_k (fun K5 hK6 => ?_)
   refine wp_block ?_
   refine wp_seq_k (fun K7 hK8 => ?_)
   refine c_region (fun ops10 hops9 => ?_)
   clear hops9
   refine p_run _ (x_move (.pointer (some ⟨D, 0, none⟩)) rfl rfl) rfl ?_
   refine p_run _ (x_move (.int .i64 i) rfl rfl) rfl ?_
   refine w_call [.pointer (some ⟨D, 0, none⟩), .int .i64 i] Try.func33 (by kernel_rfl) (by rfl) rfl ?_
   replace HS := ((((HS.front 3 rfl).front 3 rfl).front 3 rfl).front 3 rfl)
   refine (there_as HS i true ht).mono ?_
   rintro e w' ⟨rfl, rfl⟩
   refine ⟨_, rfl, ?_⟩
   refine p_run _ (x_not true rfl rfl) rfl ?_
   refine p_run _ (x_assign (.bool false) rfl rfl) rfl ?_
   refine wpList_nil ?_
   refine hK8 _ _ ?_
   refine c_false rfl ?_
   refine wp_seq_k (fun K11 hK12 => ?_)
   refine c_region (fun ops14 hops13 => ?_)
   clear hops13
   refine p_run _ (x_move (.bool false) rfl rfl) rfl ?_
   refine p_run _ (x_assign (.bool false) rfl rfl) rfl ?_
   refine wpList_nil ?_
   obtain ⟨qz15, hqz15⟩ : ∃ q_ : V8, q_ = ⟨undef, undef, undef, undef, .bool false, .pointer (some ⟨D, 0, none⟩), .int .i64 i, .bool true⟩ := ⟨_, rfl⟩
   refine fr_at (l' := (.pointer (some ⟨D, 0, none⟩) :: .int .i64 i :: .bool false :: undef :: undef :: undef :: .int .i64 0 :: undef :: V8.l qz15 (.bool false :: .bool false :: .bool false :: U4vdisk2 (undef :: undef :: undef :: [])))) (by subst hqz15; rfl) ?_
   refine hK12 _ _ ?_
   refine c_false rfl ?_
   refine c_region (fun ops17 hops16 => ?_)
   clear hops16
   refine p_run _ (x_move (.pointer (some ⟨D, 0, none⟩)) rfl rfl) rfl ?_
   refine p_run _ (x_nil rfl rfl) rfl ?_
   refine p_run _ (x_field (j := 1) _ _ rfl rfl Try.underlying72 rfl (by rfl) rfl) rfl ?_
   refine p_run _ (x_load (.map (some gm)) rfl rfl (bkCell (HS.get (.head _)) 1 _ rfl) (by rfl)) rfl ?_
   refine p_run _ (x_move (.int .i64 i) rfl rfl) rfl ?_
   refine St.mapDel (HS.front 2 rfl) rfl rfl rfl (idx_bd hS ht) ?_
   clear HS
   intro w18 HS
   refine wpList_nil ?_
   refine hK6 _ _ ?_
   refine wp_seq_k (fun K19 hK20 => ?_)
   refine c_region (fun ops22 hops21 => ?_)
   clear hops21
   refine p_run _ (x_assign (.int .i64 0) rfl rfl) rfl ?_
   refine wpList_nil ?_
   refine hK20 _ _ ?_
   refine wp_ret ?_
   try simp only [Exit.inBlock, Exit.then]
   refine c_ret (.int .i64 0) (r_tmp rfl rfl) ?_
   have e1 : S.spoil i false = { S with bad := putF S.bad i 0 } := by unfold Dk.spoil; rw [if_pos ht]; rfl
   have e2 : S.pageE i = 0 := if_pos ht
   rw [e1, e2]
   exact ⟨rfl, ((((HS.front 3 rfl).front 1 rfl).front 3 rfl).front 3 rfl)⟩
  ·have hbd := map_bd (HS.get (.tail _ (.tail _ (.head _)))) i
   refine c_enter Try.func24 rfl 26 rfl (.pointer (some ⟨D, 0, none⟩) :: .int .i64 i :: .bool true :: U16vdisk2 (U4vdisk2 (undef :: undef :: undef :: []))) rfl ?_
   refine wp_seq_k (fun K1 hK2 => ?_)
   refine c_region (fun ops4 hops3 => ?_)
   clear hops3
   refine p_run _ (x_assign (.int .i64 0) rfl rfl) rfl ?_
   refine wpList_nil ?_
   refine hK2 _ _ ?_
   refine wp_seq_k (fun K5 hK6 => ?_)
   refine wp_block ?_
   refine wp_seq_k (fun K7 hK8 => ?_)
   refine c_region (fun ops10 hops9 => ?_)
   clear hops9
   refine p_run _ (x_move (.pointer (some ⟨D, 0, none⟩)) rfl rfl) rfl ?_
   refine p_run _ (x_move (.int .i64 i) rfl rfl) rfl ?_
   refine w_call [.pointer (some ⟨D, 0, none⟩), .int .i64 i] Try.func33 (by kernel_rfl) (by rfl) rfl ?_
   replace HS := ((((HS.front 3 rfl).front 3 rfl).front 3 rfl).front 3 rfl)
   refine (there_as HS i true ht).mono ?_
   rintro e w' ⟨rfl, rfl⟩
   refine ⟨_, rfl, ?_⟩
   refine p_run _ (x_not true rfl rfl) rfl ?_
   refine p_run _ (x_assign (.bool false) rfl rfl) rfl ?_
   refine wpList_nil ?_
   refine hK8 _ _ ?_
   refine c_false rfl ?_
   refine wp_seq_k (fun K11 hK12 => ?_)
   refine c_region (fun ops14 hops13 => ?_)
   clear hops13
   refine p_run _ (x_move (.bool true) rfl rfl) rfl ?_
   refine p_run _ (x_assign (.bool true) rfl rfl) rfl ?_
   refine wpList_nil ?_
   obtain ⟨qz15, hqz15⟩ : ∃ q_ : V8, q_ = ⟨undef, undef, undef, undef, .bool false, .pointer (some ⟨D, 0, none⟩), .int .i64 i, .bool true⟩ := ⟨_, rfl⟩
   refine fr_at (l' := (.pointer (some ⟨D, 0, none⟩) :: .int .i64 i :: .bool true :: undef :: undef :: undef :: .int .i64 0 :: undef :: V8.l qz15 (.bool false :: .bool true :: .bool true :: U4vdisk2 (undef :: undef :: undef :: [])))) (by subst hqz15; rfl) ?_
   refine hK12 _ _ ?_
   refine c_true rfl ?_
   refine c_region (fun ops17 hops16 => ?_)
   clear hops16
   refine p_run _ (x_move (.pointer (some ⟨D, 0, none⟩)) rfl rfl) rfl ?_
   refine p_run _ (x_nil rfl rfl) rfl ?_
   refine p_run _ (x_field (j := 1) _ _ rfl rfl Try.underlying72 rfl (by rfl) rfl) rfl ?_
   refine p_run _ (x_load (.map (some gm)) rfl rfl (bkCell (HS.get (.head _)) 1 _ rfl) (by rfl)) rfl ?_
   refine p_run _ (x_move (.int .i64 i) rfl rfl) rfl ?_
   refine m_lookup (HS.get (.tail _ (.tail _ (.head _)))) rfl rfl (idx_bd hS ht) rfl ?_
   refine p_run _ (x_arith (k := .i64) (m := (S.bad i)) (n := 1) .add (S.bad i + 1) rfl rfl rfl (show IntKind.i64.wrap ((S.bad i) + 1) = S.bad i + 1 from (wr64 (by omega))) rfl) rfl ?_
   refine St.mapPut (HS.front 2 rfl) (S.bad i + 1) rfl rfl rfl (idx_bd hS ht) (by omega) hc ?_
   clear HS
   intro w18 HS
   refine wpList_nil ?_
   obtain ⟨qz19, hqz19⟩ : ∃ q_ : V8, q_ = ⟨.bool false, .bool true, .bool true, .pointer (some ⟨D, 0, none⟩), .pointer (some ⟨D, 0, none⟩), .pointer (some ⟨D, 1, none⟩), .map (some gm), .int .i64 i⟩ := ⟨_, rfl⟩
   refine fr_at (l' := (.pointer (some ⟨D, 0, none⟩) :: .int .i64 i :: .bool true :: undef :: undef :: undef :: .int .i64 0 :: undef :: V8.l qz15 (V8.l qz19 (.int .i64 (S.bad i) :: .int .i64 (S.bad i + 1) :: [])))) (by subst hqz19; rfl) ?_
   refine hK6 _ _ ?_
   refine wp_seq_k (fun K20 hK21 => ?_)
   refine c_region (fun ops23 hops22 => ?_)
   clear hops22
   refine p_run _ (x_assign (.int .i64 0) rfl rfl) rfl ?_
   refine wpList_nil ?_
   refine hK21 _ _ ?_
   refine wp_ret ?_
   try simp only [Exit.inBlock, Exit.then]
   refine c_ret (.int .i64 0) (r_tmp rfl rfl) ?_
   have e1 : S.spoil i true = { S with bad := putF S.bad i (S.bad i + 1), cnt := S.cnt + 1 } := by unfold Dk.spoil; rw [if_pos ht]; rfl
   have e2 : S.pageE i = 0 := if_pos ht
   rw [e1, e2]
   exact ⟨rfl, ((((HS.front 3 rfl).front 1 rfl).front 3 rfl).front 3 rfl)⟩
def Dk.cut (S : Dk) (n : Int) : Dk := { S with left := if (-1 : Int) > n then -1 else n }
set_option maxRecDepth 10000 in
theorem cut_any (HS : St w0 F W (dsk D gs gm v S L)) (n : Int) : Calls Try.prog 16 #[.pointer (some ⟨D, 0, none⟩), .int .i64 n] W fun e w' => e = .returned (.tuple #[]) ∧ St w0 F w' (dsk D gs gm v (S.cut n) L) := by
 refine c_enter Try.func16 rfl 9 rfl [.pointer (some ⟨D, 0, none⟩), .int .i64 n, undef, undef, undef, undef, undef, undef, undef] rfl ?_
 refine c_region (fun ops2 hops1 => ?_)
 clear hops1
 refine p_run _ (x_move (.pointer (some ⟨D, 0, none⟩)) rfl rfl) rfl ?_
 refine p_run _ (x_move (.int .i64 n) rfl rfl) rfl ?_
 refine p_run _ (x_max (m := n) (n := -1) (if (-1) > n then -1 else n) rfl rfl rfl rfl) rfl ?_
 refine p_run _ (x_nil rfl rfl) rfl ?_
 refine p_run _ (x_field (j := 3) _ _ rfl rfl Try.underlying72 rfl (by rfl) rfl) rfl ?_
 refine St.store (cs' := [.slice (some ⟨gs, 0, none⟩) S.stable.length S.stable.length, .map (some gm), v, .int .i64 (if (-1) > n then -1 else n), .bool S.down]) HS (.int .i64 (if (-1) > n then -1 else n)) rfl rfl rfl (by kernel_rfl) (by rfl) rfl ?_
 clear HS
 intro w3 HS
 refine wpList_nil ?_
 obtain ⟨qz4, hqz4⟩ : ∃ q_ : V8, q_ = ⟨.pointer (some ⟨D, 0, none⟩), .int .i64 n, undef, undef, .pointer (some ⟨D, 0, none⟩), .int .i64 n, .int .i64 (if (-1) > n then -1 else n), .pointer (some ⟨D, 0, none⟩)⟩ := ⟨_, rfl⟩
 refine fr_at (l' := [qz4.a, qz4.b, qz4.c, qz4.d, qz4.e, qz4.f, qz4.g, qz4.h, .pointer (some ⟨D, 3, none⟩)]) (by subst hqz4; rfl) ?_
 refine c_end (.tuple #[]) (r_none rfl) ?_
 exact ⟨rfl, ((((HS.front 3 rfl).front 3 rfl).front 3 rfl).front 3 rfl)⟩
def lastW (l : List (Int × List Int)) (i : Int) (p : List Int) : List Int := l.foldl (fun out x => if x.1 = i then x.2 else out) p
def Dk.readP (S : Dk) (i : Int) : List Int := if S.there i = true then (if 0 < S.bad i then zpg else lastW S.pending i (S.at i)) else zpg
def Dk.readE (S : Dk) (i : Int) : Int := if S.there i = true then (if 0 < S.bad i then 43 else 0) else 41
set_option maxRecDepth 10000 in
set_option maxHeartbeats 1000000 in
theorem read_any (HS : St w0 F W (dsk D gs gm v S L)) (hS : S.ok) (hp : S.pending.length < 1000000) (i : Int) : Calls Try.prog 13 #[.pointer (some ⟨D, 0, none⟩), .int .i64 i] W fun e w' => e = .returned (.tuple #[.agg (nums .u8 (S.readP i)).toArray, .int .i64 (S.readE i)]) ∧ St w0 F w' (dsk D gs gm v S L) := by
 obtain ⟨A, c, hv, hcap, -⟩ := row_reads (HS.get (.tail _ (.tail _ (.tail _ (.head _)))))
 subst hv
 rcases ht : S.there i with _ | _
 ·refine c_enter Try.func13 rfl 45 rfl (.pointer (some ⟨D, 0, none⟩) :: .int .i64 i :: U32vdisk2 (U8vdisk2 (undef :: undef :: undef :: []))) rfl ?_
  refine wp_seq_k (fun K1 hK2 => ?_)
  refine c_region (fun ops4 hops3 => ?_)
  clear hops3
  refine St.wAlloc HS (cs := ((nums .u8 zpg))) (.agg ((nums .u8 zpg)).toArray) (by kernel_rfl) rfl ?_
  clear HS
  intro g5 w6 hg7 HS
  refine p_run _ (x_assign (.int .i64 0) rfl rfl) rfl ?_
  refine wpList_nil ?_
  refine hK2 _ _ ?_
  refine wp_seq_k (fun K8 hK9 => ?_)
  refine c_region (fun ops11 hops10 => ?_)
  clear hops10
  refine p_run _ (x_move (.pointer (some ⟨D, 0, none⟩)) rfl rfl) rfl ?_
  refine p_run _ (x_move (.int .i64 i) rfl rfl) rfl ?_
  refine w_call [.pointer (some ⟨D, 0, none⟩), .int .i64 i] Try.func28 (by kernel_rfl) (by rfl) rfl ?_
  replace HS := ((((HS.front 4 rfl).front 4 rfl).front 4 rfl).front 4 rfl)
  refine (stable_no HS hS i ht).mono ?_
  clear HS
  rintro e w12 ⟨rfl, HS⟩
  refine ⟨_, rfl, ?_⟩
  refine p_run _ (x_move (.tuple [.agg ((nums .u8 zpg)).toArray, .int .i64 41].toArray) rfl rfl) rfl ?_
  refine p_run _ (x_extract (vs := [.agg ((nums .u8 zpg)).toArray, .int .i64 41]) 0 (.agg ((nums .u8 zpg)).toArray) rfl rfl rfl) rfl ?_
  refine p_run _ (x_extract (vs := [.agg ((nums .u8 zpg)).toArray, .int .i64 41]) 1 (.int .i64 41) rfl rfl rfl) rfl ?_
  refine St.wAlloc HS (cs := ((nums .u8 zpg))) (.agg ((nums .u8 zpg)).toArray) (by kernel_rfl) rfl ?_
  clear HS
  intro g13 w14 hg15 HS
  refine fr_to (l' := (.pointer (some ⟨D, 0, none⟩) :: .int .i64 i :: undef :: undef :: .pointer (some ⟨g5, 0, none⟩) :: .int .i64 0 :: .pointer (some ⟨g13, 0, none⟩) :: undef :: undef :: undef :: .tuple [.agg ((nums .u8 zpg)).toArray, .int .i64 41].toArray :: .pointer (some ⟨D, 0, none⟩) :: .int .i64 i :: .tuple [.agg ((nums .u8 zpg)).toArray, .int .i64 41].toArray :: .agg ((nums .u8 zpg)).toArray :: .int .i64 41 :: U16vdisk2 (U8vdisk2 (U4vdisk2 (undef :: []))))) rfl ?_
  refine St.stores (cs' := ((nums .u8 zpg))) HS ((nums .u8 zpg)) 256 rfl rfl (nums_one _ _) (by kernel_rfl) (by simp [nums_length, zlen]) (by simp [nums_length, zlen]) (lay_all _ _ (by simp [nums_length, zlen])) ?_
  clear HS
  intro w16 HS
  refine p_run _ (x_assign (.int .i64 41) rfl rfl) rfl ?_
  refine wpList_nil ?_
  refine hK9 _ _ ?_
  refine wp_seq_k (fun K17 hK18 => ?_)
  refine wp_seq_k (fun K19 hK20 => ?_)
  refine c_region (fun ops22 hops21 => ?_)
  clear hops21
  refine p_run _ (x_move (.int .i64 41) rfl rfl) rfl ?_
  refine p_run _ (x_cmp (k := .i64) (m := 41) (n := 0) .neq true rfl rfl rfl (by decide) rfl) rfl ?_
  refine wpList_nil ?_
  refine hK20 _ _ ?_
  refine c_true rfl ?_
  refine wp_seq_k (fun K23 hK24 => ?_)
  refine c_region (fun ops26 hops25 => ?_)
  clear hops25
  refine p_run _ (x_loads ((nums .u8 zpg)) 256 rfl rfl (bkCells (HS.get (.head _)) 0 _ (whole _)) (by rfl) (by kernel_rfl) (by simp [nums_length, zlen])) rfl ?_
  refine p_run _ (x_move (.int .i64 41) rfl rfl) rfl ?_
  refine St.stores (cs' := ((nums .u8 zpg))) (HS.front 5 rfl) ((nums .u8 zpg)) 256 rfl rfl (nums_one _ _) (by kernel_rfl) (by simp [nums_length, zlen]) (by simp [nums_length, zlen]) (lay_all _ _ (by simp [nums_length, zlen])) ?_
  clear HS
  intro w27 HS
  refine p_run _ (x_assign (.int .i64 41) rfl rfl) rfl ?_
  refine wpList_nil ?_
  refine hK24 _ _ ?_
  refine wp_ret ?_
  try simp only [Exit.inBlock, Exit.then]
  refine c_ret (.tuple [.agg ((nums .u8 zpg)).toArray, .int .i64 41].toArray) (r_ct rfl rfl (run_loadVar_aggn (by rfl) ((nums .u8 zpg)) 256 (by kernel_rfl) (by simp [nums_length, zlen]) (bkCells (HS.get (.head _)) 0 _ (whole _))) rfl) ?_
  have e1 : S.readP i = zpg := if_neg (by simp [ht])
  have e2 : S.readE i = 41 := if_neg (by simp [ht])
  rw [e1, e2]
  exact ⟨rfl, ((((HS.drop.drop.front 3 rfl).front 3 rfl).front 3 rfl).front 3 rfl)⟩
 ·by_cases hb0 : 0 < S.bad i
  ·have hb : decide (S.bad i > 0) = true := decide_eq_true hb0
   refine c_enter Try.func13 rfl 45 rfl (.pointer (some ⟨D, 0, none⟩) :: .int .i64 i :: U32vdisk2 (U8vdisk2 (undef :: undef :: undef :: []))) rfl ?_
   refine wp_seq_k (fun K1 hK2 => ?_)
   refine c_region (fun ops4 hops3 => ?_)
   clear hops3
   refine St.wAlloc HS (cs := ((nums .u8 zpg))) (.agg ((nums .u8 zpg)).toArray) (by kernel_rfl) rfl ?_
   clear HS
   intro g5 w6 hg7 HS
   refine p_run _ (x_assign (.int .i64 0) rfl rfl) rfl ?_
   refine wpList_nil ?_
   refine hK2 _ _ ?_
   refine wp_seq_k (fun K8 hK9 => ?_)
   refine c_region (fun ops11 hops10 => ?_)
   clear hops10
   refine p_run _ (x_move (.pointer (some ⟨D, 0, none⟩)) rfl rfl) rfl ?_
   refine p_run _ (x_move (.int .i64 i) rfl rfl) rfl ?_
   refine w_call [.pointer (some ⟨D, 0, none⟩), .int .i64 i] Try.func28 (by kernel_rfl) (by rfl) rfl ?_
   replace HS := ((((HS.front 4 rfl).front 4 rfl).front 4 rfl).front 4 rfl)
   refine (stable_yes HS hS i ht).mono ?_
   clear HS
   rintro e w12 ⟨rfl, HS⟩
   refine ⟨_, rfl, ?_⟩
   refine p_run _ (x_move (.tuple [.agg ((nums .u8 (S.at i))).toArray, .int .i64 0].toArray) rfl rfl) rfl ?_
   refine p_run _ (x_extract (vs := [.agg ((nums .u8 (S.at i))).toArray, .int .i64 0]) 0 (.agg ((nums .u8 (S.at i))).toArray) rfl rfl rfl) rfl ?_
   refine p_run _ (x_extract (vs := [.agg ((nums .u8 (S.at i))).toArray, .int .i64 0]) 1 (.int .i64 0) rfl rfl rfl) rfl ?_
   refine St.wAlloc HS (cs := ((nums .u8 zpg))) (.agg ((nums .u8 zpg)).toArray) (by kernel_rfl) rfl ?_
   clear HS
   intro g13 w14 hg15 HS
   refine fr_to (l' := (.pointer (some ⟨D, 0, none⟩) :: .int .i64 i :: undef :: undef :: .pointer (some ⟨g5, 0, none⟩) :: .int .i64 0 :: .pointer (some ⟨g13, 0, none⟩) :: undef :: undef :: undef :: .tuple [.agg ((nums .u8 (S.at i))).toArray, .int .i64 0].toArray :: .pointer (some ⟨D, 0, none⟩) :: .int .i64 i :: .tuple [.agg ((nums .u8 (S.at i))).toArray, .int .i64 0].toArray :: .agg ((nums .u8 (S.at i))).toArray :: .int .i64 0 :: U16vdisk2 (U8vdisk2 (U4vdisk2 (undef :: []))))) rfl ?_
   refine St.stores (cs' := ((nums .u8 (S.at i)))) HS ((nums .u8 (S.at i))) 256 rfl rfl (nums_one _ _) (by kernel_rfl) (by simp [at_len hS, nums_length]) (by simp [at_len hS, nums_length, zlen]) (lay_all _ _ (by simp [at_len hS, nums_length, zlen])) ?_
   clear HS
   intro w16 HS
   refine p_run _ (x_assign (.int .i64 0) rfl rfl) rfl ?_
   refine wpList_nil ?_
   refine hK9 _ _ ?_
   refine wp_seq_k (fun K17 hK18 => ?_)
   refine wp_seq_k (fun K19 hK20 => ?_)
   refine c_region (fun ops22 hops21 => ?_)
   clear hops21
   refine p_run _ (x_move (.int .i64 0) rfl rfl) rfl ?_
   refine p_run _ (x_cmp (k := .i64) (m := 0) (n := 0) .neq false rfl rfl rfl (by decide) rfl) rfl ?_
   refine wpList_nil ?_
   refine hK20 _ _ ?_
   refine c_false rfl ?_
   refine wp_skip ?_
   refine hK18 _ _ ?_
   refine wp_seq_k (fun K23 hK24 => ?_)
   refine wp_seq_k (fun K25 hK26 => ?_)
   refine c_region (fun ops28 hops27 => ?_)
   clear hops27
   refine p_run _ (x_move (.pointer (some ⟨D, 0, none⟩)) rfl rfl) rfl ?_
   refine p_run _ (x_nil rfl rfl) rfl ?_
   refine p_run _ (x_field (j := 1) _ _ rfl rfl Try.underlying72 rfl (by rfl) rfl) rfl ?_
   refine p_run _ (x_load (.map (some gm)) rfl rfl (bkCell (HS.get (.tail _ (.head _))) 1 _ rfl) (by rfl)) rfl ?_
   refine p_run _ (x_move (.int .i64 i) rfl rfl) rfl ?_
   refine m_lookup (l' := (.pointer (some ⟨D, 0, none⟩) :: .int .i64 i :: undef :: undef :: .pointer (some ⟨g5, 0, none⟩) :: .int .i64 0 :: .pointer (some ⟨g13, 0, none⟩) :: .int .i64 0 :: undef :: undef :: .tuple [.agg ((nums .u8 (S.at i))).toArray, .int .i64 0].toArray :: .pointer (some ⟨D, 0, none⟩) :: .int .i64 i :: .tuple [.agg ((nums .u8 (S.at i))).toArray, .int .i64 0].toArray :: .agg ((nums .u8 (S.at i))).toArray :: .int .i64 0 :: .int .i64 0 :: .bool false :: undef :: undef :: .pointer (some ⟨D, 0, none⟩) :: .pointer (some ⟨D, 0, none⟩) :: .pointer (some ⟨D, 1, none⟩) :: .map (some gm) :: .int .i64 i :: .int .i64 (S.bad i) :: U16vdisk2 (undef :: undef :: undef :: []))) (HS.get (.tail _ (.tail _ (.tail _ (.head _))))) rfl rfl (idx_bd hS ht) rfl ?_
   refine p_run _ (x_cmp (k := .i64) (m := (S.bad i)) (n := 0) .gtr true rfl rfl rfl hb rfl) rfl ?_
   refine wpList_nil ?_
   refine hK26 _ _ ?_
   refine c_true rfl ?_
   refine wp_seq_k (fun K29 hK30 => ?_)
   refine c_region (fun ops32 hops31 => ?_)
   clear hops31
   refine p_run _ (x_build ((nums .u8 zpg)) rfl (by kernel_rfl)) rfl ?_
   refine St.stores (cs' := ((nums .u8 zpg))) (HS.front 5 rfl) ((nums .u8 zpg)) 256 rfl rfl (nums_one _ _) (by kernel_rfl) (by simp [nums_length, zlen]) (by simp [nums_length, zlen]) (lay_all _ _ (by simp [nums_length, zlen])) ?_
   clear HS
   intro w33 HS
   refine p_run _ (x_assign (.int .i64 43) rfl rfl) rfl ?_
   refine wpList_nil ?_
   refine hK30 _ _ ?_
   refine wp_ret ?_
   try simp only [Exit.inBlock, Exit.then]
   refine c_ret (.tuple [.agg ((nums .u8 zpg)).toArray, .int .i64 43].toArray) (r_ct rfl rfl (run_loadVar_aggn (by rfl) ((nums .u8 zpg)) 256 (by kernel_rfl) (by simp [nums_length, zlen]) (bkCells (HS.get (.head _)) 0 _ (whole _))) rfl) ?_
   have e1 : S.readP i = zpg := by unfold Dk.readP; rw [if_pos ht, if_pos hb0]
   have e2 : S.readE i = 43 := by unfold Dk.readE; rw [if_pos ht, if_pos hb0]
   rw [e1, e2]
   exact ⟨rfl, ((((HS.drop.drop.front 3 rfl).front 3 rfl).front 3 rfl).front 3 rfl)⟩
  ·have hb : decide (S.bad i > 0) = false := decide_eq_false hb0
   refine c_enter Try.func13 rfl 45 rfl (.pointer (some ⟨D, 0, none⟩) :: .int .i64 i :: U32vdisk2 (U8vdisk2 (undef :: undef :: undef :: []))) rfl ?_
   refine wp_seq_k (fun K1 hK2 => ?_)
   refine c_region (fun ops4 hops3 => ?_)
   clear hops3
   refine St.wAlloc HS (cs := ((nums .u8 zpg))) (.agg ((nums .u8 zpg)).toArray) (by kernel_rfl) rfl ?_
   clear HS
   intro g5 w6 hg7 HS
   refine p_run _ (x_assign (.int .i64 0) rfl rfl) rfl ?_
   refine wpList_nil ?_
   refine hK2 _ _ ?_
   refine wp_seq_k (fun K8 hK9 => ?_)
   refine c_region (fun ops11 hops10 => ?_)
   clear hops10
   refine p_run _ (x_move (.pointer (some ⟨D, 0, none⟩)) rfl rfl) rfl ?_
   refine p_run _ (x_move (.int .i64 i) rfl rfl) rfl ?_
   refine w_call [.pointer (some ⟨D, 0, none⟩), .int .i64 i] Try.func28 (by kernel_rfl) (by rfl) rfl ?_
   replace HS := ((((HS.front 4 rfl).front 4 rfl).front 4 rfl).front 4 rfl)
   refine (stable_yes HS hS i ht).mono ?_
   clear HS
   rintro e w12 ⟨rfl, HS⟩
   refine ⟨_, rfl, ?_⟩
   refine p_run _ (x_move (.tuple [.agg ((nums .u8 (S.at i))).toArray, .int .i64 0].toArray) rfl rfl) rfl ?_
   refine p_run _ (x_extract (vs := [.agg ((nums .u8 (S.at i))).toArray, .int .i64 0]) 0 (.agg ((nums .u8 (S.at i))).toArray) rfl rfl rfl) rfl ?_
   refine p_run _ (x_extract (vs := [.agg ((nums .u8 (S.at i))).toArray, .int .i64 0]) 1 (.int .i64 0) rfl rfl rfl) rfl ?_
   refine St.wAlloc HS (cs := ((nums .u8 zpg))) (.agg ((nums .u8 zpg)).toArray) (by kernel_rfl) rfl ?_
   clear HS
   intro g13 w14 hg15 HS
   refine fr_to (l' := (.pointer (some ⟨D, 0, none⟩) :: .int .i64 i :: undef :: undef :: .pointer (some ⟨g5, 0, none⟩) :: .int .i64 0 :: .pointer (some ⟨g13, 0, none⟩) :: undef :: undef :: undef :: .tuple [.agg ((nums .u8 (S.at i))).toArray, .int .i64 0].toArray :: .pointer (some ⟨D, 0, none⟩) :: .int .i64 i :: .tuple [.agg ((nums .u8 (S.at i))).toArray, .int .i64 0].toArray :: .agg ((nums .u8 (S.at i))).toArray :: .int .i64 0 :: U16vdisk2 (U8vdisk2 (U4vdisk2 (undef :: []))))) rfl ?_
   refine St.stores (cs' := ((nums .u8 (S.at i)))) HS ((nums .u8 (S.at i))) 256 rfl rfl (nums_one _ _) (by kernel_rfl) (by simp [at_len hS, nums_length]) (by simp [at_len hS, nums_length, zlen]) (lay_all _ _ (by simp [at_len hS, nums_length, zlen])) ?_
   clear HS
   intro w16 HS
   refine p_run _ (x_assign (.int .i64 0) rfl rfl) rfl ?_
   refine wpList_nil ?_
   refine hK9 _ _ ?_
   refine wp_seq_k (fun K17 hK18 => ?_)
   refine wp_seq_k (fun K19 hK20 => ?_)
   refine c_region (fun ops22 hops21 => ?_)
   clear hops21
   refine p_run _ (x_move (.int .i64 0) rfl rfl) rfl ?_
   refine p_run _ (x_cmp (k := .i64) (m := 0) (n := 0) .neq false rfl rfl rfl (by decide) rfl) rfl ?_
   refine wpList_nil ?_
   refine hK20 _ _ ?_
   refine c_false rfl ?_
   refine wp_skip ?_
   refine hK18 _ _ ?_
   refine wp_seq_k (fun K23 hK24 => ?_)
   refine wp_seq_k (fun K25 hK26 => ?_)
   refine c_region (fun ops28 hops27 => ?_)
   clear hops27
   refine p_run _ (x_move (.pointer (some ⟨D, 0, none⟩)) rfl rfl) rfl ?_
   refine p_run _ (x_nil rfl rfl) rfl ?_
   refine p_run _ (x_field (j := 1) _ _ rfl rfl Try.underlying72 rfl (by rfl) rfl) rfl ?_
   refine p_run _ (x_load (.map (some gm)) rfl rfl (bkCell (HS.get (.tail _ (.head _))) 1 _ rfl) (by rfl)) rfl ?_
   refine p_run _ (x_move (.int .i64 i) rfl rfl) rfl ?_
   refine m_lookup (l' := (.pointer (some ⟨D, 0, none⟩) :: .int .i64 i :: undef :: undef :: .pointer (some ⟨g5, 0, none⟩) :: .int .i64 0 :: .pointer (some ⟨g13, 0, none⟩) :: .int .i64 0 :: undef :: undef :: .tuple [.agg ((nums .u8 (S.at i))).toArray, .int .i64 0].toArray :: .pointer (some ⟨D, 0, none⟩) :: .int .i64 i :: .tuple [.agg ((nums .u8 (S.at i))).toArray, .int .i64 0].toArray :: .agg ((nums .u8 (S.at i))).toArray :: .int .i64 0 :: .int .i64 0 :: .bool false :: undef :: undef :: .pointer (some ⟨D, 0, none⟩) :: .pointer (some ⟨D, 0, none⟩) :: .pointer (some ⟨D, 1, none⟩) :: .map (some gm) :: .int .i64 i :: .int .i64 (S.bad i) :: U16vdisk2 (undef :: undef :: undef :: []))) (HS.get (.tail _ (.tail _ (.tail _ (.head _))))) rfl rfl (idx_bd hS ht) rfl ?_
   refine p_run _ (x_cmp (k := .i64) (m := (S.bad i)) (n := 0) .gtr false rfl rfl rfl hb rfl) rfl ?_
   refine wpList_nil ?_
   refine hK26 _ _ ?_
   refine c_false rfl ?_
   refine wp_skip ?_
   refine hK24 _ _ ?_
   refine wp_seq_k (fun K29 hK30 => ?_)
   refine wp_seq_k (fun K31 hK32 => ?_)
   refine c_region (fun ops34 hops33 => ?_)
   clear hops33
   refine p_run _ (x_move (.pointer (some ⟨D, 0, none⟩)) rfl rfl) rfl ?_
   refine p_run _ (x_nil rfl rfl) rfl ?_
   refine p_run _ (x_field (j := 2) _ _ rfl rfl Try.underlying72 rfl (by rfl) rfl) rfl ?_
   refine p_run _ (x_load (.slice A S.pending.length c) rfl rfl (bkCell (HS.get (.tail _ (.head _))) 2 _ rfl) (by rfl)) rfl ?_
   refine p_run _ (x_len rfl rfl Try.underlying70) rfl ?_
   refine p_run _ (x_move (.int .i64 0) rfl rfl) rfl ?_
   refine wpList_nil ?_
   obtain ⟨qz35, hqz35⟩ : ∃ q_ : V8, q_ = ⟨.int .i64 0, .bool false, undef, undef, .pointer (some ⟨D, 0, none⟩), .pointer (some ⟨D, 0, none⟩), .pointer (some ⟨D, 1, none⟩), .map (some gm)⟩ := ⟨_, rfl⟩
   refine fr_at (l' := (.pointer (some ⟨D, 0, none⟩) :: .int .i64 i :: undef :: undef :: .pointer (some ⟨g5, 0, none⟩) :: .int .i64 0 :: .pointer (some ⟨g13, 0, none⟩) :: .int .i64 0 :: undef :: undef :: .tuple [.agg ((nums .u8 (S.at i))).toArray, .int .i64 0].toArray :: .pointer (some ⟨D, 0, none⟩) :: .int .i64 i :: .tuple [.agg ((nums .u8 (S.at i))).toArray, .int .i64 0].toArray :: .agg ((nums .u8 (S.at i))).toArray :: .int .i64 0 :: V8.l qz35 (.int .i64 i :: .int .i64 (S.bad i) :: .bool false :: undef :: .pointer (some ⟨D, 0, none⟩) :: .pointer (some ⟨D, 0, none⟩) :: .pointer (some ⟨D, 2, none⟩) :: .slice A S.pending.length c :: .int .i64 (S.pending.length : Int) :: .int .i64 0 :: U8vdisk2 (undef :: undef :: undef :: [])))) (by subst hqz35; rfl) ?_
   refine hK32 _ _ ?_
   refine wp_block ?_
   refine c_loop (ι := Nat × List Int) (fun i_ a_ w_ => match i_ with | (j, out) => ∃ (u9 : Value) (u34 : Value) (u35 : Value) (u36 : Value) (u37 : Value) (u38 : Value) (u39 : Value) (u40 : Value) (u41 : Value) (u42 : Value) (u43 : Value), a_ = fr (.pointer (some ⟨D, 0, none⟩) :: .int .i64 i :: undef :: undef :: .pointer (some ⟨g5, 0, none⟩) :: .int .i64 0 :: .pointer (some ⟨g13, 0, none⟩) :: .int .i64 0 :: undef :: u9 :: .tuple [.agg ((nums .u8 (S.at i))).toArray, .int .i64 0].toArray :: .pointer (some ⟨D, 0, none⟩) :: .int .i64 i :: .tuple [.agg ((nums .u8 (S.at i))).toArray, .int .i64 0].toArray :: .agg ((nums .u8 (S.at i))).toArray :: .int .i64 0 :: V8.l qz35 (.int .i64 i :: .int .i64 (S.bad i) :: .bool false :: undef :: .pointer (some ⟨D, 0, none⟩) :: .pointer (some ⟨D, 0, none⟩) :: .pointer (some ⟨D, 2, none⟩) :: .slice A S.pending.length c :: .int .i64 (S.pending.length : Int) :: .int .i64 (j : Int) :: u34 :: u35 :: u36 :: u37 :: u38 :: u39 :: u40 :: u41 :: u42 :: u43 :: undef :: [])) ∧ St w0 F w_ (blk g13 ((nums .u8 out)) 38 :: blk D [.slice (some ⟨gs, 0, none⟩) S.stable.length S.stable.length, .map (some gm), .slice A S.pending.length c, .int .i64 S.left, .bool S.down] 72 :: blk gs (pgs S.stable) 38 :: mapR gm S.cnt S.bad :: row kWr rfl 78 (.slice A S.pending.length c) S.pending :: blk g5 ((nums .u8 zpg)) 38 :: L) ∧ (lastW (S.pending.drop j) i out = lastW S.pending i (S.at i) ∧ out.length = 256)) (fun i_ => match i_ with | (j, out) => S.pending.length - j) (0, S.at i) ?_ ?_
   ·exact ⟨_, _, _, _, _, _, _, _, _, _, _, rfl, ((((((HS.front 5 rfl).front 5 rfl).front 5 rfl).front 5 rfl).front 5 rfl).front 5 rfl), ⟨rfl, at_len hS⟩⟩
   ·clear HS
    rintro ⟨j, out⟩ a_ w38 ⟨u9, u34, u35, u36, u37, u38, u39, u40, u41, u42, u43, rfl, HS, hI⟩ J36 hJ37
    refine wp_seq_k (fun K39 hK40 => ?_)
    refine c_region (fun ops42 hops41 => ?_)
    clear hops41
    refine p_run _ (x_cmp (k := .i64) (m := (j : Int)) (n := (S.pending.length : Int)) .lss (decide ((j : Int) < (S.pending.length : Int))) rfl rfl rfl rfl rfl) rfl ?_
    refine wpList_nil ?_
    refine hK40 _ _ ?_
    refine wp_seq_k (fun K43 hK44 => ?_)
    refine c_cond (t := decide ((j : Int) < (S.pending.length : Int))) rfl (fun hc45 => ?_) (fun hc45 => ?_)
    ·have hlt : j < S.pending.length := by have := of_decide_eq_true hc45; omega
     have hC := (row_C (HS.get (.tail _ (.tail _ (.tail _ (.tail _ (.head _))))))).2.2
     obtain ⟨ad, x, rfl, hx, hx2, hcell⟩ := wr_get hC j hlt
     obtain ⟨hI1, hout⟩ := hI
     rw [List.drop_eq_getElem_cons hlt, show S.pending[j] = x from (List.getElem?_eq_some_iff.1 hx).2] at hI1
     refine wp_skip ?_
     refine hK44 _ _ ?_
     refine wp_seq_k (fun K46 hK47 => ?_)
     refine wp_block ?_
     refine wp_seq_k (fun K48 hK49 => ?_)
     refine c_region (fun ops51 hops50 => ?_)
     clear hops50
     refine p_run _ (x_index (A := ad) (j := j * 257) (sz := 257) rfl rfl rfl Try.underlying70 (by kernel_rfl) (by omega) rfl) rfl ?_
     refine p_run _ (x_loads (Value.int .i64 x.1 :: (nums .u8 x.2)) 257 rfl rfl hcell (by rfl) (by kernel_rfl) (by simp [hx2, nums_length])) rfl ?_
     refine St.wAlloc HS (cs := (Value.int .i64 0 :: (nums .u8 zpg))) (.agg (Value.int .i64 0 :: (nums .u8 zpg)).toArray) (by kernel_rfl) rfl ?_
     clear HS
     intro g52 w53 hg54 HS
     refine St.stores (cs' := (Value.int .i64 x.1 :: (nums .u8 x.2))) HS (Value.int .i64 x.1 :: (nums .u8 x.2)) 257 rfl rfl (all1 rfl (nums_one _ _)) (by kernel_rfl) (by simp [hx2, nums_length]) (by simp [hx2, nums_length, zlen]) (lay_all _ _ (by simp [hx2, nums_length, zlen])) ?_
     clear HS
     intro w55 HS
     refine wpList_nil ?_
     refine hK49 _ _ ?_
     refine wp_seq_k (fun K56 hK57 => ?_)
     refine c_region (fun ops59 hops58 => ?_)
     clear hops58
     refine p_run _ (x_field (j := 0) _ _ rfl rfl Try.underlying78 rfl (by rfl) rfl) rfl ?_
     refine p_run _ (x_load (.int .i64 x.1) rfl rfl (bkCell (HS.get (.head _)) 0 _ rfl) (by rfl)) rfl ?_
     refine p_run _ (x_move (.int .i64 i) rfl rfl) rfl ?_
     refine p_run _ (x_cmp (k := .i64) (m := x.1) (n := i) .eql (x.1 == i) rfl rfl rfl rfl rfl) rfl ?_
     refine wpList_nil ?_
     refine fr_at (l' := (.pointer (some ⟨D, 0, none⟩) :: .int .i64 i :: undef :: undef :: .pointer (some ⟨g5, 0, none⟩) :: .int .i64 0 :: .pointer (some ⟨g13, 0, none⟩) :: .int .i64 0 :: undef :: .pointer (some ⟨g52, 0, none⟩) :: .tuple [.agg ((nums .u8 (S.at i))).toArray, .int .i64 0].toArray :: .pointer (some ⟨D, 0, none⟩) :: .int .i64 i :: .tuple [.agg ((nums .u8 (S.at i))).toArray, .int .i64 0].toArray :: .agg ((nums .u8 (S.at i))).toArray :: .int .i64 0 :: V8.l qz35 (.int .i64 i :: .int .i64 (S.bad i) :: .bool false :: undef :: .pointer (some ⟨D, 0, none⟩) :: .pointer (some ⟨D, 0, none⟩) :: .pointer (some ⟨D, 2, none⟩) :: .slice (some ad) S.pending.length c :: .int .i64 (S.pending.length : Int) :: .int .i64 (j : Int) :: .bool (decide ((j : Int) < (S.pending.length : Int))) :: .pointer (some ((ad).add (j * 257))) :: .agg (Value.int .i64 x.1 :: (nums .u8 x.2)).toArray :: .pointer (some ⟨g52, 0, none⟩) :: .int .i64 x.1 :: .int .i64 i :: .bool (x.1 == i) :: u41 :: u42 :: u43 :: undef :: []))) rfl ?_
     refine hK57 _ _ ?_
     refine c_cond (t := (x.1 == i)) rfl (fun hc60 => ?_) (fun hc60 => ?_)
     ·have hxi : x.1 = i := by simpa using hc60
      refine c_region (fun ops62 hops61 => ?_)
      clear hops61
      refine p_run _ (x_field (j := 1) _ _ rfl rfl Try.underlying78 rfl (by rfl) rfl) rfl ?_
      refine p_run _ (x_loads ((nums .u8 x.2)) 256 rfl rfl (bkCells (HS.get (.head _)) 1 _ (by simp)) (by rfl) (by kernel_rfl) (by simp [hx2, nums_length])) rfl ?_
      refine St.stores (cs' := ((nums .u8 x.2))) (HS.front 1 rfl) ((nums .u8 x.2)) 256 rfl rfl (nums_one _ _) (by kernel_rfl) (by simp [hx2, nums_length]) (by simp [hout, hx2, nums_length]) (lay_all _ _ (by simp [hout, hx2, nums_length])) ?_
      clear HS
      intro w63 HS
      refine wpList_nil ?_
      refine hK47 _ _ ?_
      refine c_region (fun ops65 hops64 => ?_)
      clear hops64
      refine p_run _ (x_arith (k := .i64) (m := (j : Int)) (n := 1) .add (((j + 1 : Nat) : Int)) rfl rfl rfl (show IntKind.i64.wrap ((j : Int) + 1) = ((j + 1 : Nat) : Int) from ((wr64 (by omega)).trans (by omega))) rfl) rfl ?_
      refine p_run _ (x_move (.int .i64 ((j + 1 : Nat) : Int)) rfl rfl) rfl ?_
      refine wpList_nil ?_
      refine fr_at (l' := (.pointer (some ⟨D, 0, none⟩) :: .int .i64 i :: undef :: undef :: .pointer (some ⟨g5, 0, none⟩) :: .int .i64 0 :: .pointer (some ⟨g13, 0, none⟩) :: .int .i64 0 :: undef :: .pointer (some ⟨g52, 0, none⟩) :: .tuple [.agg ((nums .u8 (S.at i))).toArray, .int .i64 0].toArray :: .pointer (some ⟨D, 0, none⟩) :: .int .i64 i :: .tuple [.agg ((nums .u8 (S.at i))).toArray, .int .i64 0].toArray :: .agg ((nums .u8 (S.at i))).toArray :: .int .i64 0 :: V8.l qz35 (.int .i64 i :: .int .i64 (S.bad i) :: .bool false :: undef :: .pointer (some ⟨D, 0, none⟩) :: .pointer (some ⟨D, 0, none⟩) :: .pointer (some ⟨D, 2, none⟩) :: .slice (some ad) S.pending.length c :: .int .i64 (S.pending.length : Int) :: .int .i64 ((j + 1 : Nat) : Int) :: .bool (decide ((j : Int) < (S.pending.length : Int))) :: .pointer (some ((ad).add (j * 257))) :: .agg (Value.int .i64 x.1 :: (nums .u8 x.2)).toArray :: .pointer (some ⟨g52, 0, none⟩) :: .int .i64 x.1 :: .int .i64 i :: .bool (x.1 == i) :: .pointer (some ⟨g52, 1, none⟩) :: .agg ((nums .u8 x.2)).toArray :: .int .i64 ((j + 1 : Nat) : Int) :: undef :: []))) rfl ?_
      refine hJ37 (j + 1, x.2) _ _ ?_ ?_
      ·show S.pending.length - (j + 1) < S.pending.length - j; omega
      ·exact ⟨_, _, _, _, _, _, _, _, _, _, _, rfl, (((((((HS.front 1 rfl).drop.front 5 rfl).front 5 rfl).front 5 rfl).front 5 rfl).front 5 rfl).front 5 rfl), ⟨(by rw [← hI1]; show _ = lastW _ _ (if x.1 = i then x.2 else out); rw [if_pos hxi]), hx2⟩⟩
     ·have hxi : ¬ x.1 = i := by simpa using hc60
      refine wp_skip ?_
      refine hK47 _ _ ?_
      refine c_region (fun ops67 hops66 => ?_)
      clear hops66
      refine p_run _ (x_arith (k := .i64) (m := (j : Int)) (n := 1) .add (((j + 1 : Nat) : Int)) rfl rfl rfl (show IntKind.i64.wrap ((j : Int) + 1) = ((j + 1 : Nat) : Int) from ((wr64 (by omega)).trans (by omega))) rfl) rfl ?_
      refine p_run _ (x_move (.int .i64 ((j + 1 : Nat) : Int)) rfl rfl) rfl ?_
      refine wpList_nil ?_
      refine fr_at (l' := (.pointer (some ⟨D, 0, none⟩) :: .int .i64 i :: undef :: undef :: .pointer (some ⟨g5, 0, none⟩) :: .int .i64 0 :: .pointer (some ⟨g13, 0, none⟩) :: .int .i64 0 :: undef :: .pointer (some ⟨g52, 0, none⟩) :: .tuple [.agg ((nums .u8 (S.at i))).toArray, .int .i64 0].toArray :: .pointer (some ⟨D, 0, none⟩) :: .int .i64 i :: .tuple [.agg ((nums .u8 (S.at i))).toArray, .int .i64 0].toArray :: .agg ((nums .u8 (S.at i))).toArray :: .int .i64 0 :: V8.l qz35 (.int .i64 i :: .int .i64 (S.bad i) :: .bool false :: undef :: .pointer (some ⟨D, 0, none⟩) :: .pointer (some ⟨D, 0, none⟩) :: .pointer (some ⟨D, 2, none⟩) :: .slice (some ad) S.pending.length c :: .int .i64 (S.pending.length : Int) :: .int .i64 ((j + 1 : Nat) : Int) :: .bool (decide ((j : Int) < (S.pending.length : Int))) :: .pointer (some ((ad).add (j * 257))) :: .agg (Value.int .i64 x.1 :: (nums .u8 x.2)).toArray :: .pointer (some ⟨g52, 0, none⟩) :: .int .i64 x.1 :: .int .i64 i :: .bool (x.1 == i) :: u41 :: u42 :: .int .i64 ((j + 1 : Nat) : Int) :: undef :: []))) rfl ?_
      refine hJ37 (j + 1, out) _ _ ?_ ?_
      ·show S.pending.length - (j + 1) < S.pending.length - j; omega
      ·exact ⟨_, _, _, _, _, _, _, _, _, _, _, rfl, ((((((HS.drop.front 5 rfl).front 5 rfl).front 5 rfl).front 5 rfl).front 5 rfl).front 5 rfl), ⟨(by rw [← hI1]; show _ = lastW _ _ (if x.1 = i then x.2 else out); rw [if_neg hxi]), hout⟩⟩
    ·have hlt : ¬ j < S.pending.length := by have := of_decide_eq_false hc45; omega
     obtain ⟨hI1, hout⟩ := hI
     rw [List.drop_of_length_le (by omega)] at hI1
     refine wp_exit ?_
     refine hK30 _ _ ?_
     refine wp_seq_k (fun K68 hK69 => ?_)
     refine c_region (fun ops71 hops70 => ?_)
     clear hops70
     refine p_run _ (x_loads ((nums .u8 out)) 256 rfl rfl (bkCells (HS.get (.head _)) 0 _ (whole _)) (by rfl) (by kernel_rfl) (by simp [hout, nums_length])) rfl ?_
     refine St.stores (cs' := ((nums .u8 out))) (HS.front 5 rfl) ((nums .u8 out)) 256 rfl rfl (nums_one _ _) (by kernel_rfl) (by simp [hout, nums_length]) (by simp [hout, nums_length, zlen]) (lay_all _ _ (by simp [hout, nums_length, zlen])) ?_
     clear HS
     intro w72 HS
     refine p_run _ (x_assign (.int .i64 0) rfl rfl) rfl ?_
     refine wpList_nil ?_
     refine hK69 _ _ ?_
     refine wp_ret ?_
     try simp only [Exit.inBlock, Exit.then]
     refine c_ret (.tuple [.agg ((nums .u8 out)).toArray, .int .i64 0].toArray) (r_ct rfl rfl (run_loadVar_aggn (by rfl) ((nums .u8 out)) 256 (by kernel_rfl) (by simp [hout, nums_length]) (bkCells (HS.get (.head _)) 0 _ (whole _))) rfl) ?_
     have e1 : S.readP i = out := by unfold Dk.readP; rw [if_pos ht, if_neg hb0]; exact hI1.symm
     have e2 : S.readE i = 0 := by unfold Dk.readE; rw [if_pos ht, if_neg hb0]
     rw [e1, e2]
     exact ⟨rfl, ((((HS.drop.drop.front 3 rfl).front 3 rfl).front 3 rfl).front 3 rfl)⟩
end
end Go.Proofs.Ytenlkobjldhfgaa
set_option linter.unusedVariables false
set_option linter.unusedSimpArgs false
namespace Go.Proofs.Ytenlkobjldhfgaa
open Go.RowKit Go.Proofs.YtenlkobjldhfgaaW.PrintWords Go.Proofs.YtenlkobjldhfgaaW.PrintLast
abbrev U4vdisk3 (l : List Value) : List Value := undef :: undef :: undef :: undef :: l
abbrev U8vdisk3 (l : List Value) : List Value := U4vdisk3 (U4vdisk3 l)
abbrev U16vdisk3 (l : List Value) : List Value := U8vdisk3 (U8vdisk3 l)
section
variable {w0 W : World} {F : Nat → Prop} {L : List Res} {D gs gm : Nat} {v : Value} {S : Dk}
def Dk.write (S : Dk) (i : Int) (p : List Int) : Dk := if S.there i = true then (if S.acts = true then { S.act with pending := S.act.pending ++ [(i, p)] } else S.act) else S
def Dk.writeE (S : Dk) (i : Int) : Int := if S.there i = true then S.actE else 41
theorem act_stable : S.act.stable = S.stable := by unfold Dk.act; split <;> rfl
theorem act_pending : S.act.pending = S.pending := by unfold Dk.act; split <;> rfl
theorem act_cnt : S.act.cnt = S.cnt := by unfold Dk.act; split <;> rfl
theorem actE_eq : S.actE = if S.acts = true then 0 else 42 := rfl
theorem act_ok (h : S.ok) : S.act.ok := by
 obtain ⟨h1, h2, h3, h4, h5⟩ := h
 refine ⟨by rw [act_stable]; exact h1, by rw [act_stable]; exact h2, ?_, ?_, by rw [act_stable, act_pending]; exact h5⟩ <;> (unfold Dk.act; split <;> dsimp only <;> (try split) <;> omega)
set_option maxRecDepth 10000 in
set_option maxHeartbeats 1000000 in
theorem write_any (HS : St w0 F W (dsk D gs gm v S L)) (hl : -1 ≤ S.left ∧ S.left < 9223372036854775808) (hpn : S.pending.length < 1000000) (i : Int) (p : List Int) (hp : p.length = 256) : Calls Try.prog 14 #[.pointer (some ⟨D, 0, none⟩), .int .i64 i, .agg ((nums .u8 p)).toArray] W fun e w' => ∃ v', e = .returned (.int .i64 (S.writeE i)) ∧ St w0 F w' (dsk D gs gm v' (S.write i p) L) := by
 rcases ht : S.there i with _ | _
 ·refine c_enter Try.func14 rfl 29 rfl (.pointer (some ⟨D, 0, none⟩) :: .int .i64 i :: .agg ((nums .u8 p)).toArray :: U16vdisk3 (U8vdisk3 (undef :: undef :: []))) rfl ?_
  refine wp_seq_k (fun K1 hK2 => ?_)
  refine c_region (fun ops4 hops3 => ?_)
  clear hops3
  refine St.wBox HS (cs := ((nums .u8 p))) (.agg ((nums .u8 p)).toArray) rfl rfl ?_
  clear HS
  intro g5 w6 hg7 HS
  refine p_run _ (x_assign (.int .i64 0) rfl rfl) rfl ?_
  refine wpList_nil ?_
  refine hK2 _ _ ?_
  refine wp_seq_k (fun K8 hK9 => ?_)
  refine wp_seq_k (fun K10 hK11 => ?_)
  refine c_region (fun ops13 hops12 => ?_)
  clear hops12
  refine p_run _ (x_move (.pointer (some ⟨D, 0, none⟩)) rfl rfl) rfl ?_
  refine p_run _ (x_move (.int .i64 i) rfl rfl) rfl ?_
  refine w_call [.pointer (some ⟨D, 0, none⟩), .int .i64 i] Try.func33 (by kernel_rfl) (by rfl) rfl ?_
  replace HS := ((((HS.front 4 rfl).front 4 rfl).front 4 rfl).front 4 rfl)
  refine (there_as HS i false ht).mono ?_
  rintro e w' ⟨rfl, rfl⟩
  refine ⟨_, rfl, ?_⟩
  refine p_run _ (x_not false rfl rfl) rfl ?_
  refine wpList_nil ?_
  refine hK11 _ _ ?_
  refine c_true rfl ?_
  refine wp_seq_k (fun K14 hK15 => ?_)
  refine c_region (fun ops17 hops16 => ?_)
  clear hops16
  refine p_run _ (x_assign (.int .i64 41) rfl rfl) rfl ?_
  refine wpList_nil ?_
  refine fr_at (l' := (.pointer (some ⟨D, 0, none⟩) :: .int .i64 i :: .agg ((nums .u8 p)).toArray :: undef :: undef :: .pointer (some ⟨g5, 0, none⟩) :: .int .i64 41 :: undef :: .pointer (some ⟨D, 0, none⟩) :: .int .i64 i :: .bool false :: .bool true :: U16vdisk3 (undef :: []))) rfl ?_
  refine hK15 _ _ ?_
  refine wp_ret ?_
  try simp only [Exit.inBlock, Exit.then]
  refine c_ret (.int .i64 41) (r_tmp rfl rfl) ?_
  have e1 : S.write i p = S := by unfold Dk.write; rw [if_neg (by simp [ht])]
  have e2 : S.writeE i = 41 := if_neg (by simp [ht])
  rw [e1, e2]
  exact ⟨v, rfl, (((((HS.front 4 rfl).drop.front 3 rfl).front 3 rfl).front 3 rfl).front 3 rfl)⟩
 ·rcases ha : S.acts with _ | _
  ·have he : S.actE = 42 := by rw [actE_eq, if_neg (by simp [ha])]
   refine c_enter Try.func14 rfl 29 rfl (.pointer (some ⟨D, 0, none⟩) :: .int .i64 i :: .agg ((nums .u8 p)).toArray :: U16vdisk3 (U8vdisk3 (undef :: undef :: []))) rfl ?_
   refine wp_seq_k (fun K1 hK2 => ?_)
   refine c_region (fun ops4 hops3 => ?_)
   clear hops3
   refine St.wBox HS (cs := ((nums .u8 p))) (.agg ((nums .u8 p)).toArray) rfl rfl ?_
   clear HS
   intro g5 w6 hg7 HS
   refine p_run _ (x_assign (.int .i64 0) rfl rfl) rfl ?_
   refine wpList_nil ?_
   refine hK2 _ _ ?_
   refine wp_seq_k (fun K8 hK9 => ?_)
   refine wp_seq_k (fun K10 hK11 => ?_)
   refine c_region (fun ops13 hops12 => ?_)
   clear hops12
   refine p_run _ (x_move (.pointer (some ⟨D, 0, none⟩)) rfl rfl) rfl ?_
   refine p_run _ (x_move (.int .i64 i) rfl rfl) rfl ?_
   refine w_call [.pointer (some ⟨D, 0, none⟩), .int .i64 i] Try.func33 (by kernel_rfl) (by rfl) rfl ?_
   replace HS := ((((HS.front 4 rfl).front 4 rfl).front 4 rfl).front 4 rfl)
   refine (there_as HS i true ht).mono ?_
   rintro e w' ⟨rfl, rfl⟩
   refine ⟨_, rfl, ?_⟩
   refine p_run _ (x_not true rfl rfl) rfl ?_
   refine wpList_nil ?_
   refine hK11 _ _ ?_
   refine c_false rfl ?_
   refine wp_skip ?_
   refine hK9 _ _ ?_
   refine wp_seq_k (fun K14 hK15 => ?_)
   refine c_region (fun ops17 hops16 => ?_)
   clear hops16
   refine p_run _ (x_move (.pointer (some ⟨D, 0, none⟩)) rfl rfl) rfl ?_
   refine w_call [.pointer (some ⟨D, 0, none⟩)] Try.func34 (by kernel_rfl) (by rfl) rfl ?_
   replace HS := ((((HS.front 3 rfl).front 3 rfl).front 3 rfl).front 3 rfl)
   refine (act_as HS hl 42 he).mono ?_
   clear HS
   rintro e w18 ⟨rfl, HS⟩
   generalize hS1 : S.act = S1 at HS
   refine ⟨_, rfl, ?_⟩
   refine p_run (l' := (.pointer (some ⟨D, 0, none⟩) :: .int .i64 i :: .agg ((nums .u8 p)).toArray :: undef :: undef :: .pointer (some ⟨g5, 0, none⟩) :: .int .i64 0 :: .int .i64 42 :: .pointer (some ⟨D, 0, none⟩) :: .int .i64 i :: .bool true :: .bool false :: .pointer (some ⟨D, 0, none⟩) :: .int .i64 42 :: U8vdisk3 (U4vdisk3 (undef :: undef :: undef :: [])))) _ (x_assign (.int .i64 42) rfl rfl) rfl ?_
   refine wpList_nil ?_
   refine hK15 _ _ ?_
   refine wp_seq_k (fun K19 hK20 => ?_)
   refine wp_seq_k (fun K21 hK22 => ?_)
   refine c_region (fun ops24 hops23 => ?_)
   clear hops23
   refine p_run _ (x_move (.int .i64 42) rfl rfl) rfl ?_
   refine p_run _ (x_cmp (k := .i64) (m := 42) (n := 0) .eql false rfl rfl rfl (by decide) rfl) rfl ?_
   refine wpList_nil ?_
   refine hK22 _ _ ?_
   refine c_false rfl ?_
   refine wp_skip ?_
   refine hK20 _ _ ?_
   refine wp_seq_k (fun K25 hK26 => ?_)
   refine c_region (fun ops28 hops27 => ?_)
   clear hops27
   refine p_run _ (x_move (.int .i64 42) rfl rfl) rfl ?_
   refine p_run _ (x_assign (.int .i64 42) rfl rfl) rfl ?_
   refine wpList_nil ?_
   refine hK26 _ _ ?_
   refine wp_ret ?_
   try simp only [Exit.inBlock, Exit.then]
   refine c_ret (.int .i64 42) (r_tmp rfl rfl) ?_
   subst hS1
   have e1 : S.write i p = S.act := by unfold Dk.write; rw [if_pos ht, if_neg (by simp [ha])]
   have e2 : S.writeE i = 42 := by unfold Dk.writeE; rw [if_pos ht, he]
   rw [e1, e2]
   exact ⟨v, rfl, (((((HS.front 4 rfl).drop.front 3 rfl).front 3 rfl).front 3 rfl).front 3 rfl)⟩
  ·have he : S.actE = 0 := by rw [actE_eq, if_pos ha]
   refine c_enter Try.func14 rfl 29 rfl (.pointer (some ⟨D, 0, none⟩) :: .int .i64 i :: .agg ((nums .u8 p)).toArray :: U16vdisk3 (U8vdisk3 (undef :: undef :: []))) rfl ?_
   refine wp_seq_k (fun K1 hK2 => ?_)
   refine c_region (fun ops4 hops3 => ?_)
   clear hops3
   refine St.wBox HS (cs := ((nums .u8 p))) (.agg ((nums .u8 p)).toArray) rfl rfl ?_
   clear HS
   intro g5 w6 hg7 HS
   refine p_run _ (x_assign (.int .i64 0) rfl rfl) rfl ?_
   refine wpList_nil ?_
   refine hK2 _ _ ?_
   refine wp_seq_k (fun K8 hK9 => ?_)
   refine wp_seq_k (fun K10 hK11 => ?_)
   refine c_region (fun ops13 hops12 => ?_)
   clear hops12
   refine p_run _ (x_move (.pointer (some ⟨D, 0, none⟩)) rfl rfl) rfl ?_
   refine p_run _ (x_move (.int .i64 i) rfl rfl) rfl ?_
   refine w_call [.pointer (some ⟨D, 0, none⟩), .int .i64 i] Try.func33 (by kernel_rfl) (by rfl) rfl ?_
   replace HS := ((((HS.front 4 rfl).front 4 rfl).front 4 rfl).front 4 rfl)
   refine (there_as HS i true ht).mono ?_
   rintro e w' ⟨rfl, rfl⟩
   refine ⟨_, rfl, ?_⟩
   refine p_run _ (x_not true rfl rfl) rfl ?_
   refine wpList_nil ?_
   refine hK11 _ _ ?_
   refine c_false rfl ?_
   refine wp_skip ?_
   refine hK9 _ _ ?_
   refine wp_seq_k (fun K14 hK15 => ?_)
   refine c_region (fun ops17 hops16 => ?_)
   clear hops16
   refine p_run _ (x_move (.pointer (some ⟨D, 0, none⟩)) rfl rfl) rfl ?_
   refine w_call [.pointer (some ⟨D, 0, none⟩)] Try.func34 (by kernel_rfl) (by rfl) rfl ?_
   replace HS := ((((HS.front 3 rfl).front 3 rfl).front 3 rfl).front 3 rfl)
   refine (act_as HS hl 0 he).mono ?_
   clear HS
   rintro e w18 ⟨rfl, HS⟩
   generalize hS1 : S.act = S1 at HS
   refine ⟨_, rfl, ?_⟩
   refine p_run (l' := (.pointer (some ⟨D, 0, none⟩) :: .int .i64 i :: .agg ((nums .u8 p)).toArray :: undef :: undef :: .pointer (some ⟨g5, 0, none⟩) :: .int .i64 0 :: .int .i64 0 :: .pointer (some ⟨D, 0, none⟩) :: .int .i64 i :: .bool true :: .bool false :: .pointer (some ⟨D, 0, none⟩) :: .int .i64 0 :: U8vdisk3 (U4vdisk3 (undef :: undef :: undef :: [])))) _ (x_assign (.int .i64 0) rfl rfl) rfl ?_
   refine wpList_nil ?_
   refine hK15 _ _ ?_
   refine wp_seq_k (fun K19 hK20 => ?_)
   refine wp_seq_k (fun K21 hK22 => ?_)
   refine c_region (fun ops24 hops23 => ?_)
   clear hops23
   refine p_run _ (x_move (.int .i64 0) rfl rfl) rfl ?_
   refine p_run _ (x_cmp (k := .i64) (m := 0) (n := 0) .eql true rfl rfl rfl (by decide) rfl) rfl ?_
   refine wpList_nil ?_
   refine hK22 _ _ ?_
   refine c_true rfl ?_
   refine free_frame (n := 13) (T := _) [0, 0, 2, 6, 14, 0, 0, 96, 224, 510, 1023, 2047, 4095] [(0, 16), (1, 17), (2, 18), (3, 19), (4, 20), (5, 21), (6, 22), (7, 23), (8, 24), (9, 25), (10, 26), (11, 27)] (fun bq_ vq_ w_ => qv ((fun i_ => match i_ with | 0 => some (.pointer (some ⟨D, 0, none⟩)) | 1 => some (.pointer (some ⟨D, 0, none⟩)) | 2 => some (.pointer (some ⟨D, 0, none⟩)) | 3 => some (.pointer (some ⟨D, 2, none⟩)) | 4 => some (v) | 5 => some (.int .i64 i) | 6 => some (.agg ((nums .u8 p)).toArray) | 7 => some (.agg (Value.int .i64 i :: (nums .u8 p)).toArray) | 10 => some (.pointer (some ⟨D, 0, none⟩)) | 11 => some (.pointer (some ⟨D, 2, none⟩)) | _ => none) : Nat → Option Value) bq_ vq_ ∧ cond (bq_ 12) (∃ (g27 : Nat) (v30 : Value), vq_ 8 = .slice (some ⟨g27, 0, none⟩) 1 1 ∧ vq_ 9 = v30 ∧ St w0 F w_ (blk D [.slice (some ⟨gs, 0, none⟩) S1.stable.length S1.stable.length, .map (some gm), v30, .int .i64 S1.left, .bool S1.down] 72 :: row kWr rfl 78 v30 (S1.pending ++ [(i, p)]) :: blk g27 (Value.int .i64 i :: (nums .u8 p)) 78 :: blk gs (pgs S1.stable) 38 :: mapR gm S1.cnt S1.bad :: blk g5 ((nums .u8 p)) 38 :: L)) (cond (bq_ 9) (∃ (g27 : Nat) (v30 : Value), vq_ 8 = .slice (some ⟨g27, 0, none⟩) 1 1 ∧ vq_ 9 = v30 ∧ St w0 F w_ (row kWr rfl 78 v30 (S1.pending ++ [(i, p)]) :: blk g27 (Value.int .i64 i :: (nums .u8 p)) 78 :: blk D [.slice (some ⟨gs, 0, none⟩) S1.stable.length S1.stable.length, .map (some gm), v, .int .i64 S1.left, .bool S1.down] 72 :: blk gs (pgs S1.stable) 38 :: mapR gm S1.cnt S1.bad :: blk g5 ((nums .u8 p)) 38 :: L)) (cond (bq_ 8) (∃ (g27 : Nat), vq_ 8 = .slice (some ⟨g27, 0, none⟩) 1 1 ∧ St w0 F w_ (blk g27 (Value.int .i64 i :: (nums .u8 p)) 78 :: blk D [.slice (some ⟨gs, 0, none⟩) S1.stable.length S1.stable.length, .map (some gm), v, .int .i64 S1.left, .bool S1.down] 72 :: blk gs (pgs S1.stable) 38 :: mapR gm S1.cnt S1.bad :: row kWr rfl 78 v S1.pending :: blk g5 ((nums .u8 p)) 38 :: L)) ((St w0 F w_ (blk D [.slice (some ⟨gs, 0, none⟩) S1.stable.length S1.stable.length, .map (some gm), v, .int .i64 S1.left, .bool S1.down] 72 :: blk gs (pgs S1.stable) 38 :: mapR gm S1.cnt S1.bad :: row kWr rfl 78 v S1.pending :: blk g5 ((nums .u8 p)) 38 :: L)))))) (by kernel_rfl) rfl rfl (by kernel_rfl) (by kernel_rfl) rfl (by kernel_rfl) (by kernel_rfl) ⟨qv_none, HS.draw⟩ ?_ ?_
   ·clear HS
    intro i_ hi_ bq_ vq_ a_ w_ hG hb_ hon hoff hfr hel hval
    obtain ⟨hV, hE⟩ := hG
    have hi_ := List.mem_range.1 hi_
    have hcs : i_ = 0 ∨ i_ = 1 ∨ i_ = 2 ∨ i_ = 3 ∨ i_ = 4 ∨ i_ = 5 ∨ i_ = 6 ∨ i_ = 7 ∨ i_ = 8 ∨ i_ = 9 ∨ i_ = 10 ∨ i_ = 11 ∨ i_ = 12 := by omega
    rcases hcs with rfl | rfl | rfl | rfl | rfl | rfl | rfl | rfl | rfl | rfl | rfl | rfl | rfl
    ·have h0 : a_.tmps[0]? = some (.pointer (some ⟨D, 0, none⟩)) := (hel 0 (by decide)).trans rfl
     obtain ⟨l_, rfl⟩ := hfr
     have e0 : evl l_ (.tmp 0) = .pointer (some ⟨D, 0, none⟩) := evl_of h0
     refine ⟨_, rfl, fun K_ hK_ => wp_of_list rfl ?_⟩
     intro ops_
     refine p_run _ (x_move (.pointer (some ⟨D, 0, none⟩)) rfl e0) rfl ?_
     refine wpList_nil ?_
     exact norm_put (hK_ (.pointer (some ⟨D, 0, none⟩)) _ ⟨qv_up hV (fun _ h => Option.some.inj h), hE⟩)
    ·have h0 : a_.tmps[0]? = some (.pointer (some ⟨D, 0, none⟩)) := (hel 0 (by decide)).trans rfl
     obtain ⟨l_, rfl⟩ := hfr
     have e0 : evl l_ (.tmp 0) = .pointer (some ⟨D, 0, none⟩) := evl_of h0
     refine ⟨_, rfl, fun K_ hK_ => wp_of_list rfl ?_⟩
     intro ops_
     refine p_run _ (x_move (.pointer (some ⟨D, 0, none⟩)) rfl e0) rfl ?_
     refine wpList_nil ?_
     exact norm_put (hK_ (.pointer (some ⟨D, 0, none⟩)) _ ⟨qv_up hV (fun _ h => Option.some.inj h), hE⟩)
    ·have h17 : a_.tmps[17]? = some (.pointer (some ⟨D, 0, none⟩)) := (hval (1, 17) (by decide) (hon 1 (by decide))).trans (congrArg some (hV 1 _ rfl (hon 1 (by decide))))
     obtain ⟨l_, rfl⟩ := hfr
     have e17 : evl l_ (.tmp 17) = .pointer (some ⟨D, 0, none⟩) := evl_of h17
     refine ⟨_, rfl, fun K_ hK_ => wp_of_list rfl ?_⟩
     intro ops_
     refine p_run _ (x_nil rfl e17) rfl ?_
     refine wpList_nil ?_
     exact norm_put (hK_ (.pointer (some ⟨D, 0, none⟩)) _ ⟨qv_up hV (fun _ h => Option.some.inj h), hE⟩)
    ·have h18 : a_.tmps[18]? = some (.pointer (some ⟨D, 0, none⟩)) := (hval (2, 18) (by decide) (hon 2 (by decide))).trans (congrArg some (hV 2 _ rfl (hon 2 (by decide))))
     obtain ⟨l_, rfl⟩ := hfr
     have e18 : evl l_ (.tmp 18) = .pointer (some ⟨D, 0, none⟩) := evl_of h18
     refine ⟨_, rfl, fun K_ hK_ => wp_of_list rfl ?_⟩
     intro ops_
     refine p_run _ (x_field (j := 2) _ _ rfl e18 Try.underlying72 rfl (by rfl) rfl) rfl ?_
     refine wpList_nil ?_
     exact norm_put (hK_ (.pointer (some ⟨D, 2, none⟩)) _ ⟨qv_up hV (fun _ h => Option.some.inj h), hE⟩)
    ·have h19 : a_.tmps[19]? = some (.pointer (some ⟨D, 2, none⟩)) := (hval (3, 19) (by decide) (hon 3 (by decide))).trans (congrArg some (hV 3 _ rfl (hon 3 (by decide))))
     obtain ⟨l_, rfl⟩ := hfr
     rcases hq8 : bq_ 8 with _ | _
     ·have hE0 := hE
      rw [show bq_ 12 = false from (hoff 12 (by decide))] at hE0
      rw [show bq_ 9 = false from (hoff 9 (by decide))] at hE0
      rw [show bq_ 8 = false from hq8] at hE0
      simp only [cond_true, cond_false] at hE0
      have HS := hE0
      have e19 : evl l_ (.tmp 19) = .pointer (some ⟨D, 2, none⟩) := evl_of h19
      refine ⟨_, rfl, fun K_ hK_ => wp_of_list rfl ?_⟩
      intro ops_
      refine p_run _ (x_load (v) rfl e19 (bkCell (HS.get (.head _)) 2 _ rfl) (by rfl)) rfl ?_
      refine wpList_nil ?_
      exact norm_put (hK_ (v) _ ⟨qv_up hV (fun _ h => Option.some.inj h), hE⟩)
     ·have hE0 := hE
      rw [show bq_ 12 = false from (hoff 12 (by decide))] at hE0
      rw [show bq_ 9 = false from (hoff 9 (by decide))] at hE0
      rw [show bq_ 8 = true from hq8] at hE0
      simp only [cond_true, cond_false] at hE0
      obtain ⟨g27, hv8, HS⟩ := hE0
      have e19 : evl l_ (.tmp 19) = .pointer (some ⟨D, 2, none⟩) := evl_of h19
      refine ⟨_, rfl, fun K_ hK_ => wp_of_list rfl ?_⟩
      intro ops_
      refine p_run _ (x_load (v) rfl e19 (bkCell (HS.get (.tail _ (.head _))) 2 _ rfl) (by rfl)) rfl ?_
      refine wpList_nil ?_
      exact norm_put (hK_ (v) _ ⟨qv_up hV (fun _ h => Option.some.inj h), hE⟩)
    ·have h1 : a_.tmps[1]? = some (.int .i64 i) := (hel 1 (by decide)).trans rfl
     obtain ⟨l_, rfl⟩ := hfr
     have e1 : evl l_ (.tmp 1) = .int .i64 i := evl_of h1
     refine ⟨_, rfl, fun K_ hK_ => wp_of_list rfl ?_⟩
     intro ops_
     refine p_run _ (x_move (.int .i64 i) rfl e1) rfl ?_
     refine wpList_nil ?_
     exact norm_put (hK_ (.int .i64 i) _ ⟨qv_up hV (fun _ h => Option.some.inj h), hE⟩)
    ·have h5 : a_.tmps[5]? = some (.pointer (some ⟨g5, 0, none⟩)) := (hel 5 (by decide)).trans rfl
     obtain ⟨l_, rfl⟩ := hfr
     have hE0 := hE
     rw [show bq_ 12 = false from (hoff 12 (by decide))] at hE0
     rw [show bq_ 9 = false from (hoff 9 (by decide))] at hE0
     rw [show bq_ 8 = false from (hoff 8 (by decide))] at hE0
     simp only [cond_true, cond_false] at hE0
     have HS := hE0
     have e5 : evl l_ (.tmp 5) = .pointer (some ⟨g5, 0, none⟩) := evl_of h5
     refine ⟨_, rfl, fun K_ hK_ => wp_of_list rfl ?_⟩
     intro ops_
     refine p_run _ (x_loads ((nums .u8 p)) 256 rfl e5 (bkCells (HS.get (.tail _ (.tail _ (.tail _ (.tail _ (.head _)))))) 0 _ (whole _)) (by rfl) (by kernel_rfl) (by simp [hp, nums_length])) rfl ?_
     refine wpList_nil ?_
     exact norm_put (hK_ (.agg ((nums .u8 p)).toArray) _ ⟨qv_up hV (fun _ h => Option.some.inj h), hE⟩)
    ·have h21 : a_.tmps[21]? = some (.int .i64 i) := (hval (5, 21) (by decide) (hon 5 (by decide))).trans (congrArg some (hV 5 _ rfl (hon 5 (by decide))))
     have h22 : a_.tmps[22]? = some (.agg ((nums .u8 p)).toArray) := (hval (6, 22) (by decide) (hon 6 (by decide))).trans (congrArg some (hV 6 _ rfl (hon 6 (by decide))))
     obtain ⟨l_, rfl⟩ := hfr
     have e21 : evl l_ (.tmp 21) = .int .i64 i := evl_of h21
     have e22 : evl l_ (.tmp 22) = .agg ((nums .u8 p)).toArray := evl_of h22
     refine ⟨_, rfl, fun K_ hK_ => wp_of_list rfl ?_⟩
     intro ops_
     refine p_run _ (x_builds [(0, .int .i64 i), (1, .agg ((nums .u8 p)).toArray)] _ (Value.int .i64 0 :: (nums .u8 zpg)) [(0, 1), (1, 256)] (Value.int .i64 i :: (nums .u8 p)) rfl (by simp only [List.map_cons, List.map_nil, e21, e22] <;> rfl) Try.underlying78 (by kernel_rfl) (by kernel_rfl) ((fill_cons (off := 0) (n := 1) (us := [.int .i64 i]) rfl rfl rfl (by simp [lay, hp, nums_length, zlen])).trans ((fill_cons (off := 1) (n := 256) (us := ((nums .u8 p))) rfl rfl (by simp [hp, nums_length]) (by simp [lay, hp, nums_length, zlen])).trans (congrArg (fun c => some (List.toArray c)) (by simp [lay, hp, nums_length, zlen]))))) rfl ?_
     refine wpList_nil ?_
     exact norm_put (hK_ (.agg (Value.int .i64 i :: (nums .u8 p)).toArray) _ ⟨qv_up hV (fun _ h => Option.some.inj h), hE⟩)
    ·have h23 : a_.tmps[23]? = some (.agg (Value.int .i64 i :: (nums .u8 p)).toArray) := (hval (7, 23) (by decide) (hon 7 (by decide))).trans (congrArg some (hV 7 _ rfl (hon 7 (by decide))))
     obtain ⟨l_, rfl⟩ := hfr
     have hE0 := hE
     rw [show bq_ 12 = false from (hoff 12 (by decide))] at hE0
     rw [show bq_ 9 = false from (hoff 9 (by decide))] at hE0
     rw [show bq_ 8 = false from hb_] at hE0
     simp only [cond_true, cond_false] at hE0
     have HS := hE0
     have e23 : evl l_ (.tmp 23) = .agg (Value.int .i64 i :: (nums .u8 p)).toArray := evl_of h23
     refine ⟨_, rfl, fun K_ hK_ => wp_of_list rfl ?_⟩
     intro ops_
     refine St.wLit1 HS (Value.int .i64 i :: (nums .u8 p)) 257 (.agg (Value.int .i64 0 :: (nums .u8 zpg)).toArray) (.agg (Value.int .i64 i :: (nums .u8 p)).toArray) Try.underlying70 (by kernel_rfl) (by decide) e23 rfl (by simp [hp, nums_length]) ?_
     clear HS
     intro g900801 w900802 hg900803 HS
     refine wpList_nil ?_
     refine norm_put (hK_ (.slice (some ⟨g900801, 0, none⟩) 1 1) _ ⟨qv_up hV (by intro _ h; cases h), ?_⟩)
     show cond (bq_ 12) _ _
     rw [show bq_ 12 = false from hoff 12 (by decide), cond_false]
     show cond (bq_ 9) _ _
     rw [show bq_ 9 = false from hoff 9 (by decide), cond_false]
     show cond true _ _
     rw [cond_true]
     exact ⟨g900801, rfl, ((((((HS.front 5 rfl).front 5 rfl).front 5 rfl).front 5 rfl).front 5 rfl).front 5 rfl)⟩
    ·have h20 : a_.tmps[20]? = some (v) := (hval (4, 20) (by decide) (hon 4 (by decide))).trans (congrArg some (hV 4 _ rfl (hon 4 (by decide))))
     have h24 := hval (8, 24) (by decide) (hon 8 (by decide))
     obtain ⟨l_, rfl⟩ := hfr
     have hE0 := hE
     rw [show bq_ 12 = false from (hoff 12 (by decide))] at hE0
     rw [show bq_ 9 = false from hb_] at hE0
     rw [show bq_ 8 = true from (hon 8 (by decide))] at hE0
     simp only [cond_true, cond_false] at hE0
     obtain ⟨g27, hv8, HS⟩ := hE0
     rw [hv8] at h24
     have e20 : evl l_ (.tmp 20) = v := evl_of h20
     have e24 : evl l_ (.tmp 24) = .slice (some ⟨g27, 0, none⟩) 1 1 := evl_of h24
     refine ⟨_, rfl, fun K_ hK_ => wp_of_list rfl ?_⟩
     intro ops_
     replace HS := (HS.front 4 rfl)
     refine St.wAppend HS ((.agg (.int .i64 0 :: nums .u8 zpg).toArray)) 264 Try.underlying70 (by kernel_rfl) (by kernel_rfl) (by decide) (by decide) [(i, p)] _ _ _ e20 e24 (lit_reads (HS.get (.tail _ (.head _))) ((Reps.none _ _).snoc (p := (i, p)) ⟨rfl, hp⟩ (by simp [kWr, flatK, nums_length, hp])) (by simp)) (fun _ _ h => h) (by have := congrArg (fun S => S.pending.length) hS1; simp only [act_pending] at this; simp; omega) ?_
     clear HS
     intro v900901 w900902 HS
     refine wpList_nil ?_
     refine norm_put (hK_ (v900901) _ ⟨qv_up hV (by intro _ h; cases h), ?_⟩)
     show cond (bq_ 12) _ _
     rw [show bq_ 12 = false from hoff 12 (by decide), cond_false]
     show cond true _ _
     rw [cond_true]
     exact ⟨g27, v900901, hv8, rfl, ((((((HS.front 5 rfl).front 5 rfl).front 5 rfl).front 5 rfl).front 5 rfl).front 5 rfl)⟩
    ·have h16 : a_.tmps[16]? = some (.pointer (some ⟨D, 0, none⟩)) := (hval (0, 16) (by decide) (hon 0 (by decide))).trans (congrArg some (hV 0 _ rfl (hon 0 (by decide))))
     obtain ⟨l_, rfl⟩ := hfr
     have e16 : evl l_ (.tmp 16) = .pointer (some ⟨D, 0, none⟩) := evl_of h16
     refine ⟨_, rfl, fun K_ hK_ => wp_of_list rfl ?_⟩
     intro ops_
     refine p_run _ (x_nil rfl e16) rfl ?_
     refine wpList_nil ?_
     exact norm_put (hK_ (.pointer (some ⟨D, 0, none⟩)) _ ⟨qv_up hV (fun _ h => Option.some.inj h), hE⟩)
    ·have h26 : a_.tmps[26]? = some (.pointer (some ⟨D, 0, none⟩)) := (hval (10, 26) (by decide) (hon 10 (by decide))).trans (congrArg some (hV 10 _ rfl (hon 10 (by decide))))
     obtain ⟨l_, rfl⟩ := hfr
     have e26 : evl l_ (.tmp 26) = .pointer (some ⟨D, 0, none⟩) := evl_of h26
     refine ⟨_, rfl, fun K_ hK_ => wp_of_list rfl ?_⟩
     intro ops_
     refine p_run _ (x_field (j := 2) _ _ rfl e26 Try.underlying72 rfl (by rfl) rfl) rfl ?_
     refine wpList_nil ?_
     exact norm_put (hK_ (.pointer (some ⟨D, 2, none⟩)) _ ⟨qv_up hV (fun _ h => Option.some.inj h), hE⟩)
    ·have h25 := hval (9, 25) (by decide) (hon 9 (by decide))
     have h27 : a_.tmps[27]? = some (.pointer (some ⟨D, 2, none⟩)) := (hval (11, 27) (by decide) (hon 11 (by decide))).trans (congrArg some (hV 11 _ rfl (hon 11 (by decide))))
     obtain ⟨l_, rfl⟩ := hfr
     have hE0 := hE
     rw [show bq_ 12 = false from hb_] at hE0
     rw [show bq_ 9 = true from (hon 9 (by decide))] at hE0
     simp only [cond_true, cond_false] at hE0
     obtain ⟨g27, v30, hv8, hv9, HS⟩ := hE0
     rw [hv9] at h25
     have e25 : evl l_ (.tmp 25) = v30 := evl_of h25
     have e27 : evl l_ (.tmp 27) = .pointer (some ⟨D, 2, none⟩) := evl_of h27
     refine ⟨_, rfl, fun K_ hK_ => wp_of_list rfl ?_⟩
     intro ops_
     refine St.store (cs' := [.slice (some ⟨gs, 0, none⟩) S1.stable.length S1.stable.length, .map (some gm), v30, .int .i64 S1.left, .bool S1.down]) (HS.front 2 rfl) (v30) e27 e25 (row_one (HS.get (.head _))) (by kernel_rfl) (by rfl) rfl ?_
     clear HS
     intro w901201 HS
     refine wpList_nil ?_
     refine norm_none (hK_ undef _ ⟨qv_up hV (by intro _ h; cases h), ?_⟩)
     show cond true _ _
     rw [cond_true]
     exact ⟨g27, v30, hv8, hv9, ((((((HS.front 5 rfl).front 5 rfl).front 5 rfl).front 5 rfl).front 5 rfl).front 5 rfl)⟩
   intro bq_ vq_ w_ hall hG
   obtain ⟨hV, hE⟩ := hG
   clear HS
   rw [show bq_ 12 = true from hall 12 (by decide)] at hE
   simp only [cond_true] at hE
   obtain ⟨g27, v30, hv8, hv9, HS⟩ := hE
   have hv0 := hV 0 _ rfl (hall 0 (by decide))
   have hv1 := hV 1 _ rfl (hall 1 (by decide))
   have hv2 := hV 2 _ rfl (hall 2 (by decide))
   have hv3 := hV 3 _ rfl (hall 3 (by decide))
   have hv4 := hV 4 _ rfl (hall 4 (by decide))
   have hv5 := hV 5 _ rfl (hall 5 (by decide))
   have hv6 := hV 6 _ rfl (hall 6 (by decide))
   have hv7 := hV 7 _ rfl (hall 7 (by decide))
   have hv10 := hV 10 _ rfl (hall 10 (by decide))
   have hv11 := hV 11 _ rfl (hall 11 (by decide))
   clear hV hall
   rw [putSel_fr]
   simp only [tells, List.map_cons, List.map_nil, setAll, List.set_cons_succ, List.set_cons_zero, hv0, hv1, hv2, hv3, hv4, hv5, hv6, hv7, hv8, hv9, hv10, hv11]
   clear hv0 hv1 hv2 hv3 hv4 hv5 hv6 hv7 hv8 hv9 hv10 hv11
   generalize w_ = w901202 at HS ⊢
   refine fr_at (l' := (.pointer (some ⟨D, 0, none⟩) :: .int .i64 i :: .agg ((nums .u8 p)).toArray :: undef :: undef :: .pointer (some ⟨g5, 0, none⟩) :: .int .i64 0 :: .int .i64 0 :: .pointer (some ⟨D, 0, none⟩) :: .int .i64 i :: .bool true :: .bool false :: .pointer (some ⟨D, 0, none⟩) :: .int .i64 0 :: .int .i64 0 :: .bool true :: .pointer (some ⟨D, 0, none⟩) :: .pointer (some ⟨D, 0, none⟩) :: .pointer (some ⟨D, 0, none⟩) :: .pointer (some ⟨D, 2, none⟩) :: v :: .int .i64 i :: .agg ((nums .u8 p)).toArray :: .agg (Value.int .i64 i :: (nums .u8 p)).toArray :: .slice (some ⟨g27, 0, none⟩) 1 1 :: v30 :: .pointer (some ⟨D, 0, none⟩) :: .pointer (some ⟨D, 2, none⟩) :: undef :: [])) rfl ?_
   refine hK20 _ _ ?_
   refine wp_seq_k (fun K901203 hK901204 => ?_)
   refine c_region (fun ops901206 hops901205 => ?_)
   clear hops901205
   refine p_run _ (x_move (.int .i64 0) rfl rfl) rfl ?_
   refine p_run _ (x_assign (.int .i64 0) rfl rfl) rfl ?_
   refine wpList_nil ?_
   refine hK901204 _ _ ?_
   refine wp_ret ?_
   try simp only [Exit.inBlock, Exit.then]
   refine c_ret (.int .i64 0) (r_tmp rfl rfl) ?_
   subst hS1
   have e1 : S.write i p = { S.act with pending := S.act.pending ++ [(i, p)] } := by unfold Dk.write; rw [if_pos ht, if_pos ha]
   have e2 : S.writeE i = 0 := by unfold Dk.writeE; rw [if_pos ht, he]
   rw [e1, e2]
   exact ⟨_, rfl, ((((((HS.front 2 rfl).drop.front 4 rfl).drop.front 1 rfl).front 3 rfl).front 3 rfl).front 3 rfl)⟩
end
end Go.Proofs.Ytenlkobjldhfgaa
