/- Package disk: the walks without loops. -/
import Derived.Test.YtenlkobjldhfgaaDk
set_option linter.unusedVariables false
set_option linter.unusedSimpArgs false
namespace Go.Proofs.Ytenlkobjldhfgaa
open Go.RowKit Go.Proofs.YtenlkobjldhfgaaW.PrintWords Go.Proofs.YtenlkobjldhfgaaW.PrintLast
section
variable {w0 W : World} {F : Nat → Prop} {L : List Res} {D gs gm : Nat} {v : Value} {S : Dk}
theorem wr64 {x : Int} (h : -9223372036854775808 ≤ x ∧ x < 9223372036854775808) : IntKind.i64.wrap x = x := by rw [IntKind.wrap_i64]; omega

def Dk.there (S : Dk) (i : Int) : Bool := decide (0 ≤ i ∧ i < (S.stable.length : Int))

set_option maxRecDepth 10000 in
theorem there_any (HS : St w0 F W (dsk D gs gm v S L)) (i : Int) : Calls Try.prog 33 #[.pointer (some ⟨D, 0, none⟩), .int .i64 i] W fun e w' => e = .returned (.bool (S.there i)) ∧ w' = W := by
  by_cases h0 : 0 ≤ i
  · skip
    refine c_enter Try.func33 rfl 16 rfl [.pointer (some ⟨D, 0, none⟩), .int .i64 i, undef, undef, undef, undef, undef, undef, undef, undef, undef, undef, undef, undef, undef, undef] rfl ?_
    refine wp_seq_k (fun K1 hK2 => ?_)
    refine c_region (fun ops4 hops3 => ?_)
    clear hops3
    refine p_run _ (x_assign (.bool false) rfl rfl) rfl ?_
    refine wpList_nil ?_
    refine fr_at (l' := [.pointer (some ⟨D, 0, none⟩), .int .i64 i, undef, undef, .bool false, undef, undef, undef, undef, undef, undef, undef, undef, undef, undef, undef]) rfl ?_
    refine hK2 _ _ ?_
    refine wp_seq_k (fun K5 hK6 => ?_)
    refine c_region (fun ops8 hops7 => ?_)
    refine p_run _ (x_move (.int .i64 i) rfl rfl) rfl ?_
    refine p_run _ (x_cmp (k := .i64) (m := i) (n := 0) .geq true rfl rfl rfl (decide_eq_true h0) rfl) rfl ?_
    refine p_run _ (x_move (.bool true) rfl rfl) rfl ?_
    refine p_on rfl (by rw [hops7]; rfl) ?_
    refine p_run (l' := [.pointer (some ⟨D, 0, none⟩), .int .i64 i, undef, undef, .bool false, .int .i64 i, .bool true, .bool true, .int .i64 i, undef, undef, undef, undef, undef, undef, undef]) _ (x_move (.int .i64 i) rfl rfl) rfl ?_
    refine p_on rfl (by rw [hops7]; rfl) ?_
    refine p_run _ (x_move (.pointer (some ⟨D, 0, none⟩)) rfl rfl) rfl ?_
    refine p_on rfl (by rw [hops7]; rfl) ?_
    refine p_run _ (x_nil rfl rfl) rfl ?_
    refine p_on rfl (by rw [hops7]; rfl) ?_
    refine p_run _ (x_field (j := 0) _ _ rfl rfl Try.underlying72 rfl (by rfl) rfl) rfl ?_
    refine p_on rfl (by rw [hops7]; rfl) ?_
    refine p_run (l' := [.pointer (some ⟨D, 0, none⟩), .int .i64 i, undef, undef, .bool false, .int .i64 i, .bool true, .bool true, .int .i64 i, .pointer (some ⟨D, 0, none⟩), .pointer (some ⟨D, 0, none⟩), .pointer (some ⟨D, 0, none⟩), .slice (some ⟨gs, 0, none⟩) S.stable.length S.stable.length, undef, undef, undef]) _ (x_load (.slice (some ⟨gs, 0, none⟩) S.stable.length S.stable.length) rfl rfl (bkCell (HS.get (.head _)) 0 _ rfl) (by rfl)) rfl ?_
    refine p_on rfl (by rw [hops7]; rfl) ?_
    refine p_run _ (x_len rfl rfl Try.underlying49) rfl ?_
    refine p_on rfl (by rw [hops7]; rfl) ?_
    refine p_run _ (x_cmp (k := .i64) (m := i) (n := (S.stable.length : Int)) .lss (decide (i < (S.stable.length : Int))) rfl rfl rfl rfl rfl) rfl ?_
    refine p_run _ (x_pick true (.bool (decide (i < (S.stable.length : Int)))) (.bool false) (.bool (decide (i < (S.stable.length : Int)))) rfl rfl rfl rfl rfl) rfl ?_
    refine p_run (l' := [.pointer (some ⟨D, 0, none⟩), .int .i64 i, undef, undef, .bool (decide (i < (S.stable.length : Int))), .int .i64 i, .bool true, .bool true, .int .i64 i, .pointer (some ⟨D, 0, none⟩), .pointer (some ⟨D, 0, none⟩), .pointer (some ⟨D, 0, none⟩), .slice (some ⟨gs, 0, none⟩) S.stable.length S.stable.length, .int .i64 (S.stable.length : Int), .bool (decide (i < (S.stable.length : Int))), .bool (decide (i < (S.stable.length : Int)))]) _ (x_assign (.bool (decide (i < (S.stable.length : Int)))) rfl rfl) rfl ?_
    clear hops7
    refine wpList_nil ?_
    refine hK6 _ _ ?_
    refine wp_ret ?_
    try simp only [Exit.inBlock, Exit.then]
    refine c_ret (.bool (decide (i < (S.stable.length : Int)))) (r_tmp rfl rfl) ?_
    refine ⟨?_, rfl⟩
    unfold Dk.there
    simp [h0]
  · skip
    refine c_enter Try.func33 rfl 16 rfl [.pointer (some ⟨D, 0, none⟩), .int .i64 i, undef, undef, undef, undef, undef, undef, undef, undef, undef, undef, undef, undef, undef, undef] rfl ?_
    refine wp_seq_k (fun K1 hK2 => ?_)
    refine c_region (fun ops4 hops3 => ?_)
    clear hops3
    refine p_run _ (x_assign (.bool false) rfl rfl) rfl ?_
    refine wpList_nil ?_
    refine fr_at (l' := [.pointer (some ⟨D, 0, none⟩), .int .i64 i, undef, undef, .bool false, undef, undef, undef, undef, undef, undef, undef, undef, undef, undef, undef]) rfl ?_
    refine hK2 _ _ ?_
    refine wp_seq_k (fun K5 hK6 => ?_)
    refine c_region (fun ops8 hops7 => ?_)
    refine p_run _ (x_move (.int .i64 i) rfl rfl) rfl ?_
    refine p_run _ (x_cmp (k := .i64) (m := i) (n := 0) .geq false rfl rfl rfl (decide_eq_false h0) rfl) rfl ?_
    refine p_run _ (x_move (.bool false) rfl rfl) rfl ?_
    refine p_off (l' := [.pointer (some ⟨D, 0, none⟩), .int .i64 i, undef, undef, .bool false, .int .i64 i, .bool false, .bool false, undef, undef, undef, undef, undef, undef, undef, undef]) (by rw [hops7]; rfl) rfl ?_
    refine p_off (by rw [hops7]; rfl) rfl ?_
    refine p_off (by rw [hops7]; rfl) rfl ?_
    refine p_off (by rw [hops7]; rfl) rfl ?_
    refine p_off (l' := [.pointer (some ⟨D, 0, none⟩), .int .i64 i, undef, undef, .bool false, .int .i64 i, .bool false, .bool false, undef, undef, undef, undef, undef, undef, undef, undef]) (by rw [hops7]; rfl) rfl ?_
    refine p_off (by rw [hops7]; rfl) rfl ?_
    refine p_off (by rw [hops7]; rfl) rfl ?_
    refine p_run _ (x_pick false (undef) (.bool false) (.bool false) rfl rfl rfl rfl rfl) rfl ?_
    refine p_run (l' := [.pointer (some ⟨D, 0, none⟩), .int .i64 i, undef, undef, .bool false, .int .i64 i, .bool false, .bool false, undef, undef, undef, undef, undef, undef, undef, .bool false]) _ (x_assign (.bool false) rfl rfl) rfl ?_
    clear hops7
    refine wpList_nil ?_
    refine hK6 _ _ ?_
    refine wp_ret ?_
    try simp only [Exit.inBlock, Exit.then]
    refine c_ret (.bool false) (r_tmp rfl rfl) ?_
    refine ⟨?_, rfl⟩
    unfold Dk.there
    simp [h0]

/-- One act more: is it done, and what is left. -/
def Dk.acts (S : Dk) : Bool := !S.down && !decide (S.left = 0)
def Dk.act (S : Dk) : Dk := if S.acts then { S with left := if 0 < S.left then S.left - 1 else S.left } else { S with down := true }
def Dk.actE (S : Dk) : Int := if S.acts then 0 else 42

set_option maxRecDepth 10000 in
theorem act_any (HS : St w0 F W (dsk D gs gm v S L)) (hl : -1 ≤ S.left ∧ S.left < 9223372036854775808) : Calls Try.prog 34 #[.pointer (some ⟨D, 0, none⟩)] W fun e w' => e = .returned (.int .i64 S.actE) ∧ St w0 F w' (dsk D gs gm v S.act L) := by
  rcases hd : S.down with _ | _
  · skip
    by_cases hz : S.left = 0
    · skip
      have h1 : (S.left == 0) = true := by simp [hz]
      replace HS : St w0 F W (blk D [.slice (some ⟨gs, 0, none⟩) S.stable.length S.stable.length, .map (some gm), v, .int .i64 S.left, .bool false] 72 :: blk gs (pgs S.stable) 38 :: mapR gm S.cnt S.bad :: row kWr rfl 78 v S.pending :: L) := by rw [← hd]; exact HS
      refine c_enter Try.func34 rfl 31 rfl [.pointer (some ⟨D, 0, none⟩), undef, undef, undef, undef, undef, undef, undef, undef, undef, undef, undef, undef, undef, undef, undef, undef, undef, undef, undef, undef, undef, undef, undef, undef, undef, undef, undef, undef, undef, undef] rfl ?_
      refine wp_seq_k (fun K1 hK2 => ?_)
      refine c_region (fun ops4 hops3 => ?_)
      clear hops3
      refine p_run _ (x_assign (.int .i64 0) rfl rfl) rfl ?_
      refine wpList_nil ?_
      refine fr_at (l' := [.pointer (some ⟨D, 0, none⟩), undef, .int .i64 0, undef, undef, undef, undef, undef, undef, undef, undef, undef, undef, undef, undef, undef, undef, undef, undef, undef, undef, undef, undef, undef, undef, undef, undef, undef, undef, undef, undef]) rfl ?_
      refine hK2 _ _ ?_
      refine wp_seq_k (fun K5 hK6 => ?_)
      refine wp_block ?_
      refine wp_seq_k (fun K7 hK8 => ?_)
      refine c_region (fun ops10 hops9 => ?_)
      refine p_run _ (x_move (.pointer (some ⟨D, 0, none⟩)) rfl rfl) rfl ?_
      refine p_run _ (x_nil rfl rfl) rfl ?_
      refine p_run _ (x_field (j := 4) _ _ rfl rfl Try.underlying72 rfl (by rfl) rfl) rfl ?_
      refine p_run (l' := [.pointer (some ⟨D, 0, none⟩), undef, .int .i64 0, undef, .pointer (some ⟨D, 0, none⟩), .pointer (some ⟨D, 0, none⟩), .pointer (some ⟨D, 4, none⟩), .bool false, undef, undef, undef, undef, undef, undef, undef, undef, undef, undef, undef, undef, undef, undef, undef, undef, undef, undef, undef, undef, undef, undef, undef]) _ (x_load (.bool false) rfl rfl (bkCell (HS.get (.head _)) 4 _ rfl) (by rfl)) rfl ?_
      refine p_run _ (x_move (.bool false) rfl rfl) rfl ?_
      refine p_on rfl (by rw [hops9]; rfl) ?_
      refine p_run _ (x_move (.pointer (some ⟨D, 0, none⟩)) rfl rfl) rfl ?_
      refine p_on rfl (by rw [hops9]; rfl) ?_
      refine p_run _ (x_nil rfl rfl) rfl ?_
      refine p_on rfl (by rw [hops9]; rfl) ?_
      refine p_run (l' := [.pointer (some ⟨D, 0, none⟩), undef, .int .i64 0, undef, .pointer (some ⟨D, 0, none⟩), .pointer (some ⟨D, 0, none⟩), .pointer (some ⟨D, 4, none⟩), .bool false, .bool false, .pointer (some ⟨D, 0, none⟩), .pointer (some ⟨D, 0, none⟩), .pointer (some ⟨D, 3, none⟩), undef, undef, undef, undef, undef, undef, undef, undef, undef, undef, undef, undef, undef, undef, undef, undef, undef, undef, undef]) _ (x_field (j := 3) _ _ rfl rfl Try.underlying72 rfl (by rfl) rfl) rfl ?_
      refine p_on rfl (by rw [hops9]; rfl) ?_
      refine p_run _ (x_load (.int .i64 S.left) rfl rfl (bkCell (HS.get (.head _)) 3 _ rfl) (by rfl)) rfl ?_
      refine p_on rfl (by rw [hops9]; rfl) ?_
      refine p_run _ (x_cmp (k := .i64) (m := S.left) (n := 0) .eql true rfl rfl rfl h1 rfl) rfl ?_
      refine p_run _ (x_pick false (.bool true) (.bool true) (.bool true) rfl rfl rfl rfl rfl) rfl ?_
      refine p_run (l' := [.pointer (some ⟨D, 0, none⟩), undef, .int .i64 0, .bool true, .pointer (some ⟨D, 0, none⟩), .pointer (some ⟨D, 0, none⟩), .pointer (some ⟨D, 4, none⟩), .bool false, .bool false, .pointer (some ⟨D, 0, none⟩), .pointer (some ⟨D, 0, none⟩), .pointer (some ⟨D, 3, none⟩), .int .i64 S.left, .bool true, .bool true, undef, undef, undef, undef, undef, undef, undef, undef, undef, undef, undef, undef, undef, undef, undef, undef]) _ (x_assign (.bool true) rfl rfl) rfl ?_
      clear hops9
      refine wpList_nil ?_
      refine hK8 _ _ ?_
      refine c_true rfl ?_
      refine wp_seq_k (fun K11 hK12 => ?_)
      refine c_region (fun ops14 hops13 => ?_)
      clear hops13
      refine p_run _ (x_move (.pointer (some ⟨D, 0, none⟩)) rfl rfl) rfl ?_
      refine p_run _ (x_nil rfl rfl) rfl ?_
      refine p_run _ (x_field (j := 4) _ _ rfl rfl Try.underlying72 rfl (by rfl) rfl) rfl ?_
      refine St.store (cs' := [.slice (some ⟨gs, 0, none⟩) S.stable.length S.stable.length, .map (some gm), v, .int .i64 S.left, .bool true]) HS (.bool true) rfl rfl rfl (by kernel_rfl) (by rfl) rfl ?_
      clear HS
      intro w15 HS
      refine wpList_nil ?_
      refine fr_at (l' := [.pointer (some ⟨D, 0, none⟩), undef, .int .i64 0, .bool true, .pointer (some ⟨D, 0, none⟩), .pointer (some ⟨D, 0, none⟩), .pointer (some ⟨D, 4, none⟩), .bool false, .bool false, .pointer (some ⟨D, 0, none⟩), .pointer (some ⟨D, 0, none⟩), .pointer (some ⟨D, 3, none⟩), .int .i64 S.left, .bool true, .bool true, .pointer (some ⟨D, 0, none⟩), .pointer (some ⟨D, 0, none⟩), .pointer (some ⟨D, 4, none⟩), undef, undef, undef, undef, undef, undef, undef, undef, undef, undef, undef, undef, undef]) rfl ?_
      refine hK12 _ _ ?_
      refine wp_seq_k (fun K16 hK17 => ?_)
      refine c_region (fun ops19 hops18 => ?_)
      clear hops18
      refine p_run _ (x_assign (.int .i64 42) rfl rfl) rfl ?_
      refine wpList_nil ?_
      refine fr_at (l' := [.pointer (some ⟨D, 0, none⟩), undef, .int .i64 42, .bool true, .pointer (some ⟨D, 0, none⟩), .pointer (some ⟨D, 0, none⟩), .pointer (some ⟨D, 4, none⟩), .bool false, .bool false, .pointer (some ⟨D, 0, none⟩), .pointer (some ⟨D, 0, none⟩), .pointer (some ⟨D, 3, none⟩), .int .i64 S.left, .bool true, .bool true, .pointer (some ⟨D, 0, none⟩), .pointer (some ⟨D, 0, none⟩), .pointer (some ⟨D, 4, none⟩), undef, undef, undef, undef, undef, undef, undef, undef, undef, undef, undef, undef, undef]) rfl ?_
      refine hK17 _ _ ?_
      refine wp_ret ?_
      try simp only [Exit.inBlock, Exit.then]
      refine c_ret (.int .i64 42) (r_tmp rfl rfl) ?_
      have ea : S.acts = false := by unfold Dk.acts; simp [hd, hz]
      have e2 : S.act = { S with left := S.left, down := true } := by unfold Dk.act; rw [ea]; simp
      have e3 : S.actE = 42 := by unfold Dk.actE; rw [ea]; rfl
      rw [e2, e3]
      exact ⟨rfl, ((((HS.front 3 rfl).front 3 rfl).front 3 rfl).front 3 rfl)⟩
    · skip
      have h1 : (S.left == 0) = false := by simp [hz]
      by_cases hp : 0 < S.left
      · skip
        have h2 : decide (S.left > 0) = true := decide_eq_true hp
        replace HS : St w0 F W (blk D [.slice (some ⟨gs, 0, none⟩) S.stable.length S.stable.length, .map (some gm), v, .int .i64 S.left, .bool false] 72 :: blk gs (pgs S.stable) 38 :: mapR gm S.cnt S.bad :: row kWr rfl 78 v S.pending :: L) := by rw [← hd]; exact HS
        refine c_enter Try.func34 rfl 31 rfl [.pointer (some ⟨D, 0, none⟩), undef, undef, undef, undef, undef, undef, undef, undef, undef, undef, undef, undef, undef, undef, undef, undef, undef, undef, undef, undef, undef, undef, undef, undef, undef, undef, undef, undef, undef, undef] rfl ?_
        refine wp_seq_k (fun K1 hK2 => ?_)
        refine c_region (fun ops4 hops3 => ?_)
        clear hops3
        refine p_run _ (x_assign (.int .i64 0) rfl rfl) rfl ?_
        refine wpList_nil ?_
        refine fr_at (l' := [.pointer (some ⟨D, 0, none⟩), undef, .int .i64 0, undef, undef, undef, undef, undef, undef, undef, undef, undef, undef, undef, undef, undef, undef, undef, undef, undef, undef, undef, undef, undef, undef, undef, undef, undef, undef, undef, undef]) rfl ?_
        refine hK2 _ _ ?_
        refine wp_seq_k (fun K5 hK6 => ?_)
        refine wp_block ?_
        refine wp_seq_k (fun K7 hK8 => ?_)
        refine c_region (fun ops10 hops9 => ?_)
        refine p_run _ (x_move (.pointer (some ⟨D, 0, none⟩)) rfl rfl) rfl ?_
        refine p_run _ (x_nil rfl rfl) rfl ?_
        refine p_run _ (x_field (j := 4) _ _ rfl rfl Try.underlying72 rfl (by rfl) rfl) rfl ?_
        refine p_run (l' := [.pointer (some ⟨D, 0, none⟩), undef, .int .i64 0, undef, .pointer (some ⟨D, 0, none⟩), .pointer (some ⟨D, 0, none⟩), .pointer (some ⟨D, 4, none⟩), .bool false, undef, undef, undef, undef, undef, undef, undef, undef, undef, undef, undef, undef, undef, undef, undef, undef, undef, undef, undef, undef, undef, undef, undef]) _ (x_load (.bool false) rfl rfl (bkCell (HS.get (.head _)) 4 _ rfl) (by rfl)) rfl ?_
        refine p_run _ (x_move (.bool false) rfl rfl) rfl ?_
        refine p_on rfl (by rw [hops9]; rfl) ?_
        refine p_run _ (x_move (.pointer (some ⟨D, 0, none⟩)) rfl rfl) rfl ?_
        refine p_on rfl (by rw [hops9]; rfl) ?_
        refine p_run _ (x_nil rfl rfl) rfl ?_
        refine p_on rfl (by rw [hops9]; rfl) ?_
        refine p_run (l' := [.pointer (some ⟨D, 0, none⟩), undef, .int .i64 0, undef, .pointer (some ⟨D, 0, none⟩), .pointer (some ⟨D, 0, none⟩), .pointer (some ⟨D, 4, none⟩), .bool false, .bool false, .pointer (some ⟨D, 0, none⟩), .pointer (some ⟨D, 0, none⟩), .pointer (some ⟨D, 3, none⟩), undef, undef, undef, undef, undef, undef, undef, undef, undef, undef, undef, undef, undef, undef, undef, undef, undef, undef, undef]) _ (x_field (j := 3) _ _ rfl rfl Try.underlying72 rfl (by rfl) rfl) rfl ?_
        refine p_on rfl (by rw [hops9]; rfl) ?_
        refine p_run _ (x_load (.int .i64 S.left) rfl rfl (bkCell (HS.get (.head _)) 3 _ rfl) (by rfl)) rfl ?_
        refine p_on rfl (by rw [hops9]; rfl) ?_
        refine p_run _ (x_cmp (k := .i64) (m := S.left) (n := 0) .eql false rfl rfl rfl h1 rfl) rfl ?_
        refine p_run _ (x_pick false (.bool true) (.bool false) (.bool false) rfl rfl rfl rfl rfl) rfl ?_
        refine p_run (l' := [.pointer (some ⟨D, 0, none⟩), undef, .int .i64 0, .bool false, .pointer (some ⟨D, 0, none⟩), .pointer (some ⟨D, 0, none⟩), .pointer (some ⟨D, 4, none⟩), .bool false, .bool false, .pointer (some ⟨D, 0, none⟩), .pointer (some ⟨D, 0, none⟩), .pointer (some ⟨D, 3, none⟩), .int .i64 S.left, .bool false, .bool false, undef, undef, undef, undef, undef, undef, undef, undef, undef, undef, undef, undef, undef, undef, undef, undef]) _ (x_assign (.bool false) rfl rfl) rfl ?_
        clear hops9
        refine wpList_nil ?_
        refine hK8 _ _ ?_
        refine c_false rfl ?_
        refine wp_seq_k (fun K11 hK12 => ?_)
        refine c_region (fun ops14 hops13 => ?_)
        clear hops13
        refine p_run _ (x_move (.pointer (some ⟨D, 0, none⟩)) rfl rfl) rfl ?_
        refine p_run _ (x_nil rfl rfl) rfl ?_
        refine p_run _ (x_field (j := 3) _ _ rfl rfl Try.underlying72 rfl (by rfl) rfl) rfl ?_
        refine p_run (l' := [.pointer (some ⟨D, 0, none⟩), undef, .int .i64 0, .bool false, .pointer (some ⟨D, 0, none⟩), .pointer (some ⟨D, 0, none⟩), .pointer (some ⟨D, 4, none⟩), .bool false, .bool false, .pointer (some ⟨D, 0, none⟩), .pointer (some ⟨D, 0, none⟩), .pointer (some ⟨D, 3, none⟩), .int .i64 S.left, .bool false, .bool false, undef, undef, undef, undef, .pointer (some ⟨D, 0, none⟩), .pointer (some ⟨D, 0, none⟩), .pointer (some ⟨D, 3, none⟩), .int .i64 S.left, undef, undef, undef, undef, undef, undef, undef, undef]) _ (x_load (.int .i64 S.left) rfl rfl (bkCell (HS.get (.head _)) 3 _ rfl) (by rfl)) rfl ?_
        refine p_run _ (x_cmp (k := .i64) (m := S.left) (n := 0) .gtr true rfl rfl rfl h2 rfl) rfl ?_
        refine p_run _ (x_assign (.bool true) rfl rfl) rfl ?_
        refine wpList_nil ?_
        refine fr_at (l' := [.pointer (some ⟨D, 0, none⟩), undef, .int .i64 0, .bool false, .pointer (some ⟨D, 0, none⟩), .pointer (some ⟨D, 0, none⟩), .pointer (some ⟨D, 4, none⟩), .bool false, .bool false, .pointer (some ⟨D, 0, none⟩), .pointer (some ⟨D, 0, none⟩), .pointer (some ⟨D, 3, none⟩), .int .i64 S.left, .bool false, .bool false, undef, undef, undef, .bool true, .pointer (some ⟨D, 0, none⟩), .pointer (some ⟨D, 0, none⟩), .pointer (some ⟨D, 3, none⟩), .int .i64 S.left, .bool true, undef, undef, undef, undef, undef, undef, undef]) rfl ?_
        refine hK12 _ _ ?_
        refine c_true rfl ?_
        refine c_region (fun ops16 hops15 => ?_)
        clear hops15
        refine p_run _ (x_move (.pointer (some ⟨D, 0, none⟩)) rfl rfl) rfl ?_
        refine p_run _ (x_nil rfl rfl) rfl ?_
        refine p_run _ (x_field (j := 3) _ _ rfl rfl Try.underlying72 rfl (by rfl) rfl) rfl ?_
        refine p_run (l' := [.pointer (some ⟨D, 0, none⟩), undef, .int .i64 0, .bool false, .pointer (some ⟨D, 0, none⟩), .pointer (some ⟨D, 0, none⟩), .pointer (some ⟨D, 4, none⟩), .bool false, .bool false, .pointer (some ⟨D, 0, none⟩), .pointer (some ⟨D, 0, none⟩), .pointer (some ⟨D, 3, none⟩), .int .i64 S.left, .bool false, .bool false, undef, undef, undef, .bool true, .pointer (some ⟨D, 0, none⟩), .pointer (some ⟨D, 0, none⟩), .pointer (some ⟨D, 3, none⟩), .int .i64 S.left, .bool true, .pointer (some ⟨D, 0, none⟩), .pointer (some ⟨D, 0, none⟩), .pointer (some ⟨D, 3, none⟩), .int .i64 S.left, undef, undef, undef]) _ (x_load (.int .i64 S.left) rfl rfl (bkCell (HS.get (.head _)) 3 _ rfl) (by rfl)) rfl ?_
        refine p_run _ (x_arith (k := .i64) (m := S.left) (n := 1) .sub (S.left - 1) rfl rfl rfl (show IntKind.i64.wrap (S.left - 1) = S.left - 1 from (wr64 (by omega))) rfl) rfl ?_
        refine p_run _ (x_nil rfl rfl) rfl ?_
        refine p_run _ (x_field (j := 3) _ _ rfl rfl Try.underlying72 rfl (by rfl) rfl) rfl ?_
        refine St.store (cs' := [.slice (some ⟨gs, 0, none⟩) S.stable.length S.stable.length, .map (some gm), v, .int .i64 (S.left - 1), .bool false]) HS (.int .i64 (S.left - 1)) rfl rfl rfl (by kernel_rfl) (by rfl) rfl ?_
        clear HS
        intro w17 HS
        refine wpList_nil ?_
        refine fr_at (l' := [.pointer (some ⟨D, 0, none⟩), undef, .int .i64 0, .bool false, .pointer (some ⟨D, 0, none⟩), .pointer (some ⟨D, 0, none⟩), .pointer (some ⟨D, 4, none⟩), .bool false, .bool false, .pointer (some ⟨D, 0, none⟩), .pointer (some ⟨D, 0, none⟩), .pointer (some ⟨D, 3, none⟩), .int .i64 S.left, .bool false, .bool false, undef, undef, undef, .bool true, .pointer (some ⟨D, 0, none⟩), .pointer (some ⟨D, 0, none⟩), .pointer (some ⟨D, 3, none⟩), .int .i64 S.left, .bool true, .pointer (some ⟨D, 0, none⟩), .pointer (some ⟨D, 0, none⟩), .pointer (some ⟨D, 3, none⟩), .int .i64 S.left, .int .i64 (S.left - 1), .pointer (some ⟨D, 0, none⟩), .pointer (some ⟨D, 3, none⟩)]) rfl ?_
        refine hK6 _ _ ?_
        refine wp_seq_k (fun K18 hK19 => ?_)
        refine c_region (fun ops21 hops20 => ?_)
        clear hops20
        refine p_run _ (x_assign (.int .i64 0) rfl rfl) rfl ?_
        refine wpList_nil ?_
        refine fr_at (l' := [.pointer (some ⟨D, 0, none⟩), undef, .int .i64 0, .bool false, .pointer (some ⟨D, 0, none⟩), .pointer (some ⟨D, 0, none⟩), .pointer (some ⟨D, 4, none⟩), .bool false, .bool false, .pointer (some ⟨D, 0, none⟩), .pointer (some ⟨D, 0, none⟩), .pointer (some ⟨D, 3, none⟩), .int .i64 S.left, .bool false, .bool false, undef, undef, undef, .bool true, .pointer (some ⟨D, 0, none⟩), .pointer (some ⟨D, 0, none⟩), .pointer (some ⟨D, 3, none⟩), .int .i64 S.left, .bool true, .pointer (some ⟨D, 0, none⟩), .pointer (some ⟨D, 0, none⟩), .pointer (some ⟨D, 3, none⟩), .int .i64 S.left, .int .i64 (S.left - 1), .pointer (some ⟨D, 0, none⟩), .pointer (some ⟨D, 3, none⟩)]) rfl ?_
        refine hK19 _ _ ?_
        refine wp_ret ?_
        try simp only [Exit.inBlock, Exit.then]
        refine c_ret (.int .i64 0) (r_tmp rfl rfl) ?_
        have ea : S.acts = true := by unfold Dk.acts; simp [hd, hz]
        have e2 : S.act = { S with left := S.left - 1, down := false } := by unfold Dk.act; rw [ea]; simp [hp, hd]
        have e3 : S.actE = 0 := by unfold Dk.actE; rw [ea]; rfl
        rw [e2, e3]
        exact ⟨rfl, ((((HS.front 3 rfl).front 3 rfl).front 3 rfl).front 3 rfl)⟩
      · skip
        have h2 : decide (S.left > 0) = false := decide_eq_false hp
        replace HS : St w0 F W (blk D [.slice (some ⟨gs, 0, none⟩) S.stable.length S.stable.length, .map (some gm), v, .int .i64 S.left, .bool false] 72 :: blk gs (pgs S.stable) 38 :: mapR gm S.cnt S.bad :: row kWr rfl 78 v S.pending :: L) := by rw [← hd]; exact HS
        refine c_enter Try.func34 rfl 31 rfl [.pointer (some ⟨D, 0, none⟩), undef, undef, undef, undef, undef, undef, undef, undef, undef, undef, undef, undef, undef, undef, undef, undef, undef, undef, undef, undef, undef, undef, undef, undef, undef, undef, undef, undef, undef, undef] rfl ?_
        refine wp_seq_k (fun K1 hK2 => ?_)
        refine c_region (fun ops4 hops3 => ?_)
        clear hops3
        refine p_run _ (x_assign (.int .i64 0) rfl rfl) rfl ?_
        refine wpList_nil ?_
        refine fr_at (l' := [.pointer (some ⟨D, 0, none⟩), undef, .int .i64 0, undef, undef, undef, undef, undef, undef, undef, undef, undef, undef, undef, undef, undef, undef, undef, undef, undef, undef, undef, undef, undef, undef, undef, undef, undef, undef, undef, undef]) rfl ?_
        refine hK2 _ _ ?_
        refine wp_seq_k (fun K5 hK6 => ?_)
        refine wp_block ?_
        refine wp_seq_k (fun K7 hK8 => ?_)
        refine c_region (fun ops10 hops9 => ?_)
        refine p_run _ (x_move (.pointer (some ⟨D, 0, none⟩)) rfl rfl) rfl ?_
        refine p_run _ (x_nil rfl rfl) rfl ?_
        refine p_run _ (x_field (j := 4) _ _ rfl rfl Try.underlying72 rfl (by rfl) rfl) rfl ?_
        refine p_run (l' := [.pointer (some ⟨D, 0, none⟩), undef, .int .i64 0, undef, .pointer (some ⟨D, 0, none⟩), .pointer (some ⟨D, 0, none⟩), .pointer (some ⟨D, 4, none⟩), .bool false, undef, undef, undef, undef, undef, undef, undef, undef, undef, undef, undef, undef, undef, undef, undef, undef, undef, undef, undef, undef, undef, undef, undef]) _ (x_load (.bool false) rfl rfl (bkCell (HS.get (.head _)) 4 _ rfl) (by rfl)) rfl ?_
        refine p_run _ (x_move (.bool false) rfl rfl) rfl ?_
        refine p_on rfl (by rw [hops9]; rfl) ?_
        refine p_run _ (x_move (.pointer (some ⟨D, 0, none⟩)) rfl rfl) rfl ?_
        refine p_on rfl (by rw [hops9]; rfl) ?_
        refine p_run _ (x_nil rfl rfl) rfl ?_
        refine p_on rfl (by rw [hops9]; rfl) ?_
        refine p_run (l' := [.pointer (some ⟨D, 0, none⟩), undef, .int .i64 0, undef, .pointer (some ⟨D, 0, none⟩), .pointer (some ⟨D, 0, none⟩), .pointer (some ⟨D, 4, none⟩), .bool false, .bool false, .pointer (some ⟨D, 0, none⟩), .pointer (some ⟨D, 0, none⟩), .pointer (some ⟨D, 3, none⟩), undef, undef, undef, undef, undef, undef, undef, undef, undef, undef, undef, undef, undef, undef, undef, undef, undef, undef, undef]) _ (x_field (j := 3) _ _ rfl rfl Try.underlying72 rfl (by rfl) rfl) rfl ?_
        refine p_on rfl (by rw [hops9]; rfl) ?_
        refine p_run _ (x_load (.int .i64 S.left) rfl rfl (bkCell (HS.get (.head _)) 3 _ rfl) (by rfl)) rfl ?_
        refine p_on rfl (by rw [hops9]; rfl) ?_
        refine p_run _ (x_cmp (k := .i64) (m := S.left) (n := 0) .eql false rfl rfl rfl h1 rfl) rfl ?_
        refine p_run _ (x_pick false (.bool true) (.bool false) (.bool false) rfl rfl rfl rfl rfl) rfl ?_
        refine p_run (l' := [.pointer (some ⟨D, 0, none⟩), undef, .int .i64 0, .bool false, .pointer (some ⟨D, 0, none⟩), .pointer (some ⟨D, 0, none⟩), .pointer (some ⟨D, 4, none⟩), .bool false, .bool false, .pointer (some ⟨D, 0, none⟩), .pointer (some ⟨D, 0, none⟩), .pointer (some ⟨D, 3, none⟩), .int .i64 S.left, .bool false, .bool false, undef, undef, undef, undef, undef, undef, undef, undef, undef, undef, undef, undef, undef, undef, undef, undef]) _ (x_assign (.bool false) rfl rfl) rfl ?_
        clear hops9
        refine wpList_nil ?_
        refine hK8 _ _ ?_
        refine c_false rfl ?_
        refine wp_seq_k (fun K11 hK12 => ?_)
        refine c_region (fun ops14 hops13 => ?_)
        clear hops13
        refine p_run _ (x_move (.pointer (some ⟨D, 0, none⟩)) rfl rfl) rfl ?_
        refine p_run _ (x_nil rfl rfl) rfl ?_
        refine p_run _ (x_field (j := 3) _ _ rfl rfl Try.underlying72 rfl (by rfl) rfl) rfl ?_
        refine p_run (l' := [.pointer (some ⟨D, 0, none⟩), undef, .int .i64 0, .bool false, .pointer (some ⟨D, 0, none⟩), .pointer (some ⟨D, 0, none⟩), .pointer (some ⟨D, 4, none⟩), .bool false, .bool false, .pointer (some ⟨D, 0, none⟩), .pointer (some ⟨D, 0, none⟩), .pointer (some ⟨D, 3, none⟩), .int .i64 S.left, .bool false, .bool false, undef, undef, undef, undef, .pointer (some ⟨D, 0, none⟩), .pointer (some ⟨D, 0, none⟩), .pointer (some ⟨D, 3, none⟩), .int .i64 S.left, undef, undef, undef, undef, undef, undef, undef, undef]) _ (x_load (.int .i64 S.left) rfl rfl (bkCell (HS.get (.head _)) 3 _ rfl) (by rfl)) rfl ?_
        refine p_run _ (x_cmp (k := .i64) (m := S.left) (n := 0) .gtr false rfl rfl rfl h2 rfl) rfl ?_
        refine p_run _ (x_assign (.bool false) rfl rfl) rfl ?_
        refine wpList_nil ?_
        refine fr_at (l' := [.pointer (some ⟨D, 0, none⟩), undef, .int .i64 0, .bool false, .pointer (some ⟨D, 0, none⟩), .pointer (some ⟨D, 0, none⟩), .pointer (some ⟨D, 4, none⟩), .bool false, .bool false, .pointer (some ⟨D, 0, none⟩), .pointer (some ⟨D, 0, none⟩), .pointer (some ⟨D, 3, none⟩), .int .i64 S.left, .bool false, .bool false, undef, undef, undef, .bool false, .pointer (some ⟨D, 0, none⟩), .pointer (some ⟨D, 0, none⟩), .pointer (some ⟨D, 3, none⟩), .int .i64 S.left, .bool false, undef, undef, undef, undef, undef, undef, undef]) rfl ?_
        refine hK12 _ _ ?_
        refine c_false rfl ?_
        refine wp_skip ?_
        refine hK6 _ _ ?_
        refine wp_seq_k (fun K15 hK16 => ?_)
        refine c_region (fun ops18 hops17 => ?_)
        clear hops17
        refine p_run _ (x_assign (.int .i64 0) rfl rfl) rfl ?_
        refine wpList_nil ?_
        refine fr_at (l' := [.pointer (some ⟨D, 0, none⟩), undef, .int .i64 0, .bool false, .pointer (some ⟨D, 0, none⟩), .pointer (some ⟨D, 0, none⟩), .pointer (some ⟨D, 4, none⟩), .bool false, .bool false, .pointer (some ⟨D, 0, none⟩), .pointer (some ⟨D, 0, none⟩), .pointer (some ⟨D, 3, none⟩), .int .i64 S.left, .bool false, .bool false, undef, undef, undef, .bool false, .pointer (some ⟨D, 0, none⟩), .pointer (some ⟨D, 0, none⟩), .pointer (some ⟨D, 3, none⟩), .int .i64 S.left, .bool false, undef, undef, undef, undef, undef, undef, undef]) rfl ?_
        refine hK16 _ _ ?_
        refine wp_ret ?_
        try simp only [Exit.inBlock, Exit.then]
        refine c_ret (.int .i64 0) (r_tmp rfl rfl) ?_
        have ea : S.acts = true := by unfold Dk.acts; simp [hd, hz]
        have e2 : S.act = { S with left := S.left, down := false } := by unfold Dk.act; rw [ea]; simp [hp, hd]
        have e3 : S.actE = 0 := by unfold Dk.actE; rw [ea]; rfl
        rw [e2, e3]
        exact ⟨rfl, ((((HS.front 3 rfl).front 3 rfl).front 3 rfl).front 3 rfl)⟩
  · skip
    replace HS : St w0 F W (blk D [.slice (some ⟨gs, 0, none⟩) S.stable.length S.stable.length, .map (some gm), v, .int .i64 S.left, .bool true] 72 :: blk gs (pgs S.stable) 38 :: mapR gm S.cnt S.bad :: row kWr rfl 78 v S.pending :: L) := by rw [← hd]; exact HS
    refine c_enter Try.func34 rfl 31 rfl [.pointer (some ⟨D, 0, none⟩), undef, undef, undef, undef, undef, undef, undef, undef, undef, undef, undef, undef, undef, undef, undef, undef, undef, undef, undef, undef, undef, undef, undef, undef, undef, undef, undef, undef, undef, undef] rfl ?_
    refine wp_seq_k (fun K1 hK2 => ?_)
    refine c_region (fun ops4 hops3 => ?_)
    clear hops3
    refine p_run _ (x_assign (.int .i64 0) rfl rfl) rfl ?_
    refine wpList_nil ?_
    refine fr_at (l' := [.pointer (some ⟨D, 0, none⟩), undef, .int .i64 0, undef, undef, undef, undef, undef, undef, undef, undef, undef, undef, undef, undef, undef, undef, undef, undef, undef, undef, undef, undef, undef, undef, undef, undef, undef, undef, undef, undef]) rfl ?_
    refine hK2 _ _ ?_
    refine wp_seq_k (fun K5 hK6 => ?_)
    refine wp_block ?_
    refine wp_seq_k (fun K7 hK8 => ?_)
    refine c_region (fun ops10 hops9 => ?_)
    refine p_run _ (x_move (.pointer (some ⟨D, 0, none⟩)) rfl rfl) rfl ?_
    refine p_run _ (x_nil rfl rfl) rfl ?_
    refine p_run _ (x_field (j := 4) _ _ rfl rfl Try.underlying72 rfl (by rfl) rfl) rfl ?_
    refine p_run (l' := [.pointer (some ⟨D, 0, none⟩), undef, .int .i64 0, undef, .pointer (some ⟨D, 0, none⟩), .pointer (some ⟨D, 0, none⟩), .pointer (some ⟨D, 4, none⟩), .bool true, undef, undef, undef, undef, undef, undef, undef, undef, undef, undef, undef, undef, undef, undef, undef, undef, undef, undef, undef, undef, undef, undef, undef]) _ (x_load (.bool true) rfl rfl (bkCell (HS.get (.head _)) 4 _ rfl) (by rfl)) rfl ?_
    refine p_run _ (x_move (.bool true) rfl rfl) rfl ?_
    refine p_off (by rw [hops9]; rfl) rfl ?_
    refine p_off (by rw [hops9]; rfl) rfl ?_
    refine p_off (l' := [.pointer (some ⟨D, 0, none⟩), undef, .int .i64 0, undef, .pointer (some ⟨D, 0, none⟩), .pointer (some ⟨D, 0, none⟩), .pointer (some ⟨D, 4, none⟩), .bool true, .bool true, undef, undef, undef, undef, undef, undef, undef, undef, undef, undef, undef, undef, undef, undef, undef, undef, undef, undef, undef, undef, undef, undef]) (by rw [hops9]; rfl) rfl ?_
    refine p_off (by rw [hops9]; rfl) rfl ?_
    refine p_off (by rw [hops9]; rfl) rfl ?_
    refine p_run _ (x_pick true (.bool true) (undef) (.bool true) rfl rfl rfl rfl rfl) rfl ?_
    refine p_run (l' := [.pointer (some ⟨D, 0, none⟩), undef, .int .i64 0, .bool true, .pointer (some ⟨D, 0, none⟩), .pointer (some ⟨D, 0, none⟩), .pointer (some ⟨D, 4, none⟩), .bool true, .bool true, undef, undef, undef, undef, undef, .bool true, undef, undef, undef, undef, undef, undef, undef, undef, undef, undef, undef, undef, undef, undef, undef, undef]) _ (x_assign (.bool true) rfl rfl) rfl ?_
    clear hops9
    refine wpList_nil ?_
    refine hK8 _ _ ?_
    refine c_true rfl ?_
    refine wp_seq_k (fun K11 hK12 => ?_)
    refine c_region (fun ops14 hops13 => ?_)
    clear hops13
    refine p_run _ (x_move (.pointer (some ⟨D, 0, none⟩)) rfl rfl) rfl ?_
    refine p_run _ (x_nil rfl rfl) rfl ?_
    refine p_run _ (x_field (j := 4) _ _ rfl rfl Try.underlying72 rfl (by rfl) rfl) rfl ?_
    refine St.store (cs' := [.slice (some ⟨gs, 0, none⟩) S.stable.length S.stable.length, .map (some gm), v, .int .i64 S.left, .bool true]) HS (.bool true) rfl rfl rfl (by kernel_rfl) (by rfl) rfl ?_
    clear HS
    intro w15 HS
    refine wpList_nil ?_
    refine fr_at (l' := [.pointer (some ⟨D, 0, none⟩), undef, .int .i64 0, .bool true, .pointer (some ⟨D, 0, none⟩), .pointer (some ⟨D, 0, none⟩), .pointer (some ⟨D, 4, none⟩), .bool true, .bool true, undef, undef, undef, undef, undef, .bool true, .pointer (some ⟨D, 0, none⟩), .pointer (some ⟨D, 0, none⟩), .pointer (some ⟨D, 4, none⟩), undef, undef, undef, undef, undef, undef, undef, undef, undef, undef, undef, undef, undef]) rfl ?_
    refine hK12 _ _ ?_
    refine wp_seq_k (fun K16 hK17 => ?_)
    refine c_region (fun ops19 hops18 => ?_)
    clear hops18
    refine p_run _ (x_assign (.int .i64 42) rfl rfl) rfl ?_
    refine wpList_nil ?_
    refine fr_at (l' := [.pointer (some ⟨D, 0, none⟩), undef, .int .i64 42, .bool true, .pointer (some ⟨D, 0, none⟩), .pointer (some ⟨D, 0, none⟩), .pointer (some ⟨D, 4, none⟩), .bool true, .bool true, undef, undef, undef, undef, undef, .bool true, .pointer (some ⟨D, 0, none⟩), .pointer (some ⟨D, 0, none⟩), .pointer (some ⟨D, 4, none⟩), undef, undef, undef, undef, undef, undef, undef, undef, undef, undef, undef, undef, undef]) rfl ?_
    refine hK17 _ _ ?_
    refine wp_ret ?_
    try simp only [Exit.inBlock, Exit.then]
    refine c_ret (.int .i64 42) (r_tmp rfl rfl) ?_
    have ea : S.acts = false := by unfold Dk.acts; simp [hd]
    have e2 : S.act = { S with left := S.left, down := true } := by unfold Dk.act; rw [ea]; simp
    have e3 : S.actE = 42 := by unfold Dk.actE; rw [ea]; rfl
    rw [e2, e3]
    exact ⟨rfl, ((((HS.front 3 rfl).front 3 rfl).front 3 rfl).front 3 rfl)⟩
end
end Go.Proofs.Ytenlkobjldhfgaa
