/- Package disk: Write, Pending, New. -/
import Derived.Test.YtenlkobjldhfgaaDisk2
import Derived.Test.YtenlkobjldhfgaaWkDE
set_option linter.unusedVariables false
set_option linter.unusedSimpArgs false
namespace Go.Proofs.Ytenlkobjldhfgaa
open Go.RowKit Go.Proofs.YtenlkobjldhfgaaW.PrintWords Go.Proofs.YtenlkobjldhfgaaW.PrintLast
section
variable {w0 W : World} {F : Nat → Prop} {L : List Res} {D gs gm : Nat} {v : Value} {S : Dk}
/-- A page is another one. -/
def Dk.write (S : Dk) (i : Int) (p : List Int) : Dk := if S.there i = true then (if S.acts = true then { S.act with pending := S.act.pending ++ [(i, p)] } else S.act) else S
def Dk.writeE (S : Dk) (i : Int) : Int := if S.there i = true then S.actE else 41
theorem act_stable : S.act.stable = S.stable := by unfold Dk.act; split <;> rfl
theorem act_pending : S.act.pending = S.pending := by unfold Dk.act; split <;> rfl
theorem act_bad : S.act.bad = S.bad := by unfold Dk.act; split <;> rfl
theorem act_cnt : S.act.cnt = S.cnt := by unfold Dk.act; split <;> rfl
theorem actE_eq : S.actE = if S.acts = true then 0 else 42 := rfl
theorem act_ok (h : S.ok) : S.act.ok := by
  obtain ⟨h1, h2, h3, h4, h5⟩ := h
  refine ⟨by rw [act_stable]; exact h1, by rw [act_stable]; exact h2, ?_, ?_, by rw [act_stable, act_pending]; exact h5⟩ <;> (unfold Dk.act; split <;> dsimp only <;> (try split) <;> omega)

set_option maxRecDepth 10000 in
set_option maxHeartbeats 1000000 in
theorem write_any (HS : St w0 F W (dsk D gs gm v S L)) (hl : -1 ≤ S.left ∧ S.left < 9223372036854775808) (hpn : S.pending.length < 1000000) (i : Int) (p : List Int) (hp : p.length = 256) : Calls Try.prog 14 #[.pointer (some ⟨D, 0, none⟩), .int .i64 i, .agg ((nums .u8 p)).toArray] W fun e w' => ∃ v', e = .returned (.int .i64 (S.writeE i)) ∧ St w0 F w' (dsk D gs gm v' (S.write i p) L) := by
  rcases ht : S.there i with _ | _
  · skip
    refine c_enter Try.func14 rfl 29 rfl [.pointer (some ⟨D, 0, none⟩), .int .i64 i, .agg ((nums .u8 p)).toArray, undef, undef, undef, undef, undef, undef, undef, undef, undef, undef, undef, undef, undef, undef, undef, undef, undef, undef, undef, undef, undef, undef, undef, undef, undef, undef] rfl ?_
    refine wp_seq_k (fun K1 hK2 => ?_)
    refine c_region (fun ops4 hops3 => ?_)
    clear hops3
    refine St.wBox HS (cs := ((nums .u8 p))) (.agg ((nums .u8 p)).toArray) rfl rfl ?_
    clear HS
    intro g5 w6 hg7 HS
    refine p_run _ (x_assign (.int .i64 0) rfl rfl) rfl ?_
    refine wpList_nil ?_
    refine fr_at (l' := [.pointer (some ⟨D, 0, none⟩), .int .i64 i, .agg ((nums .u8 p)).toArray, undef, undef, .pointer (some ⟨g5, 0, none⟩), .int .i64 0, undef, undef, undef, undef, undef, undef, undef, undef, undef, undef, undef, undef, undef, undef, undef, undef, undef, undef, undef, undef, undef, undef]) rfl ?_
    refine hK2 _ _ ?_
    refine wp_seq_k (fun K8 hK9 => ?_)
    refine wp_seq_k (fun K10 hK11 => ?_)
    refine c_region (fun ops13 hops12 => ?_)
    clear hops12
    refine p_run _ (x_move (.pointer (some ⟨D, 0, none⟩)) rfl rfl) rfl ?_
    refine p_run _ (x_move (.int .i64 i) rfl rfl) rfl ?_
    refine w_call [.pointer (some ⟨D, 0, none⟩), .int .i64 i] Try.func33 (by kernel_rfl) (by rfl) rfl ?_
    replace HS := ((((HS.front 4 rfl).front 4 rfl).front 4 rfl).front 4 rfl)
    refine (there_as HS i false ht).mono ?_
    rintro e w' ⟨rfl, rfl⟩
    refine ⟨_, rfl, ?_⟩
    refine p_run (l' := [.pointer (some ⟨D, 0, none⟩), .int .i64 i, .agg ((nums .u8 p)).toArray, undef, undef, .pointer (some ⟨g5, 0, none⟩), .int .i64 0, undef, .pointer (some ⟨D, 0, none⟩), .int .i64 i, .bool false, .bool true, undef, undef, undef, undef, undef, undef, undef, undef, undef, undef, undef, undef, undef, undef, undef, undef, undef]) _ (x_not false rfl rfl) rfl ?_
    refine wpList_nil ?_
    refine hK11 _ _ ?_
    refine c_true rfl ?_
    refine wp_seq_k (fun K14 hK15 => ?_)
    refine c_region (fun ops17 hops16 => ?_)
    clear hops16
    refine p_run _ (x_assign (.int .i64 41) rfl rfl) rfl ?_
    refine wpList_nil ?_
    refine fr_at (l' := [.pointer (some ⟨D, 0, none⟩), .int .i64 i, .agg ((nums .u8 p)).toArray, undef, undef, .pointer (some ⟨g5, 0, none⟩), .int .i64 41, undef, .pointer (some ⟨D, 0, none⟩), .int .i64 i, .bool false, .bool true, undef, undef, undef, undef, undef, undef, undef, undef, undef, undef, undef, undef, undef, undef, undef, undef, undef]) rfl ?_
    refine hK15 _ _ ?_
    refine wp_ret ?_
    try simp only [Exit.inBlock, Exit.then]
    refine c_ret (.int .i64 41) (r_tmp rfl rfl) ?_
    have e1 : S.write i p = S := by unfold Dk.write; rw [if_neg (by simp [ht])]
    have e2 : S.writeE i = 41 := if_neg (by simp [ht])
    rw [e1, e2]
    exact ⟨v, rfl, (((((HS.front 4 rfl).drop.front 3 rfl).front 3 rfl).front 3 rfl).front 3 rfl)⟩
  · skip
    rcases ha : S.acts with _ | _
    · skip
      have he : S.actE = 42 := by rw [actE_eq, if_neg (by simp [ha])]
      refine c_enter Try.func14 rfl 29 rfl [.pointer (some ⟨D, 0, none⟩), .int .i64 i, .agg ((nums .u8 p)).toArray, undef, undef, undef, undef, undef, undef, undef, undef, undef, undef, undef, undef, undef, undef, undef, undef, undef, undef, undef, undef, undef, undef, undef, undef, undef, undef] rfl ?_
      refine wp_seq_k (fun K1 hK2 => ?_)
      refine c_region (fun ops4 hops3 => ?_)
      clear hops3
      refine St.wBox HS (cs := ((nums .u8 p))) (.agg ((nums .u8 p)).toArray) rfl rfl ?_
      clear HS
      intro g5 w6 hg7 HS
      refine p_run _ (x_assign (.int .i64 0) rfl rfl) rfl ?_
      refine wpList_nil ?_
      refine fr_at (l' := [.pointer (some ⟨D, 0, none⟩), .int .i64 i, .agg ((nums .u8 p)).toArray, undef, undef, .pointer (some ⟨g5, 0, none⟩), .int .i64 0, undef, undef, undef, undef, undef, undef, undef, undef, undef, undef, undef, undef, undef, undef, undef, undef, undef, undef, undef, undef, undef, undef]) rfl ?_
      refine hK2 _ _ ?_
      refine wp_seq_k (fun K8 hK9 => ?_)
      refine wp_seq_k (fun K10 hK11 => ?_)
      refine c_region (fun ops13 hops12 => ?_)
      clear hops12
      refine p_run _ (x_move (.pointer (some ⟨D, 0, none⟩)) rfl rfl) rfl ?_
      refine p_run _ (x_move (.int .i64 i) rfl rfl) rfl ?_
      refine w_call [.pointer (some ⟨D, 0, none⟩), .int .i64 i] Try.func33 (by kernel_rfl) (by rfl) rfl ?_
      replace HS := ((((HS.front 4 rfl).front 4 rfl).front 4 rfl).front 4 rfl)
      refine (there_as HS i true ht).mono ?_
      rintro e w' ⟨rfl, rfl⟩
      refine ⟨_, rfl, ?_⟩
      refine p_run (l' := [.pointer (some ⟨D, 0, none⟩), .int .i64 i, .agg ((nums .u8 p)).toArray, undef, undef, .pointer (some ⟨g5, 0, none⟩), .int .i64 0, undef, .pointer (some ⟨D, 0, none⟩), .int .i64 i, .bool true, .bool false, undef, undef, undef, undef, undef, undef, undef, undef, undef, undef, undef, undef, undef, undef, undef, undef, undef]) _ (x_not true rfl rfl) rfl ?_
      refine wpList_nil ?_
      refine hK11 _ _ ?_
      refine c_false rfl ?_
      refine wp_skip ?_
      refine hK9 _ _ ?_
      refine wp_seq_k (fun K14 hK15 => ?_)
      refine c_region (fun ops17 hops16 => ?_)
      clear hops16
      refine p_run _ (x_move (.pointer (some ⟨D, 0, none⟩)) rfl rfl) rfl ?_
      refine w_call [.pointer (some ⟨D, 0, none⟩)] Try.func34 (by kernel_rfl) (by rfl) rfl ?_
      replace HS := ((((HS.front 3 rfl).front 3 rfl).front 3 rfl).front 3 rfl)
      refine (act_as HS hl 42 he).mono ?_
      clear HS
      rintro e w18 ⟨rfl, HS⟩
      generalize hS1 : S.act = S1 at HS
      refine ⟨_, rfl, ?_⟩
      refine p_run _ (x_assign (.int .i64 42) rfl rfl) rfl ?_
      refine wpList_nil ?_
      refine fr_at (l' := [.pointer (some ⟨D, 0, none⟩), .int .i64 i, .agg ((nums .u8 p)).toArray, undef, undef, .pointer (some ⟨g5, 0, none⟩), .int .i64 0, .int .i64 42, .pointer (some ⟨D, 0, none⟩), .int .i64 i, .bool true, .bool false, .pointer (some ⟨D, 0, none⟩), .int .i64 42, undef, undef, undef, undef, undef, undef, undef, undef, undef, undef, undef, undef, undef, undef, undef]) rfl ?_
      refine hK15 _ _ ?_
      refine wp_seq_k (fun K19 hK20 => ?_)
      refine wp_seq_k (fun K21 hK22 => ?_)
      refine c_region (fun ops24 hops23 => ?_)
      clear hops23
      refine p_run _ (x_move (.int .i64 42) rfl rfl) rfl ?_
      refine p_run _ (x_cmp (k := .i64) (m := 42) (n := 0) .eql false rfl rfl rfl (by decide) rfl) rfl ?_
      refine wpList_nil ?_
      refine fr_at (l' := [.pointer (some ⟨D, 0, none⟩), .int .i64 i, .agg ((nums .u8 p)).toArray, undef, undef, .pointer (some ⟨g5, 0, none⟩), .int .i64 0, .int .i64 42, .pointer (some ⟨D, 0, none⟩), .int .i64 i, .bool true, .bool false, .pointer (some ⟨D, 0, none⟩), .int .i64 42, .int .i64 42, .bool false, undef, undef, undef, undef, undef, undef, undef, undef, undef, undef, undef, undef, undef]) rfl ?_
      refine hK22 _ _ ?_
      refine c_false rfl ?_
      refine wp_skip ?_
      refine hK20 _ _ ?_
      refine wp_seq_k (fun K25 hK26 => ?_)
      refine c_region (fun ops28 hops27 => ?_)
      clear hops27
      refine p_run _ (x_move (.int .i64 42) rfl rfl) rfl ?_
      refine p_run _ (x_assign (.int .i64 42) rfl rfl) rfl ?_
      refine wpList_nil ?_
      refine fr_at (l' := [.pointer (some ⟨D, 0, none⟩), .int .i64 i, .agg ((nums .u8 p)).toArray, undef, undef, .pointer (some ⟨g5, 0, none⟩), .int .i64 42, .int .i64 42, .pointer (some ⟨D, 0, none⟩), .int .i64 i, .bool true, .bool false, .pointer (some ⟨D, 0, none⟩), .int .i64 42, .int .i64 42, .bool false, undef, undef, undef, undef, undef, undef, undef, undef, undef, undef, undef, undef, .int .i64 42]) rfl ?_
      refine hK26 _ _ ?_
      refine wp_ret ?_
      try simp only [Exit.inBlock, Exit.then]
      refine c_ret (.int .i64 42) (r_tmp rfl rfl) ?_
      subst hS1
      have e1 : S.write i p = S.act := by unfold Dk.write; rw [if_pos ht, if_neg (by simp [ha])]
      have e2 : S.writeE i = 42 := by unfold Dk.writeE; rw [if_pos ht, he]
      rw [e1, e2]
      exact ⟨v, rfl, (((((HS.front 4 rfl).drop.front 3 rfl).front 3 rfl).front 3 rfl).front 3 rfl)⟩
    · skip
      have he : S.actE = 0 := by rw [actE_eq, if_pos ha]
      refine c_enter Try.func14 rfl 29 rfl [.pointer (some ⟨D, 0, none⟩), .int .i64 i, .agg ((nums .u8 p)).toArray, undef, undef, undef, undef, undef, undef, undef, undef, undef, undef, undef, undef, undef, undef, undef, undef, undef, undef, undef, undef, undef, undef, undef, undef, undef, undef] rfl ?_
      refine wp_seq_k (fun K1 hK2 => ?_)
      refine c_region (fun ops4 hops3 => ?_)
      clear hops3
      refine St.wBox HS (cs := ((nums .u8 p))) (.agg ((nums .u8 p)).toArray) rfl rfl ?_
      clear HS
      intro g5 w6 hg7 HS
      refine p_run _ (x_assign (.int .i64 0) rfl rfl) rfl ?_
      refine wpList_nil ?_
      refine fr_at (l' := [.pointer (some ⟨D, 0, none⟩), .int .i64 i, .agg ((nums .u8 p)).toArray, undef, undef, .pointer (some ⟨g5, 0, none⟩), .int .i64 0, undef, undef, undef, undef, undef, undef, undef, undef, undef, undef, undef, undef, undef, undef, undef, undef, undef, undef, undef, undef, undef, undef]) rfl ?_
      refine hK2 _ _ ?_
      refine wp_seq_k (fun K8 hK9 => ?_)
      refine wp_seq_k (fun K10 hK11 => ?_)
      refine c_region (fun ops13 hops12 => ?_)
      clear hops12
      refine p_run _ (x_move (.pointer (some ⟨D, 0, none⟩)) rfl rfl) rfl ?_
      refine p_run _ (x_move (.int .i64 i) rfl rfl) rfl ?_
      refine w_call [.pointer (some ⟨D, 0, none⟩), .int .i64 i] Try.func33 (by kernel_rfl) (by rfl) rfl ?_
      replace HS := ((((HS.front 4 rfl).front 4 rfl).front 4 rfl).front 4 rfl)
      refine (there_as HS i true ht).mono ?_
      rintro e w' ⟨rfl, rfl⟩
      refine ⟨_, rfl, ?_⟩
      refine p_run (l' := [.pointer (some ⟨D, 0, none⟩), .int .i64 i, .agg ((nums .u8 p)).toArray, undef, undef, .pointer (some ⟨g5, 0, none⟩), .int .i64 0, undef, .pointer (some ⟨D, 0, none⟩), .int .i64 i, .bool true, .bool false, undef, undef, undef, undef, undef, undef, undef, undef, undef, undef, undef, undef, undef, undef, undef, undef, undef]) _ (x_not true rfl rfl) rfl ?_
      refine wpList_nil ?_
      refine hK11 _ _ ?_
      refine c_false rfl ?_
      refine wp_skip ?_
      refine hK9 _ _ ?_
      refine wp_seq_k (fun K14 hK15 => ?_)
      refine c_region (fun ops17 hops16 => ?_)
      clear hops16
      refine p_run _ (x_move (.pointer (some ⟨D, 0, none⟩)) rfl rfl) rfl ?_
      refine w_call [.pointer (some ⟨D, 0, none⟩)] Try.func34 (by kernel_rfl) (by rfl) rfl ?_
      replace HS := ((((HS.front 3 rfl).front 3 rfl).front 3 rfl).front 3 rfl)
      refine (act_as HS hl 0 he).mono ?_
      clear HS
      rintro e w18 ⟨rfl, HS⟩
      generalize hS1 : S.act = S1 at HS
      refine ⟨_, rfl, ?_⟩
      refine p_run _ (x_assign (.int .i64 0) rfl rfl) rfl ?_
      refine wpList_nil ?_
      refine fr_at (l' := [.pointer (some ⟨D, 0, none⟩), .int .i64 i, .agg ((nums .u8 p)).toArray, undef, undef, .pointer (some ⟨g5, 0, none⟩), .int .i64 0, .int .i64 0, .pointer (some ⟨D, 0, none⟩), .int .i64 i, .bool true, .bool false, .pointer (some ⟨D, 0, none⟩), .int .i64 0, undef, undef, undef, undef, undef, undef, undef, undef, undef, undef, undef, undef, undef, undef, undef]) rfl ?_
      refine hK15 _ _ ?_
      refine wp_seq_k (fun K19 hK20 => ?_)
      refine wp_seq_k (fun K21 hK22 => ?_)
      refine c_region (fun ops24 hops23 => ?_)
      clear hops23
      refine p_run _ (x_move (.int .i64 0) rfl rfl) rfl ?_
      refine p_run _ (x_cmp (k := .i64) (m := 0) (n := 0) .eql true rfl rfl rfl (by decide) rfl) rfl ?_
      refine wpList_nil ?_
      refine fr_at (l' := [.pointer (some ⟨D, 0, none⟩), .int .i64 i, .agg ((nums .u8 p)).toArray, undef, undef, .pointer (some ⟨g5, 0, none⟩), .int .i64 0, .int .i64 0, .pointer (some ⟨D, 0, none⟩), .int .i64 i, .bool true, .bool false, .pointer (some ⟨D, 0, none⟩), .int .i64 0, .int .i64 0, .bool true, undef, undef, undef, undef, undef, undef, undef, undef, undef, undef, undef, undef, undef]) rfl ?_
      refine hK22 _ _ ?_
      refine c_true rfl ?_
      refine free_frame (n := 13) (T := _) [0, 0, 2, 6, 14, 0, 0, 96, 224, 510, 1023, 2047, 4095] [(0, 16), (1, 17), (2, 18), (3, 19), (4, 20), (5, 21), (6, 22), (7, 23), (8, 24), (9, 25), (10, 26), (11, 27)] (fun bq_ vq_ w_ => qv ((fun i_ => match i_ with | 0 => some (.pointer (some ⟨D, 0, none⟩)) | 1 => some (.pointer (some ⟨D, 0, none⟩)) | 2 => some (.pointer (some ⟨D, 0, none⟩)) | 3 => some (.pointer (some ⟨D, 2, none⟩)) | 4 => some (v) | 5 => some (.int .i64 i) | 6 => some (.agg ((nums .u8 p)).toArray) | 7 => some (.agg (Value.int .i64 i :: (nums .u8 p)).toArray) | 10 => some (.pointer (some ⟨D, 0, none⟩)) | 11 => some (.pointer (some ⟨D, 2, none⟩)) | _ => none) : Nat → Option Value) bq_ vq_ ∧ cond (bq_ 12) (∃ (g27 : Nat) (v30 : Value), vq_ 8 = .slice (some ⟨g27, 0, none⟩) 1 1 ∧ vq_ 9 = v30 ∧ St w0 F w_ (blk D [.slice (some ⟨gs, 0, none⟩) S1.stable.length S1.stable.length, .map (some gm), v30, .int .i64 S1.left, .bool S1.down] 72 :: row kWr rfl 78 v30 (S1.pending ++ [(i, p)]) :: blk g27 (Value.int .i64 i :: (nums .u8 p)) 78 :: blk gs (pgs S1.stable) 38 :: mapR gm S1.cnt S1.bad :: blk g5 ((nums .u8 p)) 38 :: L)) (cond (bq_ 9) (∃ (g27 : Nat) (v30 : Value), vq_ 8 = .slice (some ⟨g27, 0, none⟩) 1 1 ∧ vq_ 9 = v30 ∧ St w0 F w_ (row kWr rfl 78 v30 (S1.pending ++ [(i, p)]) :: blk g27 (Value.int .i64 i :: (nums .u8 p)) 78 :: blk D [.slice (some ⟨gs, 0, none⟩) S1.stable.length S1.stable.length, .map (some gm), v, .int .i64 S1.left, .bool S1.down] 72 :: blk gs (pgs S1.stable) 38 :: mapR gm S1.cnt S1.bad :: blk g5 ((nums .u8 p)) 38 :: L)) (cond (bq_ 8) (∃ (g27 : Nat), vq_ 8 = .slice (some ⟨g27, 0, none⟩) 1 1 ∧ St w0 F w_ (blk g27 (Value.int .i64 i :: (nums .u8 p)) 78 :: blk D [.slice (some ⟨gs, 0, none⟩) S1.stable.length S1.stable.length, .map (some gm), v, .int .i64 S1.left, .bool S1.down] 72 :: blk gs (pgs S1.stable) 38 :: mapR gm S1.cnt S1.bad :: row kWr rfl 78 v S1.pending :: blk g5 ((nums .u8 p)) 38 :: L)) ((St w0 F w_ (blk D [.slice (some ⟨gs, 0, none⟩) S1.stable.length S1.stable.length, .map (some gm), v, .int .i64 S1.left, .bool S1.down] 72 :: blk gs (pgs S1.stable) 38 :: mapR gm S1.cnt S1.bad :: row kWr rfl 78 v S1.pending :: blk g5 ((nums .u8 p)) 38 :: L)))))) (by kernel_rfl) rfl rfl (by kernel_rfl) (by kernel_rfl) rfl (by kernel_rfl) (by kernel_rfl) ⟨qv_none, HS.draw⟩ ?_ ?_
      · clear HS
        intro i_ hi_ bq_ vq_ a_ w_ hG hb_ hon hoff hfr hel hval
        obtain ⟨hV, hE⟩ := hG
        have hi_ := List.mem_range.1 hi_
        have hcs : i_ = 0 ∨ i_ = 1 ∨ i_ = 2 ∨ i_ = 3 ∨ i_ = 4 ∨ i_ = 5 ∨ i_ = 6 ∨ i_ = 7 ∨ i_ = 8 ∨ i_ = 9 ∨ i_ = 10 ∨ i_ = 11 ∨ i_ = 12 := by omega
        rcases hcs with rfl | rfl | rfl | rfl | rfl | rfl | rfl | rfl | rfl | rfl | rfl | rfl | rfl
        · have h0 : a_.tmps[0]? = some (.pointer (some ⟨D, 0, none⟩)) := (hel 0 (by decide)).trans rfl
          obtain ⟨l_, rfl⟩ := hfr
          have e0 : evl l_ (.tmp 0) = .pointer (some ⟨D, 0, none⟩) := evl_of h0
          refine ⟨_, rfl, fun K_ hK_ => wp_of_list rfl ?_⟩
          intro ops_
          refine p_run _ (x_move (.pointer (some ⟨D, 0, none⟩)) rfl e0) rfl ?_
          refine wpList_nil ?_
          exact norm_put (hK_ (.pointer (some ⟨D, 0, none⟩)) _ ⟨qv_up hV (fun _ h => Option.some.inj h), hE⟩)
        · have h0 : a_.tmps[0]? = some (.pointer (some ⟨D, 0, none⟩)) := (hel 0 (by decide)).trans rfl
          obtain ⟨l_, rfl⟩ := hfr
          have e0 : evl l_ (.tmp 0) = .pointer (some ⟨D, 0, none⟩) := evl_of h0
          refine ⟨_, rfl, fun K_ hK_ => wp_of_list rfl ?_⟩
          intro ops_
          refine p_run _ (x_move (.pointer (some ⟨D, 0, none⟩)) rfl e0) rfl ?_
          refine wpList_nil ?_
          exact norm_put (hK_ (.pointer (some ⟨D, 0, none⟩)) _ ⟨qv_up hV (fun _ h => Option.some.inj h), hE⟩)
        · have h17 : a_.tmps[17]? = some (.pointer (some ⟨D, 0, none⟩)) := (hval (1, 17) (by decide) (hon 1 (by decide))).trans (congrArg some (hV 1 _ rfl (hon 1 (by decide))))
          obtain ⟨l_, rfl⟩ := hfr
          have e17 : evl l_ (.tmp 17) = .pointer (some ⟨D, 0, none⟩) := evl_of h17
          refine ⟨_, rfl, fun K_ hK_ => wp_of_list rfl ?_⟩
          intro ops_
          refine p_run _ (x_nil rfl e17) rfl ?_
          refine wpList_nil ?_
          exact norm_put (hK_ (.pointer (some ⟨D, 0, none⟩)) _ ⟨qv_up hV (fun _ h => Option.some.inj h), hE⟩)
        · have h18 : a_.tmps[18]? = some (.pointer (some ⟨D, 0, none⟩)) := (hval (2, 18) (by decide) (hon 2 (by decide))).trans (congrArg some (hV 2 _ rfl (hon 2 (by decide))))
          obtain ⟨l_, rfl⟩ := hfr
          have e18 : evl l_ (.tmp 18) = .pointer (some ⟨D, 0, none⟩) := evl_of h18
          refine ⟨_, rfl, fun K_ hK_ => wp_of_list rfl ?_⟩
          intro ops_
          refine p_run _ (x_field (j := 2) _ _ rfl e18 Try.underlying72 rfl (by rfl) rfl) rfl ?_
          refine wpList_nil ?_
          exact norm_put (hK_ (.pointer (some ⟨D, 2, none⟩)) _ ⟨qv_up hV (fun _ h => Option.some.inj h), hE⟩)
        · have h19 : a_.tmps[19]? = some (.pointer (some ⟨D, 2, none⟩)) := (hval (3, 19) (by decide) (hon 3 (by decide))).trans (congrArg some (hV 3 _ rfl (hon 3 (by decide))))
          obtain ⟨l_, rfl⟩ := hfr
          rcases hq8 : bq_ 8 with _ | _
          · skip
            have hE0 := hE
            rw [show bq_ 12 = false from (hoff 12 (by decide))] at hE0
            rw [show bq_ 9 = false from (hoff 9 (by decide))] at hE0
            rw [show bq_ 8 = false from hq8] at hE0
            simp only [cond_true, cond_false] at hE0
            have HS := hE0
            have e19 : evl l_ (.tmp 19) = .pointer (some ⟨D, 2, none⟩) := evl_of h19
            refine ⟨_, rfl, fun K_ hK_ => wp_of_list rfl ?_⟩
            intro ops_
            refine p_run _ (x_load (v) rfl e19 (bkCell (HS.get (.head _)) 2 _ rfl) (by rfl)) rfl ?_
            refine wpList_nil ?_
            exact norm_put (hK_ (v) _ ⟨qv_up hV (fun _ h => Option.some.inj h), hE⟩)
          · have hE0 := hE
            rw [show bq_ 12 = false from (hoff 12 (by decide))] at hE0
            rw [show bq_ 9 = false from (hoff 9 (by decide))] at hE0
            rw [show bq_ 8 = true from hq8] at hE0
            simp only [cond_true, cond_false] at hE0
            obtain ⟨g27, hv8, HS⟩ := hE0
            have e19 : evl l_ (.tmp 19) = .pointer (some ⟨D, 2, none⟩) := evl_of h19
            refine ⟨_, rfl, fun K_ hK_ => wp_of_list rfl ?_⟩
            intro ops_
            refine p_run _ (x_load (v) rfl e19 (bkCell (HS.get (.tail _ (.head _))) 2 _ rfl) (by rfl)) rfl ?_
            refine wpList_nil ?_
            exact norm_put (hK_ (v) _ ⟨qv_up hV (fun _ h => Option.some.inj h), hE⟩)
        · have h1 : a_.tmps[1]? = some (.int .i64 i) := (hel 1 (by decide)).trans rfl
          obtain ⟨l_, rfl⟩ := hfr
          have e1 : evl l_ (.tmp 1) = .int .i64 i := evl_of h1
          refine ⟨_, rfl, fun K_ hK_ => wp_of_list rfl ?_⟩
          intro ops_
          refine p_run _ (x_move (.int .i64 i) rfl e1) rfl ?_
          refine wpList_nil ?_
          exact norm_put (hK_ (.int .i64 i) _ ⟨qv_up hV (fun _ h => Option.some.inj h), hE⟩)
        · have h5 : a_.tmps[5]? = some (.pointer (some ⟨g5, 0, none⟩)) := (hel 5 (by decide)).trans rfl
          obtain ⟨l_, rfl⟩ := hfr
          have hE0 := hE
          rw [show bq_ 12 = false from (hoff 12 (by decide))] at hE0
          rw [show bq_ 9 = false from (hoff 9 (by decide))] at hE0
          rw [show bq_ 8 = false from (hoff 8 (by decide))] at hE0
          simp only [cond_true, cond_false] at hE0
          have HS := hE0
          have e5 : evl l_ (.tmp 5) = .pointer (some ⟨g5, 0, none⟩) := evl_of h5
          refine ⟨_, rfl, fun K_ hK_ => wp_of_list rfl ?_⟩
          intro ops_
          refine p_run _ (x_loads ((nums .u8 p)) 256 rfl e5 (bkCells (HS.get (.tail _ (.tail _ (.tail _ (.tail _ (.head _)))))) 0 _ (whole _)) (by rfl) (by kernel_rfl) (by simp [hp, nums_length])) rfl ?_
          refine wpList_nil ?_
          exact norm_put (hK_ (.agg ((nums .u8 p)).toArray) _ ⟨qv_up hV (fun _ h => Option.some.inj h), hE⟩)
        · have h21 : a_.tmps[21]? = some (.int .i64 i) := (hval (5, 21) (by decide) (hon 5 (by decide))).trans (congrArg some (hV 5 _ rfl (hon 5 (by decide))))
          have h22 : a_.tmps[22]? = some (.agg ((nums .u8 p)).toArray) := (hval (6, 22) (by decide) (hon 6 (by decide))).trans (congrArg some (hV 6 _ rfl (hon 6 (by decide))))
          obtain ⟨l_, rfl⟩ := hfr
          have e21 : evl l_ (.tmp 21) = .int .i64 i := evl_of h21
          have e22 : evl l_ (.tmp 22) = .agg ((nums .u8 p)).toArray := evl_of h22
          refine ⟨_, rfl, fun K_ hK_ => wp_of_list rfl ?_⟩
          intro ops_
          refine p_run _ (x_builds [(0, .int .i64 i), (1, .agg ((nums .u8 p)).toArray)] _ (Value.int .i64 0 :: (nums .u8 zpg)) [(0, 1), (1, 256)] (Value.int .i64 i :: (nums .u8 p)) rfl (by simp only [List.map_cons, List.map_nil, e21, e22] <;> rfl) Try.underlying78 (by kernel_rfl) (by kernel_rfl) ((fill_cons (off := 0) (n := 1) (us := [.int .i64 i]) rfl rfl rfl (by simp [lay, hp, nums_length, zlen])).trans ((fill_cons (off := 1) (n := 256) (us := ((nums .u8 p))) rfl rfl (by simp [hp, nums_length]) (by simp [lay, hp, nums_length, zlen])).trans (congrArg (fun c => some (List.toArray c)) (by simp [lay, hp, nums_length, zlen]))))) rfl ?_
          refine wpList_nil ?_
          exact norm_put (hK_ (.agg (Value.int .i64 i :: (nums .u8 p)).toArray) _ ⟨qv_up hV (fun _ h => Option.some.inj h), hE⟩)
        · have h23 : a_.tmps[23]? = some (.agg (Value.int .i64 i :: (nums .u8 p)).toArray) := (hval (7, 23) (by decide) (hon 7 (by decide))).trans (congrArg some (hV 7 _ rfl (hon 7 (by decide))))
          obtain ⟨l_, rfl⟩ := hfr
          have hE0 := hE
          rw [show bq_ 12 = false from (hoff 12 (by decide))] at hE0
          rw [show bq_ 9 = false from (hoff 9 (by decide))] at hE0
          rw [show bq_ 8 = false from hb_] at hE0
          simp only [cond_true, cond_false] at hE0
          have HS := hE0
          have e23 : evl l_ (.tmp 23) = .agg (Value.int .i64 i :: (nums .u8 p)).toArray := evl_of h23
          refine ⟨_, rfl, fun K_ hK_ => wp_of_list rfl ?_⟩
          intro ops_
          refine St.wLit1 HS (Value.int .i64 i :: (nums .u8 p)) 257 (.agg (Value.int .i64 0 :: (nums .u8 zpg)).toArray) (.agg (Value.int .i64 i :: (nums .u8 p)).toArray) Try.underlying70 (by kernel_rfl) (by decide) e23 rfl (by simp [hp, nums_length]) ?_
          clear HS
          intro g900801 w900802 hg900803 HS
          refine wpList_nil ?_
          refine norm_put (hK_ (.slice (some ⟨g900801, 0, none⟩) 1 1) _ ⟨qv_up hV (by intro _ h; cases h), ?_⟩)
          show cond (bq_ 12) _ _
          rw [show bq_ 12 = false from hoff 12 (by decide), cond_false]
          show cond (bq_ 9) _ _
          rw [show bq_ 9 = false from hoff 9 (by decide), cond_false]
          show cond true _ _
          rw [cond_true]
          exact ⟨g900801, rfl, ((((((HS.front 5 rfl).front 5 rfl).front 5 rfl).front 5 rfl).front 5 rfl).front 5 rfl)⟩
        · have h20 : a_.tmps[20]? = some (v) := (hval (4, 20) (by decide) (hon 4 (by decide))).trans (congrArg some (hV 4 _ rfl (hon 4 (by decide))))
          have h24 := hval (8, 24) (by decide) (hon 8 (by decide))
          obtain ⟨l_, rfl⟩ := hfr
          have hE0 := hE
          rw [show bq_ 12 = false from (hoff 12 (by decide))] at hE0
          rw [show bq_ 9 = false from hb_] at hE0
          rw [show bq_ 8 = true from (hon 8 (by decide))] at hE0
          simp only [cond_true, cond_false] at hE0
          obtain ⟨g27, hv8, HS⟩ := hE0
          rw [hv8] at h24
          have e20 : evl l_ (.tmp 20) = v := evl_of h20
          have e24 : evl l_ (.tmp 24) = .slice (some ⟨g27, 0, none⟩) 1 1 := evl_of h24
          refine ⟨_, rfl, fun K_ hK_ => wp_of_list rfl ?_⟩
          intro ops_
          replace HS := (HS.front 4 rfl)
          refine St.wAppend HS ((.agg (.int .i64 0 :: nums .u8 zpg).toArray)) 264 Try.underlying70 (by kernel_rfl) (by kernel_rfl) (by decide) (by decide) [(i, p)] _ _ _ e20 e24 (lit_reads (HS.get (.tail _ (.head _))) ((Reps.none _ _).snoc (p := (i, p)) ⟨rfl, hp⟩ (by simp [kWr, flatK, nums_length, hp])) (by simp)) (fun _ _ h => h) (by have := congrArg (fun S => S.pending.length) hS1; simp only [act_pending] at this; simp; omega) ?_
          clear HS
          intro v900901 w900902 HS
          refine wpList_nil ?_
          refine norm_put (hK_ (v900901) _ ⟨qv_up hV (by intro _ h; cases h), ?_⟩)
          show cond (bq_ 12) _ _
          rw [show bq_ 12 = false from hoff 12 (by decide), cond_false]
          show cond true _ _
          rw [cond_true]
          exact ⟨g27, v900901, hv8, rfl, ((((((HS.front 5 rfl).front 5 rfl).front 5 rfl).front 5 rfl).front 5 rfl).front 5 rfl)⟩
        · have h16 : a_.tmps[16]? = some (.pointer (some ⟨D, 0, none⟩)) := (hval (0, 16) (by decide) (hon 0 (by decide))).trans (congrArg some (hV 0 _ rfl (hon 0 (by decide))))
          obtain ⟨l_, rfl⟩ := hfr
          have e16 : evl l_ (.tmp 16) = .pointer (some ⟨D, 0, none⟩) := evl_of h16
          refine ⟨_, rfl, fun K_ hK_ => wp_of_list rfl ?_⟩
          intro ops_
          refine p_run _ (x_nil rfl e16) rfl ?_
          refine wpList_nil ?_
          exact norm_put (hK_ (.pointer (some ⟨D, 0, none⟩)) _ ⟨qv_up hV (fun _ h => Option.some.inj h), hE⟩)
        · have h26 : a_.tmps[26]? = some (.pointer (some ⟨D, 0, none⟩)) := (hval (10, 26) (by decide) (hon 10 (by decide))).trans (congrArg some (hV 10 _ rfl (hon 10 (by decide))))
          obtain ⟨l_, rfl⟩ := hfr
          have e26 : evl l_ (.tmp 26) = .pointer (some ⟨D, 0, none⟩) := evl_of h26
          refine ⟨_, rfl, fun K_ hK_ => wp_of_list rfl ?_⟩
          intro ops_
          refine p_run _ (x_field (j := 2) _ _ rfl e26 Try.underlying72 rfl (by rfl) rfl) rfl ?_
          refine wpList_nil ?_
          exact norm_put (hK_ (.pointer (some ⟨D, 2, none⟩)) _ ⟨qv_up hV (fun _ h => Option.some.inj h), hE⟩)
        · have h25 := hval (9, 25) (by decide) (hon 9 (by decide))
          have h27 : a_.tmps[27]? = some (.pointer (some ⟨D, 2, none⟩)) := (hval (11, 27) (by decide) (hon 11 (by decide))).trans (congrArg some (hV 11 _ rfl (hon 11 (by decide))))
          obtain ⟨l_, rfl⟩ := hfr
          have hE0 := hE
          rw [show bq_ 12 = false from hb_] at hE0
          rw [show bq_ 9 = true from (hon 9 (by decide))] at hE0
          simp only [cond_true, cond_false] at hE0
          obtain ⟨g27, v30, hv8, hv9, HS⟩ := hE0
          rw [hv9] at h25
          have e25 : evl l_ (.tmp 25) = v30 := evl_of h25
          have e27 : evl l_ (.tmp 27) = .pointer (some ⟨D, 2, none⟩) := evl_of h27
          refine ⟨_, rfl, fun K_ hK_ => wp_of_list rfl ?_⟩
          intro ops_
          refine St.store (cs' := [.slice (some ⟨gs, 0, none⟩) S1.stable.length S1.stable.length, .map (some gm), v30, .int .i64 S1.left, .bool S1.down]) (HS.front 2 rfl) (v30) e27 e25 (row_one (HS.get (.head _))) (by kernel_rfl) (by rfl) rfl ?_
          clear HS
          intro w901201 HS
          refine wpList_nil ?_
          refine norm_none (hK_ undef _ ⟨qv_up hV (by intro _ h; cases h), ?_⟩)
          show cond true _ _
          rw [cond_true]
          exact ⟨g27, v30, hv8, hv9, ((((((HS.front 5 rfl).front 5 rfl).front 5 rfl).front 5 rfl).front 5 rfl).front 5 rfl)⟩
      intro bq_ vq_ w_ hall hG
      obtain ⟨hV, hE⟩ := hG
      clear HS
      rw [show bq_ 12 = true from hall 12 (by decide)] at hE
      simp only [cond_true] at hE
      obtain ⟨g27, v30, hv8, hv9, HS⟩ := hE
      have hv0 := hV 0 _ rfl (hall 0 (by decide))
      have hv1 := hV 1 _ rfl (hall 1 (by decide))
      have hv2 := hV 2 _ rfl (hall 2 (by decide))
      have hv3 := hV 3 _ rfl (hall 3 (by decide))
      have hv4 := hV 4 _ rfl (hall 4 (by decide))
      have hv5 := hV 5 _ rfl (hall 5 (by decide))
      have hv6 := hV 6 _ rfl (hall 6 (by decide))
      have hv7 := hV 7 _ rfl (hall 7 (by decide))
      have hv10 := hV 10 _ rfl (hall 10 (by decide))
      have hv11 := hV 11 _ rfl (hall 11 (by decide))
      clear hV hall
      rw [putSel_fr]
      simp only [tells, List.map_cons, List.map_nil, setAll, List.set_cons_succ, List.set_cons_zero, hv0, hv1, hv2, hv3, hv4, hv5, hv6, hv7, hv8, hv9, hv10, hv11]
      clear hv0 hv1 hv2 hv3 hv4 hv5 hv6 hv7 hv8 hv9 hv10 hv11
      generalize w_ = w901202 at HS ⊢
      refine fr_at (l' := [.pointer (some ⟨D, 0, none⟩), .int .i64 i, .agg ((nums .u8 p)).toArray, undef, undef, .pointer (some ⟨g5, 0, none⟩), .int .i64 0, .int .i64 0, .pointer (some ⟨D, 0, none⟩), .int .i64 i, .bool true, .bool false, .pointer (some ⟨D, 0, none⟩), .int .i64 0, .int .i64 0, .bool true, .pointer (some ⟨D, 0, none⟩), .pointer (some ⟨D, 0, none⟩), .pointer (some ⟨D, 0, none⟩), .pointer (some ⟨D, 2, none⟩), v, .int .i64 i, .agg ((nums .u8 p)).toArray, .agg (Value.int .i64 i :: (nums .u8 p)).toArray, .slice (some ⟨g27, 0, none⟩) 1 1, v30, .pointer (some ⟨D, 0, none⟩), .pointer (some ⟨D, 2, none⟩), undef]) rfl ?_
      refine hK20 _ _ ?_
      refine wp_seq_k (fun K901203 hK901204 => ?_)
      refine c_region (fun ops901206 hops901205 => ?_)
      clear hops901205
      refine p_run _ (x_move (.int .i64 0) rfl rfl) rfl ?_
      refine p_run _ (x_assign (.int .i64 0) rfl rfl) rfl ?_
      refine wpList_nil ?_
      refine fr_at (l' := [.pointer (some ⟨D, 0, none⟩), .int .i64 i, .agg ((nums .u8 p)).toArray, undef, undef, .pointer (some ⟨g5, 0, none⟩), .int .i64 0, .int .i64 0, .pointer (some ⟨D, 0, none⟩), .int .i64 i, .bool true, .bool false, .pointer (some ⟨D, 0, none⟩), .int .i64 0, .int .i64 0, .bool true, .pointer (some ⟨D, 0, none⟩), .pointer (some ⟨D, 0, none⟩), .pointer (some ⟨D, 0, none⟩), .pointer (some ⟨D, 2, none⟩), v, .int .i64 i, .agg ((nums .u8 p)).toArray, .agg (Value.int .i64 i :: (nums .u8 p)).toArray, .slice (some ⟨g27, 0, none⟩) 1 1, v30, .pointer (some ⟨D, 0, none⟩), .pointer (some ⟨D, 2, none⟩), .int .i64 0]) rfl ?_
      refine hK901204 _ _ ?_
      refine wp_ret ?_
      try simp only [Exit.inBlock, Exit.then]
      refine c_ret (.int .i64 0) (r_tmp rfl rfl) ?_
      subst hS1
      have e1 : S.write i p = { S.act with pending := S.act.pending ++ [(i, p)] } := by unfold Dk.write; rw [if_pos ht, if_pos ha]
      have e2 : S.writeE i = 0 := by unfold Dk.writeE; rw [if_pos ht, he]
      rw [e1, e2]
      exact ⟨_, rfl, ((((((HS.front 2 rfl).drop.front 4 rfl).drop.front 1 rfl).front 3 rfl).front 3 rfl).front 3 rfl)⟩
end
end Go.Proofs.Ytenlkobjldhfgaa
