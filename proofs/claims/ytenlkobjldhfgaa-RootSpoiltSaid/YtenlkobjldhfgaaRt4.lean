/- Package root: Read, Next, Write. -/
import Derived.Test.YtenlkobjldhfgaaRt3
set_option linter.unusedVariables false
set_option linter.unusedSimpArgs false
namespace Go.Proofs.Ytenlkobjldhfgaa
open Go.RowKit Go.Proofs.YtenlkobjldhfgaaW.PrintWords Go.Proofs.YtenlkobjldhfgaaW.PrintLast Crc
abbrev U4r4 (l : List Value) : List Value := undef :: undef :: undef :: undef :: l
abbrev U8r4 (l : List Value) : List Value := U4r4 (U4r4 l)
abbrev U16r4 (l : List Value) : List Value := U8r4 (U8r4 l)
abbrev U32r4 (l : List Value) : List Value := U16r4 (U16r4 l)
abbrev U64r4 (l : List Value) : List Value := U32r4 (U32r4 l)
section
variable {w0 W : World} {F : Nat → Prop} {L : List Res} {D gs gm n : Nat} {v : Value} {S : Dk} {q0 q1 : List UInt8}
/-- What Read says. -/
def reE (S : Dk) (q0 q1 : List UInt8) : Int := if lkE S = 0 then (if lkG q0 q1 = 0 then 51 else 0) else lkE S
/-- What Next says. -/
def nE (S : Dk) (q0 q1 : List UInt8) : Int := if lkE S = 0 then (if 18446744073709551612 < (lkT q0 q1).toNat then 51 else 0) else lkE S
def nG (S : Dk) (q0 q1 : List UInt8) : UInt64 := if nE S q0 q1 = 0 then UInt64.ofNat (nxN (lkG q0 q1).toNat (lkT q0 q1).toNat) else 0
theorem lkB_zero (h : lkG q0 q1 = 0) : lkB q0 q1 = [] := by
  unfold lkG at h
  unfold lkB
  split
  · rename_i h1
    rw [if_pos h1] at h
    rw [h] at h1
    exact absurd h1 (UInt64.lt_irrefl 0 |> fun hh => fun h2 => by
      have := UInt64.lt_iff_toNat_lt.1 h2
      have h0 : (0 : UInt64).toNat = 0 := rfl
      omega)
  · rename_i h1
    rw [if_neg h1] at h
    exact cn_zero h
theorem add_one {t : UInt64} (h : t.toNat ≤ 18446744073709551614) : IntKind.u64.wrap (uv t + 1) = uv (UInt64.ofNat (t.toNat + 1)) := by
  unfold uv
  rw [IntKind.wrap_u64, UInt64.toNat_ofNat']
  omega
theorem add_two {k : Nat} (h : k ≤ 18446744073709551614) : IntKind.u64.wrap (uv (UInt64.ofNat k) + 1) = uv (UInt64.ofNat (k + 1)) := by
  unfold uv
  rw [IntKind.wrap_u64, UInt64.toNat_ofNat', UInt64.toNat_ofNat']
  omega
theorem ofN_mod {k : Nat} (h : k ≤ 18446744073709551615) : uv (UInt64.ofNat k) % 2 = ((k % 2 : Nat) : Int) := by
  unfold uv
  rw [UInt64.toNat_ofNat']
  omega
theorem uv_pos {g : UInt64} (h : ¬ g = 0) : uv g > 0 := by
  have := uv_nz h
  have := uv_lo g
  omega
theorem toN_pos {g : UInt64} (h : ¬ g = 0) : 0 < g.toNat := by
  have := uv_pos h
  unfold uv at this
  omega

set_option maxRecDepth 10000 in
set_option maxHeartbeats 2000000 in
theorem read_root (HS : St w0 F W (dsk D gs gm v S L)) (hg : S.good n) (hn : n ≤ 100000) (hp0 : S.readP 0 = q0.map bv) (hp1 : S.readP 1 = q1.map bv) (hq0 : q0.length = 256) (hq1 : q1.length = 256) : Calls Try.prog 9 #[.pointer (some ⟨D, 0, none⟩)] W fun e w' => ∃ A c, e = .returned (.tuple #[.slice A (rB S q0 q1).length c, .int .u64 (uv (rG S q0 q1)), .int .i64 (reE S q0 q1)]) ∧ St w0 F w' (rdp A c (rB S q0 q1) :: dsk D gs gm v S L) := by
  refine c_enter Try.func9 rfl 25 rfl (.pointer (some ⟨D, 0, none⟩) :: U16r4 (U8r4 ([]))) rfl ?_
  refine wp_seq_k (fun K1 hK2 => ?_)
  refine c_region (fun ops4 hops3 => ?_)
  clear hops3
  refine p_run _ (x_assign (.slice none 0 0) rfl rfl) rfl ?_
  refine p_run _ (x_assign (.int .u64 0) rfl rfl) rfl ?_
  refine p_run _ (x_assign (.int .i64 0) rfl rfl) rfl ?_
  refine wpList_nil ?_
  refine hK2 _ _ ?_
  refine wp_seq_k (fun K5 hK6 => ?_)
  refine c_region (fun ops8 hops7 => ?_)
  clear hops7
  refine p_run _ (x_move (.pointer (some ⟨D, 0, none⟩)) rfl rfl) rfl ?_
  refine w_call [.pointer (some ⟨D, 0, none⟩)] Try.func29 (by kernel_rfl) (by rfl) rfl ?_
  replace HS := ((((HS.front 3 rfl).front 3 rfl).front 3 rfl).front 3 rfl)
  refine (look_root HS hg hn hp0 hp1 hq0 hq1).mono ?_
  clear HS
  rintro e w11 ⟨oa9, nc10, rfl, HS⟩
  refine ⟨_, rfl, ?_⟩
  refine p_run _ (x_move (.tuple [.slice oa9 ((rB S q0 q1).length) nc10, .int .u64 (uv (rG S q0 q1)), .int .u64 (uv (rT S q0 q1)), .int .i64 (lkE S)].toArray) rfl rfl) rfl ?_
  refine p_run (l' := (.pointer (some ⟨D, 0, none⟩) :: undef :: .slice none 0 0 :: .int .u64 0 :: .int .i64 0 :: U4r4 (.tuple [.slice oa9 ((rB S q0 q1).length) nc10, .int .u64 (uv (rG S q0 q1)), .int .u64 (uv (rT S q0 q1)), .int .i64 (lkE S)].toArray :: .pointer (some ⟨D, 0, none⟩) :: .tuple [.slice oa9 ((rB S q0 q1).length) nc10, .int .u64 (uv (rG S q0 q1)), .int .u64 (uv (rT S q0 q1)), .int .i64 (lkE S)].toArray :: .slice oa9 ((rB S q0 q1).length) nc10 :: U8r4 (U4r4 ([]))))) _ (x_extract (vs := [.slice oa9 ((rB S q0 q1).length) nc10, .int .u64 (uv (rG S q0 q1)), .int .u64 (uv (rT S q0 q1)), .int .i64 (lkE S)]) 0 (.slice oa9 ((rB S q0 q1).length) nc10) rfl rfl rfl) rfl ?_
  refine p_run _ (x_extract (vs := [.slice oa9 ((rB S q0 q1).length) nc10, .int .u64 (uv (rG S q0 q1)), .int .u64 (uv (rT S q0 q1)), .int .i64 (lkE S)]) 1 (.int .u64 (uv (rG S q0 q1))) rfl rfl rfl) rfl ?_
  refine p_run _ (x_extract (vs := [.slice oa9 ((rB S q0 q1).length) nc10, .int .u64 (uv (rG S q0 q1)), .int .u64 (uv (rT S q0 q1)), .int .i64 (lkE S)]) 2 (.int .u64 (uv (rT S q0 q1))) rfl rfl rfl) rfl ?_
  refine p_run _ (x_extract (vs := [.slice oa9 ((rB S q0 q1).length) nc10, .int .u64 (uv (rG S q0 q1)), .int .u64 (uv (rT S q0 q1)), .int .i64 (lkE S)]) 3 (.int .i64 (lkE S)) rfl rfl rfl) rfl ?_
  refine p_run _ (x_assign (.slice oa9 ((rB S q0 q1).length) nc10) rfl rfl) rfl ?_
  refine p_run _ (x_assign (.int .u64 (uv (rG S q0 q1))) rfl rfl) rfl ?_
  refine p_run _ (x_assign (.int .u64 (uv (rT S q0 q1))) rfl rfl) rfl ?_
  refine p_run (l' := (.pointer (some ⟨D, 0, none⟩) :: undef :: .slice none 0 0 :: .int .u64 0 :: .int .i64 0 :: .slice oa9 ((rB S q0 q1).length) nc10 :: .int .u64 (uv (rG S q0 q1)) :: .int .u64 (uv (rT S q0 q1)) :: .int .i64 (lkE S) :: .tuple [.slice oa9 ((rB S q0 q1).length) nc10, .int .u64 (uv (rG S q0 q1)), .int .u64 (uv (rT S q0 q1)), .int .i64 (lkE S)].toArray :: .pointer (some ⟨D, 0, none⟩) :: .tuple [.slice oa9 ((rB S q0 q1).length) nc10, .int .u64 (uv (rG S q0 q1)), .int .u64 (uv (rT S q0 q1)), .int .i64 (lkE S)].toArray :: .slice oa9 ((rB S q0 q1).length) nc10 :: .int .u64 (uv (rG S q0 q1)) :: .int .u64 (uv (rT S q0 q1)) :: .int .i64 (lkE S) :: U8r4 (undef :: []))) _ (x_assign (.int .i64 (lkE S)) rfl rfl) rfl ?_
  refine wpList_nil ?_
  refine hK6 _ _ ?_
  refine wp_seq_k (fun K12 hK13 => ?_)
  refine wp_block ?_
  refine wp_seq_k (fun K14 hK15 => ?_)
  rcases (show ¬ lkE S = 0 ∨ (lkE S = 0 ∧ lkG q0 q1 = 0) ∨ (lkE S = 0 ∧ ¬ lkG q0 q1 = 0) from by by_cases h : lkE S = 0 <;> by_cases h2 : lkG q0 q1 = 0 <;> simp [h, h2]) with hz | ⟨hz, hg0⟩ | ⟨hz, hg0⟩
  · skip
    refine c_region (fun ops17 hops16 => ?_)
    clear hops16
    refine p_run _ (x_move (.int .i64 (lkE S)) rfl rfl) rfl ?_
    refine p_run _ (x_cmp (k := .i64) (m := (lkE S)) (n := 0) .neq true rfl rfl rfl (by simpa [cmpB] using hz) rfl) rfl ?_
    refine p_run _ (x_assign (.bool true) rfl rfl) rfl ?_
    refine wpList_nil ?_
    refine hK15 _ _ ?_
    refine c_true rfl ?_
    refine wp_seq_k (fun K18 hK19 => ?_)
    refine c_region (fun ops21 hops20 => ?_)
    clear hops20
    refine p_run _ (x_move (.int .i64 (lkE S)) rfl rfl) rfl ?_
    refine p_run _ (x_assign (.slice none 0 0) rfl rfl) rfl ?_
    refine p_run _ (x_assign (.int .u64 0) rfl rfl) rfl ?_
    refine p_run (l' := (.pointer (some ⟨D, 0, none⟩) :: undef :: .slice none 0 0 :: .int .u64 0 :: .int .i64 (lkE S) :: .slice oa9 ((rB S q0 q1).length) nc10 :: .int .u64 (uv (rG S q0 q1)) :: .int .u64 (uv (rT S q0 q1)) :: .int .i64 (lkE S) :: .tuple [.slice oa9 ((rB S q0 q1).length) nc10, .int .u64 (uv (rG S q0 q1)), .int .u64 (uv (rT S q0 q1)), .int .i64 (lkE S)].toArray :: .pointer (some ⟨D, 0, none⟩) :: .tuple [.slice oa9 ((rB S q0 q1).length) nc10, .int .u64 (uv (rG S q0 q1)), .int .u64 (uv (rT S q0 q1)), .int .i64 (lkE S)].toArray :: .slice oa9 ((rB S q0 q1).length) nc10 :: .int .u64 (uv (rG S q0 q1)) :: .int .u64 (uv (rT S q0 q1)) :: .int .i64 (lkE S) :: .bool true :: .int .i64 (lkE S) :: .bool true :: .int .i64 (lkE S) :: U4r4 (undef :: []))) _ (x_assign (.int .i64 (lkE S)) rfl rfl) rfl ?_
    refine wpList_nil ?_
    refine hK19 _ _ ?_
    refine wp_ret ?_
    try simp only [Exit.inBlock, Exit.then]
    refine c_ret (.tuple [.slice none 0 0, .int .u64 0, .int .i64 (lkE S)].toArray) (r_tmp3 rfl rfl rfl rfl) ?_
    replace HS := HS.rdpNil
    have e1 : reE S q0 q1 = lkE S := if_neg hz
    have e2 : rB S q0 q1 = [] := if_neg hz
    have e3 : rG S q0 q1 = 0 := if_neg hz
    rw [e1, e2, e3]
    exact ⟨none, 0, rfl, ((((((HS.front 1 rfl).drop.front 4 rfl).front 4 rfl).front 4 rfl).front 4 rfl).front 4 rfl)⟩
  · skip
    refine c_region (fun ops23 hops22 => ?_)
    clear hops22
    refine p_run _ (x_move (.int .i64 (lkE S)) rfl rfl) rfl ?_
    refine p_run _ (x_cmp (k := .i64) (m := (lkE S)) (n := 0) .neq false rfl rfl rfl (by rw [hz]; rfl) rfl) rfl ?_
    refine p_run _ (x_assign (.bool false) rfl rfl) rfl ?_
    refine wpList_nil ?_
    refine hK15 _ _ ?_
    refine c_false rfl ?_
    refine wp_seq_k (fun K24 hK25 => ?_)
    refine c_region (fun ops27 hops26 => ?_)
    clear hops26
    refine p_run _ (x_move (.int .u64 (uv (rG S q0 q1))) rfl rfl) rfl ?_
    refine p_run _ (x_cmp (k := .u64) (m := (uv (rG S q0 q1))) (n := 0) .eql true rfl rfl rfl (by rw [show rG S q0 q1 = 0 from (if_pos hz).trans hg0]; rfl) rfl) rfl ?_
    refine p_run _ (x_assign (.bool true) rfl rfl) rfl ?_
    refine wpList_nil ?_
    refine fr_at (l' := (.pointer (some ⟨D, 0, none⟩) :: undef :: .slice none 0 0 :: .int .u64 0 :: .int .i64 0 :: .slice oa9 ((rB S q0 q1).length) nc10 :: .int .u64 (uv (rG S q0 q1)) :: .int .u64 (uv (rT S q0 q1)) :: .int .i64 (lkE S) :: .tuple [.slice oa9 ((rB S q0 q1).length) nc10, .int .u64 (uv (rG S q0 q1)), .int .u64 (uv (rT S q0 q1)), .int .i64 (lkE S)].toArray :: .pointer (some ⟨D, 0, none⟩) :: .tuple [.slice oa9 ((rB S q0 q1).length) nc10, .int .u64 (uv (rG S q0 q1)), .int .u64 (uv (rT S q0 q1)), .int .i64 (lkE S)].toArray :: .slice oa9 ((rB S q0 q1).length) nc10 :: .int .u64 (uv (rG S q0 q1)) :: .int .u64 (uv (rT S q0 q1)) :: .int .i64 (lkE S) :: .bool false :: .int .i64 (lkE S) :: .bool false :: undef :: .bool true :: .int .u64 (uv (rG S q0 q1)) :: .bool true :: undef :: undef :: [])) rfl ?_
    refine hK25 _ _ ?_
    refine c_true rfl ?_
    refine wp_seq_k (fun K28 hK29 => ?_)
    refine c_region (fun ops31 hops30 => ?_)
    clear hops30
    refine p_run _ (x_assign (.slice none 0 0) rfl rfl) rfl ?_
    refine p_run _ (x_assign (.int .u64 0) rfl rfl) rfl ?_
    refine p_run _ (x_assign (.int .i64 51) rfl rfl) rfl ?_
    refine wpList_nil ?_
    refine hK29 _ _ ?_
    refine wp_ret ?_
    try simp only [Exit.inBlock, Exit.then]
    refine c_ret (.tuple [.slice none 0 0, .int .u64 0, .int .i64 51].toArray) (r_tmp3 rfl rfl rfl rfl) ?_
    replace HS := HS.rdpNil
    have e1 : reE S q0 q1 = 51 := (if_pos hz).trans (if_pos hg0)
    have e2 : rB S q0 q1 = [] := (if_pos hz).trans (lkB_zero hg0)
    have e3 : rG S q0 q1 = 0 := (if_pos hz).trans hg0
    rw [e1, e2, e3]
    exact ⟨none, 0, rfl, ((((((HS.front 1 rfl).drop.front 4 rfl).front 4 rfl).front 4 rfl).front 4 rfl).front 4 rfl)⟩
  · skip
    refine c_region (fun ops33 hops32 => ?_)
    clear hops32
    refine p_run _ (x_move (.int .i64 (lkE S)) rfl rfl) rfl ?_
    refine p_run _ (x_cmp (k := .i64) (m := (lkE S)) (n := 0) .neq false rfl rfl rfl (by rw [hz]; rfl) rfl) rfl ?_
    refine p_run _ (x_assign (.bool false) rfl rfl) rfl ?_
    refine wpList_nil ?_
    refine fr_at (l' := (.pointer (some ⟨D, 0, none⟩) :: undef :: .slice none 0 0 :: .int .u64 0 :: .int .i64 0 :: .slice oa9 ((rB S q0 q1).length) nc10 :: .int .u64 (uv (rG S q0 q1)) :: .int .u64 (uv (rT S q0 q1)) :: .int .i64 (lkE S) :: .tuple [.slice oa9 ((rB S q0 q1).length) nc10, .int .u64 (uv (rG S q0 q1)), .int .u64 (uv (rT S q0 q1)), .int .i64 (lkE S)].toArray :: .pointer (some ⟨D, 0, none⟩) :: .tuple [.slice oa9 ((rB S q0 q1).length) nc10, .int .u64 (uv (rG S q0 q1)), .int .u64 (uv (rT S q0 q1)), .int .i64 (lkE S)].toArray :: .slice oa9 ((rB S q0 q1).length) nc10 :: .int .u64 (uv (rG S q0 q1)) :: .int .u64 (uv (rT S q0 q1)) :: .int .i64 (lkE S) :: .bool false :: .int .i64 (lkE S) :: .bool false :: U4r4 (undef :: undef :: []))) rfl ?_
    refine hK15 _ _ ?_
    refine c_false rfl ?_
    refine wp_seq_k (fun K34 hK35 => ?_)
    refine c_region (fun ops37 hops36 => ?_)
    clear hops36
    refine p_run _ (x_move (.int .u64 (uv (rG S q0 q1))) rfl rfl) rfl ?_
    refine p_run _ (x_cmp (k := .u64) (m := (uv (rG S q0 q1))) (n := 0) .eql false rfl rfl rfl (by rw [show rG S q0 q1 = lkG q0 q1 from if_pos hz]; simp [cmpB, uv_nz hg0]) rfl) rfl ?_
    refine p_run _ (x_assign (.bool false) rfl rfl) rfl ?_
    refine wpList_nil ?_
    refine hK35 _ _ ?_
    refine c_false rfl ?_
    refine wp_skip ?_
    refine hK13 _ _ ?_
    refine wp_seq_k (fun K38 hK39 => ?_)
    refine c_region (fun ops41 hops40 => ?_)
    clear hops40
    refine p_run _ (x_move (.slice oa9 ((rB S q0 q1).length) nc10) rfl rfl) rfl ?_
    refine p_run _ (x_move (.int .u64 (uv (rG S q0 q1))) rfl rfl) rfl ?_
    refine p_run _ (x_assign (.slice oa9 ((rB S q0 q1).length) nc10) rfl rfl) rfl ?_
    refine p_run (l' := (.pointer (some ⟨D, 0, none⟩) :: undef :: .slice oa9 ((rB S q0 q1).length) nc10 :: .int .u64 (uv (rG S q0 q1)) :: .int .i64 0 :: .slice oa9 ((rB S q0 q1).length) nc10 :: .int .u64 (uv (rG S q0 q1)) :: .int .u64 (uv (rT S q0 q1)) :: .int .i64 (lkE S) :: .tuple [.slice oa9 ((rB S q0 q1).length) nc10, .int .u64 (uv (rG S q0 q1)), .int .u64 (uv (rT S q0 q1)), .int .i64 (lkE S)].toArray :: .pointer (some ⟨D, 0, none⟩) :: .tuple [.slice oa9 ((rB S q0 q1).length) nc10, .int .u64 (uv (rG S q0 q1)), .int .u64 (uv (rT S q0 q1)), .int .i64 (lkE S)].toArray :: .slice oa9 ((rB S q0 q1).length) nc10 :: .int .u64 (uv (rG S q0 q1)) :: .int .u64 (uv (rT S q0 q1)) :: .int .i64 (lkE S) :: .bool false :: .int .i64 (lkE S) :: .bool false :: undef :: .bool false :: .int .u64 (uv (rG S q0 q1)) :: .bool false :: .slice oa9 ((rB S q0 q1).length) nc10 :: .int .u64 (uv (rG S q0 q1)) :: [])) _ (x_assign (.int .u64 (uv (rG S q0 q1))) rfl rfl) rfl ?_
    refine p_run _ (x_assign (.int .i64 0) rfl rfl) rfl ?_
    refine wpList_nil ?_
    refine hK39 _ _ ?_
    refine wp_ret ?_
    try simp only [Exit.inBlock, Exit.then]
    refine c_ret (.tuple [.slice oa9 ((rB S q0 q1).length) nc10, .int .u64 (uv (rG S q0 q1)), .int .i64 0].toArray) (r_tmp3 rfl rfl rfl rfl) ?_
    have e1 : reE S q0 q1 = 0 := (if_pos hz).trans (if_neg hg0)
    rw [e1]
    exact ⟨_, _, rfl, (((((HS.front 4 rfl).front 4 rfl).front 4 rfl).front 4 rfl).front 4 rfl)⟩

theorem next_split (S : Dk) (q0 q1 : List UInt8) : (¬ lkE S = 0) ∨ (lkE S = 0 ∧ 18446744073709551612 < (lkT q0 q1).toNat) ∨ (lkE S = 0 ∧ (lkT q0 q1).toNat ≤ 18446744073709551612 ∧ lkG q0 q1 = 0) ∨
    (lkE S = 0 ∧ (lkT q0 q1).toNat ≤ 18446744073709551612 ∧ ¬ lkG q0 q1 = 0 ∧ ((lkT q0 q1).toNat + 1) % 2 = (lkG q0 q1).toNat % 2) ∨ (lkE S = 0 ∧ (lkT q0 q1).toNat ≤ 18446744073709551612 ∧ ¬ lkG q0 q1 = 0 ∧ ¬ ((lkT q0 q1).toNat + 1) % 2 = (lkG q0 q1).toNat % 2) := by
  by_cases h1 : lkE S = 0
  · rcases Nat.lt_or_ge 18446744073709551612 (lkT q0 q1).toNat with h2 | h2
    · exact .inr (.inl ⟨h1, h2⟩)
    · by_cases h3 : lkG q0 q1 = 0
      · exact .inr (.inr (.inl ⟨h1, h2, h3⟩))
      · by_cases h4 : ((lkT q0 q1).toNat + 1) % 2 = (lkG q0 q1).toNat % 2
        · exact .inr (.inr (.inr (.inl ⟨h1, h2, h3, h4⟩)))
        · exact .inr (.inr (.inr (.inr ⟨h1, h2, h3, h4⟩)))
  · exact .inl h1

set_option maxRecDepth 10000 in
set_option maxHeartbeats 2000000 in
theorem next_root (HS : St w0 F W (dsk D gs gm v S L)) (hg : S.good n) (hn : n ≤ 100000) (hp0 : S.readP 0 = q0.map bv) (hp1 : S.readP 1 = q1.map bv) (hq0 : q0.length = 256) (hq1 : q1.length = 256) : Calls Try.prog 11 #[.pointer (some ⟨D, 0, none⟩)] W fun e w' => e = .returned (.tuple #[.int .u64 (uv (nG S q0 q1)), .int .i64 (nE S q0 q1)]) ∧ St w0 F w' (dsk D gs gm v S L) := by
  refine c_enter Try.func11 rfl 37 rfl (.pointer (some ⟨D, 0, none⟩) :: U32r4 (U4r4 ([]))) rfl ?_
  refine wp_seq_k (fun K1 hK2 => ?_)
  refine c_region (fun ops4 hops3 => ?_)
  clear hops3
  refine p_run _ (x_assign (.int .u64 0) rfl rfl) rfl ?_
  refine p_run _ (x_assign (.int .i64 0) rfl rfl) rfl ?_
  refine wpList_nil ?_
  refine hK2 _ _ ?_
  refine wp_seq_k (fun K5 hK6 => ?_)
  refine c_region (fun ops8 hops7 => ?_)
  clear hops7
  refine p_run _ (x_move (.pointer (some ⟨D, 0, none⟩)) rfl rfl) rfl ?_
  refine w_call [.pointer (some ⟨D, 0, none⟩)] Try.func29 (by kernel_rfl) (by rfl) rfl ?_
  replace HS := ((((HS.front 3 rfl).front 3 rfl).front 3 rfl).front 3 rfl)
  refine (look_root HS hg hn hp0 hp1 hq0 hq1).mono ?_
  clear HS
  rintro e w11 ⟨oa9, nc10, rfl, HS⟩
  refine ⟨_, rfl, ?_⟩
  refine p_run _ (x_move (.tuple [.slice oa9 ((rB S q0 q1).length) nc10, .int .u64 (uv (rG S q0 q1)), .int .u64 (uv (rT S q0 q1)), .int .i64 (lkE S)].toArray) rfl rfl) rfl ?_
  refine p_run _ (x_extract (vs := [.slice oa9 ((rB S q0 q1).length) nc10, .int .u64 (uv (rG S q0 q1)), .int .u64 (uv (rT S q0 q1)), .int .i64 (lkE S)]) 0 (.slice oa9 ((rB S q0 q1).length) nc10) rfl rfl rfl) rfl ?_
  refine p_run (l' := (.pointer (some ⟨D, 0, none⟩) :: undef :: .int .u64 0 :: .int .i64 0 :: U4r4 (undef :: .tuple [.slice oa9 ((rB S q0 q1).length) nc10, .int .u64 (uv (rG S q0 q1)), .int .u64 (uv (rT S q0 q1)), .int .i64 (lkE S)].toArray :: .pointer (some ⟨D, 0, none⟩) :: .tuple [.slice oa9 ((rB S q0 q1).length) nc10, .int .u64 (uv (rG S q0 q1)), .int .u64 (uv (rT S q0 q1)), .int .i64 (lkE S)].toArray :: .slice oa9 ((rB S q0 q1).length) nc10 :: .int .u64 (uv (rG S q0 q1)) :: U16r4 (U4r4 (undef :: undef :: undef :: []))))) _ (x_extract (vs := [.slice oa9 ((rB S q0 q1).length) nc10, .int .u64 (uv (rG S q0 q1)), .int .u64 (uv (rT S q0 q1)), .int .i64 (lkE S)]) 1 (.int .u64 (uv (rG S q0 q1))) rfl rfl rfl) rfl ?_
  refine p_run _ (x_extract (vs := [.slice oa9 ((rB S q0 q1).length) nc10, .int .u64 (uv (rG S q0 q1)), .int .u64 (uv (rT S q0 q1)), .int .i64 (lkE S)]) 2 (.int .u64 (uv (rT S q0 q1))) rfl rfl rfl) rfl ?_
  refine p_run _ (x_extract (vs := [.slice oa9 ((rB S q0 q1).length) nc10, .int .u64 (uv (rG S q0 q1)), .int .u64 (uv (rT S q0 q1)), .int .i64 (lkE S)]) 3 (.int .i64 (lkE S)) rfl rfl rfl) rfl ?_
  refine p_run _ (x_assign (.slice oa9 ((rB S q0 q1).length) nc10) rfl rfl) rfl ?_
  refine p_run _ (x_assign (.int .u64 (uv (rG S q0 q1))) rfl rfl) rfl ?_
  refine p_run _ (x_assign (.int .u64 (uv (rT S q0 q1))) rfl rfl) rfl ?_
  refine p_run _ (x_assign (.int .i64 (lkE S)) rfl rfl) rfl ?_
  refine wpList_nil ?_
  refine fr_at (l' := (.pointer (some ⟨D, 0, none⟩) :: undef :: .int .u64 0 :: .int .i64 0 :: .slice oa9 ((rB S q0 q1).length) nc10 :: .int .u64 (uv (rG S q0 q1)) :: .int .u64 (uv (rT S q0 q1)) :: .int .i64 (lkE S) :: undef :: .tuple [.slice oa9 ((rB S q0 q1).length) nc10, .int .u64 (uv (rG S q0 q1)), .int .u64 (uv (rT S q0 q1)), .int .i64 (lkE S)].toArray :: .pointer (some ⟨D, 0, none⟩) :: .tuple [.slice oa9 ((rB S q0 q1).length) nc10, .int .u64 (uv (rG S q0 q1)), .int .u64 (uv (rT S q0 q1)), .int .i64 (lkE S)].toArray :: .slice oa9 ((rB S q0 q1).length) nc10 :: .int .u64 (uv (rG S q0 q1)) :: .int .u64 (uv (rT S q0 q1)) :: .int .i64 (lkE S) :: U16r4 (U4r4 (undef :: [])))) rfl ?_
  refine hK6 _ _ ?_
  refine wp_seq_k (fun K12 hK13 => ?_)
  refine wp_block ?_
  refine wp_seq_k (fun K14 hK15 => ?_)
  rcases next_split S q0 q1 with hz | ⟨hz, ht⟩ | ⟨hz, ht, hg0⟩ | ⟨hz, ht, hg0, hpar⟩ | ⟨hz, ht, hg0, hpar⟩
  · skip
    refine c_region (fun ops17 hops16 => ?_)
    clear hops16
    refine p_run _ (x_move (.int .i64 (lkE S)) rfl rfl) rfl ?_
    refine p_run _ (x_cmp (k := .i64) (m := (lkE S)) (n := 0) .neq true rfl rfl rfl (by simpa [cmpB] using hz) rfl) rfl ?_
    refine p_run _ (x_assign (.bool true) rfl rfl) rfl ?_
    refine wpList_nil ?_
    refine hK15 _ _ ?_
    refine c_true rfl ?_
    refine wp_seq_k (fun K18 hK19 => ?_)
    refine c_region (fun ops21 hops20 => ?_)
    clear hops20
    refine p_run _ (x_move (.int .i64 (lkE S)) rfl rfl) rfl ?_
    refine p_run _ (x_assign (.int .u64 0) rfl rfl) rfl ?_
    refine p_run _ (x_assign (.int .i64 (lkE S)) rfl rfl) rfl ?_
    refine wpList_nil ?_
    refine fr_at (l' := (.pointer (some ⟨D, 0, none⟩) :: undef :: .int .u64 0 :: .int .i64 (lkE S) :: .slice oa9 ((rB S q0 q1).length) nc10 :: .int .u64 (uv (rG S q0 q1)) :: .int .u64 (uv (rT S q0 q1)) :: .int .i64 (lkE S) :: undef :: .tuple [.slice oa9 ((rB S q0 q1).length) nc10, .int .u64 (uv (rG S q0 q1)), .int .u64 (uv (rT S q0 q1)), .int .i64 (lkE S)].toArray :: .pointer (some ⟨D, 0, none⟩) :: .tuple [.slice oa9 ((rB S q0 q1).length) nc10, .int .u64 (uv (rG S q0 q1)), .int .u64 (uv (rT S q0 q1)), .int .i64 (lkE S)].toArray :: .slice oa9 ((rB S q0 q1).length) nc10 :: .int .u64 (uv (rG S q0 q1)) :: .int .u64 (uv (rT S q0 q1)) :: .int .i64 (lkE S) :: .bool true :: .int .i64 (lkE S) :: .bool true :: .int .i64 (lkE S) :: U16r4 (undef :: []))) rfl ?_
    refine hK19 _ _ ?_
    refine wp_ret ?_
    try simp only [Exit.inBlock, Exit.then]
    refine c_ret (.tuple [.int .u64 0, .int .i64 (lkE S)].toArray) (r_tmp2 rfl rfl rfl) ?_
    have e1 : nE S q0 q1 = lkE S := if_neg hz
    have e2 : nG S q0 q1 = 0 := if_neg (by rw [e1]; exact hz)
    rw [e1, e2]
    exact ⟨rfl, ((((HS.drop.front 3 rfl).front 3 rfl).front 3 rfl).front 3 rfl)⟩
  · skip
    have eT : rT S q0 q1 = lkT q0 q1 := if_pos hz
    have eG : rG S q0 q1 = lkG q0 q1 := if_pos hz
    refine c_region (fun ops23 hops22 => ?_)
    clear hops22
    refine p_run _ (x_move (.int .i64 (lkE S)) rfl rfl) rfl ?_
    refine p_run _ (x_cmp (k := .i64) (m := (lkE S)) (n := 0) .neq false rfl rfl rfl (by rw [hz]; rfl) rfl) rfl ?_
    refine p_run _ (x_assign (.bool false) rfl rfl) rfl ?_
    refine wpList_nil ?_
    refine hK15 _ _ ?_
    refine c_false rfl ?_
    refine wp_seq_k (fun K24 hK25 => ?_)
    refine c_region (fun ops27 hops26 => ?_)
    clear hops26
    refine p_run _ (x_move (.int .u64 (uv (rT S q0 q1))) rfl rfl) rfl ?_
    refine p_run _ (x_cmp (k := .u64) (m := (uv (rT S q0 q1))) (n := 18446744073709551612) .gtr true rfl rfl rfl (show decide _ = true from decide_eq_true (by rw [eT]; unfold uv; omega)) rfl) rfl ?_
    refine p_run _ (x_assign (.bool true) rfl rfl) rfl ?_
    refine wpList_nil ?_
    refine fr_at (l' := (.pointer (some ⟨D, 0, none⟩) :: undef :: .int .u64 0 :: .int .i64 0 :: .slice oa9 ((rB S q0 q1).length) nc10 :: .int .u64 (uv (rG S q0 q1)) :: .int .u64 (uv (rT S q0 q1)) :: .int .i64 (lkE S) :: undef :: .tuple [.slice oa9 ((rB S q0 q1).length) nc10, .int .u64 (uv (rG S q0 q1)), .int .u64 (uv (rT S q0 q1)), .int .i64 (lkE S)].toArray :: .pointer (some ⟨D, 0, none⟩) :: .tuple [.slice oa9 ((rB S q0 q1).length) nc10, .int .u64 (uv (rG S q0 q1)), .int .u64 (uv (rT S q0 q1)), .int .i64 (lkE S)].toArray :: .slice oa9 ((rB S q0 q1).length) nc10 :: .int .u64 (uv (rG S q0 q1)) :: .int .u64 (uv (rT S q0 q1)) :: .int .i64 (lkE S) :: .bool false :: .int .i64 (lkE S) :: .bool false :: undef :: .bool true :: .int .u64 (uv (rT S q0 q1)) :: .bool true :: U8r4 (U4r4 (undef :: undef :: [])))) rfl ?_
    refine hK25 _ _ ?_
    refine c_true rfl ?_
    refine wp_seq_k (fun K28 hK29 => ?_)
    refine c_region (fun ops31 hops30 => ?_)
    clear hops30
    refine p_run _ (x_assign (.int .u64 0) rfl rfl) rfl ?_
    refine p_run _ (x_assign (.int .i64 51) rfl rfl) rfl ?_
    refine wpList_nil ?_
    refine hK29 _ _ ?_
    refine wp_ret ?_
    try simp only [Exit.inBlock, Exit.then]
    refine c_ret (.tuple [.int .u64 0, .int .i64 51].toArray) (r_tmp2 rfl rfl rfl) ?_
    have e1 : nE S q0 q1 = 51 := (if_pos hz).trans (if_pos ht)
    have e2 : nG S q0 q1 = 0 := if_neg (by rw [e1]; decide)
    rw [e1, e2]
    exact ⟨rfl, ((((HS.drop.front 3 rfl).front 3 rfl).front 3 rfl).front 3 rfl)⟩
  · skip
    have eT : rT S q0 q1 = lkT q0 q1 := if_pos hz
    have eG : rG S q0 q1 = lkG q0 q1 := if_pos hz
    refine c_region (fun ops33 hops32 => ?_)
    clear hops32
    refine p_run _ (x_move (.int .i64 (lkE S)) rfl rfl) rfl ?_
    refine p_run _ (x_cmp (k := .i64) (m := (lkE S)) (n := 0) .neq false rfl rfl rfl (by rw [hz]; rfl) rfl) rfl ?_
    refine p_run _ (x_assign (.bool false) rfl rfl) rfl ?_
    refine wpList_nil ?_
    refine fr_at (l' := (.pointer (some ⟨D, 0, none⟩) :: undef :: .int .u64 0 :: .int .i64 0 :: .slice oa9 ((rB S q0 q1).length) nc10 :: .int .u64 (uv (rG S q0 q1)) :: .int .u64 (uv (rT S q0 q1)) :: .int .i64 (lkE S) :: undef :: .tuple [.slice oa9 ((rB S q0 q1).length) nc10, .int .u64 (uv (rG S q0 q1)), .int .u64 (uv (rT S q0 q1)), .int .i64 (lkE S)].toArray :: .pointer (some ⟨D, 0, none⟩) :: .tuple [.slice oa9 ((rB S q0 q1).length) nc10, .int .u64 (uv (rG S q0 q1)), .int .u64 (uv (rT S q0 q1)), .int .i64 (lkE S)].toArray :: .slice oa9 ((rB S q0 q1).length) nc10 :: .int .u64 (uv (rG S q0 q1)) :: .int .u64 (uv (rT S q0 q1)) :: .int .i64 (lkE S) :: .bool false :: .int .i64 (lkE S) :: .bool false :: U16r4 (undef :: undef :: []))) rfl ?_
    refine hK15 _ _ ?_
    refine c_false rfl ?_
    refine wp_seq_k (fun K34 hK35 => ?_)
    refine c_region (fun ops37 hops36 => ?_)
    clear hops36
    refine p_run _ (x_move (.int .u64 (uv (rT S q0 q1))) rfl rfl) rfl ?_
    refine p_run _ (x_cmp (k := .u64) (m := (uv (rT S q0 q1))) (n := 18446744073709551612) .gtr false rfl rfl rfl (show decide _ = false from decide_eq_false (by rw [eT]; unfold uv; omega)) rfl) rfl ?_
    refine p_run _ (x_assign (.bool false) rfl rfl) rfl ?_
    refine wpList_nil ?_
    refine hK35 _ _ ?_
    refine c_false rfl ?_
    refine wp_skip ?_
    refine hK13 _ _ ?_
    refine wp_seq_k (fun K38 hK39 => ?_)
    refine c_region (fun ops41 hops40 => ?_)
    clear hops40
    refine p_run _ (x_move (.int .u64 (uv (rT S q0 q1))) rfl rfl) rfl ?_
    refine p_run _ (x_arith (k := .u64) (m := (uv (rT S q0 q1))) (n := 1) .add ((uv (UInt64.ofNat ((lkT q0 q1).toNat + 1)))) rfl rfl rfl (show IntKind.u64.wrap ((uv (rT S q0 q1)) + 1) = (uv (UInt64.ofNat ((lkT q0 q1).toNat + 1))) from (by rw [eT]; exact add_one (by omega))) rfl) rfl ?_
    refine p_run _ (x_assign (.int .u64 (uv (UInt64.ofNat ((lkT q0 q1).toNat + 1)))) rfl rfl) rfl ?_
    refine wpList_nil ?_
    refine fr_at (l' := (.pointer (some ⟨D, 0, none⟩) :: undef :: .int .u64 0 :: .int .i64 0 :: .slice oa9 ((rB S q0 q1).length) nc10 :: .int .u64 (uv (rG S q0 q1)) :: .int .u64 (uv (rT S q0 q1)) :: .int .i64 (lkE S) :: .int .u64 (uv (UInt64.ofNat ((lkT q0 q1).toNat + 1))) :: .tuple [.slice oa9 ((rB S q0 q1).length) nc10, .int .u64 (uv (rG S q0 q1)), .int .u64 (uv (rT S q0 q1)), .int .i64 (lkE S)].toArray :: .pointer (some ⟨D, 0, none⟩) :: .tuple [.slice oa9 ((rB S q0 q1).length) nc10, .int .u64 (uv (rG S q0 q1)), .int .u64 (uv (rT S q0 q1)), .int .i64 (lkE S)].toArray :: .slice oa9 ((rB S q0 q1).length) nc10 :: .int .u64 (uv (rG S q0 q1)) :: .int .u64 (uv (rT S q0 q1)) :: .int .i64 (lkE S) :: .bool false :: .int .i64 (lkE S) :: .bool false :: undef :: .bool false :: .int .u64 (uv (rT S q0 q1)) :: .bool false :: .int .u64 (uv (rT S q0 q1)) :: .int .u64 (uv (UInt64.ofNat ((lkT q0 q1).toNat + 1))) :: U8r4 (U4r4 ([])))) rfl ?_
    refine hK39 _ _ ?_
    refine wp_seq_k (fun K42 hK43 => ?_)
    refine wp_seq_k (fun K44 hK45 => ?_)
    refine c_region (fun ops47 hops46 => ?_)
    refine p_run _ (x_move (.int .u64 (uv (rG S q0 q1))) rfl rfl) rfl ?_
    refine p_run _ (x_cmp (k := .u64) (m := (uv (rG S q0 q1))) (n := 0) .gtr false rfl rfl rfl (show decide _ = false from decide_eq_false (by rw [eG, hg0]; decide)) rfl) rfl ?_
    refine p_run _ (x_move (.bool false) rfl rfl) rfl ?_
    refine p_off (by rw [hops46]; rfl) rfl ?_
    refine p_off (by rw [hops46]; rfl) rfl ?_
    refine p_off (by rw [hops46]; rfl) rfl ?_
    refine p_off (l' := (.pointer (some ⟨D, 0, none⟩) :: undef :: .int .u64 0 :: .int .i64 0 :: .slice oa9 ((rB S q0 q1).length) nc10 :: .int .u64 (uv (rG S q0 q1)) :: .int .u64 (uv (rT S q0 q1)) :: .int .i64 (lkE S) :: .int .u64 (uv (UInt64.ofNat ((lkT q0 q1).toNat + 1))) :: .tuple [.slice oa9 ((rB S q0 q1).length) nc10, .int .u64 (uv (rG S q0 q1)), .int .u64 (uv (rT S q0 q1)), .int .i64 (lkE S)].toArray :: .pointer (some ⟨D, 0, none⟩) :: .tuple [.slice oa9 ((rB S q0 q1).length) nc10, .int .u64 (uv (rG S q0 q1)), .int .u64 (uv (rT S q0 q1)), .int .i64 (lkE S)].toArray :: .slice oa9 ((rB S q0 q1).length) nc10 :: .int .u64 (uv (rG S q0 q1)) :: .int .u64 (uv (rT S q0 q1)) :: .int .i64 (lkE S) :: .bool false :: .int .i64 (lkE S) :: .bool false :: undef :: .bool false :: .int .u64 (uv (rT S q0 q1)) :: .bool false :: .int .u64 (uv (rT S q0 q1)) :: .int .u64 (uv (UInt64.ofNat ((lkT q0 q1).toNat + 1))) :: .int .u64 (uv (rG S q0 q1)) :: .bool false :: .bool false :: U8r4 (undef :: []))) (by rw [hops46]; rfl) rfl ?_
    refine p_off (by rw [hops46]; rfl) rfl ?_
    refine p_run _ (x_pick false (undef) (.bool false) (.bool false) rfl rfl rfl rfl rfl) rfl ?_
    clear hops46
    refine wpList_nil ?_
    refine hK45 _ _ ?_
    refine c_false rfl ?_
    refine wp_skip ?_
    refine hK43 _ _ ?_
    refine wp_seq_k (fun K48 hK49 => ?_)
    refine c_region (fun ops51 hops50 => ?_)
    clear hops50
    refine p_run _ (x_move (.int .u64 (uv (UInt64.ofNat ((lkT q0 q1).toNat + 1)))) rfl rfl) rfl ?_
    refine p_run _ (x_assign (.int .u64 (uv (UInt64.ofNat ((lkT q0 q1).toNat + 1)))) rfl rfl) rfl ?_
    refine p_run _ (x_assign (.int .i64 0) rfl rfl) rfl ?_
    refine wpList_nil ?_
    refine fr_at (l' := (.pointer (some ⟨D, 0, none⟩) :: undef :: .int .u64 (uv (UInt64.ofNat ((lkT q0 q1).toNat + 1))) :: .int .i64 0 :: .slice oa9 ((rB S q0 q1).length) nc10 :: .int .u64 (uv (rG S q0 q1)) :: .int .u64 (uv (rT S q0 q1)) :: .int .i64 (lkE S) :: .int .u64 (uv (UInt64.ofNat ((lkT q0 q1).toNat + 1))) :: .tuple [.slice oa9 ((rB S q0 q1).length) nc10, .int .u64 (uv (rG S q0 q1)), .int .u64 (uv (rT S q0 q1)), .int .i64 (lkE S)].toArray :: .pointer (some ⟨D, 0, none⟩) :: .tuple [.slice oa9 ((rB S q0 q1).length) nc10, .int .u64 (uv (rG S q0 q1)), .int .u64 (uv (rT S q0 q1)), .int .i64 (lkE S)].toArray :: .slice oa9 ((rB S q0 q1).length) nc10 :: .int .u64 (uv (rG S q0 q1)) :: .int .u64 (uv (rT S q0 q1)) :: .int .i64 (lkE S) :: .bool false :: .int .i64 (lkE S) :: .bool false :: undef :: .bool false :: .int .u64 (uv (rT S q0 q1)) :: .bool false :: .int .u64 (uv (rT S q0 q1)) :: .int .u64 (uv (UInt64.ofNat ((lkT q0 q1).toNat + 1))) :: .int .u64 (uv (rG S q0 q1)) :: .bool false :: .bool false :: U4r4 (undef :: .bool false :: undef :: undef :: .int .u64 (uv (UInt64.ofNat ((lkT q0 q1).toNat + 1))) :: []))) rfl ?_
    refine hK49 _ _ ?_
    refine wp_ret ?_
    try simp only [Exit.inBlock, Exit.then]
    refine c_ret (.tuple [.int .u64 (uv (UInt64.ofNat ((lkT q0 q1).toNat + 1))), .int .i64 0].toArray) (r_tmp2 rfl rfl rfl) ?_
    have e1 : nE S q0 q1 = 0 := (if_pos hz).trans (if_neg (by omega))
    have e3 : nxN (lkG q0 q1).toNat (lkT q0 q1).toNat = (lkT q0 q1).toNat + 1 := if_neg (fun h => by rw [hg0] at h; exact absurd h.1 (by decide))
    have e2 : nG S q0 q1 = UInt64.ofNat ((lkT q0 q1).toNat + 1) := by unfold nG; rw [if_pos e1, e3]
    rw [e1, e2]
    exact ⟨rfl, ((((HS.drop.front 3 rfl).front 3 rfl).front 3 rfl).front 3 rfl)⟩
  · skip
    have eT : rT S q0 q1 = lkT q0 q1 := if_pos hz
    have eG : rG S q0 q1 = lkG q0 q1 := if_pos hz
    refine c_region (fun ops53 hops52 => ?_)
    clear hops52
    refine p_run _ (x_move (.int .i64 (lkE S)) rfl rfl) rfl ?_
    refine p_run _ (x_cmp (k := .i64) (m := (lkE S)) (n := 0) .neq false rfl rfl rfl (by rw [hz]; rfl) rfl) rfl ?_
    refine p_run _ (x_assign (.bool false) rfl rfl) rfl ?_
    refine wpList_nil ?_
    refine hK15 _ _ ?_
    refine c_false rfl ?_
    refine wp_seq_k (fun K54 hK55 => ?_)
    refine c_region (fun ops57 hops56 => ?_)
    clear hops56
    refine p_run _ (x_move (.int .u64 (uv (rT S q0 q1))) rfl rfl) rfl ?_
    refine p_run _ (x_cmp (k := .u64) (m := (uv (rT S q0 q1))) (n := 18446744073709551612) .gtr false rfl rfl rfl (show decide _ = false from decide_eq_false (by rw [eT]; unfold uv; omega)) rfl) rfl ?_
    refine p_run _ (x_assign (.bool false) rfl rfl) rfl ?_
    refine wpList_nil ?_
    refine fr_at (l' := (.pointer (some ⟨D, 0, none⟩) :: undef :: .int .u64 0 :: .int .i64 0 :: .slice oa9 ((rB S q0 q1).length) nc10 :: .int .u64 (uv (rG S q0 q1)) :: .int .u64 (uv (rT S q0 q1)) :: .int .i64 (lkE S) :: undef :: .tuple [.slice oa9 ((rB S q0 q1).length) nc10, .int .u64 (uv (rG S q0 q1)), .int .u64 (uv (rT S q0 q1)), .int .i64 (lkE S)].toArray :: .pointer (some ⟨D, 0, none⟩) :: .tuple [.slice oa9 ((rB S q0 q1).length) nc10, .int .u64 (uv (rG S q0 q1)), .int .u64 (uv (rT S q0 q1)), .int .i64 (lkE S)].toArray :: .slice oa9 ((rB S q0 q1).length) nc10 :: .int .u64 (uv (rG S q0 q1)) :: .int .u64 (uv (rT S q0 q1)) :: .int .i64 (lkE S) :: .bool false :: .int .i64 (lkE S) :: .bool false :: undef :: .bool false :: .int .u64 (uv (rT S q0 q1)) :: .bool false :: U8r4 (U4r4 (undef :: undef :: [])))) rfl ?_
    refine hK55 _ _ ?_
    refine c_false rfl ?_
    refine wp_skip ?_
    refine hK13 _ _ ?_
    refine wp_seq_k (fun K58 hK59 => ?_)
    refine c_region (fun ops61 hops60 => ?_)
    clear hops60
    refine p_run _ (x_move (.int .u64 (uv (rT S q0 q1))) rfl rfl) rfl ?_
    refine p_run _ (x_arith (k := .u64) (m := (uv (rT S q0 q1))) (n := 1) .add ((uv (UInt64.ofNat ((lkT q0 q1).toNat + 1)))) rfl rfl rfl (show IntKind.u64.wrap ((uv (rT S q0 q1)) + 1) = (uv (UInt64.ofNat ((lkT q0 q1).toNat + 1))) from (by rw [eT]; exact add_one (by omega))) rfl) rfl ?_
    refine p_run _ (x_assign (.int .u64 (uv (UInt64.ofNat ((lkT q0 q1).toNat + 1)))) rfl rfl) rfl ?_
    refine wpList_nil ?_
    refine hK59 _ _ ?_
    refine wp_seq_k (fun K62 hK63 => ?_)
    refine wp_seq_k (fun K64 hK65 => ?_)
    refine c_region (fun ops67 hops66 => ?_)
    refine p_run _ (x_move (.int .u64 (uv (rG S q0 q1))) rfl rfl) rfl ?_
    refine p_run _ (x_cmp (k := .u64) (m := (uv (rG S q0 q1))) (n := 0) .gtr true rfl rfl rfl (show decide _ = true from decide_eq_true (by rw [eG]; exact uv_pos hg0)) rfl) rfl ?_
    refine p_run _ (x_move (.bool true) rfl rfl) rfl ?_
    refine p_on rfl (by rw [hops66]; rfl) ?_
    refine p_run (l' := (.pointer (some ⟨D, 0, none⟩) :: undef :: .int .u64 0 :: .int .i64 0 :: .slice oa9 ((rB S q0 q1).length) nc10 :: .int .u64 (uv (rG S q0 q1)) :: .int .u64 (uv (rT S q0 q1)) :: .int .i64 (lkE S) :: .int .u64 (uv (UInt64.ofNat ((lkT q0 q1).toNat + 1))) :: .tuple [.slice oa9 ((rB S q0 q1).length) nc10, .int .u64 (uv (rG S q0 q1)), .int .u64 (uv (rT S q0 q1)), .int .i64 (lkE S)].toArray :: .pointer (some ⟨D, 0, none⟩) :: .tuple [.slice oa9 ((rB S q0 q1).length) nc10, .int .u64 (uv (rG S q0 q1)), .int .u64 (uv (rT S q0 q1)), .int .i64 (lkE S)].toArray :: .slice oa9 ((rB S q0 q1).length) nc10 :: .int .u64 (uv (rG S q0 q1)) :: .int .u64 (uv (rT S q0 q1)) :: .int .i64 (lkE S) :: .bool false :: .int .i64 (lkE S) :: .bool false :: undef :: .bool false :: .int .u64 (uv (rT S q0 q1)) :: .bool false :: .int .u64 (uv (rT S q0 q1)) :: .int .u64 (uv (UInt64.ofNat ((lkT q0 q1).toNat + 1))) :: .int .u64 (uv (rG S q0 q1)) :: .bool true :: .bool true :: .int .u64 (uv (UInt64.ofNat ((lkT q0 q1).toNat + 1))) :: U8r4 ([]))) _ (x_move (.int .u64 (uv (UInt64.ofNat ((lkT q0 q1).toNat + 1)))) rfl rfl) rfl ?_
    refine p_on rfl (by rw [hops66]; rfl) ?_
    refine p_run _ (x_rem (k := .u64) (m := (uv (UInt64.ofNat ((lkT q0 q1).toNat + 1)))) (n := 2) ((uv (UInt64.ofNat ((lkT q0 q1).toNat + 1)) % 2)) rfl rfl rfl (by decide) (mod2 _)) rfl ?_
    refine p_on rfl (by rw [hops66]; rfl) ?_
    refine p_run _ (x_move (.int .u64 (uv (rG S q0 q1))) rfl rfl) rfl ?_
    refine p_on rfl (by rw [hops66]; rfl) ?_
    refine p_run _ (x_rem (k := .u64) (m := (uv (rG S q0 q1))) (n := 2) ((uv (rG S q0 q1) % 2)) rfl rfl rfl (by decide) (mod2 _)) rfl ?_
    refine p_on rfl (by rw [hops66]; rfl) ?_
    refine p_run _ (x_cmp (k := .u64) (m := (uv (UInt64.ofNat ((lkT q0 q1).toNat + 1)) % 2)) (n := (uv (rG S q0 q1) % 2)) .eql true rfl rfl rfl (by rw [eG, ofN_mod (by omega), uv_mod, hpar]; simp [cmpB]) rfl) rfl ?_
    refine p_run _ (x_pick true (.bool true) (.bool false) (.bool true) rfl rfl rfl rfl rfl) rfl ?_
    clear hops66
    refine wpList_nil ?_
    refine fr_at (l' := (.pointer (some ⟨D, 0, none⟩) :: undef :: .int .u64 0 :: .int .i64 0 :: .slice oa9 ((rB S q0 q1).length) nc10 :: .int .u64 (uv (rG S q0 q1)) :: .int .u64 (uv (rT S q0 q1)) :: .int .i64 (lkE S) :: .int .u64 (uv (UInt64.ofNat ((lkT q0 q1).toNat + 1))) :: .tuple [.slice oa9 ((rB S q0 q1).length) nc10, .int .u64 (uv (rG S q0 q1)), .int .u64 (uv (rT S q0 q1)), .int .i64 (lkE S)].toArray :: .pointer (some ⟨D, 0, none⟩) :: .tuple [.slice oa9 ((rB S q0 q1).length) nc10, .int .u64 (uv (rG S q0 q1)), .int .u64 (uv (rT S q0 q1)), .int .i64 (lkE S)].toArray :: .slice oa9 ((rB S q0 q1).length) nc10 :: .int .u64 (uv (rG S q0 q1)) :: .int .u64 (uv (rT S q0 q1)) :: .int .i64 (lkE S) :: .bool false :: .int .i64 (lkE S) :: .bool false :: undef :: .bool false :: .int .u64 (uv (rT S q0 q1)) :: .bool false :: .int .u64 (uv (rT S q0 q1)) :: .int .u64 (uv (UInt64.ofNat ((lkT q0 q1).toNat + 1))) :: .int .u64 (uv (rG S q0 q1)) :: .bool true :: .bool true :: .int .u64 (uv (UInt64.ofNat ((lkT q0 q1).toNat + 1))) :: .int .u64 (uv (UInt64.ofNat ((lkT q0 q1).toNat + 1)) % 2) :: .int .u64 (uv (rG S q0 q1)) :: .int .u64 (uv (rG S q0 q1) % 2) :: .bool true :: .bool true :: undef :: undef :: undef :: [])) rfl ?_
    refine hK65 _ _ ?_
    refine c_true rfl ?_
    refine c_region (fun ops69 hops68 => ?_)
    clear hops68
    refine p_run _ (x_move (.int .u64 (uv (UInt64.ofNat ((lkT q0 q1).toNat + 1)))) rfl rfl) rfl ?_
    refine p_run _ (x_arith (k := .u64) (m := (uv (UInt64.ofNat ((lkT q0 q1).toNat + 1)))) (n := 1) .add ((uv (UInt64.ofNat ((lkT q0 q1).toNat + 1 + 1)))) rfl rfl rfl (show IntKind.u64.wrap ((uv (UInt64.ofNat ((lkT q0 q1).toNat + 1))) + 1) = (uv (UInt64.ofNat ((lkT q0 q1).toNat + 1 + 1))) from (add_two (by omega))) rfl) rfl ?_
    refine p_run _ (x_assign (.int .u64 (uv (UInt64.ofNat ((lkT q0 q1).toNat + 1 + 1)))) rfl rfl) rfl ?_
    refine wpList_nil ?_
    refine hK63 _ _ ?_
    refine wp_seq_k (fun K70 hK71 => ?_)
    refine c_region (fun ops73 hops72 => ?_)
    clear hops72
    refine p_run _ (x_move (.int .u64 (uv (UInt64.ofNat ((lkT q0 q1).toNat + 1 + 1)))) rfl rfl) rfl ?_
    refine p_run _ (x_assign (.int .u64 (uv (UInt64.ofNat ((lkT q0 q1).toNat + 1 + 1)))) rfl rfl) rfl ?_
    refine p_run _ (x_assign (.int .i64 0) rfl rfl) rfl ?_
    refine wpList_nil ?_
    refine fr_at (l' := (.pointer (some ⟨D, 0, none⟩) :: undef :: .int .u64 (uv (UInt64.ofNat ((lkT q0 q1).toNat + 1 + 1))) :: .int .i64 0 :: .slice oa9 ((rB S q0 q1).length) nc10 :: .int .u64 (uv (rG S q0 q1)) :: .int .u64 (uv (rT S q0 q1)) :: .int .i64 (lkE S) :: .int .u64 (uv (UInt64.ofNat ((lkT q0 q1).toNat + 1 + 1))) :: .tuple [.slice oa9 ((rB S q0 q1).length) nc10, .int .u64 (uv (rG S q0 q1)), .int .u64 (uv (rT S q0 q1)), .int .i64 (lkE S)].toArray :: .pointer (some ⟨D, 0, none⟩) :: .tuple [.slice oa9 ((rB S q0 q1).length) nc10, .int .u64 (uv (rG S q0 q1)), .int .u64 (uv (rT S q0 q1)), .int .i64 (lkE S)].toArray :: .slice oa9 ((rB S q0 q1).length) nc10 :: .int .u64 (uv (rG S q0 q1)) :: .int .u64 (uv (rT S q0 q1)) :: .int .i64 (lkE S) :: .bool false :: .int .i64 (lkE S) :: .bool false :: undef :: .bool false :: .int .u64 (uv (rT S q0 q1)) :: .bool false :: .int .u64 (uv (rT S q0 q1)) :: .int .u64 (uv (UInt64.ofNat ((lkT q0 q1).toNat + 1))) :: .int .u64 (uv (rG S q0 q1)) :: .bool true :: .bool true :: .int .u64 (uv (UInt64.ofNat ((lkT q0 q1).toNat + 1))) :: .int .u64 (uv (UInt64.ofNat ((lkT q0 q1).toNat + 1)) % 2) :: .int .u64 (uv (rG S q0 q1)) :: .int .u64 (uv (rG S q0 q1) % 2) :: .bool true :: .bool true :: .int .u64 (uv (UInt64.ofNat ((lkT q0 q1).toNat + 1))) :: .int .u64 (uv (UInt64.ofNat ((lkT q0 q1).toNat + 1 + 1))) :: .int .u64 (uv (UInt64.ofNat ((lkT q0 q1).toNat + 1 + 1))) :: [])) rfl ?_
    refine hK71 _ _ ?_
    refine wp_ret ?_
    try simp only [Exit.inBlock, Exit.then]
    refine c_ret (.tuple [.int .u64 (uv (UInt64.ofNat ((lkT q0 q1).toNat + 1 + 1))), .int .i64 0].toArray) (r_tmp2 rfl rfl rfl) ?_
    have e1 : nE S q0 q1 = 0 := (if_pos hz).trans (if_neg (by omega))
    have e3 : nxN (lkG q0 q1).toNat (lkT q0 q1).toNat = (lkT q0 q1).toNat + 1 + 1 := if_pos ⟨toN_pos hg0, hpar⟩
    have e2 : nG S q0 q1 = UInt64.ofNat ((lkT q0 q1).toNat + 1 + 1) := by unfold nG; rw [if_pos e1, e3]
    rw [e1, e2]
    exact ⟨rfl, ((((HS.drop.front 3 rfl).front 3 rfl).front 3 rfl).front 3 rfl)⟩
  · skip
    have eT : rT S q0 q1 = lkT q0 q1 := if_pos hz
    have eG : rG S q0 q1 = lkG q0 q1 := if_pos hz
    refine c_region (fun ops75 hops74 => ?_)
    clear hops74
    refine p_run _ (x_move (.int .i64 (lkE S)) rfl rfl) rfl ?_
    refine p_run _ (x_cmp (k := .i64) (m := (lkE S)) (n := 0) .neq false rfl rfl rfl (by rw [hz]; rfl) rfl) rfl ?_
    refine p_run _ (x_assign (.bool false) rfl rfl) rfl ?_
    refine wpList_nil ?_
    refine hK15 _ _ ?_
    refine c_false rfl ?_
    refine wp_seq_k (fun K76 hK77 => ?_)
    refine c_region (fun ops79 hops78 => ?_)
    clear hops78
    refine p_run _ (x_move (.int .u64 (uv (rT S q0 q1))) rfl rfl) rfl ?_
    refine p_run _ (x_cmp (k := .u64) (m := (uv (rT S q0 q1))) (n := 18446744073709551612) .gtr false rfl rfl rfl (show decide _ = false from decide_eq_false (by rw [eT]; unfold uv; omega)) rfl) rfl ?_
    refine p_run _ (x_assign (.bool false) rfl rfl) rfl ?_
    refine wpList_nil ?_
    refine fr_at (l' := (.pointer (some ⟨D, 0, none⟩) :: undef :: .int .u64 0 :: .int .i64 0 :: .slice oa9 ((rB S q0 q1).length) nc10 :: .int .u64 (uv (rG S q0 q1)) :: .int .u64 (uv (rT S q0 q1)) :: .int .i64 (lkE S) :: undef :: .tuple [.slice oa9 ((rB S q0 q1).length) nc10, .int .u64 (uv (rG S q0 q1)), .int .u64 (uv (rT S q0 q1)), .int .i64 (lkE S)].toArray :: .pointer (some ⟨D, 0, none⟩) :: .tuple [.slice oa9 ((rB S q0 q1).length) nc10, .int .u64 (uv (rG S q0 q1)), .int .u64 (uv (rT S q0 q1)), .int .i64 (lkE S)].toArray :: .slice oa9 ((rB S q0 q1).length) nc10 :: .int .u64 (uv (rG S q0 q1)) :: .int .u64 (uv (rT S q0 q1)) :: .int .i64 (lkE S) :: .bool false :: .int .i64 (lkE S) :: .bool false :: undef :: .bool false :: .int .u64 (uv (rT S q0 q1)) :: .bool false :: U8r4 (U4r4 (undef :: undef :: [])))) rfl ?_
    refine hK77 _ _ ?_
    refine c_false rfl ?_
    refine wp_skip ?_
    refine hK13 _ _ ?_
    refine wp_seq_k (fun K80 hK81 => ?_)
    refine c_region (fun ops83 hops82 => ?_)
    clear hops82
    refine p_run _ (x_move (.int .u64 (uv (rT S q0 q1))) rfl rfl) rfl ?_
    refine p_run _ (x_arith (k := .u64) (m := (uv (rT S q0 q1))) (n := 1) .add ((uv (UInt64.ofNat ((lkT q0 q1).toNat + 1)))) rfl rfl rfl (show IntKind.u64.wrap ((uv (rT S q0 q1)) + 1) = (uv (UInt64.ofNat ((lkT q0 q1).toNat + 1))) from (by rw [eT]; exact add_one (by omega))) rfl) rfl ?_
    refine p_run _ (x_assign (.int .u64 (uv (UInt64.ofNat ((lkT q0 q1).toNat + 1)))) rfl rfl) rfl ?_
    refine wpList_nil ?_
    refine hK81 _ _ ?_
    refine wp_seq_k (fun K84 hK85 => ?_)
    refine wp_seq_k (fun K86 hK87 => ?_)
    refine c_region (fun ops89 hops88 => ?_)
    refine p_run _ (x_move (.int .u64 (uv (rG S q0 q1))) rfl rfl) rfl ?_
    refine p_run _ (x_cmp (k := .u64) (m := (uv (rG S q0 q1))) (n := 0) .gtr true rfl rfl rfl (show decide _ = true from decide_eq_true (by rw [eG]; exact uv_pos hg0)) rfl) rfl ?_
    refine p_run _ (x_move (.bool true) rfl rfl) rfl ?_
    refine p_on rfl (by rw [hops88]; rfl) ?_
    refine p_run (l' := (.pointer (some ⟨D, 0, none⟩) :: undef :: .int .u64 0 :: .int .i64 0 :: .slice oa9 ((rB S q0 q1).length) nc10 :: .int .u64 (uv (rG S q0 q1)) :: .int .u64 (uv (rT S q0 q1)) :: .int .i64 (lkE S) :: .int .u64 (uv (UInt64.ofNat ((lkT q0 q1).toNat + 1))) :: .tuple [.slice oa9 ((rB S q0 q1).length) nc10, .int .u64 (uv (rG S q0 q1)), .int .u64 (uv (rT S q0 q1)), .int .i64 (lkE S)].toArray :: .pointer (some ⟨D, 0, none⟩) :: .tuple [.slice oa9 ((rB S q0 q1).length) nc10, .int .u64 (uv (rG S q0 q1)), .int .u64 (uv (rT S q0 q1)), .int .i64 (lkE S)].toArray :: .slice oa9 ((rB S q0 q1).length) nc10 :: .int .u64 (uv (rG S q0 q1)) :: .int .u64 (uv (rT S q0 q1)) :: .int .i64 (lkE S) :: .bool false :: .int .i64 (lkE S) :: .bool false :: undef :: .bool false :: .int .u64 (uv (rT S q0 q1)) :: .bool false :: .int .u64 (uv (rT S q0 q1)) :: .int .u64 (uv (UInt64.ofNat ((lkT q0 q1).toNat + 1))) :: .int .u64 (uv (rG S q0 q1)) :: .bool true :: .bool true :: .int .u64 (uv (UInt64.ofNat ((lkT q0 q1).toNat + 1))) :: U8r4 ([]))) _ (x_move (.int .u64 (uv (UInt64.ofNat ((lkT q0 q1).toNat + 1)))) rfl rfl) rfl ?_
    refine p_on rfl (by rw [hops88]; rfl) ?_
    refine p_run _ (x_rem (k := .u64) (m := (uv (UInt64.ofNat ((lkT q0 q1).toNat + 1)))) (n := 2) ((uv (UInt64.ofNat ((lkT q0 q1).toNat + 1)) % 2)) rfl rfl rfl (by decide) (mod2 _)) rfl ?_
    refine p_on rfl (by rw [hops88]; rfl) ?_
    refine p_run _ (x_move (.int .u64 (uv (rG S q0 q1))) rfl rfl) rfl ?_
    refine p_on rfl (by rw [hops88]; rfl) ?_
    refine p_run _ (x_rem (k := .u64) (m := (uv (rG S q0 q1))) (n := 2) ((uv (rG S q0 q1) % 2)) rfl rfl rfl (by decide) (mod2 _)) rfl ?_
    refine p_on rfl (by rw [hops88]; rfl) ?_
    refine p_run _ (x_cmp (k := .u64) (m := (uv (UInt64.ofNat ((lkT q0 q1).toNat + 1)) % 2)) (n := (uv (rG S q0 q1) % 2)) .eql false rfl rfl rfl (by rw [eG, ofN_mod (by omega), uv_mod]; simp [cmpB]; omega) rfl) rfl ?_
    refine p_run _ (x_pick true (.bool false) (.bool false) (.bool false) rfl rfl rfl rfl rfl) rfl ?_
    clear hops88
    refine wpList_nil ?_
    refine fr_at (l' := (.pointer (some ⟨D, 0, none⟩) :: undef :: .int .u64 0 :: .int .i64 0 :: .slice oa9 ((rB S q0 q1).length) nc10 :: .int .u64 (uv (rG S q0 q1)) :: .int .u64 (uv (rT S q0 q1)) :: .int .i64 (lkE S) :: .int .u64 (uv (UInt64.ofNat ((lkT q0 q1).toNat + 1))) :: .tuple [.slice oa9 ((rB S q0 q1).length) nc10, .int .u64 (uv (rG S q0 q1)), .int .u64 (uv (rT S q0 q1)), .int .i64 (lkE S)].toArray :: .pointer (some ⟨D, 0, none⟩) :: .tuple [.slice oa9 ((rB S q0 q1).length) nc10, .int .u64 (uv (rG S q0 q1)), .int .u64 (uv (rT S q0 q1)), .int .i64 (lkE S)].toArray :: .slice oa9 ((rB S q0 q1).length) nc10 :: .int .u64 (uv (rG S q0 q1)) :: .int .u64 (uv (rT S q0 q1)) :: .int .i64 (lkE S) :: .bool false :: .int .i64 (lkE S) :: .bool false :: undef :: .bool false :: .int .u64 (uv (rT S q0 q1)) :: .bool false :: .int .u64 (uv (rT S q0 q1)) :: .int .u64 (uv (UInt64.ofNat ((lkT q0 q1).toNat + 1))) :: .int .u64 (uv (rG S q0 q1)) :: .bool true :: .bool true :: .int .u64 (uv (UInt64.ofNat ((lkT q0 q1).toNat + 1))) :: .int .u64 (uv (UInt64.ofNat ((lkT q0 q1).toNat + 1)) % 2) :: .int .u64 (uv (rG S q0 q1)) :: .int .u64 (uv (rG S q0 q1) % 2) :: .bool false :: .bool false :: undef :: undef :: undef :: [])) rfl ?_
    refine hK87 _ _ ?_
    refine c_false rfl ?_
    refine wp_skip ?_
    refine hK85 _ _ ?_
    refine wp_seq_k (fun K90 hK91 => ?_)
    refine c_region (fun ops93 hops92 => ?_)
    clear hops92
    refine p_run _ (x_move (.int .u64 (uv (UInt64.ofNat ((lkT q0 q1).toNat + 1)))) rfl rfl) rfl ?_
    refine p_run _ (x_assign (.int .u64 (uv (UInt64.ofNat ((lkT q0 q1).toNat + 1)))) rfl rfl) rfl ?_
    refine p_run _ (x_assign (.int .i64 0) rfl rfl) rfl ?_
    refine wpList_nil ?_
    refine hK91 _ _ ?_
    refine wp_ret ?_
    try simp only [Exit.inBlock, Exit.then]
    refine c_ret (.tuple [.int .u64 (uv (UInt64.ofNat ((lkT q0 q1).toNat + 1))), .int .i64 0].toArray) (r_tmp2 rfl rfl rfl) ?_
    have e1 : nE S q0 q1 = 0 := (if_pos hz).trans (if_neg (by omega))
    have e3 : nxN (lkG q0 q1).toNat (lkT q0 q1).toNat = (lkT q0 q1).toNat + 1 := if_neg (fun h => hpar h.2)
    have e2 : nG S q0 q1 = UInt64.ofNat ((lkT q0 q1).toNat + 1) := by unfold nG; rw [if_pos e1, e3]
    rw [e1, e2]
    exact ⟨rfl, ((((HS.drop.front 3 rfl).front 3 rfl).front 3 rfl).front 3 rfl)⟩

/-- Where a Write goes, and what it writes. -/
def wI (S : Dk) (q0 q1 : List UInt8) : Nat := (nG S q0 q1).toNat % 2
def wP (S : Dk) (q0 q1 xs : List UInt8) : List UInt8 := pgB (nG S q0 q1) (rtS xs)
def w1S (S : Dk) (q0 q1 xs : List UInt8) : Dk := S.write (wI S q0 q1 : Int) ((wP S q0 q1 xs).map bv)
def wS (S : Dk) (q0 q1 xs : List UInt8) : Dk := if xs.length ≤ 186 ∧ nE S q0 q1 = 0 then (if S.writeE (wI S q0 q1 : Int) = 0 then (w1S S q0 q1 xs).sync else w1S S q0 q1 xs) else S
def wE (S : Dk) (q0 q1 xs : List UInt8) : Int := if xs.length ≤ 186 then (if nE S q0 q1 = 0 then (if S.writeE (wI S q0 q1 : Int) = 0 then (w1S S q0 q1 xs).actE else S.writeE (wI S q0 q1 : Int)) else nE S q0 q1) else 51
def wG (S : Dk) (q0 q1 xs : List UInt8) : UInt64 := if wE S q0 q1 xs = 0 then nG S q0 q1 else 0
theorem wP_len (S : Dk) (q0 q1 xs : List UInt8) : ((wP S q0 q1 xs).map bv).length = 256 := by rw [List.length_map]; exact pgB_len _ _
theorem good_w1 (h : S.good n) (xs : List UInt8) : (w1S S q0 q1 xs).good (n + 1) := good_write h _ (wP_len S q0 q1 xs)
theorem good_wS (h : S.good n) (xs : List UInt8) : (wS S q0 q1 xs).good (n + 1) := by
  unfold wS
  split
  · split
    · exact good_sync (good_w1 h xs)
    · exact good_w1 h xs
  · exact h.mono (Nat.le_succ _)

set_option maxRecDepth 10000 in
set_option maxHeartbeats 2000000 in
theorem write_root (HS : St w0 F W (dsk D gs gm v S L)) (hg : S.good n) (hn : n ≤ 100000) (hp0 : S.readP 0 = q0.map bv) (hp1 : S.readP 1 = q1.map bv) (hq0 : q0.length = 256) (hq1 : q1.length = 256) {A : Option Addr} {c : Nat} (xs : List UInt8) (hc : ∀ w X, St w0 F w (X ++ L) → Rd w A xs ∧ xs.length ≤ c) : Calls Try.prog 10 #[.pointer (some ⟨D, 0, none⟩), .slice A xs.length c] W fun e w' => ∃ v', e = .returned (.tuple #[.int .u64 (uv (wG S q0 q1 xs)), .int .i64 (wE S q0 q1 xs)]) ∧ St w0 F w' (dsk D gs gm v' (wS S q0 q1 xs) L) := by
  by_cases hl : xs.length ≤ 186
  · skip
    refine c_enter Try.func10 rfl 39 rfl (.pointer (some ⟨D, 0, none⟩) :: .slice A xs.length c :: U32r4 (U4r4 (undef :: []))) rfl ?_
    refine wp_seq_k (fun K1 hK2 => ?_)
    refine c_region (fun ops4 hops3 => ?_)
    clear hops3
    refine p_run _ (x_assign (.int .u64 0) rfl rfl) rfl ?_
    refine p_run _ (x_assign (.int .i64 0) rfl rfl) rfl ?_
    refine wpList_nil ?_
    refine hK2 _ _ ?_
    refine wp_seq_k (fun K5 hK6 => ?_)
    refine wp_seq_k (fun K7 hK8 => ?_)
    refine c_region (fun ops10 hops9 => ?_)
    clear hops9
    refine p_run _ (x_move (.slice A xs.length c) rfl rfl) rfl ?_
    refine p_run _ (x_len rfl rfl Try.underlying24) rfl ?_
    refine p_run _ (x_cmp (k := .i64) (m := (xs.length : Int)) (n := 186) .gtr false rfl rfl rfl (show decide _ = false from decide_eq_false (by omega)) rfl) rfl ?_
    refine wpList_nil ?_
    refine fr_at (l' := (.pointer (some ⟨D, 0, none⟩) :: .slice A xs.length c :: undef :: undef :: .int .u64 0 :: .int .i64 0 :: U4r4 (.slice A xs.length c :: .int .i64 (xs.length : Int) :: .bool false :: U16r4 (U8r4 (undef :: undef :: []))))) rfl ?_
    refine hK8 _ _ ?_
    refine c_false rfl ?_
    refine wp_skip ?_
    refine hK6 _ _ ?_
    refine wp_seq_k (fun K11 hK12 => ?_)
    refine c_region (fun ops14 hops13 => ?_)
    clear hops13
    refine p_run _ (x_move (.pointer (some ⟨D, 0, none⟩)) rfl rfl) rfl ?_
    refine w_call [.pointer (some ⟨D, 0, none⟩)] Try.func11 (by kernel_rfl) (by rfl) rfl ?_
    replace HS := ((((HS.front 3 rfl).front 3 rfl).front 3 rfl).front 3 rfl)
    refine (next_root HS hg hn hp0 hp1 hq0 hq1).mono ?_
    clear HS
    rintro e w15 ⟨rfl, HS⟩
    refine ⟨_, rfl, ?_⟩
    refine p_run _ (x_move (.tuple [.int .u64 (uv (nG S q0 q1)), .int .i64 (nE S q0 q1)].toArray) rfl rfl) rfl ?_
    refine p_run _ (x_extract (vs := [.int .u64 (uv (nG S q0 q1)), .int .i64 (nE S q0 q1)]) 0 (.int .u64 (uv (nG S q0 q1))) rfl rfl rfl) rfl ?_
    refine p_run _ (x_extract (vs := [.int .u64 (uv (nG S q0 q1)), .int .i64 (nE S q0 q1)]) 1 (.int .i64 (nE S q0 q1)) rfl rfl rfl) rfl ?_
    refine p_run _ (x_assign (.int .u64 (uv (nG S q0 q1))) rfl rfl) rfl ?_
    refine p_run (l' := (.pointer (some ⟨D, 0, none⟩) :: .slice A xs.length c :: undef :: undef :: .int .u64 0 :: .int .i64 0 :: .int .u64 (uv (nG S q0 q1)) :: .int .i64 (nE S q0 q1) :: undef :: undef :: .slice A xs.length c :: .int .i64 (xs.length : Int) :: .bool false :: .tuple [.int .u64 (uv (nG S q0 q1)), .int .i64 (nE S q0 q1)].toArray :: .pointer (some ⟨D, 0, none⟩) :: .tuple [.int .u64 (uv (nG S q0 q1)), .int .i64 (nE S q0 q1)].toArray :: .int .u64 (uv (nG S q0 q1)) :: .int .i64 (nE S q0 q1) :: U16r4 (U4r4 (undef :: [])))) _ (x_assign (.int .i64 (nE S q0 q1)) rfl rfl) rfl ?_
    refine wpList_nil ?_
    refine hK12 _ _ ?_
    refine wp_seq_k (fun K16 hK17 => ?_)
    refine wp_seq_k (fun K18 hK19 => ?_)
    by_cases hnz : nE S q0 q1 = 0
    · skip
      refine c_region (fun ops21 hops20 => ?_)
      clear hops20
      refine p_run _ (x_move (.int .i64 (nE S q0 q1)) rfl rfl) rfl ?_
      refine p_run _ (x_cmp (k := .i64) (m := (nE S q0 q1)) (n := 0) .neq false rfl rfl rfl (by rw [hnz]; rfl) rfl) rfl ?_
      refine wpList_nil ?_
      refine hK19 _ _ ?_
      refine c_false rfl ?_
      refine wp_skip ?_
      refine hK17 _ _ ?_
      refine wp_seq_k (fun K22 hK23 => ?_)
      refine wp_seq_k (fun K24 hK25 => ?_)
      refine c_region (fun ops27 hops26 => ?_)
      clear hops26
      refine p_run _ (x_move (.pointer (some ⟨D, 0, none⟩)) rfl rfl) rfl ?_
      refine p_run _ (x_move (.int .u64 (uv (nG S q0 q1))) rfl rfl) rfl ?_
      refine p_run _ (x_rem (k := .u64) (m := (uv (nG S q0 q1))) (n := 2) ((uv (nG S q0 q1) % 2)) rfl rfl rfl (by decide) (mod2 _)) rfl ?_
      refine p_run _ (x_conv (k := .u64) (m := (uv (nG S q0 q1) % 2)) .i64 ((wI S q0 q1 : Int)) rfl (by rw [Try.underlying25]; rfl) Try.underlying3 rfl (by rw [uv_mod]; exact wr64' (by have : wI S q0 q1 < 2 := Nat.mod_lt _ (by decide); unfold wI at this; omega))) rfl ?_
      refine p_run (l' := (.pointer (some ⟨D, 0, none⟩) :: .slice A xs.length c :: undef :: undef :: .int .u64 0 :: .int .i64 0 :: .int .u64 (uv (nG S q0 q1)) :: .int .i64 (nE S q0 q1) :: undef :: undef :: .slice A xs.length c :: .int .i64 (xs.length : Int) :: .bool false :: .tuple [.int .u64 (uv (nG S q0 q1)), .int .i64 (nE S q0 q1)].toArray :: .pointer (some ⟨D, 0, none⟩) :: .tuple [.int .u64 (uv (nG S q0 q1)), .int .i64 (nE S q0 q1)].toArray :: .int .u64 (uv (nG S q0 q1)) :: .int .i64 (nE S q0 q1) :: .int .i64 (nE S q0 q1) :: .bool false :: undef :: .pointer (some ⟨D, 0, none⟩) :: .int .u64 (uv (nG S q0 q1)) :: .int .u64 (uv (nG S q0 q1) % 2) :: .int .i64 (wI S q0 q1 : Int) :: .int .u64 (uv (nG S q0 q1)) :: U8r4 (U4r4 (undef :: [])))) _ (x_move (.int .u64 (uv (nG S q0 q1))) rfl rfl) rfl ?_
      refine p_run _ (x_move (.slice A xs.length c) rfl rfl) rfl ?_
      refine w_call [.slice A xs.length c] Try.func31 (by kernel_rfl) (by rfl) rfl ?_
      replace HS := ((((HS.front 3 rfl).front 3 rfl).front 3 rfl).front 3 rfl)
      refine (seal_root _ A c xs (hc _ [blk D (dskC gs gm v S) 72, blk gs (pgs S.stable) 38, mapR gm S.cnt S.bad, row kWr rfl 78 v S.pending] HS).1 (hc _ [blk D (dskC gs gm v S) 72, blk gs (pgs S.stable) 38, mapR gm S.cnt S.bad, row kWr rfl 78 v S.pending] HS).2 (by omega)).mono ?_
      rintro e w30 ⟨oa28, nc29, rfl, hk_⟩
      replace HS := HS.more hk_
      clear hk_
      refine ⟨_, rfl, ?_⟩
      refine w_call [.int .u64 (uv (nG S q0 q1)), .slice oa28 ((rtS xs).length) nc29] Try.func30 (by kernel_rfl) (by rfl) rfl ?_
      refine (page_root _ (nG S q0 q1) _ _ (rtS xs) (row_rd (HS.get (.head _))).2.2 (row_rd (HS.get (.head _))).2.1 (by rw [rtS_len]; omega)).mono ?_
      rintro e w31 ⟨rfl, hb_⟩
      replace HS := HS.here hb_
      clear hb_
      refine ⟨_, rfl, ?_⟩
      refine w_call [.pointer (some ⟨D, 0, none⟩), .int .i64 (wI S q0 q1 : Int), .agg ((nums .u8 ((wP S q0 q1 xs).map bv))).toArray] Try.func14 (by kernel_rfl) (by rfl) rfl ?_
      replace HS := ((((HS.front 4 rfl).front 4 rfl).front 4 rfl).front 4 rfl)
      refine (write_any HS hg.lft (by have := hg.pn; omega) (wI S q0 q1 : Int) ((wP S q0 q1 xs).map bv) (wP_len S q0 q1 xs)).mono ?_
      clear HS
      rintro e w33 ⟨v32, rfl, HS⟩
      have hgd34 : Dk.good (S.write (wI S q0 q1 : Int) ((wP S q0 q1 xs).map bv)) (n + 1) := good_write hg (wI S q0 q1 : Int) (wP_len S q0 q1 xs)
      refine ⟨_, rfl, ?_⟩
      refine p_run _ (x_assign (.int .i64 (S.writeE (wI S q0 q1 : Int))) rfl rfl) rfl ?_
      refine wpList_nil ?_
      refine fr_at (l' := (.pointer (some ⟨D, 0, none⟩) :: .slice A xs.length c :: undef :: undef :: .int .u64 0 :: .int .i64 0 :: .int .u64 (uv (nG S q0 q1)) :: .int .i64 (nE S q0 q1) :: .int .i64 (S.writeE (wI S q0 q1 : Int)) :: undef :: .slice A xs.length c :: .int .i64 (xs.length : Int) :: .bool false :: .tuple [.int .u64 (uv (nG S q0 q1)), .int .i64 (nE S q0 q1)].toArray :: .pointer (some ⟨D, 0, none⟩) :: .tuple [.int .u64 (uv (nG S q0 q1)), .int .i64 (nE S q0 q1)].toArray :: .int .u64 (uv (nG S q0 q1)) :: .int .i64 (nE S q0 q1) :: .int .i64 (nE S q0 q1) :: .bool false :: undef :: .pointer (some ⟨D, 0, none⟩) :: .int .u64 (uv (nG S q0 q1)) :: .int .u64 (uv (nG S q0 q1) % 2) :: .int .i64 (wI S q0 q1 : Int) :: .int .u64 (uv (nG S q0 q1)) :: .slice A xs.length c :: .slice oa28 ((rtS xs).length) nc29 :: .agg ((nums .u8 ((wP S q0 q1 xs).map bv))).toArray :: .int .i64 (S.writeE (wI S q0 q1 : Int)) :: U8r4 (undef :: []))) rfl ?_
      refine hK25 _ _ ?_
      refine wp_seq_k (fun K35 hK36 => ?_)
      by_cases hwz : S.writeE (wI S q0 q1 : Int) = 0
      · skip
        refine c_region (fun ops38 hops37 => ?_)
        clear hops37
        refine p_run _ (x_move (.int .i64 (S.writeE (wI S q0 q1 : Int))) rfl rfl) rfl ?_
        refine p_run _ (x_cmp (k := .i64) (m := (S.writeE (wI S q0 q1 : Int))) (n := 0) .neq false rfl rfl rfl (by rw [hwz]; rfl) rfl) rfl ?_
        refine wpList_nil ?_
        refine hK36 _ _ ?_
        refine c_false rfl ?_
        refine wp_skip ?_
        refine hK23 _ _ ?_
        refine wp_seq_k (fun K39 hK40 => ?_)
        refine wp_seq_k (fun K41 hK42 => ?_)
        refine c_region (fun ops44 hops43 => ?_)
        clear hops43
        refine p_run _ (x_move (.pointer (some ⟨D, 0, none⟩)) rfl rfl) rfl ?_
        refine w_call [.pointer (some ⟨D, 0, none⟩)] Try.func32 (by kernel_rfl) (by rfl) rfl ?_
        replace HS := ((((HS.front 3 rfl).front 3 rfl).front 3 rfl).front 3 rfl)
        refine (sync_any HS hgd34.ok (by have := hgd34.pn; omega)).mono ?_
        clear HS
        rintro e w46 ⟨v45, rfl, HS⟩
        have hgd47 : Dk.good ((S.write (wI S q0 q1 : Int) ((wP S q0 q1 xs).map bv)).sync) (n + 1) := good_sync hgd34
        refine ⟨_, rfl, ?_⟩
        refine p_run _ (x_assign (.int .i64 ((S.write (wI S q0 q1 : Int) ((wP S q0 q1 xs).map bv)).actE)) rfl rfl) rfl ?_
        refine wpList_nil ?_
        refine fr_at (l' := (.pointer (some ⟨D, 0, none⟩) :: .slice A xs.length c :: undef :: undef :: .int .u64 0 :: .int .i64 0 :: .int .u64 (uv (nG S q0 q1)) :: .int .i64 (nE S q0 q1) :: .int .i64 (S.writeE (wI S q0 q1 : Int)) :: .int .i64 ((S.write (wI S q0 q1 : Int) ((wP S q0 q1 xs).map bv)).actE) :: .slice A xs.length c :: .int .i64 (xs.length : Int) :: .bool false :: .tuple [.int .u64 (uv (nG S q0 q1)), .int .i64 (nE S q0 q1)].toArray :: .pointer (some ⟨D, 0, none⟩) :: .tuple [.int .u64 (uv (nG S q0 q1)), .int .i64 (nE S q0 q1)].toArray :: .int .u64 (uv (nG S q0 q1)) :: .int .i64 (nE S q0 q1) :: .int .i64 (nE S q0 q1) :: .bool false :: undef :: .pointer (some ⟨D, 0, none⟩) :: .int .u64 (uv (nG S q0 q1)) :: .int .u64 (uv (nG S q0 q1) % 2) :: .int .i64 (wI S q0 q1 : Int) :: .int .u64 (uv (nG S q0 q1)) :: .slice A xs.length c :: .slice oa28 ((rtS xs).length) nc29 :: .agg ((nums .u8 ((wP S q0 q1 xs).map bv))).toArray :: .int .i64 (S.writeE (wI S q0 q1 : Int)) :: .int .i64 (S.writeE (wI S q0 q1 : Int)) :: .bool false :: undef :: .pointer (some ⟨D, 0, none⟩) :: .int .i64 ((S.write (wI S q0 q1 : Int) ((wP S q0 q1 xs).map bv)).actE) :: U4r4 ([]))) rfl ?_
        refine hK42 _ _ ?_
        refine wp_seq_k (fun K48 hK49 => ?_)
        by_cases haz : (w1S S q0 q1 xs).actE = 0
        · skip
          refine c_region (fun ops51 hops50 => ?_)
          clear hops50
          refine p_run _ (x_move (.int .i64 ((S.write (wI S q0 q1 : Int) ((wP S q0 q1 xs).map bv)).actE)) rfl rfl) rfl ?_
          refine p_run _ (x_cmp (k := .i64) (m := (S.write (wI S q0 q1 : Int) ((wP S q0 q1 xs).map bv)).actE) (n := 0) .neq false rfl rfl rfl (by have h := haz; unfold w1S at h; rw [h]; rfl) rfl) rfl ?_
          refine wpList_nil ?_
          refine hK49 _ _ ?_
          refine c_false rfl ?_
          refine wp_skip ?_
          refine hK40 _ _ ?_
          refine wp_seq_k (fun K52 hK53 => ?_)
          refine c_region (fun ops55 hops54 => ?_)
          clear hops54
          refine p_run _ (x_move (.int .u64 (uv (nG S q0 q1))) rfl rfl) rfl ?_
          refine p_run _ (x_assign (.int .u64 (uv (nG S q0 q1))) rfl rfl) rfl ?_
          refine p_run _ (x_assign (.int .i64 0) rfl rfl) rfl ?_
          refine wpList_nil ?_
          refine fr_at (l' := (.pointer (some ⟨D, 0, none⟩) :: .slice A xs.length c :: undef :: undef :: .int .u64 (uv (nG S q0 q1)) :: .int .i64 0 :: .int .u64 (uv (nG S q0 q1)) :: .int .i64 (nE S q0 q1) :: .int .i64 (S.writeE (wI S q0 q1 : Int)) :: .int .i64 ((S.write (wI S q0 q1 : Int) ((wP S q0 q1 xs).map bv)).actE) :: .slice A xs.length c :: .int .i64 (xs.length : Int) :: .bool false :: .tuple [.int .u64 (uv (nG S q0 q1)), .int .i64 (nE S q0 q1)].toArray :: .pointer (some ⟨D, 0, none⟩) :: .tuple [.int .u64 (uv (nG S q0 q1)), .int .i64 (nE S q0 q1)].toArray :: .int .u64 (uv (nG S q0 q1)) :: .int .i64 (nE S q0 q1) :: .int .i64 (nE S q0 q1) :: .bool false :: undef :: .pointer (some ⟨D, 0, none⟩) :: .int .u64 (uv (nG S q0 q1)) :: .int .u64 (uv (nG S q0 q1) % 2) :: .int .i64 (wI S q0 q1 : Int) :: .int .u64 (uv (nG S q0 q1)) :: .slice A xs.length c :: .slice oa28 ((rtS xs).length) nc29 :: .agg ((nums .u8 ((wP S q0 q1 xs).map bv))).toArray :: .int .i64 (S.writeE (wI S q0 q1 : Int)) :: .int .i64 (S.writeE (wI S q0 q1 : Int)) :: .bool false :: undef :: .pointer (some ⟨D, 0, none⟩) :: .int .i64 ((S.write (wI S q0 q1 : Int) ((wP S q0 q1 xs).map bv)).actE) :: .int .i64 ((S.write (wI S q0 q1 : Int) ((wP S q0 q1 xs).map bv)).actE) :: .bool false :: undef :: .int .u64 (uv (nG S q0 q1)) :: [])) rfl ?_
          refine hK53 _ _ ?_
          refine wp_ret ?_
          try simp only [Exit.inBlock, Exit.then]
          refine c_ret (.tuple [.int .u64 (uv (nG S q0 q1)), .int .i64 0].toArray) (r_tmp2 rfl rfl rfl) ?_
          have e1 : wE S q0 q1 xs = 0 := ((if_pos hl).trans ((if_pos hnz).trans (if_pos hwz))).trans haz
          have e2 : wS S q0 q1 xs = (w1S S q0 q1 xs).sync := (if_pos ⟨hl, hnz⟩).trans (if_pos hwz)
          have e3 : wG S q0 q1 xs = nG S q0 q1 := if_pos e1
          rw [e1, e2, e3]
          exact ⟨_, rfl, (((((HS.front 4 rfl).drop.front 3 rfl).front 3 rfl).front 3 rfl).front 3 rfl)⟩
        · skip
          refine c_region (fun ops57 hops56 => ?_)
          clear hops56
          refine p_run _ (x_move (.int .i64 ((S.write (wI S q0 q1 : Int) ((wP S q0 q1 xs).map bv)).actE)) rfl rfl) rfl ?_
          refine p_run _ (x_cmp (k := .i64) (m := (S.write (wI S q0 q1 : Int) ((wP S q0 q1 xs).map bv)).actE) (n := 0) .neq true rfl rfl rfl (by simpa [cmpB, w1S] using haz) rfl) rfl ?_
          refine wpList_nil ?_
          refine hK49 _ _ ?_
          refine c_true rfl ?_
          refine wp_seq_k (fun K58 hK59 => ?_)
          refine c_region (fun ops61 hops60 => ?_)
          clear hops60
          refine p_run _ (x_move (.int .i64 ((S.write (wI S q0 q1 : Int) ((wP S q0 q1 xs).map bv)).actE)) rfl rfl) rfl ?_
          refine p_run _ (x_assign (.int .u64 0) rfl rfl) rfl ?_
          refine p_run _ (x_assign (.int .i64 ((S.write (wI S q0 q1 : Int) ((wP S q0 q1 xs).map bv)).actE)) rfl rfl) rfl ?_
          refine wpList_nil ?_
          refine fr_at (l' := (.pointer (some ⟨D, 0, none⟩) :: .slice A xs.length c :: undef :: undef :: .int .u64 0 :: .int .i64 ((S.write (wI S q0 q1 : Int) ((wP S q0 q1 xs).map bv)).actE) :: .int .u64 (uv (nG S q0 q1)) :: .int .i64 (nE S q0 q1) :: .int .i64 (S.writeE (wI S q0 q1 : Int)) :: .int .i64 ((S.write (wI S q0 q1 : Int) ((wP S q0 q1 xs).map bv)).actE) :: .slice A xs.length c :: .int .i64 (xs.length : Int) :: .bool false :: .tuple [.int .u64 (uv (nG S q0 q1)), .int .i64 (nE S q0 q1)].toArray :: .pointer (some ⟨D, 0, none⟩) :: .tuple [.int .u64 (uv (nG S q0 q1)), .int .i64 (nE S q0 q1)].toArray :: .int .u64 (uv (nG S q0 q1)) :: .int .i64 (nE S q0 q1) :: .int .i64 (nE S q0 q1) :: .bool false :: undef :: .pointer (some ⟨D, 0, none⟩) :: .int .u64 (uv (nG S q0 q1)) :: .int .u64 (uv (nG S q0 q1) % 2) :: .int .i64 (wI S q0 q1 : Int) :: .int .u64 (uv (nG S q0 q1)) :: .slice A xs.length c :: .slice oa28 ((rtS xs).length) nc29 :: .agg ((nums .u8 ((wP S q0 q1 xs).map bv))).toArray :: .int .i64 (S.writeE (wI S q0 q1 : Int)) :: .int .i64 (S.writeE (wI S q0 q1 : Int)) :: .bool false :: undef :: .pointer (some ⟨D, 0, none⟩) :: .int .i64 ((S.write (wI S q0 q1 : Int) ((wP S q0 q1 xs).map bv)).actE) :: .int .i64 ((S.write (wI S q0 q1 : Int) ((wP S q0 q1 xs).map bv)).actE) :: .bool true :: .int .i64 ((S.write (wI S q0 q1 : Int) ((wP S q0 q1 xs).map bv)).actE) :: undef :: [])) rfl ?_
          refine hK59 _ _ ?_
          refine wp_ret ?_
          try simp only [Exit.inBlock, Exit.then]
          refine c_ret (.tuple [.int .u64 0, .int .i64 ((S.write (wI S q0 q1 : Int) ((wP S q0 q1 xs).map bv)).actE)].toArray) (r_tmp2 rfl rfl rfl) ?_
          have e1 : wE S q0 q1 xs = (w1S S q0 q1 xs).actE := (if_pos hl).trans ((if_pos hnz).trans (if_pos hwz))
          have e2 : wS S q0 q1 xs = (w1S S q0 q1 xs).sync := (if_pos ⟨hl, hnz⟩).trans (if_pos hwz)
          have e3 : wG S q0 q1 xs = 0 := if_neg (by rw [e1]; exact haz)
          rw [e1, e2, e3]
          exact ⟨_, rfl, (((((HS.front 4 rfl).drop.front 3 rfl).front 3 rfl).front 3 rfl).front 3 rfl)⟩
      · skip
        refine c_region (fun ops63 hops62 => ?_)
        clear hops62
        refine p_run _ (x_move (.int .i64 (S.writeE (wI S q0 q1 : Int))) rfl rfl) rfl ?_
        refine p_run _ (x_cmp (k := .i64) (m := (S.writeE (wI S q0 q1 : Int))) (n := 0) .neq true rfl rfl rfl (by simpa [cmpB] using hwz) rfl) rfl ?_
        refine wpList_nil ?_
        refine hK36 _ _ ?_
        refine c_true rfl ?_
        refine wp_seq_k (fun K64 hK65 => ?_)
        refine c_region (fun ops67 hops66 => ?_)
        clear hops66
        refine p_run _ (x_move (.int .i64 (S.writeE (wI S q0 q1 : Int))) rfl rfl) rfl ?_
        refine p_run _ (x_assign (.int .u64 0) rfl rfl) rfl ?_
        refine p_run _ (x_assign (.int .i64 (S.writeE (wI S q0 q1 : Int))) rfl rfl) rfl ?_
        refine wpList_nil ?_
        refine fr_at (l' := (.pointer (some ⟨D, 0, none⟩) :: .slice A xs.length c :: undef :: undef :: .int .u64 0 :: .int .i64 (S.writeE (wI S q0 q1 : Int)) :: .int .u64 (uv (nG S q0 q1)) :: .int .i64 (nE S q0 q1) :: .int .i64 (S.writeE (wI S q0 q1 : Int)) :: undef :: .slice A xs.length c :: .int .i64 (xs.length : Int) :: .bool false :: .tuple [.int .u64 (uv (nG S q0 q1)), .int .i64 (nE S q0 q1)].toArray :: .pointer (some ⟨D, 0, none⟩) :: .tuple [.int .u64 (uv (nG S q0 q1)), .int .i64 (nE S q0 q1)].toArray :: .int .u64 (uv (nG S q0 q1)) :: .int .i64 (nE S q0 q1) :: .int .i64 (nE S q0 q1) :: .bool false :: undef :: .pointer (some ⟨D, 0, none⟩) :: .int .u64 (uv (nG S q0 q1)) :: .int .u64 (uv (nG S q0 q1) % 2) :: .int .i64 (wI S q0 q1 : Int) :: .int .u64 (uv (nG S q0 q1)) :: .slice A xs.length c :: .slice oa28 ((rtS xs).length) nc29 :: .agg ((nums .u8 ((wP S q0 q1 xs).map bv))).toArray :: .int .i64 (S.writeE (wI S q0 q1 : Int)) :: .int .i64 (S.writeE (wI S q0 q1 : Int)) :: .bool true :: .int .i64 (S.writeE (wI S q0 q1 : Int)) :: U4r4 (undef :: undef :: []))) rfl ?_
        refine hK65 _ _ ?_
        refine wp_ret ?_
        try simp only [Exit.inBlock, Exit.then]
        refine c_ret (.tuple [.int .u64 0, .int .i64 (S.writeE (wI S q0 q1 : Int))].toArray) (r_tmp2 rfl rfl rfl) ?_
        have e1 : wE S q0 q1 xs = S.writeE (wI S q0 q1 : Int) := (if_pos hl).trans ((if_pos hnz).trans (if_neg hwz))
        have e2 : wS S q0 q1 xs = w1S S q0 q1 xs := (if_pos ⟨hl, hnz⟩).trans (if_neg hwz)
        have e3 : wG S q0 q1 xs = 0 := if_neg (by rw [e1]; exact hwz)
        rw [e1, e2, e3]
        exact ⟨_, rfl, (((((HS.front 4 rfl).drop.front 3 rfl).front 3 rfl).front 3 rfl).front 3 rfl)⟩
    · skip
      refine c_region (fun ops69 hops68 => ?_)
      clear hops68
      refine p_run _ (x_move (.int .i64 (nE S q0 q1)) rfl rfl) rfl ?_
      refine p_run _ (x_cmp (k := .i64) (m := (nE S q0 q1)) (n := 0) .neq true rfl rfl rfl (by simpa [cmpB] using hnz) rfl) rfl ?_
      refine wpList_nil ?_
      refine hK19 _ _ ?_
      refine c_true rfl ?_
      refine wp_seq_k (fun K70 hK71 => ?_)
      refine c_region (fun ops73 hops72 => ?_)
      clear hops72
      refine p_run _ (x_move (.int .i64 (nE S q0 q1)) rfl rfl) rfl ?_
      refine p_run _ (x_assign (.int .u64 0) rfl rfl) rfl ?_
      refine p_run _ (x_assign (.int .i64 (nE S q0 q1)) rfl rfl) rfl ?_
      refine wpList_nil ?_
      refine fr_at (l' := (.pointer (some ⟨D, 0, none⟩) :: .slice A xs.length c :: undef :: undef :: .int .u64 0 :: .int .i64 (nE S q0 q1) :: .int .u64 (uv (nG S q0 q1)) :: .int .i64 (nE S q0 q1) :: undef :: undef :: .slice A xs.length c :: .int .i64 (xs.length : Int) :: .bool false :: .tuple [.int .u64 (uv (nG S q0 q1)), .int .i64 (nE S q0 q1)].toArray :: .pointer (some ⟨D, 0, none⟩) :: .tuple [.int .u64 (uv (nG S q0 q1)), .int .i64 (nE S q0 q1)].toArray :: .int .u64 (uv (nG S q0 q1)) :: .int .i64 (nE S q0 q1) :: .int .i64 (nE S q0 q1) :: .bool true :: .int .i64 (nE S q0 q1) :: U16r4 (undef :: undef :: []))) rfl ?_
      refine hK71 _ _ ?_
      refine wp_ret ?_
      try simp only [Exit.inBlock, Exit.then]
      refine c_ret (.tuple [.int .u64 0, .int .i64 (nE S q0 q1)].toArray) (r_tmp2 rfl rfl rfl) ?_
      have e1 : wE S q0 q1 xs = nE S q0 q1 := (if_pos hl).trans (if_neg hnz)
      have e2 : wS S q0 q1 xs = S := if_neg (fun h => hnz h.2)
      have e3 : wG S q0 q1 xs = 0 := if_neg (by rw [e1]; exact hnz)
      rw [e1, e2, e3]
      exact ⟨_, rfl, ((((HS.front 3 rfl).front 3 rfl).front 3 rfl).front 3 rfl)⟩
  · skip
    have hsm := (hc _ [blk D (dskC gs gm v S) 72, blk gs (pgs S.stable) 38, mapR gm S.cnt S.bad, row kWr rfl 78 v S.pending] HS).1.2.1
    refine c_enter Try.func10 rfl 39 rfl (.pointer (some ⟨D, 0, none⟩) :: .slice A xs.length c :: U32r4 (U4r4 (undef :: []))) rfl ?_
    refine wp_seq_k (fun K1 hK2 => ?_)
    refine c_region (fun ops4 hops3 => ?_)
    clear hops3
    refine p_run _ (x_assign (.int .u64 0) rfl rfl) rfl ?_
    refine p_run _ (x_assign (.int .i64 0) rfl rfl) rfl ?_
    refine wpList_nil ?_
    refine hK2 _ _ ?_
    refine wp_seq_k (fun K5 hK6 => ?_)
    refine wp_seq_k (fun K7 hK8 => ?_)
    refine c_region (fun ops10 hops9 => ?_)
    clear hops9
    refine p_run _ (x_move (.slice A xs.length c) rfl rfl) rfl ?_
    refine p_run _ (x_len rfl rfl Try.underlying24) rfl ?_
    refine p_run _ (x_cmp (k := .i64) (m := (xs.length : Int)) (n := 186) .gtr true rfl rfl rfl (show decide _ = true from decide_eq_true (by omega)) rfl) rfl ?_
    refine wpList_nil ?_
    refine fr_at (l' := (.pointer (some ⟨D, 0, none⟩) :: .slice A xs.length c :: undef :: undef :: .int .u64 0 :: .int .i64 0 :: U4r4 (.slice A xs.length c :: .int .i64 (xs.length : Int) :: .bool true :: U16r4 (U8r4 (undef :: undef :: []))))) rfl ?_
    refine hK8 _ _ ?_
    refine c_true rfl ?_
    refine wp_seq_k (fun K11 hK12 => ?_)
    refine c_region (fun ops14 hops13 => ?_)
    clear hops13
    refine p_run _ (x_assign (.int .u64 0) rfl rfl) rfl ?_
    refine p_run _ (x_assign (.int .i64 51) rfl rfl) rfl ?_
    refine wpList_nil ?_
    refine hK12 _ _ ?_
    refine wp_ret ?_
    try simp only [Exit.inBlock, Exit.then]
    refine c_ret (.tuple [.int .u64 0, .int .i64 51].toArray) (r_tmp2 rfl rfl rfl) ?_
    have e1 : wE S q0 q1 xs = 51 := if_neg hl
    have e2 : wS S q0 q1 xs = S := if_neg (fun h => hl h.1)
    have e3 : wG S q0 q1 xs = 0 := if_neg (by rw [e1]; decide)
    rw [e1, e2, e3]
    exact ⟨_, rfl, ((((HS.front 3 rfl).front 3 rfl).front 3 rfl).front 3 rfl)⟩
end
end Go.Proofs.Ytenlkobjldhfgaa
