/- Package disk: Stable, Spoil, Cut, Read, Pending. -/
import Derived.Test.YtenlkobjldhfgaaDisk1
set_option linter.unusedVariables false
set_option linter.unusedSimpArgs false
namespace Go.Proofs.Ytenlkobjldhfgaa
open Go.RowKit Go.Proofs.YtenlkobjldhfgaaW.PrintWords Go.Proofs.YtenlkobjldhfgaaW.PrintLast
section
variable {w0 W : World} {F : Nat → Prop} {L : List Res} {D gs gm : Nat} {v : Value} {S : Dk}
theorem there_as (HS : St w0 F W (dsk D gs gm v S L)) (i : Int) (b : Bool) (hb : S.there i = b) : Calls Try.prog 33 #[.pointer (some ⟨D, 0, none⟩), .int .i64 i] W fun e w' => e = .returned (.bool b) ∧ w' = W := hb ▸ there_any HS i
theorem act_as (HS : St w0 F W (dsk D gs gm v S L)) (hl : -1 ≤ S.left ∧ S.left < 9223372036854775808) (e : Int) (he : S.actE = e) : Calls Try.prog 34 #[.pointer (some ⟨D, 0, none⟩)] W fun e' w' => e' = .returned (.int .i64 e) ∧ St w0 F w' (dsk D gs gm v S.act L) := he ▸ act_any HS hl
theorem there_in {i : Int} (h : S.there i = true) : 0 ≤ i ∧ i < (S.stable.length : Int) := of_decide_eq_true h
def Dk.at (S : Dk) (i : Int) : List Int := S.stable.getD i.toNat zpg
theorem at_get {i : Int} (h : S.there i = true) : S.stable[i.toNat]? = some (S.at i) := by
  have := there_in h
  unfold Dk.at
  rw [List.getD_eq_getElem?_getD, List.getElem?_eq_getElem (by omega)]
  rfl
theorem at_len {i : Int} (hS : S.ok) : (S.at i).length = 256 := by
  unfold Dk.at
  rw [List.getD_eq_getElem?_getD]
  cases h : S.stable[i.toNat]? with
  | none => exact zlen
  | some p => exact hS.1 p (List.mem_of_getElem? h)

set_option maxRecDepth 10000 in
theorem stable_yes (HS : St w0 F W (dsk D gs gm v S L)) (hS : S.ok) (i : Int) (ht : S.there i = true) : Calls Try.prog 28 #[.pointer (some ⟨D, 0, none⟩), .int .i64 i] W fun e w' => e = .returned (.tuple #[.agg (nums .u8 (S.at i)).toArray, .int .i64 0]) ∧ St w0 F w' (dsk D gs gm v S L) := by
  refine c_enter Try.func28 rfl 18 rfl [.pointer (some ⟨D, 0, none⟩), .int .i64 i, undef, undef, undef, undef, undef, undef, undef, undef, undef, undef, undef, undef, undef, undef, undef, undef] rfl ?_
  refine wp_seq_k (fun K1 hK2 => ?_)
  refine c_region (fun ops4 hops3 => ?_)
  clear hops3
  refine St.wAlloc HS (cs := ((nums .u8 zpg))) (.agg ((nums .u8 zpg)).toArray) (by kernel_rfl) rfl ?_
  clear HS
  intro g5 w6 hg7 HS
  refine p_run _ (x_assign (.int .i64 0) rfl rfl) rfl ?_
  refine wpList_nil ?_
  refine fr_at (l' := [.pointer (some ⟨D, 0, none⟩), .int .i64 i, undef, undef, .pointer (some ⟨g5, 0, none⟩), .int .i64 0, undef, undef, undef, undef, undef, undef, undef, undef, undef, undef, undef, undef]) rfl ?_
  refine hK2 _ _ ?_
  refine wp_seq_k (fun K8 hK9 => ?_)
  refine wp_seq_k (fun K10 hK11 => ?_)
  refine c_region (fun ops13 hops12 => ?_)
  clear hops12
  refine p_run _ (x_move (.pointer (some ⟨D, 0, none⟩)) rfl rfl) rfl ?_
  refine p_run _ (x_move (.int .i64 i) rfl rfl) rfl ?_
  refine w_call [.pointer (some ⟨D, 0, none⟩), .int .i64 i] Try.func33 (by kernel_rfl) (by rfl) rfl ?_
  replace HS := ((((HS.front 4 rfl).front 4 rfl).front 4 rfl).front 4 rfl)
  refine (there_as HS i true ht).mono ?_
  rintro e w' ⟨rfl, rfl⟩
  refine ⟨_, rfl, ?_⟩
  refine p_run (l' := [.pointer (some ⟨D, 0, none⟩), .int .i64 i, undef, undef, .pointer (some ⟨g5, 0, none⟩), .int .i64 0, .pointer (some ⟨D, 0, none⟩), .int .i64 i, .bool true, .bool false, undef, undef, undef, undef, undef, undef, undef, undef]) _ (x_not true rfl rfl) rfl ?_
  refine wpList_nil ?_
  refine hK11 _ _ ?_
  refine c_false rfl ?_
  refine wp_skip ?_
  refine hK9 _ _ ?_
  refine wp_seq_k (fun K14 hK15 => ?_)
  refine c_region (fun ops17 hops16 => ?_)
  clear hops16
  refine p_run _ (x_move (.pointer (some ⟨D, 0, none⟩)) rfl rfl) rfl ?_
  refine p_run _ (x_nil rfl rfl) rfl ?_
  refine p_run _ (x_field (j := 0) _ _ rfl rfl Try.underlying72 rfl (by rfl) rfl) rfl ?_
  refine p_run (l' := [.pointer (some ⟨D, 0, none⟩), .int .i64 i, undef, undef, .pointer (some ⟨g5, 0, none⟩), .int .i64 0, .pointer (some ⟨D, 0, none⟩), .int .i64 i, .bool true, .bool false, undef, .pointer (some ⟨D, 0, none⟩), .pointer (some ⟨D, 0, none⟩), .pointer (some ⟨D, 0, none⟩), .slice (some ⟨gs, 0, none⟩) S.stable.length S.stable.length, undef, undef, undef]) _ (x_load (.slice (some ⟨gs, 0, none⟩) S.stable.length S.stable.length) rfl rfl (bkCell (HS.get (.head _)) 0 _ rfl) (by rfl)) rfl ?_
  refine p_run _ (x_move (.int .i64 i) rfl rfl) rfl ?_
  refine p_run (.pointer (some ⟨gs, (i).toNat * 256, none⟩)) ((x_index (A := ⟨gs, 0, none⟩) (j := (i).toNat * 256) (sz := 256) rfl rfl rfl Try.underlying49 (by kernel_rfl) (there_in ht) rfl).trans (by rw [add_mk, Nat.zero_add])) rfl ?_
  refine p_run _ (x_loads ((nums .u8 (S.at i))) 256 rfl rfl (bk_page (HS.get (.tail _ (.head _))) hS.1 (at_get ht)) (by rfl) (by kernel_rfl) (by simp [at_len hS, nums_length])) rfl ?_
  refine St.stores (cs' := ((nums .u8 (S.at i)))) (HS.front 4 rfl) ((nums .u8 (S.at i))) 256 rfl rfl (nums_one _ _) (by kernel_rfl) (by simp [at_len hS, nums_length]) (by simp [at_len hS, nums_length, zlen]) (lay_all _ _ (by simp [at_len hS, nums_length, zlen])) ?_
  clear HS
  intro w18 HS
  refine p_run (l' := [.pointer (some ⟨D, 0, none⟩), .int .i64 i, undef, undef, .pointer (some ⟨g5, 0, none⟩), .int .i64 0, .pointer (some ⟨D, 0, none⟩), .int .i64 i, .bool true, .bool false, undef, .pointer (some ⟨D, 0, none⟩), .pointer (some ⟨D, 0, none⟩), .pointer (some ⟨D, 0, none⟩), .slice (some ⟨gs, 0, none⟩) S.stable.length S.stable.length, .int .i64 i, .pointer (some ⟨gs, (i).toNat * 256, none⟩), .agg ((nums .u8 (S.at i))).toArray]) _ (x_assign (.int .i64 0) rfl rfl) rfl ?_
  refine wpList_nil ?_
  refine hK15 _ _ ?_
  refine wp_ret ?_
  try simp only [Exit.inBlock, Exit.then]
  refine c_ret (.tuple [.agg ((nums .u8 (S.at i))).toArray, .int .i64 0].toArray) (r_ct rfl rfl (run_loadVar_aggn (by rfl) ((nums .u8 (S.at i))) 256 (by kernel_rfl) (by simp [at_len hS, nums_length]) (bkCells (HS.get (.head _)) 0 _ (whole _))) rfl) ?_
  exact ⟨rfl, ((((HS.drop.front 3 rfl).front 3 rfl).front 3 rfl).front 3 rfl)⟩

set_option maxRecDepth 10000 in
theorem stable_no (HS : St w0 F W (dsk D gs gm v S L)) (hS : S.ok) (i : Int) (ht : S.there i = false) : Calls Try.prog 28 #[.pointer (some ⟨D, 0, none⟩), .int .i64 i] W fun e w' => e = .returned (.tuple #[.agg (nums .u8 zpg).toArray, .int .i64 41]) ∧ St w0 F w' (dsk D gs gm v S L) := by
  refine c_enter Try.func28 rfl 18 rfl [.pointer (some ⟨D, 0, none⟩), .int .i64 i, undef, undef, undef, undef, undef, undef, undef, undef, undef, undef, undef, undef, undef, undef, undef, undef] rfl ?_
  refine wp_seq_k (fun K1 hK2 => ?_)
  refine c_region (fun ops4 hops3 => ?_)
  clear hops3
  refine St.wAlloc HS (cs := ((nums .u8 zpg))) (.agg ((nums .u8 zpg)).toArray) (by kernel_rfl) rfl ?_
  clear HS
  intro g5 w6 hg7 HS
  refine p_run _ (x_assign (.int .i64 0) rfl rfl) rfl ?_
  refine wpList_nil ?_
  refine fr_at (l' := [.pointer (some ⟨D, 0, none⟩), .int .i64 i, undef, undef, .pointer (some ⟨g5, 0, none⟩), .int .i64 0, undef, undef, undef, undef, undef, undef, undef, undef, undef, undef, undef, undef]) rfl ?_
  refine hK2 _ _ ?_
  refine wp_seq_k (fun K8 hK9 => ?_)
  refine wp_seq_k (fun K10 hK11 => ?_)
  refine c_region (fun ops13 hops12 => ?_)
  clear hops12
  refine p_run _ (x_move (.pointer (some ⟨D, 0, none⟩)) rfl rfl) rfl ?_
  refine p_run _ (x_move (.int .i64 i) rfl rfl) rfl ?_
  refine w_call [.pointer (some ⟨D, 0, none⟩), .int .i64 i] Try.func33 (by kernel_rfl) (by rfl) rfl ?_
  replace HS := ((((HS.front 4 rfl).front 4 rfl).front 4 rfl).front 4 rfl)
  refine (there_as HS i false ht).mono ?_
  rintro e w' ⟨rfl, rfl⟩
  refine ⟨_, rfl, ?_⟩
  refine p_run (l' := [.pointer (some ⟨D, 0, none⟩), .int .i64 i, undef, undef, .pointer (some ⟨g5, 0, none⟩), .int .i64 0, .pointer (some ⟨D, 0, none⟩), .int .i64 i, .bool false, .bool true, undef, undef, undef, undef, undef, undef, undef, undef]) _ (x_not false rfl rfl) rfl ?_
  refine wpList_nil ?_
  refine hK11 _ _ ?_
  refine c_true rfl ?_
  refine wp_seq_k (fun K14 hK15 => ?_)
  refine c_region (fun ops17 hops16 => ?_)
  clear hops16
  refine p_run _ (x_build ((nums .u8 zpg)) rfl (by kernel_rfl)) rfl ?_
  refine St.stores (cs' := ((nums .u8 zpg))) (HS.front 4 rfl) ((nums .u8 zpg)) 256 rfl rfl (nums_one _ _) (by kernel_rfl) (by simp [nums_length, zlen]) (by simp [nums_length, zlen]) (lay_all _ _ (by simp [nums_length, zlen])) ?_
  clear HS
  intro w18 HS
  refine p_run _ (x_assign (.int .i64 41) rfl rfl) rfl ?_
  refine wpList_nil ?_
  refine fr_at (l' := [.pointer (some ⟨D, 0, none⟩), .int .i64 i, undef, undef, .pointer (some ⟨g5, 0, none⟩), .int .i64 41, .pointer (some ⟨D, 0, none⟩), .int .i64 i, .bool false, .bool true, .agg ((nums .u8 zpg)).toArray, undef, undef, undef, undef, undef, undef, undef]) rfl ?_
  refine hK15 _ _ ?_
  refine wp_ret ?_
  try simp only [Exit.inBlock, Exit.then]
  refine c_ret (.tuple [.agg ((nums .u8 zpg)).toArray, .int .i64 41].toArray) (r_ct rfl rfl (run_loadVar_aggn (by rfl) ((nums .u8 zpg)) 256 (by kernel_rfl) (by simp [nums_length, zlen]) (bkCells (HS.get (.head _)) 0 _ (whole _))) rfl) ?_
  exact ⟨rfl, ((((HS.drop.front 3 rfl).front 3 rfl).front 3 rfl).front 3 rfl)⟩

/-- A page can't be read, or can again. -/
def Dk.spoil (S : Dk) (i : Int) (b : Bool) : Dk := if S.there i = true then (if b = true then { S with bad := putF S.bad i (S.bad i + 1), cnt := S.cnt + 1 } else { S with bad := putF S.bad i 0 }) else S
def Dk.pageE (S : Dk) (i : Int) : Int := if S.there i = true then 0 else 41
theorem map_bd {w : World} {g cnt : Nat} {f : Int → Int} (h : (mapR g cnt f).holds w) (i : Int) : 0 ≤ f i ∧ f i ≤ cnt := h.1 i
theorem idx_bd {i : Int} (hS : S.ok) (h : S.there i = true) : -9223372036854775808 ≤ i ∧ i < 9223372036854775808 := by
  have := there_in h
  have := hS.2.1
  omega

set_option maxRecDepth 10000 in
theorem spoil_any (HS : St w0 F W (dsk D gs gm v S L)) (hS : S.ok) (hc : S.cnt < 1000000) (i : Int) (b : Bool) : Calls Try.prog 24 #[.pointer (some ⟨D, 0, none⟩), .int .i64 i, .bool b] W fun e w' => e = .returned (.int .i64 (S.pageE i)) ∧ St w0 F w' (dsk D gs gm v (S.spoil i b) L) := by
  rcases ht : S.there i with _ | _
  · skip
    cases b
    · skip
      have hbd := map_bd (HS.get (.tail _ (.tail _ (.head _)))) i
      refine c_enter Try.func24 rfl 26 rfl [.pointer (some ⟨D, 0, none⟩), .int .i64 i, .bool false, undef, undef, undef, undef, undef, undef, undef, undef, undef, undef, undef, undef, undef, undef, undef, undef, undef, undef, undef, undef, undef, undef, undef] rfl ?_
      refine wp_seq_k (fun K1 hK2 => ?_)
      refine c_region (fun ops4 hops3 => ?_)
      clear hops3
      refine p_run _ (x_assign (.int .i64 0) rfl rfl) rfl ?_
      refine wpList_nil ?_
      refine fr_at (l' := [.pointer (some ⟨D, 0, none⟩), .int .i64 i, .bool false, undef, undef, undef, .int .i64 0, undef, undef, undef, undef, undef, undef, undef, undef, undef, undef, undef, undef, undef, undef, undef, undef, undef, undef, undef]) rfl ?_
      refine hK2 _ _ ?_
      refine wp_seq_k (fun K5 hK6 => ?_)
      refine wp_block ?_
      refine wp_seq_k (fun K7 hK8 => ?_)
      refine c_region (fun ops10 hops9 => ?_)
      clear hops9
      refine p_run _ (x_move (.pointer (some ⟨D, 0, none⟩)) rfl rfl) rfl ?_
      refine p_run _ (x_move (.int .i64 i) rfl rfl) rfl ?_
      refine w_call [.pointer (some ⟨D, 0, none⟩), .int .i64 i] Try.func33 (by kernel_rfl) (by rfl) rfl ?_
      replace HS := ((((HS.front 3 rfl).front 3 rfl).front 3 rfl).front 3 rfl)
      refine (there_as HS i false ht).mono ?_
      rintro e w' ⟨rfl, rfl⟩
      refine ⟨_, rfl, ?_⟩
      refine p_run (l' := [.pointer (some ⟨D, 0, none⟩), .int .i64 i, .bool false, undef, undef, undef, .int .i64 0, undef, undef, undef, undef, undef, undef, .pointer (some ⟨D, 0, none⟩), .int .i64 i, .bool false, .bool true, undef, undef, undef, undef, undef, undef, undef, undef, undef]) _ (x_not false rfl rfl) rfl ?_
      refine p_run _ (x_assign (.bool true) rfl rfl) rfl ?_
      refine wpList_nil ?_
      refine fr_at (l' := [.pointer (some ⟨D, 0, none⟩), .int .i64 i, .bool false, undef, undef, undef, .int .i64 0, undef, undef, undef, undef, undef, .bool true, .pointer (some ⟨D, 0, none⟩), .int .i64 i, .bool false, .bool true, undef, undef, undef, undef, undef, undef, undef, undef, undef]) rfl ?_
      refine hK8 _ _ ?_
      refine c_true rfl ?_
      refine wp_seq_k (fun K11 hK12 => ?_)
      refine c_region (fun ops14 hops13 => ?_)
      clear hops13
      refine p_run _ (x_assign (.int .i64 41) rfl rfl) rfl ?_
      refine wpList_nil ?_
      refine fr_at (l' := [.pointer (some ⟨D, 0, none⟩), .int .i64 i, .bool false, undef, undef, undef, .int .i64 41, undef, undef, undef, undef, undef, .bool true, .pointer (some ⟨D, 0, none⟩), .int .i64 i, .bool false, .bool true, undef, undef, undef, undef, undef, undef, undef, undef, undef]) rfl ?_
      refine hK12 _ _ ?_
      refine wp_ret ?_
      try simp only [Exit.inBlock, Exit.then]
      refine c_ret (.int .i64 41) (r_tmp rfl rfl) ?_
      have e1 : S.spoil i false = S := by unfold Dk.spoil; rw [if_neg (by simp [ht])]
      have e2 : S.pageE i = 41 := if_neg (by simp [ht])
      rw [e1, e2]
      exact ⟨rfl, ((((HS.front 3 rfl).front 3 rfl).front 3 rfl).front 3 rfl)⟩
    · skip
      have hbd := map_bd (HS.get (.tail _ (.tail _ (.head _)))) i
      refine c_enter Try.func24 rfl 26 rfl [.pointer (some ⟨D, 0, none⟩), .int .i64 i, .bool true, undef, undef, undef, undef, undef, undef, undef, undef, undef, undef, undef, undef, undef, undef, undef, undef, undef, undef, undef, undef, undef, undef, undef] rfl ?_
      refine wp_seq_k (fun K1 hK2 => ?_)
      refine c_region (fun ops4 hops3 => ?_)
      clear hops3
      refine p_run _ (x_assign (.int .i64 0) rfl rfl) rfl ?_
      refine wpList_nil ?_
      refine fr_at (l' := [.pointer (some ⟨D, 0, none⟩), .int .i64 i, .bool true, undef, undef, undef, .int .i64 0, undef, undef, undef, undef, undef, undef, undef, undef, undef, undef, undef, undef, undef, undef, undef, undef, undef, undef, undef]) rfl ?_
      refine hK2 _ _ ?_
      refine wp_seq_k (fun K5 hK6 => ?_)
      refine wp_block ?_
      refine wp_seq_k (fun K7 hK8 => ?_)
      refine c_region (fun ops10 hops9 => ?_)
      clear hops9
      refine p_run _ (x_move (.pointer (some ⟨D, 0, none⟩)) rfl rfl) rfl ?_
      refine p_run _ (x_move (.int .i64 i) rfl rfl) rfl ?_
      refine w_call [.pointer (some ⟨D, 0, none⟩), .int .i64 i] Try.func33 (by kernel_rfl) (by rfl) rfl ?_
      replace HS := ((((HS.front 3 rfl).front 3 rfl).front 3 rfl).front 3 rfl)
      refine (there_as HS i false ht).mono ?_
      rintro e w' ⟨rfl, rfl⟩
      refine ⟨_, rfl, ?_⟩
      refine p_run (l' := [.pointer (some ⟨D, 0, none⟩), .int .i64 i, .bool true, undef, undef, undef, .int .i64 0, undef, undef, undef, undef, undef, undef, .pointer (some ⟨D, 0, none⟩), .int .i64 i, .bool false, .bool true, undef, undef, undef, undef, undef, undef, undef, undef, undef]) _ (x_not false rfl rfl) rfl ?_
      refine p_run _ (x_assign (.bool true) rfl rfl) rfl ?_
      refine wpList_nil ?_
      refine fr_at (l' := [.pointer (some ⟨D, 0, none⟩), .int .i64 i, .bool true, undef, undef, undef, .int .i64 0, undef, undef, undef, undef, undef, .bool true, .pointer (some ⟨D, 0, none⟩), .int .i64 i, .bool false, .bool true, undef, undef, undef, undef, undef, undef, undef, undef, undef]) rfl ?_
      refine hK8 _ _ ?_
      refine c_true rfl ?_
      refine wp_seq_k (fun K11 hK12 => ?_)
      refine c_region (fun ops14 hops13 => ?_)
      clear hops13
      refine p_run _ (x_assign (.int .i64 41) rfl rfl) rfl ?_
      refine wpList_nil ?_
      refine fr_at (l' := [.pointer (some ⟨D, 0, none⟩), .int .i64 i, .bool true, undef, undef, undef, .int .i64 41, undef, undef, undef, undef, undef, .bool true, .pointer (some ⟨D, 0, none⟩), .int .i64 i, .bool false, .bool true, undef, undef, undef, undef, undef, undef, undef, undef, undef]) rfl ?_
      refine hK12 _ _ ?_
      refine wp_ret ?_
      try simp only [Exit.inBlock, Exit.then]
      refine c_ret (.int .i64 41) (r_tmp rfl rfl) ?_
      have e1 : S.spoil i true = S := by unfold Dk.spoil; rw [if_neg (by simp [ht])]
      have e2 : S.pageE i = 41 := if_neg (by simp [ht])
      rw [e1, e2]
      exact ⟨rfl, ((((HS.front 3 rfl).front 3 rfl).front 3 rfl).front 3 rfl)⟩
  · skip
    cases b
    · skip
      have hbd := map_bd (HS.get (.tail _ (.tail _ (.head _)))) i
      refine c_enter Try.func24 rfl 26 rfl [.pointer (some ⟨D, 0, none⟩), .int .i64 i, .bool false, undef, undef, undef, undef, undef, undef, undef, undef, undef, undef, undef, undef, undef, undef, undef, undef, undef, undef, undef, undef, undef, undef, undef] rfl ?_
      refine wp_seq_k (fun K1 hK2 => ?_)
      refine c_region (fun ops4 hops3 => ?_)
      clear hops3
      refine p_run _ (x_assign (.int .i64 0) rfl rfl) rfl ?_
      refine wpList_nil ?_
      refine fr_at (l' := [.pointer (some ⟨D, 0, none⟩), .int .i64 i, .bool false, undef, undef, undef, .int .i64 0, undef, undef, undef, undef, undef, undef, undef, undef, undef, undef, undef, undef, undef, undef, undef, undef, undef, undef, undef]) rfl ?_
      refine hK2 _ _ ?_
      refine wp_seq_k (fun K5 hK6 => ?_)
      refine wp_block ?_
      refine wp_seq_k (fun K7 hK8 => ?_)
      refine c_region (fun ops10 hops9 => ?_)
      clear hops9
      refine p_run _ (x_move (.pointer (some ⟨D, 0, none⟩)) rfl rfl) rfl ?_
      refine p_run _ (x_move (.int .i64 i) rfl rfl) rfl ?_
      refine w_call [.pointer (some ⟨D, 0, none⟩), .int .i64 i] Try.func33 (by kernel_rfl) (by rfl) rfl ?_
      replace HS := ((((HS.front 3 rfl).front 3 rfl).front 3 rfl).front 3 rfl)
      refine (there_as HS i true ht).mono ?_
      rintro e w' ⟨rfl, rfl⟩
      refine ⟨_, rfl, ?_⟩
      refine p_run (l' := [.pointer (some ⟨D, 0, none⟩), .int .i64 i, .bool false, undef, undef, undef, .int .i64 0, undef, undef, undef, undef, undef, undef, .pointer (some ⟨D, 0, none⟩), .int .i64 i, .bool true, .bool false, undef, undef, undef, undef, undef, undef, undef, undef, undef]) _ (x_not true rfl rfl) rfl ?_
      refine p_run _ (x_assign (.bool false) rfl rfl) rfl ?_
      refine wpList_nil ?_
      refine fr_at (l' := [.pointer (some ⟨D, 0, none⟩), .int .i64 i, .bool false, undef, undef, undef, .int .i64 0, undef, undef, undef, undef, undef, .bool false, .pointer (some ⟨D, 0, none⟩), .int .i64 i, .bool true, .bool false, undef, undef, undef, undef, undef, undef, undef, undef, undef]) rfl ?_
      refine hK8 _ _ ?_
      refine c_false rfl ?_
      refine wp_seq_k (fun K11 hK12 => ?_)
      refine c_region (fun ops14 hops13 => ?_)
      clear hops13
      refine p_run _ (x_move (.bool false) rfl rfl) rfl ?_
      refine p_run _ (x_assign (.bool false) rfl rfl) rfl ?_
      refine wpList_nil ?_
      refine fr_at (l' := [.pointer (some ⟨D, 0, none⟩), .int .i64 i, .bool false, undef, undef, undef, .int .i64 0, undef, undef, undef, undef, undef, .bool false, .pointer (some ⟨D, 0, none⟩), .int .i64 i, .bool true, .bool false, .bool false, .bool false, undef, undef, undef, undef, undef, undef, undef]) rfl ?_
      refine hK12 _ _ ?_
      refine c_false rfl ?_
      refine c_region (fun ops16 hops15 => ?_)
      clear hops15
      refine p_run _ (x_move (.pointer (some ⟨D, 0, none⟩)) rfl rfl) rfl ?_
      refine p_run _ (x_nil rfl rfl) rfl ?_
      refine p_run _ (x_field (j := 1) _ _ rfl rfl Try.underlying72 rfl (by rfl) rfl) rfl ?_
      refine p_run (l' := [.pointer (some ⟨D, 0, none⟩), .int .i64 i, .bool false, undef, undef, undef, .int .i64 0, .pointer (some ⟨D, 0, none⟩), .pointer (some ⟨D, 0, none⟩), .pointer (some ⟨D, 1, none⟩), .map (some gm), undef, .bool false, .pointer (some ⟨D, 0, none⟩), .int .i64 i, .bool true, .bool false, .bool false, .bool false, undef, undef, undef, undef, undef, undef, undef]) _ (x_load (.map (some gm)) rfl rfl (bkCell (HS.get (.head _)) 1 _ rfl) (by rfl)) rfl ?_
      refine p_run _ (x_move (.int .i64 i) rfl rfl) rfl ?_
      refine St.mapDel (HS.front 2 rfl) rfl rfl rfl (idx_bd hS ht) ?_
      clear HS
      intro w17 HS
      refine wpList_nil ?_
      refine fr_at (l' := [.pointer (some ⟨D, 0, none⟩), .int .i64 i, .bool false, undef, undef, undef, .int .i64 0, .pointer (some ⟨D, 0, none⟩), .pointer (some ⟨D, 0, none⟩), .pointer (some ⟨D, 1, none⟩), .map (some gm), .int .i64 i, .bool false, .pointer (some ⟨D, 0, none⟩), .int .i64 i, .bool true, .bool false, .bool false, .bool false, undef, undef, undef, undef, undef, undef, undef]) rfl ?_
      refine hK6 _ _ ?_
      refine wp_seq_k (fun K18 hK19 => ?_)
      refine c_region (fun ops21 hops20 => ?_)
      clear hops20
      refine p_run _ (x_assign (.int .i64 0) rfl rfl) rfl ?_
      refine wpList_nil ?_
      refine fr_at (l' := [.pointer (some ⟨D, 0, none⟩), .int .i64 i, .bool false, undef, undef, undef, .int .i64 0, .pointer (some ⟨D, 0, none⟩), .pointer (some ⟨D, 0, none⟩), .pointer (some ⟨D, 1, none⟩), .map (some gm), .int .i64 i, .bool false, .pointer (some ⟨D, 0, none⟩), .int .i64 i, .bool true, .bool false, .bool false, .bool false, undef, undef, undef, undef, undef, undef, undef]) rfl ?_
      refine hK19 _ _ ?_
      refine wp_ret ?_
      try simp only [Exit.inBlock, Exit.then]
      refine c_ret (.int .i64 0) (r_tmp rfl rfl) ?_
      have e1 : S.spoil i false = { S with bad := putF S.bad i 0 } := by unfold Dk.spoil; rw [if_pos ht]; rfl
      have e2 : S.pageE i = 0 := if_pos ht
      rw [e1, e2]
      exact ⟨rfl, ((((HS.front 3 rfl).front 1 rfl).front 3 rfl).front 3 rfl)⟩
    · skip
      have hbd := map_bd (HS.get (.tail _ (.tail _ (.head _)))) i
      refine c_enter Try.func24 rfl 26 rfl [.pointer (some ⟨D, 0, none⟩), .int .i64 i, .bool true, undef, undef, undef, undef, undef, undef, undef, undef, undef, undef, undef, undef, undef, undef, undef, undef, undef, undef, undef, undef, undef, undef, undef] rfl ?_
      refine wp_seq_k (fun K1 hK2 => ?_)
      refine c_region (fun ops4 hops3 => ?_)
      clear hops3
      refine p_run _ (x_assign (.int .i64 0) rfl rfl) rfl ?_
      refine wpList_nil ?_
      refine fr_at (l' := [.pointer (some ⟨D, 0, none⟩), .int .i64 i, .bool true, undef, undef, undef, .int .i64 0, undef, undef, undef, undef, undef, undef, undef, undef, undef, undef, undef, undef, undef, undef, undef, undef, undef, undef, undef]) rfl ?_
      refine hK2 _ _ ?_
      refine wp_seq_k (fun K5 hK6 => ?_)
      refine wp_block ?_
      refine wp_seq_k (fun K7 hK8 => ?_)
      refine c_region (fun ops10 hops9 => ?_)
      clear hops9
      refine p_run _ (x_move (.pointer (some ⟨D, 0, none⟩)) rfl rfl) rfl ?_
      refine p_run _ (x_move (.int .i64 i) rfl rfl) rfl ?_
      refine w_call [.pointer (some ⟨D, 0, none⟩), .int .i64 i] Try.func33 (by kernel_rfl) (by rfl) rfl ?_
      replace HS := ((((HS.front 3 rfl).front 3 rfl).front 3 rfl).front 3 rfl)
      refine (there_as HS i true ht).mono ?_
      rintro e w' ⟨rfl, rfl⟩
      refine ⟨_, rfl, ?_⟩
      refine p_run (l' := [.pointer (some ⟨D, 0, none⟩), .int .i64 i, .bool true, undef, undef, undef, .int .i64 0, undef, undef, undef, undef, undef, undef, .pointer (some ⟨D, 0, none⟩), .int .i64 i, .bool true, .bool false, undef, undef, undef, undef, undef, undef, undef, undef, undef]) _ (x_not true rfl rfl) rfl ?_
      refine p_run _ (x_assign (.bool false) rfl rfl) rfl ?_
      refine wpList_nil ?_
      refine fr_at (l' := [.pointer (some ⟨D, 0, none⟩), .int .i64 i, .bool true, undef, undef, undef, .int .i64 0, undef, undef, undef, undef, undef, .bool false, .pointer (some ⟨D, 0, none⟩), .int .i64 i, .bool true, .bool false, undef, undef, undef, undef, undef, undef, undef, undef, undef]) rfl ?_
      refine hK8 _ _ ?_
      refine c_false rfl ?_
      refine wp_seq_k (fun K11 hK12 => ?_)
      refine c_region (fun ops14 hops13 => ?_)
      clear hops13
      refine p_run _ (x_move (.bool true) rfl rfl) rfl ?_
      refine p_run _ (x_assign (.bool true) rfl rfl) rfl ?_
      refine wpList_nil ?_
      refine fr_at (l' := [.pointer (some ⟨D, 0, none⟩), .int .i64 i, .bool true, undef, undef, undef, .int .i64 0, undef, undef, undef, undef, undef, .bool false, .pointer (some ⟨D, 0, none⟩), .int .i64 i, .bool true, .bool false, .bool true, .bool true, undef, undef, undef, undef, undef, undef, undef]) rfl ?_
      refine hK12 _ _ ?_
      refine c_true rfl ?_
      refine c_region (fun ops16 hops15 => ?_)
      clear hops15
      refine p_run _ (x_move (.pointer (some ⟨D, 0, none⟩)) rfl rfl) rfl ?_
      refine p_run _ (x_nil rfl rfl) rfl ?_
      refine p_run _ (x_field (j := 1) _ _ rfl rfl Try.underlying72 rfl (by rfl) rfl) rfl ?_
      refine p_run (l' := [.pointer (some ⟨D, 0, none⟩), .int .i64 i, .bool true, undef, undef, undef, .int .i64 0, undef, undef, undef, undef, undef, .bool false, .pointer (some ⟨D, 0, none⟩), .int .i64 i, .bool true, .bool false, .bool true, .bool true, .pointer (some ⟨D, 0, none⟩), .pointer (some ⟨D, 0, none⟩), .pointer (some ⟨D, 1, none⟩), .map (some gm), undef, undef, undef]) _ (x_load (.map (some gm)) rfl rfl (bkCell (HS.get (.head _)) 1 _ rfl) (by rfl)) rfl ?_
      refine p_run _ (x_move (.int .i64 i) rfl rfl) rfl ?_
      refine m_lookup (HS.get (.tail _ (.tail _ (.head _)))) rfl rfl (idx_bd hS ht) rfl ?_
      refine p_run _ (x_arith (k := .i64) (m := (S.bad i)) (n := 1) .add (S.bad i + 1) rfl rfl rfl (show IntKind.i64.wrap ((S.bad i) + 1) = S.bad i + 1 from (wr64 (by omega))) rfl) rfl ?_
      refine St.mapPut (HS.front 2 rfl) (S.bad i + 1) rfl rfl rfl (idx_bd hS ht) (by omega) hc ?_
      clear HS
      intro w17 HS
      refine wpList_nil ?_
      refine fr_at (l' := [.pointer (some ⟨D, 0, none⟩), .int .i64 i, .bool true, undef, undef, undef, .int .i64 0, undef, undef, undef, undef, undef, .bool false, .pointer (some ⟨D, 0, none⟩), .int .i64 i, .bool true, .bool false, .bool true, .bool true, .pointer (some ⟨D, 0, none⟩), .pointer (some ⟨D, 0, none⟩), .pointer (some ⟨D, 1, none⟩), .map (some gm), .int .i64 i, .int .i64 (S.bad i), .int .i64 (S.bad i + 1)]) rfl ?_
      refine hK6 _ _ ?_
      refine wp_seq_k (fun K18 hK19 => ?_)
      refine c_region (fun ops21 hops20 => ?_)
      clear hops20
      refine p_run _ (x_assign (.int .i64 0) rfl rfl) rfl ?_
      refine wpList_nil ?_
      refine fr_at (l' := [.pointer (some ⟨D, 0, none⟩), .int .i64 i, .bool true, undef, undef, undef, .int .i64 0, undef, undef, undef, undef, undef, .bool false, .pointer (some ⟨D, 0, none⟩), .int .i64 i, .bool true, .bool false, .bool true, .bool true, .pointer (some ⟨D, 0, none⟩), .pointer (some ⟨D, 0, none⟩), .pointer (some ⟨D, 1, none⟩), .map (some gm), .int .i64 i, .int .i64 (S.bad i), .int .i64 (S.bad i + 1)]) rfl ?_
      refine hK19 _ _ ?_
      refine wp_ret ?_
      try simp only [Exit.inBlock, Exit.then]
      refine c_ret (.int .i64 0) (r_tmp rfl rfl) ?_
      have e1 : S.spoil i true = { S with bad := putF S.bad i (S.bad i + 1), cnt := S.cnt + 1 } := by unfold Dk.spoil; rw [if_pos ht]; rfl
      have e2 : S.pageE i = 0 := if_pos ht
      rw [e1, e2]
      exact ⟨rfl, ((((HS.front 3 rfl).front 1 rfl).front 3 rfl).front 3 rfl)⟩

def Dk.cut (S : Dk) (n : Int) : Dk := { S with left := if (-1 : Int) > n then -1 else n }

set_option maxRecDepth 10000 in
theorem cut_any (HS : St w0 F W (dsk D gs gm v S L)) (n : Int) : Calls Try.prog 16 #[.pointer (some ⟨D, 0, none⟩), .int .i64 n] W fun e w' => e = .returned (.tuple #[]) ∧ St w0 F w' (dsk D gs gm v (S.cut n) L) := by
  refine c_enter Try.func16 rfl 9 rfl [.pointer (some ⟨D, 0, none⟩), .int .i64 n, undef, undef, undef, undef, undef, undef, undef] rfl ?_
  refine c_region (fun ops2 hops1 => ?_)
  clear hops1
  refine p_run _ (x_move (.pointer (some ⟨D, 0, none⟩)) rfl rfl) rfl ?_
  refine p_run _ (x_move (.int .i64 n) rfl rfl) rfl ?_
  refine p_run _ (x_max (m := n) (n := -1) (if (-1) > n then -1 else n) rfl rfl rfl rfl) rfl ?_
  refine p_run (l' := [.pointer (some ⟨D, 0, none⟩), .int .i64 n, undef, undef, .pointer (some ⟨D, 0, none⟩), .int .i64 n, .int .i64 (if (-1) > n then -1 else n), .pointer (some ⟨D, 0, none⟩), undef]) _ (x_nil rfl rfl) rfl ?_
  refine p_run _ (x_field (j := 3) _ _ rfl rfl Try.underlying72 rfl (by rfl) rfl) rfl ?_
  refine St.store (cs' := [.slice (some ⟨gs, 0, none⟩) S.stable.length S.stable.length, .map (some gm), v, .int .i64 (if (-1) > n then -1 else n), .bool S.down]) HS (.int .i64 (if (-1) > n then -1 else n)) rfl rfl rfl (by kernel_rfl) (by rfl) rfl ?_
  clear HS
  intro w3 HS
  refine wpList_nil ?_
  refine fr_at (l' := [.pointer (some ⟨D, 0, none⟩), .int .i64 n, undef, undef, .pointer (some ⟨D, 0, none⟩), .int .i64 n, .int .i64 (if (-1) > n then -1 else n), .pointer (some ⟨D, 0, none⟩), .pointer (some ⟨D, 3, none⟩)]) rfl ?_
  refine c_end (.tuple #[]) (r_none rfl) ?_
  exact ⟨rfl, ((((HS.front 3 rfl).front 3 rfl).front 3 rfl).front 3 rfl)⟩

/-- The last of the writes to a page. -/
def lastW (l : List (Int × List Int)) (i : Int) (p : List Int) : List Int := l.foldl (fun out x => if x.1 = i then x.2 else out) p
theorem lastW_len {l : List (Int × List Int)} {i : Int} {p : List Int} (hp : p.length = 256) (hl : ∀ x ∈ l, x.2.length = 256) : (lastW l i p).length = 256 := by
  induction l generalizing p with
  | nil => exact hp
  | cons x l ih =>
    refine ih ?_ (fun y hy => hl y (List.mem_cons_of_mem _ hy))
    dsimp only
    split
    · exact hl x List.mem_cons_self
    · exact hp
def Dk.readP (S : Dk) (i : Int) : List Int := if S.there i = true then (if 0 < S.bad i then zpg else lastW S.pending i (S.at i)) else zpg
def Dk.readE (S : Dk) (i : Int) : Int := if S.there i = true then (if 0 < S.bad i then 43 else 0) else 41

set_option maxRecDepth 10000 in
set_option maxHeartbeats 1000000 in
theorem read_any (HS : St w0 F W (dsk D gs gm v S L)) (hS : S.ok) (hp : S.pending.length < 1000000) (i : Int) : Calls Try.prog 13 #[.pointer (some ⟨D, 0, none⟩), .int .i64 i] W fun e w' => e = .returned (.tuple #[.agg (nums .u8 (S.readP i)).toArray, .int .i64 (S.readE i)]) ∧ St w0 F w' (dsk D gs gm v S L) := by
  obtain ⟨A, c, hv, hcap, -⟩ := row_reads (HS.get (.tail _ (.tail _ (.tail _ (.head _)))))
  subst hv
  rcases ht : S.there i with _ | _
  · skip
    refine c_enter Try.func13 rfl 45 rfl [.pointer (some ⟨D, 0, none⟩), .int .i64 i, undef, undef, undef, undef, undef, undef, undef, undef, undef, undef, undef, undef, undef, undef, undef, undef, undef, undef, undef, undef, undef, undef, undef, undef, undef, undef, undef, undef, undef, undef, undef, undef, undef, undef, undef, undef, undef, undef, undef, undef, undef, undef, undef] rfl ?_
    refine wp_seq_k (fun K1 hK2 => ?_)
    refine c_region (fun ops4 hops3 => ?_)
    clear hops3
    refine St.wAlloc HS (cs := ((nums .u8 zpg))) (.agg ((nums .u8 zpg)).toArray) (by kernel_rfl) rfl ?_
    clear HS
    intro g5 w6 hg7 HS
    refine p_run _ (x_assign (.int .i64 0) rfl rfl) rfl ?_
    refine wpList_nil ?_
    refine fr_at (l' := [.pointer (some ⟨D, 0, none⟩), .int .i64 i, undef, undef, .pointer (some ⟨g5, 0, none⟩), .int .i64 0, undef, undef, undef, undef, undef, undef, undef, undef, undef, undef, undef, undef, undef, undef, undef, undef, undef, undef, undef, undef, undef, undef, undef, undef, undef, undef, undef, undef, undef, undef, undef, undef, undef, undef, undef, undef, undef, undef, undef]) rfl ?_
    refine hK2 _ _ ?_
    refine wp_seq_k (fun K8 hK9 => ?_)
    refine c_region (fun ops11 hops10 => ?_)
    clear hops10
    refine p_run _ (x_move (.pointer (some ⟨D, 0, none⟩)) rfl rfl) rfl ?_
    refine p_run _ (x_move (.int .i64 i) rfl rfl) rfl ?_
    refine w_call [.pointer (some ⟨D, 0, none⟩), .int .i64 i] Try.func28 (by kernel_rfl) (by rfl) rfl ?_
    replace HS := ((((HS.front 4 rfl).front 4 rfl).front 4 rfl).front 4 rfl)
    refine (stable_no HS hS i ht).mono ?_
    clear HS
    rintro e w12 ⟨rfl, HS⟩
    refine ⟨_, rfl, ?_⟩
    refine p_run (l' := [.pointer (some ⟨D, 0, none⟩), .int .i64 i, undef, undef, .pointer (some ⟨g5, 0, none⟩), .int .i64 0, undef, undef, undef, undef, .tuple [.agg ((nums .u8 zpg)).toArray, .int .i64 41].toArray, .pointer (some ⟨D, 0, none⟩), .int .i64 i, .tuple [.agg ((nums .u8 zpg)).toArray, .int .i64 41].toArray, undef, undef, undef, undef, undef, undef, undef, undef, undef, undef, undef, undef, undef, undef, undef, undef, undef, undef, undef, undef, undef, undef, undef, undef, undef, undef, undef, undef, undef, undef, undef]) _ (x_move (.tuple [.agg ((nums .u8 zpg)).toArray, .int .i64 41].toArray) rfl rfl) rfl ?_
    refine p_run _ (x_extract (vs := [.agg ((nums .u8 zpg)).toArray, .int .i64 41]) 0 (.agg ((nums .u8 zpg)).toArray) rfl rfl rfl) rfl ?_
    refine p_run _ (x_extract (vs := [.agg ((nums .u8 zpg)).toArray, .int .i64 41]) 1 (.int .i64 41) rfl rfl rfl) rfl ?_
    refine St.wAlloc HS (cs := ((nums .u8 zpg))) (.agg ((nums .u8 zpg)).toArray) (by kernel_rfl) rfl ?_
    clear HS
    intro g13 w14 hg15 HS
    refine St.stores (cs' := ((nums .u8 zpg))) HS ((nums .u8 zpg)) 256 rfl rfl (nums_one _ _) (by kernel_rfl) (by simp [nums_length, zlen]) (by simp [nums_length, zlen]) (lay_all _ _ (by simp [nums_length, zlen])) ?_
    clear HS
    intro w16 HS
    refine p_run (l' := [.pointer (some ⟨D, 0, none⟩), .int .i64 i, undef, undef, .pointer (some ⟨g5, 0, none⟩), .int .i64 0, .pointer (some ⟨g13, 0, none⟩), .int .i64 41, undef, undef, .tuple [.agg ((nums .u8 zpg)).toArray, .int .i64 41].toArray, .pointer (some ⟨D, 0, none⟩), .int .i64 i, .tuple [.agg ((nums .u8 zpg)).toArray, .int .i64 41].toArray, .agg ((nums .u8 zpg)).toArray, .int .i64 41, undef, undef, undef, undef, undef, undef, undef, undef, undef, undef, undef, undef, undef, undef, undef, undef, undef, undef, undef, undef, undef, undef, undef, undef, undef, undef, undef, undef, undef]) _ (x_assign (.int .i64 41) rfl rfl) rfl ?_
    refine wpList_nil ?_
    refine hK9 _ _ ?_
    refine wp_seq_k (fun K17 hK18 => ?_)
    refine wp_seq_k (fun K19 hK20 => ?_)
    refine c_region (fun ops22 hops21 => ?_)
    clear hops21
    refine p_run _ (x_move (.int .i64 41) rfl rfl) rfl ?_
    refine p_run _ (x_cmp (k := .i64) (m := 41) (n := 0) .neq true rfl rfl rfl (by decide) rfl) rfl ?_
    refine wpList_nil ?_
    refine fr_at (l' := [.pointer (some ⟨D, 0, none⟩), .int .i64 i, undef, undef, .pointer (some ⟨g5, 0, none⟩), .int .i64 0, .pointer (some ⟨g13, 0, none⟩), .int .i64 41, undef, undef, .tuple [.agg ((nums .u8 zpg)).toArray, .int .i64 41].toArray, .pointer (some ⟨D, 0, none⟩), .int .i64 i, .tuple [.agg ((nums .u8 zpg)).toArray, .int .i64 41].toArray, .agg ((nums .u8 zpg)).toArray, .int .i64 41, .int .i64 41, .bool true, undef, undef, undef, undef, undef, undef, undef, undef, undef, undef, undef, undef, undef, undef, undef, undef, undef, undef, undef, undef, undef, undef, undef, undef, undef, undef, undef]) rfl ?_
    refine hK20 _ _ ?_
    refine c_true rfl ?_
    refine wp_seq_k (fun K23 hK24 => ?_)
    refine c_region (fun ops26 hops25 => ?_)
    clear hops25
    refine p_run _ (x_loads ((nums .u8 zpg)) 256 rfl rfl (bkCells (HS.get (.head _)) 0 _ (whole _)) (by rfl) (by kernel_rfl) (by simp [nums_length, zlen])) rfl ?_
    refine p_run _ (x_move (.int .i64 41) rfl rfl) rfl ?_
    refine St.stores (cs' := ((nums .u8 zpg))) (HS.front 5 rfl) ((nums .u8 zpg)) 256 rfl rfl (nums_one _ _) (by kernel_rfl) (by simp [nums_length, zlen]) (by simp [nums_length, zlen]) (lay_all _ _ (by simp [nums_length, zlen])) ?_
    clear HS
    intro w27 HS
    refine p_run _ (x_assign (.int .i64 41) rfl rfl) rfl ?_
    refine wpList_nil ?_
    refine fr_at (l' := [.pointer (some ⟨D, 0, none⟩), .int .i64 i, undef, undef, .pointer (some ⟨g5, 0, none⟩), .int .i64 41, .pointer (some ⟨g13, 0, none⟩), .int .i64 41, undef, undef, .tuple [.agg ((nums .u8 zpg)).toArray, .int .i64 41].toArray, .pointer (some ⟨D, 0, none⟩), .int .i64 i, .tuple [.agg ((nums .u8 zpg)).toArray, .int .i64 41].toArray, .agg ((nums .u8 zpg)).toArray, .int .i64 41, .int .i64 41, .bool true, .agg ((nums .u8 zpg)).toArray, .int .i64 41, undef, undef, undef, undef, undef, undef, undef, undef, undef, undef, undef, undef, undef, undef, undef, undef, undef, undef, undef, undef, undef, undef, undef, undef, undef]) rfl ?_
    refine hK24 _ _ ?_
    refine wp_ret ?_
    try simp only [Exit.inBlock, Exit.then]
    refine c_ret (.tuple [.agg ((nums .u8 zpg)).toArray, .int .i64 41].toArray) (r_ct rfl rfl (run_loadVar_aggn (by rfl) ((nums .u8 zpg)) 256 (by kernel_rfl) (by simp [nums_length, zlen]) (bkCells (HS.get (.head _)) 0 _ (whole _))) rfl) ?_
    have e1 : S.readP i = zpg := if_neg (by simp [ht])
    have e2 : S.readE i = 41 := if_neg (by simp [ht])
    rw [e1, e2]
    exact ⟨rfl, ((((HS.drop.drop.front 3 rfl).front 3 rfl).front 3 rfl).front 3 rfl)⟩
  · skip
    by_cases hb0 : 0 < S.bad i
    · skip
      have hb : decide (S.bad i > 0) = true := decide_eq_true hb0
      refine c_enter Try.func13 rfl 45 rfl [.pointer (some ⟨D, 0, none⟩), .int .i64 i, undef, undef, undef, undef, undef, undef, undef, undef, undef, undef, undef, undef, undef, undef, undef, undef, undef, undef, undef, undef, undef, undef, undef, undef, undef, undef, undef, undef, undef, undef, undef, undef, undef, undef, undef, undef, undef, undef, undef, undef, undef, undef, undef] rfl ?_
      refine wp_seq_k (fun K1 hK2 => ?_)
      refine c_region (fun ops4 hops3 => ?_)
      clear hops3
      refine St.wAlloc HS (cs := ((nums .u8 zpg))) (.agg ((nums .u8 zpg)).toArray) (by kernel_rfl) rfl ?_
      clear HS
      intro g5 w6 hg7 HS
      refine p_run _ (x_assign (.int .i64 0) rfl rfl) rfl ?_
      refine wpList_nil ?_
      refine fr_at (l' := [.pointer (some ⟨D, 0, none⟩), .int .i64 i, undef, undef, .pointer (some ⟨g5, 0, none⟩), .int .i64 0, undef, undef, undef, undef, undef, undef, undef, undef, undef, undef, undef, undef, undef, undef, undef, undef, undef, undef, undef, undef, undef, undef, undef, undef, undef, undef, undef, undef, undef, undef, undef, undef, undef, undef, undef, undef, undef, undef, undef]) rfl ?_
      refine hK2 _ _ ?_
      refine wp_seq_k (fun K8 hK9 => ?_)
      refine c_region (fun ops11 hops10 => ?_)
      clear hops10
      refine p_run _ (x_move (.pointer (some ⟨D, 0, none⟩)) rfl rfl) rfl ?_
      refine p_run _ (x_move (.int .i64 i) rfl rfl) rfl ?_
      refine w_call [.pointer (some ⟨D, 0, none⟩), .int .i64 i] Try.func28 (by kernel_rfl) (by rfl) rfl ?_
      replace HS := ((((HS.front 4 rfl).front 4 rfl).front 4 rfl).front 4 rfl)
      refine (stable_yes HS hS i ht).mono ?_
      clear HS
      rintro e w12 ⟨rfl, HS⟩
      refine ⟨_, rfl, ?_⟩
      refine p_run (l' := [.pointer (some ⟨D, 0, none⟩), .int .i64 i, undef, undef, .pointer (some ⟨g5, 0, none⟩), .int .i64 0, undef, undef, undef, undef, .tuple [.agg ((nums .u8 (S.at i))).toArray, .int .i64 0].toArray, .pointer (some ⟨D, 0, none⟩), .int .i64 i, .tuple [.agg ((nums .u8 (S.at i))).toArray, .int .i64 0].toArray, undef, undef, undef, undef, undef, undef, undef, undef, undef, undef, undef, undef, undef, undef, undef, undef, undef, undef, undef, undef, undef, undef, undef, undef, undef, undef, undef, undef, undef, undef, undef]) _ (x_move (.tuple [.agg ((nums .u8 (S.at i))).toArray, .int .i64 0].toArray) rfl rfl) rfl ?_
      refine p_run _ (x_extract (vs := [.agg ((nums .u8 (S.at i))).toArray, .int .i64 0]) 0 (.agg ((nums .u8 (S.at i))).toArray) rfl rfl rfl) rfl ?_
      refine p_run _ (x_extract (vs := [.agg ((nums .u8 (S.at i))).toArray, .int .i64 0]) 1 (.int .i64 0) rfl rfl rfl) rfl ?_
      refine St.wAlloc HS (cs := ((nums .u8 zpg))) (.agg ((nums .u8 zpg)).toArray) (by kernel_rfl) rfl ?_
      clear HS
      intro g13 w14 hg15 HS
      refine St.stores (cs' := ((nums .u8 (S.at i)))) HS ((nums .u8 (S.at i))) 256 rfl rfl (nums_one _ _) (by kernel_rfl) (by simp [at_len hS, nums_length]) (by simp [at_len hS, nums_length, zlen]) (lay_all _ _ (by simp [at_len hS, nums_length, zlen])) ?_
      clear HS
      intro w16 HS
      refine p_run (l' := [.pointer (some ⟨D, 0, none⟩), .int .i64 i, undef, undef, .pointer (some ⟨g5, 0, none⟩), .int .i64 0, .pointer (some ⟨g13, 0, none⟩), .int .i64 0, undef, undef, .tuple [.agg ((nums .u8 (S.at i))).toArray, .int .i64 0].toArray, .pointer (some ⟨D, 0, none⟩), .int .i64 i, .tuple [.agg ((nums .u8 (S.at i))).toArray, .int .i64 0].toArray, .agg ((nums .u8 (S.at i))).toArray, .int .i64 0, undef, undef, undef, undef, undef, undef, undef, undef, undef, undef, undef, undef, undef, undef, undef, undef, undef, undef, undef, undef, undef, undef, undef, undef, undef, undef, undef, undef, undef]) _ (x_assign (.int .i64 0) rfl rfl) rfl ?_
      refine wpList_nil ?_
      refine hK9 _ _ ?_
      refine wp_seq_k (fun K17 hK18 => ?_)
      refine wp_seq_k (fun K19 hK20 => ?_)
      refine c_region (fun ops22 hops21 => ?_)
      clear hops21
      refine p_run _ (x_move (.int .i64 0) rfl rfl) rfl ?_
      refine p_run _ (x_cmp (k := .i64) (m := 0) (n := 0) .neq false rfl rfl rfl (by decide) rfl) rfl ?_
      refine wpList_nil ?_
      refine fr_at (l' := [.pointer (some ⟨D, 0, none⟩), .int .i64 i, undef, undef, .pointer (some ⟨g5, 0, none⟩), .int .i64 0, .pointer (some ⟨g13, 0, none⟩), .int .i64 0, undef, undef, .tuple [.agg ((nums .u8 (S.at i))).toArray, .int .i64 0].toArray, .pointer (some ⟨D, 0, none⟩), .int .i64 i, .tuple [.agg ((nums .u8 (S.at i))).toArray, .int .i64 0].toArray, .agg ((nums .u8 (S.at i))).toArray, .int .i64 0, .int .i64 0, .bool false, undef, undef, undef, undef, undef, undef, undef, undef, undef, undef, undef, undef, undef, undef, undef, undef, undef, undef, undef, undef, undef, undef, undef, undef, undef, undef, undef]) rfl ?_
      refine hK20 _ _ ?_
      refine c_false rfl ?_
      refine wp_skip ?_
      refine hK18 _ _ ?_
      refine wp_seq_k (fun K23 hK24 => ?_)
      refine wp_seq_k (fun K25 hK26 => ?_)
      refine c_region (fun ops28 hops27 => ?_)
      clear hops27
      refine p_run _ (x_move (.pointer (some ⟨D, 0, none⟩)) rfl rfl) rfl ?_
      refine p_run _ (x_nil rfl rfl) rfl ?_
      refine p_run _ (x_field (j := 1) _ _ rfl rfl Try.underlying72 rfl (by rfl) rfl) rfl ?_
      refine p_run (l' := [.pointer (some ⟨D, 0, none⟩), .int .i64 i, undef, undef, .pointer (some ⟨g5, 0, none⟩), .int .i64 0, .pointer (some ⟨g13, 0, none⟩), .int .i64 0, undef, undef, .tuple [.agg ((nums .u8 (S.at i))).toArray, .int .i64 0].toArray, .pointer (some ⟨D, 0, none⟩), .int .i64 i, .tuple [.agg ((nums .u8 (S.at i))).toArray, .int .i64 0].toArray, .agg ((nums .u8 (S.at i))).toArray, .int .i64 0, .int .i64 0, .bool false, undef, undef, .pointer (some ⟨D, 0, none⟩), .pointer (some ⟨D, 0, none⟩), .pointer (some ⟨D, 1, none⟩), .map (some gm), undef, undef, undef, undef, undef, undef, undef, undef, undef, undef, undef, undef, undef, undef, undef, undef, undef, undef, undef, undef, undef]) _ (x_load (.map (some gm)) rfl rfl (bkCell (HS.get (.tail _ (.head _))) 1 _ rfl) (by rfl)) rfl ?_
      refine p_run _ (x_move (.int .i64 i) rfl rfl) rfl ?_
      refine m_lookup (HS.get (.tail _ (.tail _ (.tail _ (.head _))))) rfl rfl (idx_bd hS ht) rfl ?_
      refine p_run _ (x_cmp (k := .i64) (m := (S.bad i)) (n := 0) .gtr true rfl rfl rfl hb rfl) rfl ?_
      refine wpList_nil ?_
      refine fr_at (l' := [.pointer (some ⟨D, 0, none⟩), .int .i64 i, undef, undef, .pointer (some ⟨g5, 0, none⟩), .int .i64 0, .pointer (some ⟨g13, 0, none⟩), .int .i64 0, undef, undef, .tuple [.agg ((nums .u8 (S.at i))).toArray, .int .i64 0].toArray, .pointer (some ⟨D, 0, none⟩), .int .i64 i, .tuple [.agg ((nums .u8 (S.at i))).toArray, .int .i64 0].toArray, .agg ((nums .u8 (S.at i))).toArray, .int .i64 0, .int .i64 0, .bool false, undef, undef, .pointer (some ⟨D, 0, none⟩), .pointer (some ⟨D, 0, none⟩), .pointer (some ⟨D, 1, none⟩), .map (some gm), .int .i64 i, .int .i64 (S.bad i), .bool true, undef, undef, undef, undef, undef, undef, undef, undef, undef, undef, undef, undef, undef, undef, undef, undef, undef, undef]) rfl ?_
      refine hK26 _ _ ?_
      refine c_true rfl ?_
      refine wp_seq_k (fun K29 hK30 => ?_)
      refine c_region (fun ops32 hops31 => ?_)
      clear hops31
      refine p_run _ (x_build ((nums .u8 zpg)) rfl (by kernel_rfl)) rfl ?_
      refine St.stores (cs' := ((nums .u8 zpg))) (HS.front 5 rfl) ((nums .u8 zpg)) 256 rfl rfl (nums_one _ _) (by kernel_rfl) (by simp [nums_length, zlen]) (by simp [nums_length, zlen]) (lay_all _ _ (by simp [nums_length, zlen])) ?_
      clear HS
      intro w33 HS
      refine p_run _ (x_assign (.int .i64 43) rfl rfl) rfl ?_
      refine wpList_nil ?_
      refine fr_at (l' := [.pointer (some ⟨D, 0, none⟩), .int .i64 i, undef, undef, .pointer (some ⟨g5, 0, none⟩), .int .i64 43, .pointer (some ⟨g13, 0, none⟩), .int .i64 0, undef, undef, .tuple [.agg ((nums .u8 (S.at i))).toArray, .int .i64 0].toArray, .pointer (some ⟨D, 0, none⟩), .int .i64 i, .tuple [.agg ((nums .u8 (S.at i))).toArray, .int .i64 0].toArray, .agg ((nums .u8 (S.at i))).toArray, .int .i64 0, .int .i64 0, .bool false, undef, undef, .pointer (some ⟨D, 0, none⟩), .pointer (some ⟨D, 0, none⟩), .pointer (some ⟨D, 1, none⟩), .map (some gm), .int .i64 i, .int .i64 (S.bad i), .bool true, .agg ((nums .u8 zpg)).toArray, undef, undef, undef, undef, undef, undef, undef, undef, undef, undef, undef, undef, undef, undef, undef, undef, undef]) rfl ?_
      refine hK30 _ _ ?_
      refine wp_ret ?_
      try simp only [Exit.inBlock, Exit.then]
      refine c_ret (.tuple [.agg ((nums .u8 zpg)).toArray, .int .i64 43].toArray) (r_ct rfl rfl (run_loadVar_aggn (by rfl) ((nums .u8 zpg)) 256 (by kernel_rfl) (by simp [nums_length, zlen]) (bkCells (HS.get (.head _)) 0 _ (whole _))) rfl) ?_
      have e1 : S.readP i = zpg := by unfold Dk.readP; rw [if_pos ht, if_pos hb0]
      have e2 : S.readE i = 43 := by unfold Dk.readE; rw [if_pos ht, if_pos hb0]
      rw [e1, e2]
      exact ⟨rfl, ((((HS.drop.drop.front 3 rfl).front 3 rfl).front 3 rfl).front 3 rfl)⟩
    · skip
      have hb : decide (S.bad i > 0) = false := decide_eq_false hb0
      refine c_enter Try.func13 rfl 45 rfl [.pointer (some ⟨D, 0, none⟩), .int .i64 i, undef, undef, undef, undef, undef, undef, undef, undef, undef, undef, undef, undef, undef, undef, undef, undef, undef, undef, undef, undef, undef, undef, undef, undef, undef, undef, undef, undef, undef, undef, undef, undef, undef, undef, undef, undef, undef, undef, undef, undef, undef, undef, undef] rfl ?_
      refine wp_seq_k (fun K1 hK2 => ?_)
      refine c_region (fun ops4 hops3 => ?_)
      clear hops3
      refine St.wAlloc HS (cs := ((nums .u8 zpg))) (.agg ((nums .u8 zpg)).toArray) (by kernel_rfl) rfl ?_
      clear HS
      intro g5 w6 hg7 HS
      refine p_run _ (x_assign (.int .i64 0) rfl rfl) rfl ?_
      refine wpList_nil ?_
      refine fr_at (l' := [.pointer (some ⟨D, 0, none⟩), .int .i64 i, undef, undef, .pointer (some ⟨g5, 0, none⟩), .int .i64 0, undef, undef, undef, undef, undef, undef, undef, undef, undef, undef, undef, undef, undef, undef, undef, undef, undef, undef, undef, undef, undef, undef, undef, undef, undef, undef, undef, undef, undef, undef, undef, undef, undef, undef, undef, undef, undef, undef, undef]) rfl ?_
      refine hK2 _ _ ?_
      refine wp_seq_k (fun K8 hK9 => ?_)
      refine c_region (fun ops11 hops10 => ?_)
      clear hops10
      refine p_run _ (x_move (.pointer (some ⟨D, 0, none⟩)) rfl rfl) rfl ?_
      refine p_run _ (x_move (.int .i64 i) rfl rfl) rfl ?_
      refine w_call [.pointer (some ⟨D, 0, none⟩), .int .i64 i] Try.func28 (by kernel_rfl) (by rfl) rfl ?_
      replace HS := ((((HS.front 4 rfl).front 4 rfl).front 4 rfl).front 4 rfl)
      refine (stable_yes HS hS i ht).mono ?_
      clear HS
      rintro e w12 ⟨rfl, HS⟩
      refine ⟨_, rfl, ?_⟩
      refine p_run (l' := [.pointer (some ⟨D, 0, none⟩), .int .i64 i, undef, undef, .pointer (some ⟨g5, 0, none⟩), .int .i64 0, undef, undef, undef, undef, .tuple [.agg ((nums .u8 (S.at i))).toArray, .int .i64 0].toArray, .pointer (some ⟨D, 0, none⟩), .int .i64 i, .tuple [.agg ((nums .u8 (S.at i))).toArray, .int .i64 0].toArray, undef, undef, undef, undef, undef, undef, undef, undef, undef, undef, undef, undef, undef, undef, undef, undef, undef, undef, undef, undef, undef, undef, undef, undef, undef, undef, undef, undef, undef, undef, undef]) _ (x_move (.tuple [.agg ((nums .u8 (S.at i))).toArray, .int .i64 0].toArray) rfl rfl) rfl ?_
      refine p_run _ (x_extract (vs := [.agg ((nums .u8 (S.at i))).toArray, .int .i64 0]) 0 (.agg ((nums .u8 (S.at i))).toArray) rfl rfl rfl) rfl ?_
      refine p_run _ (x_extract (vs := [.agg ((nums .u8 (S.at i))).toArray, .int .i64 0]) 1 (.int .i64 0) rfl rfl rfl) rfl ?_
      refine St.wAlloc HS (cs := ((nums .u8 zpg))) (.agg ((nums .u8 zpg)).toArray) (by kernel_rfl) rfl ?_
      clear HS
      intro g13 w14 hg15 HS
      refine St.stores (cs' := ((nums .u8 (S.at i)))) HS ((nums .u8 (S.at i))) 256 rfl rfl (nums_one _ _) (by kernel_rfl) (by simp [at_len hS, nums_length]) (by simp [at_len hS, nums_length, zlen]) (lay_all _ _ (by simp [at_len hS, nums_length, zlen])) ?_
      clear HS
      intro w16 HS
      refine p_run (l' := [.pointer (some ⟨D, 0, none⟩), .int .i64 i, undef, undef, .pointer (some ⟨g5, 0, none⟩), .int .i64 0, .pointer (some ⟨g13, 0, none⟩), .int .i64 0, undef, undef, .tuple [.agg ((nums .u8 (S.at i))).toArray, .int .i64 0].toArray, .pointer (some ⟨D, 0, none⟩), .int .i64 i, .tuple [.agg ((nums .u8 (S.at i))).toArray, .int .i64 0].toArray, .agg ((nums .u8 (S.at i))).toArray, .int .i64 0, undef, undef, undef, undef, undef, undef, undef, undef, undef, undef, undef, undef, undef, undef, undef, undef, undef, undef, undef, undef, undef, undef, undef, undef, undef, undef, undef, undef, undef]) _ (x_assign (.int .i64 0) rfl rfl) rfl ?_
      refine wpList_nil ?_
      refine hK9 _ _ ?_
      refine wp_seq_k (fun K17 hK18 => ?_)
      refine wp_seq_k (fun K19 hK20 => ?_)
      refine c_region (fun ops22 hops21 => ?_)
      clear hops21
      refine p_run _ (x_move (.int .i64 0) rfl rfl) rfl ?_
      refine p_run _ (x_cmp (k := .i64) (m := 0) (n := 0) .neq false rfl rfl rfl (by decide) rfl) rfl ?_
      refine wpList_nil ?_
      refine fr_at (l' := [.pointer (some ⟨D, 0, none⟩), .int .i64 i, undef, undef, .pointer (some ⟨g5, 0, none⟩), .int .i64 0, .pointer (some ⟨g13, 0, none⟩), .int .i64 0, undef, undef, .tuple [.agg ((nums .u8 (S.at i))).toArray, .int .i64 0].toArray, .pointer (some ⟨D, 0, none⟩), .int .i64 i, .tuple [.agg ((nums .u8 (S.at i))).toArray, .int .i64 0].toArray, .agg ((nums .u8 (S.at i))).toArray, .int .i64 0, .int .i64 0, .bool false, undef, undef, undef, undef, undef, undef, undef, undef, undef, undef, undef, undef, undef, undef, undef, undef, undef, undef, undef, undef, undef, undef, undef, undef, undef, undef, undef]) rfl ?_
      refine hK20 _ _ ?_
      refine c_false rfl ?_
      refine wp_skip ?_
      refine hK18 _ _ ?_
      refine wp_seq_k (fun K23 hK24 => ?_)
      refine wp_seq_k (fun K25 hK26 => ?_)
      refine c_region (fun ops28 hops27 => ?_)
      clear hops27
      refine p_run _ (x_move (.pointer (some ⟨D, 0, none⟩)) rfl rfl) rfl ?_
      refine p_run _ (x_nil rfl rfl) rfl ?_
      refine p_run _ (x_field (j := 1) _ _ rfl rfl Try.underlying72 rfl (by rfl) rfl) rfl ?_
      refine p_run (l' := [.pointer (some ⟨D, 0, none⟩), .int .i64 i, undef, undef, .pointer (some ⟨g5, 0, none⟩), .int .i64 0, .pointer (some ⟨g13, 0, none⟩), .int .i64 0, undef, undef, .tuple [.agg ((nums .u8 (S.at i))).toArray, .int .i64 0].toArray, .pointer (some ⟨D, 0, none⟩), .int .i64 i, .tuple [.agg ((nums .u8 (S.at i))).toArray, .int .i64 0].toArray, .agg ((nums .u8 (S.at i))).toArray, .int .i64 0, .int .i64 0, .bool false, undef, undef, .pointer (some ⟨D, 0, none⟩), .pointer (some ⟨D, 0, none⟩), .pointer (some ⟨D, 1, none⟩), .map (some gm), undef, undef, undef, undef, undef, undef, undef, undef, undef, undef, undef, undef, undef, undef, undef, undef, undef, undef, undef, undef, undef]) _ (x_load (.map (some gm)) rfl rfl (bkCell (HS.get (.tail _ (.head _))) 1 _ rfl) (by rfl)) rfl ?_
      refine p_run _ (x_move (.int .i64 i) rfl rfl) rfl ?_
      refine m_lookup (HS.get (.tail _ (.tail _ (.tail _ (.head _))))) rfl rfl (idx_bd hS ht) rfl ?_
      refine p_run _ (x_cmp (k := .i64) (m := (S.bad i)) (n := 0) .gtr false rfl rfl rfl hb rfl) rfl ?_
      refine wpList_nil ?_
      refine fr_at (l' := [.pointer (some ⟨D, 0, none⟩), .int .i64 i, undef, undef, .pointer (some ⟨g5, 0, none⟩), .int .i64 0, .pointer (some ⟨g13, 0, none⟩), .int .i64 0, undef, undef, .tuple [.agg ((nums .u8 (S.at i))).toArray, .int .i64 0].toArray, .pointer (some ⟨D, 0, none⟩), .int .i64 i, .tuple [.agg ((nums .u8 (S.at i))).toArray, .int .i64 0].toArray, .agg ((nums .u8 (S.at i))).toArray, .int .i64 0, .int .i64 0, .bool false, undef, undef, .pointer (some ⟨D, 0, none⟩), .pointer (some ⟨D, 0, none⟩), .pointer (some ⟨D, 1, none⟩), .map (some gm), .int .i64 i, .int .i64 (S.bad i), .bool false, undef, undef, undef, undef, undef, undef, undef, undef, undef, undef, undef, undef, undef, undef, undef, undef, undef, undef]) rfl ?_
      refine hK26 _ _ ?_
      refine c_false rfl ?_
      refine wp_skip ?_
      refine hK24 _ _ ?_
      refine wp_seq_k (fun K29 hK30 => ?_)
      refine wp_seq_k (fun K31 hK32 => ?_)
      refine c_region (fun ops34 hops33 => ?_)
      clear hops33
      refine p_run _ (x_move (.pointer (some ⟨D, 0, none⟩)) rfl rfl) rfl ?_
      refine p_run _ (x_nil rfl rfl) rfl ?_
      refine p_run _ (x_field (j := 2) _ _ rfl rfl Try.underlying72 rfl (by rfl) rfl) rfl ?_
      refine p_run (l' := [.pointer (some ⟨D, 0, none⟩), .int .i64 i, undef, undef, .pointer (some ⟨g5, 0, none⟩), .int .i64 0, .pointer (some ⟨g13, 0, none⟩), .int .i64 0, undef, undef, .tuple [.agg ((nums .u8 (S.at i))).toArray, .int .i64 0].toArray, .pointer (some ⟨D, 0, none⟩), .int .i64 i, .tuple [.agg ((nums .u8 (S.at i))).toArray, .int .i64 0].toArray, .agg ((nums .u8 (S.at i))).toArray, .int .i64 0, .int .i64 0, .bool false, undef, undef, .pointer (some ⟨D, 0, none⟩), .pointer (some ⟨D, 0, none⟩), .pointer (some ⟨D, 1, none⟩), .map (some gm), .int .i64 i, .int .i64 (S.bad i), .bool false, undef, .pointer (some ⟨D, 0, none⟩), .pointer (some ⟨D, 0, none⟩), .pointer (some ⟨D, 2, none⟩), .slice A S.pending.length c, undef, undef, undef, undef, undef, undef, undef, undef, undef, undef, undef, undef, undef]) _ (x_load (.slice A S.pending.length c) rfl rfl (bkCell (HS.get (.tail _ (.head _))) 2 _ rfl) (by rfl)) rfl ?_
      refine p_run _ (x_len rfl rfl Try.underlying70) rfl ?_
      refine p_run _ (x_move (.int .i64 0) rfl rfl) rfl ?_
      refine wpList_nil ?_
      refine fr_at (l' := [.pointer (some ⟨D, 0, none⟩), .int .i64 i, undef, undef, .pointer (some ⟨g5, 0, none⟩), .int .i64 0, .pointer (some ⟨g13, 0, none⟩), .int .i64 0, undef, undef, .tuple [.agg ((nums .u8 (S.at i))).toArray, .int .i64 0].toArray, .pointer (some ⟨D, 0, none⟩), .int .i64 i, .tuple [.agg ((nums .u8 (S.at i))).toArray, .int .i64 0].toArray, .agg ((nums .u8 (S.at i))).toArray, .int .i64 0, .int .i64 0, .bool false, undef, undef, .pointer (some ⟨D, 0, none⟩), .pointer (some ⟨D, 0, none⟩), .pointer (some ⟨D, 1, none⟩), .map (some gm), .int .i64 i, .int .i64 (S.bad i), .bool false, undef, .pointer (some ⟨D, 0, none⟩), .pointer (some ⟨D, 0, none⟩), .pointer (some ⟨D, 2, none⟩), .slice A S.pending.length c, .int .i64 (S.pending.length : Int), .int .i64 0, undef, undef, undef, undef, undef, undef, undef, undef, undef, undef, undef]) rfl ?_
      refine hK32 _ _ ?_
      refine wp_block ?_
      refine c_loop (ι := Nat × List Int) (fun i_ a_ w_ => match i_ with | (j, out) => ∃ (u9 : Value) (u34 : Value) (u35 : Value) (u36 : Value) (u37 : Value) (u38 : Value) (u39 : Value) (u40 : Value) (u41 : Value) (u42 : Value) (u43 : Value), a_ = fr [.pointer (some ⟨D, 0, none⟩), .int .i64 i, undef, undef, .pointer (some ⟨g5, 0, none⟩), .int .i64 0, .pointer (some ⟨g13, 0, none⟩), .int .i64 0, undef, u9, .tuple [.agg ((nums .u8 (S.at i))).toArray, .int .i64 0].toArray, .pointer (some ⟨D, 0, none⟩), .int .i64 i, .tuple [.agg ((nums .u8 (S.at i))).toArray, .int .i64 0].toArray, .agg ((nums .u8 (S.at i))).toArray, .int .i64 0, .int .i64 0, .bool false, undef, undef, .pointer (some ⟨D, 0, none⟩), .pointer (some ⟨D, 0, none⟩), .pointer (some ⟨D, 1, none⟩), .map (some gm), .int .i64 i, .int .i64 (S.bad i), .bool false, undef, .pointer (some ⟨D, 0, none⟩), .pointer (some ⟨D, 0, none⟩), .pointer (some ⟨D, 2, none⟩), .slice A S.pending.length c, .int .i64 (S.pending.length : Int), .int .i64 (j : Int), u34, u35, u36, u37, u38, u39, u40, u41, u42, u43, undef] ∧ St w0 F w_ (blk g13 ((nums .u8 out)) 38 :: blk D [.slice (some ⟨gs, 0, none⟩) S.stable.length S.stable.length, .map (some gm), .slice A S.pending.length c, .int .i64 S.left, .bool S.down] 72 :: blk gs (pgs S.stable) 38 :: mapR gm S.cnt S.bad :: row kWr rfl 78 (.slice A S.pending.length c) S.pending :: blk g5 ((nums .u8 zpg)) 38 :: L) ∧ (lastW (S.pending.drop j) i out = lastW S.pending i (S.at i) ∧ out.length = 256)) (fun i_ => match i_ with | (j, out) => S.pending.length - j) (0, S.at i) ?_ ?_
      · exact ⟨_, _, _, _, _, _, _, _, _, _, _, rfl, ((((((HS.front 5 rfl).front 5 rfl).front 5 rfl).front 5 rfl).front 5 rfl).front 5 rfl), ⟨rfl, at_len hS⟩⟩
      · clear HS
        rintro ⟨j, out⟩ a_ w37 ⟨u9, u34, u35, u36, u37, u38, u39, u40, u41, u42, u43, rfl, HS, hI⟩ J35 hJ36
        refine wp_seq_k (fun K38 hK39 => ?_)
        refine c_region (fun ops41 hops40 => ?_)
        clear hops40
        refine p_run _ (x_cmp (k := .i64) (m := (j : Int)) (n := (S.pending.length : Int)) .lss (decide ((j : Int) < (S.pending.length : Int))) rfl rfl rfl rfl rfl) rfl ?_
        refine wpList_nil ?_
        refine fr_at (l' := [.pointer (some ⟨D, 0, none⟩), .int .i64 i, undef, undef, .pointer (some ⟨g5, 0, none⟩), .int .i64 0, .pointer (some ⟨g13, 0, none⟩), .int .i64 0, undef, u9, .tuple [.agg ((nums .u8 (S.at i))).toArray, .int .i64 0].toArray, .pointer (some ⟨D, 0, none⟩), .int .i64 i, .tuple [.agg ((nums .u8 (S.at i))).toArray, .int .i64 0].toArray, .agg ((nums .u8 (S.at i))).toArray, .int .i64 0, .int .i64 0, .bool false, undef, undef, .pointer (some ⟨D, 0, none⟩), .pointer (some ⟨D, 0, none⟩), .pointer (some ⟨D, 1, none⟩), .map (some gm), .int .i64 i, .int .i64 (S.bad i), .bool false, undef, .pointer (some ⟨D, 0, none⟩), .pointer (some ⟨D, 0, none⟩), .pointer (some ⟨D, 2, none⟩), .slice A S.pending.length c, .int .i64 (S.pending.length : Int), .int .i64 (j : Int), .bool (decide ((j : Int) < (S.pending.length : Int))), u35, u36, u37, u38, u39, u40, u41, u42, u43, undef]) rfl ?_
        refine hK39 _ _ ?_
        refine wp_seq_k (fun K42 hK43 => ?_)
        refine c_cond (t := decide ((j : Int) < (S.pending.length : Int))) rfl (fun hc44 => ?_) (fun hc44 => ?_)
        · have hlt : j < S.pending.length := by have := of_decide_eq_true hc44; omega
          have hC := (row_C (HS.get (.tail _ (.tail _ (.tail _ (.tail _ (.head _))))))).2.2
          obtain ⟨ad, x, rfl, hx, hx2, hcell⟩ := wr_get hC j hlt
          obtain ⟨hI1, hout⟩ := hI
          rw [List.drop_eq_getElem_cons hlt, show S.pending[j] = x from (List.getElem?_eq_some_iff.1 hx).2] at hI1
          refine wp_skip ?_
          refine hK43 _ _ ?_
          refine wp_seq_k (fun K45 hK46 => ?_)
          refine wp_block ?_
          refine wp_seq_k (fun K47 hK48 => ?_)
          refine c_region (fun ops50 hops49 => ?_)
          clear hops49
          refine p_run _ (x_index (A := ad) (j := j * 257) (sz := 257) rfl rfl rfl Try.underlying70 (by kernel_rfl) (by omega) rfl) rfl ?_
          refine p_run _ (x_loads (Value.int .i64 x.1 :: (nums .u8 x.2)) 257 rfl rfl hcell (by rfl) (by kernel_rfl) (by simp [hx2, nums_length])) rfl ?_
          refine St.wAlloc HS (cs := (Value.int .i64 0 :: (nums .u8 zpg))) (.agg (Value.int .i64 0 :: (nums .u8 zpg)).toArray) (by kernel_rfl) rfl ?_
          clear HS
          intro g51 w52 hg53 HS
          refine St.stores (cs' := (Value.int .i64 x.1 :: (nums .u8 x.2))) HS (Value.int .i64 x.1 :: (nums .u8 x.2)) 257 rfl rfl (all1 rfl (nums_one _ _)) (by kernel_rfl) (by simp [hx2, nums_length]) (by simp [hx2, nums_length, zlen]) (lay_all _ _ (by simp [hx2, nums_length, zlen])) ?_
          clear HS
          intro w54 HS
          refine wpList_nil ?_
          refine fr_at (l' := [.pointer (some ⟨D, 0, none⟩), .int .i64 i, undef, undef, .pointer (some ⟨g5, 0, none⟩), .int .i64 0, .pointer (some ⟨g13, 0, none⟩), .int .i64 0, undef, .pointer (some ⟨g51, 0, none⟩), .tuple [.agg ((nums .u8 (S.at i))).toArray, .int .i64 0].toArray, .pointer (some ⟨D, 0, none⟩), .int .i64 i, .tuple [.agg ((nums .u8 (S.at i))).toArray, .int .i64 0].toArray, .agg ((nums .u8 (S.at i))).toArray, .int .i64 0, .int .i64 0, .bool false, undef, undef, .pointer (some ⟨D, 0, none⟩), .pointer (some ⟨D, 0, none⟩), .pointer (some ⟨D, 1, none⟩), .map (some gm), .int .i64 i, .int .i64 (S.bad i), .bool false, undef, .pointer (some ⟨D, 0, none⟩), .pointer (some ⟨D, 0, none⟩), .pointer (some ⟨D, 2, none⟩), .slice (some ad) S.pending.length c, .int .i64 (S.pending.length : Int), .int .i64 (j : Int), .bool (decide ((j : Int) < (S.pending.length : Int))), .pointer (some ((ad).add (j * 257))), .agg (Value.int .i64 x.1 :: (nums .u8 x.2)).toArray, u37, u38, u39, u40, u41, u42, u43, undef]) rfl ?_
          refine hK48 _ _ ?_
          refine wp_seq_k (fun K55 hK56 => ?_)
          refine c_region (fun ops58 hops57 => ?_)
          clear hops57
          refine p_run _ (x_field (j := 0) _ _ rfl rfl Try.underlying78 rfl (by rfl) rfl) rfl ?_
          refine p_run _ (x_load (.int .i64 x.1) rfl rfl (bkCell (HS.get (.head _)) 0 _ rfl) (by rfl)) rfl ?_
          refine p_run _ (x_move (.int .i64 i) rfl rfl) rfl ?_
          refine p_run (l' := [.pointer (some ⟨D, 0, none⟩), .int .i64 i, undef, undef, .pointer (some ⟨g5, 0, none⟩), .int .i64 0, .pointer (some ⟨g13, 0, none⟩), .int .i64 0, undef, .pointer (some ⟨g51, 0, none⟩), .tuple [.agg ((nums .u8 (S.at i))).toArray, .int .i64 0].toArray, .pointer (some ⟨D, 0, none⟩), .int .i64 i, .tuple [.agg ((nums .u8 (S.at i))).toArray, .int .i64 0].toArray, .agg ((nums .u8 (S.at i))).toArray, .int .i64 0, .int .i64 0, .bool false, undef, undef, .pointer (some ⟨D, 0, none⟩), .pointer (some ⟨D, 0, none⟩), .pointer (some ⟨D, 1, none⟩), .map (some gm), .int .i64 i, .int .i64 (S.bad i), .bool false, undef, .pointer (some ⟨D, 0, none⟩), .pointer (some ⟨D, 0, none⟩), .pointer (some ⟨D, 2, none⟩), .slice (some ad) S.pending.length c, .int .i64 (S.pending.length : Int), .int .i64 (j : Int), .bool (decide ((j : Int) < (S.pending.length : Int))), .pointer (some ((ad).add (j * 257))), .agg (Value.int .i64 x.1 :: (nums .u8 x.2)).toArray, .pointer (some ⟨g51, 0, none⟩), .int .i64 x.1, .int .i64 i, .bool (x.1 == i), u41, u42, u43, undef]) _ (x_cmp (k := .i64) (m := x.1) (n := i) .eql (x.1 == i) rfl rfl rfl rfl rfl) rfl ?_
          refine wpList_nil ?_
          refine hK56 _ _ ?_
          refine c_cond (t := (x.1 == i)) rfl (fun hc59 => ?_) (fun hc59 => ?_)
          · have hxi : x.1 = i := by simpa using hc59
            refine c_region (fun ops61 hops60 => ?_)
            clear hops60
            refine p_run _ (x_field (j := 1) _ _ rfl rfl Try.underlying78 rfl (by rfl) rfl) rfl ?_
            refine p_run _ (x_loads ((nums .u8 x.2)) 256 rfl rfl (bkCells (HS.get (.head _)) 1 _ (by simp)) (by rfl) (by kernel_rfl) (by simp [hx2, nums_length])) rfl ?_
            refine St.stores (cs' := ((nums .u8 x.2))) (HS.front 1 rfl) ((nums .u8 x.2)) 256 rfl rfl (nums_one _ _) (by kernel_rfl) (by simp [hx2, nums_length]) (by simp [hout, hx2, nums_length]) (lay_all _ _ (by simp [hout, hx2, nums_length])) ?_
            clear HS
            intro w62 HS
            refine wpList_nil ?_
            refine fr_at (l' := [.pointer (some ⟨D, 0, none⟩), .int .i64 i, undef, undef, .pointer (some ⟨g5, 0, none⟩), .int .i64 0, .pointer (some ⟨g13, 0, none⟩), .int .i64 0, undef, .pointer (some ⟨g51, 0, none⟩), .tuple [.agg ((nums .u8 (S.at i))).toArray, .int .i64 0].toArray, .pointer (some ⟨D, 0, none⟩), .int .i64 i, .tuple [.agg ((nums .u8 (S.at i))).toArray, .int .i64 0].toArray, .agg ((nums .u8 (S.at i))).toArray, .int .i64 0, .int .i64 0, .bool false, undef, undef, .pointer (some ⟨D, 0, none⟩), .pointer (some ⟨D, 0, none⟩), .pointer (some ⟨D, 1, none⟩), .map (some gm), .int .i64 i, .int .i64 (S.bad i), .bool false, undef, .pointer (some ⟨D, 0, none⟩), .pointer (some ⟨D, 0, none⟩), .pointer (some ⟨D, 2, none⟩), .slice (some ad) S.pending.length c, .int .i64 (S.pending.length : Int), .int .i64 (j : Int), .bool (decide ((j : Int) < (S.pending.length : Int))), .pointer (some ((ad).add (j * 257))), .agg (Value.int .i64 x.1 :: (nums .u8 x.2)).toArray, .pointer (some ⟨g51, 0, none⟩), .int .i64 x.1, .int .i64 i, .bool (x.1 == i), .pointer (some ⟨g51, 1, none⟩), .agg ((nums .u8 x.2)).toArray, u43, undef]) rfl ?_
            refine hK46 _ _ ?_
            refine c_region (fun ops64 hops63 => ?_)
            clear hops63
            refine p_run _ (x_arith (k := .i64) (m := (j : Int)) (n := 1) .add (((j + 1 : Nat) : Int)) rfl rfl rfl (show IntKind.i64.wrap ((j : Int) + 1) = ((j + 1 : Nat) : Int) from ((wr64 (by omega)).trans (by omega))) rfl) rfl ?_
            refine p_run _ (x_move (.int .i64 ((j + 1 : Nat) : Int)) rfl rfl) rfl ?_
            refine wpList_nil ?_
            refine fr_at (l' := [.pointer (some ⟨D, 0, none⟩), .int .i64 i, undef, undef, .pointer (some ⟨g5, 0, none⟩), .int .i64 0, .pointer (some ⟨g13, 0, none⟩), .int .i64 0, undef, .pointer (some ⟨g51, 0, none⟩), .tuple [.agg ((nums .u8 (S.at i))).toArray, .int .i64 0].toArray, .pointer (some ⟨D, 0, none⟩), .int .i64 i, .tuple [.agg ((nums .u8 (S.at i))).toArray, .int .i64 0].toArray, .agg ((nums .u8 (S.at i))).toArray, .int .i64 0, .int .i64 0, .bool false, undef, undef, .pointer (some ⟨D, 0, none⟩), .pointer (some ⟨D, 0, none⟩), .pointer (some ⟨D, 1, none⟩), .map (some gm), .int .i64 i, .int .i64 (S.bad i), .bool false, undef, .pointer (some ⟨D, 0, none⟩), .pointer (some ⟨D, 0, none⟩), .pointer (some ⟨D, 2, none⟩), .slice (some ad) S.pending.length c, .int .i64 (S.pending.length : Int), .int .i64 ((j + 1 : Nat) : Int), .bool (decide ((j : Int) < (S.pending.length : Int))), .pointer (some ((ad).add (j * 257))), .agg (Value.int .i64 x.1 :: (nums .u8 x.2)).toArray, .pointer (some ⟨g51, 0, none⟩), .int .i64 x.1, .int .i64 i, .bool (x.1 == i), .pointer (some ⟨g51, 1, none⟩), .agg ((nums .u8 x.2)).toArray, .int .i64 ((j + 1 : Nat) : Int), undef]) rfl ?_
            refine hJ36 (j + 1, x.2) _ _ ?_ ?_
            · show S.pending.length - (j + 1) < S.pending.length - j; omega
            · exact ⟨_, _, _, _, _, _, _, _, _, _, _, rfl, (((((((HS.front 1 rfl).drop.front 5 rfl).front 5 rfl).front 5 rfl).front 5 rfl).front 5 rfl).front 5 rfl), ⟨(by rw [← hI1]; show _ = lastW _ _ (if x.1 = i then x.2 else out); rw [if_pos hxi]), hx2⟩⟩
          · have hxi : ¬ x.1 = i := by simpa using hc59
            refine wp_skip ?_
            refine hK46 _ _ ?_
            refine c_region (fun ops66 hops65 => ?_)
            clear hops65
            refine p_run _ (x_arith (k := .i64) (m := (j : Int)) (n := 1) .add (((j + 1 : Nat) : Int)) rfl rfl rfl (show IntKind.i64.wrap ((j : Int) + 1) = ((j + 1 : Nat) : Int) from ((wr64 (by omega)).trans (by omega))) rfl) rfl ?_
            refine p_run _ (x_move (.int .i64 ((j + 1 : Nat) : Int)) rfl rfl) rfl ?_
            refine wpList_nil ?_
            refine fr_at (l' := [.pointer (some ⟨D, 0, none⟩), .int .i64 i, undef, undef, .pointer (some ⟨g5, 0, none⟩), .int .i64 0, .pointer (some ⟨g13, 0, none⟩), .int .i64 0, undef, .pointer (some ⟨g51, 0, none⟩), .tuple [.agg ((nums .u8 (S.at i))).toArray, .int .i64 0].toArray, .pointer (some ⟨D, 0, none⟩), .int .i64 i, .tuple [.agg ((nums .u8 (S.at i))).toArray, .int .i64 0].toArray, .agg ((nums .u8 (S.at i))).toArray, .int .i64 0, .int .i64 0, .bool false, undef, undef, .pointer (some ⟨D, 0, none⟩), .pointer (some ⟨D, 0, none⟩), .pointer (some ⟨D, 1, none⟩), .map (some gm), .int .i64 i, .int .i64 (S.bad i), .bool false, undef, .pointer (some ⟨D, 0, none⟩), .pointer (some ⟨D, 0, none⟩), .pointer (some ⟨D, 2, none⟩), .slice (some ad) S.pending.length c, .int .i64 (S.pending.length : Int), .int .i64 ((j + 1 : Nat) : Int), .bool (decide ((j : Int) < (S.pending.length : Int))), .pointer (some ((ad).add (j * 257))), .agg (Value.int .i64 x.1 :: (nums .u8 x.2)).toArray, .pointer (some ⟨g51, 0, none⟩), .int .i64 x.1, .int .i64 i, .bool (x.1 == i), u41, u42, .int .i64 ((j + 1 : Nat) : Int), undef]) rfl ?_
            refine hJ36 (j + 1, out) _ _ ?_ ?_
            · show S.pending.length - (j + 1) < S.pending.length - j; omega
            · exact ⟨_, _, _, _, _, _, _, _, _, _, _, rfl, ((((((HS.drop.front 5 rfl).front 5 rfl).front 5 rfl).front 5 rfl).front 5 rfl).front 5 rfl), ⟨(by rw [← hI1]; show _ = lastW _ _ (if x.1 = i then x.2 else out); rw [if_neg hxi]), hout⟩⟩
        · have hlt : ¬ j < S.pending.length := by have := of_decide_eq_false hc44; omega
          obtain ⟨hI1, hout⟩ := hI
          rw [List.drop_of_length_le (by omega)] at hI1
          refine wp_exit ?_
          refine hK30 _ _ ?_
          refine wp_seq_k (fun K67 hK68 => ?_)
          refine c_region (fun ops70 hops69 => ?_)
          clear hops69
          refine p_run _ (x_loads ((nums .u8 out)) 256 rfl rfl (bkCells (HS.get (.head _)) 0 _ (whole _)) (by rfl) (by kernel_rfl) (by simp [hout, nums_length])) rfl ?_
          refine St.stores (cs' := ((nums .u8 out))) (HS.front 5 rfl) ((nums .u8 out)) 256 rfl rfl (nums_one _ _) (by kernel_rfl) (by simp [hout, nums_length]) (by simp [hout, nums_length, zlen]) (lay_all _ _ (by simp [hout, nums_length, zlen])) ?_
          clear HS
          intro w71 HS
          refine p_run _ (x_assign (.int .i64 0) rfl rfl) rfl ?_
          refine wpList_nil ?_
          refine fr_at (l' := [.pointer (some ⟨D, 0, none⟩), .int .i64 i, undef, undef, .pointer (some ⟨g5, 0, none⟩), .int .i64 0, .pointer (some ⟨g13, 0, none⟩), .int .i64 0, undef, u9, .tuple [.agg ((nums .u8 (S.at i))).toArray, .int .i64 0].toArray, .pointer (some ⟨D, 0, none⟩), .int .i64 i, .tuple [.agg ((nums .u8 (S.at i))).toArray, .int .i64 0].toArray, .agg ((nums .u8 (S.at i))).toArray, .int .i64 0, .int .i64 0, .bool false, undef, undef, .pointer (some ⟨D, 0, none⟩), .pointer (some ⟨D, 0, none⟩), .pointer (some ⟨D, 1, none⟩), .map (some gm), .int .i64 i, .int .i64 (S.bad i), .bool false, undef, .pointer (some ⟨D, 0, none⟩), .pointer (some ⟨D, 0, none⟩), .pointer (some ⟨D, 2, none⟩), .slice A S.pending.length c, .int .i64 (S.pending.length : Int), .int .i64 (j : Int), .bool (decide ((j : Int) < (S.pending.length : Int))), u35, u36, u37, u38, u39, u40, u41, u42, u43, .agg ((nums .u8 out)).toArray]) rfl ?_
          refine hK68 _ _ ?_
          refine wp_ret ?_
          try simp only [Exit.inBlock, Exit.then]
          refine c_ret (.tuple [.agg ((nums .u8 out)).toArray, .int .i64 0].toArray) (r_ct rfl rfl (run_loadVar_aggn (by rfl) ((nums .u8 out)) 256 (by kernel_rfl) (by simp [hout, nums_length]) (bkCells (HS.get (.head _)) 0 _ (whole _))) rfl) ?_
          have e1 : S.readP i = out := by unfold Dk.readP; rw [if_pos ht, if_neg hb0]; exact hI1.symm
          have e2 : S.readE i = 0 := by unfold Dk.readE; rw [if_pos ht, if_neg hb0]
          rw [e1, e2]
          exact ⟨rfl, ((((HS.drop.drop.front 3 rfl).front 3 rfl).front 3 rfl).front 3 rfl)⟩
end
end Go.Proofs.Ytenlkobjldhfgaa
