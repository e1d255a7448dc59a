/- The document's Fields; its Seal over a row. -/
import Derived.Test.YtenlkobjldhfgaaZRootRunsByWO
import Derived.Test.YtenlkobjldhfgaaZRootRunsSealRefB
import Derived.Test.YtenlkobjldhfgaaZRootRunsRBytesB
set_option linter.unusedVariables false
set_option linter.unusedSimpArgs false
namespace Go.Proofs.Ytenlkobjldhfgaa
open Go.RowKit Go.Proofs.YtenlkobjldhfgaaW.PrintWords Go.Proofs.YtenlkobjldhfgaaW.PrintLast Crc
section
variable {w0 W : World} {F : Nat → Prop} {L : List Res}
def fsN (fs : List (Nat × UInt64)) : List Int := fs.flatMap fun f => [(f.1 : Int), uv f.2]
def fsB (fs : List (Nat × UInt64)) : List UInt8 := fs.flatMap fun f => leB f.1 f.2.toNat
theorem fsN_at : ∀ (fs : List (Nat × UInt64)) (j : Nat) (x : Nat × UInt64), fs[j]? = some x → ((nums .u64 (fsN fs)).drop (j * 2)).take 2 = [.int .u64 (x.1 : Int), .int .u64 (uv x.2)]
 | [], j, x, h => by simp at h
 | f :: fs, 0, x, h => by
  have : f = x := by simpa using h
  subst this
  rfl
 | f :: fs, j + 1, x, h => by
  have ih := fsN_at fs j x (by simpa using h)
  rw [show (j + 1) * 2 = j * 2 + 1 + 1 by omega]
  exact ih
theorem fs_snoc {fs : List (Nat × UInt64)} {j : Nat} {x : Nat × UInt64} (h : fs[j]? = some x) : fsB (fs.take (j + 1)) = fsB (fs.take j) ++ leB x.1 x.2.toNat := by
 obtain ⟨hj, rfl⟩ := List.getElem?_eq_some_iff.1 h
 unfold fsB
 rw [List.take_succ_eq_append_getElem hj, List.flatMap_append]
 simp
theorem fs_le {fs : List (Nat × UInt64)} (hw : ∀ f ∈ fs, f.1 ≤ 8) (j : Nat) : (fsB (fs.take j)).length ≤ 8 * fs.length := by
 have h2 : ∀ l : List (Nat × UInt64), (∀ f ∈ l, f.1 ≤ 8) → (fsB l).length ≤ 8 * l.length := by
  intro l hl
  induction l with
  | nil => simp [fsB]
  | cons f l ih =>
   have h1 := hl f List.mem_cons_self
   have h2 := ih (fun g hg => hl g (List.mem_cons_of_mem _ hg))
   unfold fsB at h2 ⊢
   rw [List.flatMap_cons, List.length_append, leB_length, List.length_cons]
   omega
 have h3 := h2 (fs.take j) (fun f hf => hw f (List.mem_of_mem_take hf))
 rw [List.length_take] at h3
 omega
theorem conv8 {x : Nat} (h : x ≤ 8) : IntKind.i64.wrap (x : Int) = (x : Int) := by rw [IntKind.wrap_i64]; omega
theorem wr64' {x : Int} (h : -9223372036854775808 ≤ x ∧ x < 9223372036854775808) : IntKind.i64.wrap x = x := by rw [IntKind.wrap_i64]; omega
theorem rbytesR_any (HS : St w0 F W L) (x : UInt64) (k : Nat) (hk : k ≤ 8) :
  Calls Try.prog 52 #[.int .u64 (uv x), .int .i64 (k : Int)] W fun e w' => ∃ A c, e = .returned (.tuple #[.slice A k c, .bool (fits k x)]) ∧ St w0 F w' (row kByte rfl 5 (.slice A k c) (leB k x.toNat) :: L) := by
 refine (rbytes_any x k W hk).mono ?_
 rintro e w' ⟨v, rfl, ho, hb⟩
 obtain ⟨A, c, rfl, _⟩ := ho.reads
 rw [leB_length] at ho ⊢
 exact ⟨A, c, rfl, HS.made hb ho⟩
theorem rsealR_any {hE : kByte.E = []} {e : Nat} {v : Value} {xs : List UInt8} (HS : St w0 F W (row kByte hE e v xs :: L)) (m : Nat) (hm : (sealB xs).length = m) (hl : m ≤ 1000000) :
  Calls Try.prog 38 #[v] W fun e' w' => ∃ A c, e' = .returned (.slice A m c) ∧ St w0 F w' (row kByte rfl 5 (.slice A m c) (sealB xs) :: row kByte hE e v xs :: L) := by
 obtain ⟨A, c, rfl, hc, hr⟩ := row_reads (HS.get (.head _))
 have h1 := sealB_length xs
 refine (rseal_r A c xs W hr (by omega)).mono ?_
 rintro e w' ⟨v, rfl, ho, hb⟩
 obtain ⟨A', c', rfl, _⟩ := ho.reads
 rw [hm] at ho ⊢
 exact ⟨A', c', rfl, HS.made hb ho⟩
set_option maxRecDepth 10000 in
set_option maxHeartbeats 1000000 in
theorem fields_any {q t c : Nat} {fs : List (Nat × UInt64)} (HS : St w0 F W (blk q (nums .u64 (fsN fs)) t :: L)) (hw : ∀ f ∈ fs, f.1 ≤ 8) (hn : fs.length ≤ 1000) : Calls Try.prog 39 #[.slice (some ⟨q, 0, none⟩) fs.length c] W fun e w' => ∃ v, e = .returned v ∧ St w0 F w' (row kByte rfl 5 v (fsB fs) :: blk q (nums .u64 (fsN fs)) t :: L) := by
 refine c_enter Try.func39 rfl 29 rfl [.slice (some ⟨q, 0, none⟩) fs.length c, undef, undef, undef, undef, undef, undef, undef, undef, undef, undef, undef, undef, undef, undef, undef, undef, undef, undef, undef, undef, undef, undef, undef, undef, undef, undef, undef, undef] rfl ?_
 refine wp_seq_k (fun K1 hK2 => ?_)
 refine c_region (fun ops4 hops3 => ?_)
 clear hops3
 refine p_run _ (x_assign (.slice none 0 0) rfl rfl) rfl ?_
 refine wpList_nil ?_
 refine fr_at (l' := [.slice (some ⟨q, 0, none⟩) fs.length c, undef, .slice none 0 0, undef, undef, undef, undef, undef, undef, undef, undef, undef, undef, undef, undef, undef, undef, undef, undef, undef, undef, undef, undef, undef, undef, undef, undef, undef, undef]) rfl ?_
 refine hK2 _ _ ?_
 refine wp_seq_k (fun K5 hK6 => ?_)
 refine c_region (fun ops8 hops7 => ?_)
 clear hops7
 refine St.wLit0 HS kByte rfl 1 (.int .u8 0) Try.underlying24 (by kernel_rfl) ?_
 clear HS
 intro v9 w10 HS
 refine p_run _ (x_assign (v9) rfl rfl) rfl ?_
 refine wpList_nil ?_
 refine fr_at (l' := [.slice (some ⟨q, 0, none⟩) fs.length c, undef, .slice none 0 0, v9, undef, undef, undef, undef, v9, undef, undef, undef, undef, undef, undef, undef, undef, undef, undef, undef, undef, undef, undef, undef, undef, undef, undef, undef, undef]) rfl ?_
 refine hK6 _ _ ?_
 refine wp_seq_k (fun K11 hK12 => ?_)
 refine wp_seq_k (fun K13 hK14 => ?_)
 refine c_region (fun ops16 hops15 => ?_)
 clear hops15
 refine p_run _ (x_move (.slice (some ⟨q, 0, none⟩) fs.length c) rfl rfl) rfl ?_
 refine p_run _ (x_len rfl rfl Try.underlying102) rfl ?_
 refine p_run _ (x_move (.int .i64 0) rfl rfl) rfl ?_
 refine wpList_nil ?_
 refine fr_at (l' := [.slice (some ⟨q, 0, none⟩) fs.length c, undef, .slice none 0 0, v9, undef, undef, undef, undef, v9, .slice (some ⟨q, 0, none⟩) fs.length c, .int .i64 (fs.length : Int), .int .i64 0, undef, undef, undef, undef, undef, undef, undef, undef, undef, undef, undef, undef, undef, undef, undef, undef, undef]) rfl ?_
 refine hK14 _ _ ?_
 refine wp_block ?_
 refine c_loop (ι := Nat) (fun i_ a_ w_ => match i_ with | j => ∃ (u3 : Value) (u5 : Value) (u6 : Value) (u7 : Value) (u12 : Value) (u13 : Value) (u14 : Value) (u15 : Value) (u16 : Value) (u17 : Value) (u18 : Value) (u19 : Value) (u20 : Value) (u21 : Value) (u22 : Value) (u23 : Value) (u24 : Value) (u25 : Value) (u26 : Value) (u27 : Value), a_ = fr [.slice (some ⟨q, 0, none⟩) fs.length c, undef, .slice none 0 0, u3, undef, u5, u6, u7, v9, .slice (some ⟨q, 0, none⟩) fs.length c, .int .i64 (fs.length : Int), .int .i64 (j : Int), u12, u13, u14, u15, u16, u17, u18, u19, u20, u21, u22, u23, u24, u25, u26, u27, undef] ∧ St w0 F w_ (row kByte rfl 5 u3 (fsB (fs.take j)) :: blk q ((nums .u64 (fsN fs))) t :: L) ∧ (j ≤ fs.length)) (fun i_ => match i_ with | j => fs.length - j) 0 ?_ ?_
 ·exact ⟨_, _, _, _, _, _, _, _, _, _, _, _, _, _, _, _, _, _, _, _, rfl, ((HS.front 1 rfl).front 1 rfl), (by omega)⟩
 ·clear HS
  rintro j a_ w19 ⟨u3, u5, u6, u7, u12, u13, u14, u15, u16, u17, u18, u19, u20, u21, u22, u23, u24, u25, u26, u27, rfl, HS, hI⟩ J17 hJ18
  refine wp_seq_k (fun K20 hK21 => ?_)
  refine c_region (fun ops23 hops22 => ?_)
  clear hops22
  refine p_run _ (x_cmp (k := .i64) (m := (j : Int)) (n := (fs.length : Int)) .lss (decide ((j : Int) < (fs.length : Int))) rfl rfl rfl rfl rfl) rfl ?_
  refine wpList_nil ?_
  refine fr_at (l' := [.slice (some ⟨q, 0, none⟩) fs.length c, undef, .slice none 0 0, u3, undef, u5, u6, u7, v9, .slice (some ⟨q, 0, none⟩) fs.length c, .int .i64 (fs.length : Int), .int .i64 (j : Int), .bool (decide ((j : Int) < (fs.length : Int))), u13, u14, u15, u16, u17, u18, u19, u20, u21, u22, u23, u24, u25, u26, u27, undef]) rfl ?_
  refine hK21 _ _ ?_
  refine wp_seq_k (fun K24 hK25 => ?_)
  refine c_cond (t := decide ((j : Int) < (fs.length : Int))) rfl (fun hc26 => ?_) (fun hc26 => ?_)
  ·have hlt : j < fs.length := by have := of_decide_eq_true hc26; omega
   obtain ⟨x, hx⟩ : ∃ x, fs[j]? = some x := ⟨_, List.getElem?_eq_getElem hlt⟩
   have hx8 := hw x (List.mem_of_getElem? hx)
   have hfl := fs_le hw j
   refine wp_skip ?_
   refine hK25 _ _ ?_
   refine wp_seq_k (fun K27 hK28 => ?_)
   refine wp_block ?_
   refine wp_seq_k (fun K29 hK30 => ?_)
   refine c_region (fun ops32 hops31 => ?_)
   clear hops31
   refine p_run (.pointer (some ⟨q, j * 2, none⟩)) ((x_index (A := ⟨q, 0, none⟩) (j := j * 2) (sz := 2) rfl rfl rfl Try.underlying102 (by kernel_rfl) (by omega) rfl).trans (by rw [add_mk, Nat.zero_add])) rfl ?_
   refine p_run _ (x_loads [.int .u64 (x.1 : Int), .int .u64 (uv x.2)] 2 rfl rfl (bkCells (HS.get (.tail _ (.head _))) (j * 2) _ (fsN_at fs j x hx)) (by rfl) (by kernel_rfl) rfl) rfl ?_
   refine St.wAlloc HS (cs := [.int .u64 0, .int .u64 0]) (.agg [.int .u64 0, .int .u64 0].toArray) (by kernel_rfl) rfl ?_
   clear HS
   intro g33 w34 hg35 HS
   refine St.stores (cs' := [.int .u64 (x.1 : Int), .int .u64 (uv x.2)]) HS [.int .u64 (x.1 : Int), .int .u64 (uv x.2)] 2 rfl rfl (by rfl) (by kernel_rfl) rfl (by simp) rfl ?_
   clear HS
   intro w36 HS
   refine wpList_nil ?_
   refine fr_at (l' := [.slice (some ⟨q, 0, none⟩) fs.length c, undef, .slice none 0 0, u3, undef, .pointer (some ⟨g33, 0, none⟩), u6, u7, v9, .slice (some ⟨q, 0, none⟩) fs.length c, .int .i64 (fs.length : Int), .int .i64 (j : Int), .bool (decide ((j : Int) < (fs.length : Int))), .pointer (some ⟨q, j * 2, none⟩), .agg ([.int .u64 (x.1 : Int), .int .u64 (uv x.2)] : List Value).toArray, u15, u16, u17, u18, u19, u20, u21, u22, u23, u24, u25, u26, u27, undef]) rfl ?_
   refine hK30 _ _ ?_
   refine wp_seq_k (fun K37 hK38 => ?_)
   refine c_region (fun ops40 hops39 => ?_)
   clear hops39
   refine p_run _ (x_indexArr (sz := 1) (j := 1) rfl rfl rfl Try.underlying84 (by kernel_rfl) (by omega) rfl) rfl ?_
   refine p_run _ (x_load (.int .u64 (uv x.2)) rfl rfl (bkCell (HS.get (.head _)) 1 _ rfl) (by rfl)) rfl ?_
   refine p_run _ (x_indexArr (sz := 1) (j := 0) rfl rfl rfl Try.underlying84 (by kernel_rfl) (by omega) rfl) rfl ?_
   refine p_run (l' := [.slice (some ⟨q, 0, none⟩) fs.length c, undef, .slice none 0 0, u3, undef, .pointer (some ⟨g33, 0, none⟩), u6, u7, v9, .slice (some ⟨q, 0, none⟩) fs.length c, .int .i64 (fs.length : Int), .int .i64 (j : Int), .bool (decide ((j : Int) < (fs.length : Int))), .pointer (some ⟨q, j * 2, none⟩), .agg ([.int .u64 (x.1 : Int), .int .u64 (uv x.2)] : List Value).toArray, u15, .pointer (some ⟨g33, 1, none⟩), .int .u64 (uv x.2), .pointer (some ⟨g33, 0, none⟩), .int .u64 (x.1 : Int), u20, u21, u22, u23, u24, u25, u26, u27, undef]) _ (x_load (.int .u64 (x.1 : Int)) rfl rfl (bkCell (HS.get (.head _)) 0 _ rfl) (by rfl)) rfl ?_
   refine p_run _ (x_conv (k := .u64) (m := (x.1 : Int)) .i64 ((x.1 : Int)) rfl (by rw [Try.underlying25]; rfl) Try.underlying3 rfl (conv8 hx8)) rfl ?_
   refine w_call [.int .u64 (uv x.2), .int .i64 (x.1 : Int)] Try.func52 (by kernel_rfl) (by rfl) rfl ?_
   refine (rbytesR_any HS x.2 x.1 hx8).mono ?_
   clear HS
   rintro e w43 ⟨oa41, nc42, rfl, HS⟩
   refine ⟨_, rfl, ?_⟩
   refine p_run _ (x_move (.tuple [.slice oa41 x.1 nc42, .bool (fits x.1 x.2)].toArray) rfl rfl) rfl ?_
   refine p_run (l' := [.slice (some ⟨q, 0, none⟩) fs.length c, undef, .slice none 0 0, u3, undef, .pointer (some ⟨g33, 0, none⟩), u6, u7, v9, .slice (some ⟨q, 0, none⟩) fs.length c, .int .i64 (fs.length : Int), .int .i64 (j : Int), .bool (decide ((j : Int) < (fs.length : Int))), .pointer (some ⟨q, j * 2, none⟩), .agg ([.int .u64 (x.1 : Int), .int .u64 (uv x.2)] : List Value).toArray, .tuple [.slice oa41 x.1 nc42, .bool (fits x.1 x.2)].toArray, .pointer (some ⟨g33, 1, none⟩), .int .u64 (uv x.2), .pointer (some ⟨g33, 0, none⟩), .int .u64 (x.1 : Int), .int .i64 (x.1 : Int), .tuple [.slice oa41 x.1 nc42, .bool (fits x.1 x.2)].toArray, .slice oa41 x.1 nc42, u23, u24, u25, u26, u27, undef]) _ (x_extract (vs := [.slice oa41 x.1 nc42, .bool (fits x.1 x.2)]) 0 (.slice oa41 x.1 nc42) rfl rfl rfl) rfl ?_
   refine p_run _ (x_extract (vs := [.slice oa41 x.1 nc42, .bool (fits x.1 x.2)]) 1 (.bool (fits x.1 x.2)) rfl rfl rfl) rfl ?_
   refine p_run _ (x_assign (.slice oa41 x.1 nc42) rfl rfl) rfl ?_
   refine p_run _ (x_assign (.bool (fits x.1 x.2)) rfl rfl) rfl ?_
   refine wpList_nil ?_
   refine fr_at (l' := [.slice (some ⟨q, 0, none⟩) fs.length c, undef, .slice none 0 0, u3, undef, .pointer (some ⟨g33, 0, none⟩), .slice oa41 x.1 nc42, .bool (fits x.1 x.2), v9, .slice (some ⟨q, 0, none⟩) fs.length c, .int .i64 (fs.length : Int), .int .i64 (j : Int), .bool (decide ((j : Int) < (fs.length : Int))), .pointer (some ⟨q, j * 2, none⟩), .agg ([.int .u64 (x.1 : Int), .int .u64 (uv x.2)] : List Value).toArray, .tuple [.slice oa41 x.1 nc42, .bool (fits x.1 x.2)].toArray, .pointer (some ⟨g33, 1, none⟩), .int .u64 (uv x.2), .pointer (some ⟨g33, 0, none⟩), .int .u64 (x.1 : Int), .int .i64 (x.1 : Int), .tuple [.slice oa41 x.1 nc42, .bool (fits x.1 x.2)].toArray, .slice oa41 x.1 nc42, .bool (fits x.1 x.2), u24, u25, u26, u27, undef]) rfl ?_
   refine hK38 _ _ ?_
   refine c_region (fun ops45 hops44 => ?_)
   clear hops44
   refine p_run _ (x_move (u3) rfl rfl) rfl ?_
   refine p_run _ (x_move (.slice oa41 x.1 nc42) rfl rfl) rfl ?_
   replace HS := (HS.front 2 rfl)
   refine St.wAppend HS (.int .u8 0) 1 Try.underlying24 (by kernel_rfl) rfl (by decide) (by decide) (leB x.1 x.2.toNat) _ _ _ rfl rfl (row_rdn (HS.get (.tail _ (.head _)))) (fun _ _ h => h) (by omega) ?_
   clear HS
   intro v46 w47 HS
   refine p_run (l' := [.slice (some ⟨q, 0, none⟩) fs.length c, undef, .slice none 0 0, v46, undef, .pointer (some ⟨g33, 0, none⟩), .slice oa41 x.1 nc42, .bool (fits x.1 x.2), v9, .slice (some ⟨q, 0, none⟩) fs.length c, .int .i64 (fs.length : Int), .int .i64 (j : Int), .bool (decide ((j : Int) < (fs.length : Int))), .pointer (some ⟨q, j * 2, none⟩), .agg ([.int .u64 (x.1 : Int), .int .u64 (uv x.2)] : List Value).toArray, .tuple [.slice oa41 x.1 nc42, .bool (fits x.1 x.2)].toArray, .pointer (some ⟨g33, 1, none⟩), .int .u64 (uv x.2), .pointer (some ⟨g33, 0, none⟩), .int .u64 (x.1 : Int), .int .i64 (x.1 : Int), .tuple [.slice oa41 x.1 nc42, .bool (fits x.1 x.2)].toArray, .slice oa41 x.1 nc42, .bool (fits x.1 x.2), u3, .slice oa41 x.1 nc42, v46, u27, undef]) _ (x_assign (v46) rfl rfl) rfl ?_
   refine wpList_nil ?_
   refine hK28 _ _ ?_
   refine c_region (fun ops49 hops48 => ?_)
   clear hops48
   refine p_run _ (x_arith (k := .i64) (m := (j : Int)) (n := 1) .add (((j + 1 : Nat) : Int)) rfl rfl rfl (show IntKind.i64.wrap ((j : Int) + 1) = ((j + 1 : Nat) : Int) from ((wr64' (by omega)).trans (by omega))) rfl) rfl ?_
   refine p_run _ (x_move (.int .i64 ((j + 1 : Nat) : Int)) rfl rfl) rfl ?_
   refine wpList_nil ?_
   refine fr_at (l' := [.slice (some ⟨q, 0, none⟩) fs.length c, undef, .slice none 0 0, v46, undef, .pointer (some ⟨g33, 0, none⟩), .slice oa41 x.1 nc42, .bool (fits x.1 x.2), v9, .slice (some ⟨q, 0, none⟩) fs.length c, .int .i64 (fs.length : Int), .int .i64 ((j + 1 : Nat) : Int), .bool (decide ((j : Int) < (fs.length : Int))), .pointer (some ⟨q, j * 2, none⟩), .agg ([.int .u64 (x.1 : Int), .int .u64 (uv x.2)] : List Value).toArray, .tuple [.slice oa41 x.1 nc42, .bool (fits x.1 x.2)].toArray, .pointer (some ⟨g33, 1, none⟩), .int .u64 (uv x.2), .pointer (some ⟨g33, 0, none⟩), .int .u64 (x.1 : Int), .int .i64 (x.1 : Int), .tuple [.slice oa41 x.1 nc42, .bool (fits x.1 x.2)].toArray, .slice oa41 x.1 nc42, .bool (fits x.1 x.2), u3, .slice oa41 x.1 nc42, v46, .int .i64 ((j + 1 : Nat) : Int), undef]) rfl ?_
   rw [← fs_snoc hx] at HS
   refine hJ18 (j + 1) _ _ ?_ ?_
   ·show fs.length - (j + 1) < fs.length - j; omega
   ·exact ⟨_, _, _, _, _, _, _, _, _, _, _, _, _, _, _, _, _, _, _, _, rfl, ((((HS.front 1 rfl).drop.front 1 rfl).drop.front 1 rfl).front 1 rfl), (by omega)⟩
  ·have hlt : j = fs.length := by have := of_decide_eq_false hc26; omega
   subst hlt
   rw [List.take_length] at HS
   refine wp_exit ?_
   refine hK12 _ _ ?_
   refine wp_seq_k (fun K50 hK51 => ?_)
   refine c_region (fun ops53 hops52 => ?_)
   clear hops52
   refine p_run _ (x_move (u3) rfl rfl) rfl ?_
   refine p_run _ (x_assign (u3) rfl rfl) rfl ?_
   refine wpList_nil ?_
   refine fr_at (l' := [.slice (some ⟨q, 0, none⟩) fs.length c, undef, u3, u3, undef, u5, u6, u7, v9, .slice (some ⟨q, 0, none⟩) fs.length c, .int .i64 (fs.length : Int), .int .i64 (fs.length : Int), .bool (decide ((fs.length : Int) < (fs.length : Int))), u13, u14, u15, u16, u17, u18, u19, u20, u21, u22, u23, u24, u25, u26, u27, u3]) rfl ?_
   refine hK51 _ _ ?_
   refine wp_ret ?_
   try simp only [Exit.inBlock, Exit.then]
   refine c_ret (u3) (r_tmp rfl rfl) ?_
   exact ⟨_, rfl, ((HS.front 1 rfl).front 1 rfl)⟩
end
end Go.Proofs.Ytenlkobjldhfgaa
