/- Package tally over a disk: Read, Write. -/
import Derived.Test.YtiokdpnhaemciaaL6a
import Derived.Test.YtiokdpnhaemciaaDkQ
set_option linter.unusedVariables false
set_option linter.unusedSimpArgs false
namespace Go.Proofs.Ytiokdpnhaemciaa
open Go.RowKit Go.Proofs.YtiokdpnhaemciaaW.PrintWords Go.Proofs.YtiokdpnhaemciaaW.PrintLast Crc
section
variable {w0 W : World} {F : Nat → Prop} {L : List Res} {D gs gm n : Nat} {v : Value} {S : Dk}
theorem neq_yes {a b : Int} (h : a = b) : cmpB .neq a b = false := by subst h; simp [cmpB]
theorem neq_no {a b : Int} (h : ¬ a = b) : cmpB .neq a b = true := by simp [cmpB, h]

set_option maxRecDepth 10000 in
set_option maxHeartbeats 1000000 in
theorem tread_ok (HS : St w0 F W (dsk D gs gm v S L)) (hg : Dk.good S n) (hn : n < 1000) (g : UInt64) (q : List UInt8) (hq : q.length = 256) (h1 : S.readE (tlA g) = 0) (h2 : S.readP (tlA g) = q.map bv) : Calls Try.prog 20 #[.pointer (some ⟨D, 0, none⟩), .int .u64 (uv g)] W fun e w' => e = .returned (.tuple #[.agg (nums .u8 ((tlC g q).map bv)).toArray, .int .i64 (tlE g q)]) ∧ St w0 F w' (dsk D gs gm v S L) := by
  refine c_enter Try.func20 rfl 24 rfl [.pointer (some ⟨D, 0, none⟩), .int .u64 (uv g), undef, undef, undef, undef, undef, undef, undef, undef, undef, undef, undef, undef, undef, undef, undef, undef, undef, undef, undef, undef, undef, undef] rfl ?_
  refine wp_seq_k (fun K1 hK2 => ?_)
  refine c_region (fun ops4 hops3 => ?_)
  clear hops3
  refine St.wAlloc HS (cs := ((nums .u8 (zB.map bv)))) (.agg ((nums .u8 (zB.map bv))).toArray) (by kernel_rfl) rfl ?_
  clear HS
  intro g5 w6 hg7 HS
  refine p_run (l' := _) _ (x_assign (.int .i64 0) rfl rfl) rfl ?_
  refine wpList_nil ?_
  refine fr_at (l' := [.pointer (some ⟨D, 0, none⟩), .int .u64 (uv g), undef, undef, .pointer (some ⟨g5, 0, none⟩), .int .i64 0, undef, undef, undef, undef, undef, undef, undef, undef, undef, undef, undef, undef, undef, undef, undef, undef, undef, undef]) rfl ?_
  refine hK2 _ _ ?_
  refine wp_seq_k (fun K8 hK9 => ?_)
  refine c_region (fun ops11 hops10 => ?_)
  clear hops10
  refine p_run (l' := _) _ (x_move (.pointer (some ⟨D, 0, none⟩)) rfl rfl) rfl ?_
  refine p_run (l' := _) _ (x_move (.int .u64 (uv g)) rfl rfl) rfl ?_
  refine w_call [.int .u64 (uv g)] Try.func18 (by kernel_rfl) (by rfl) rfl ?_
  refine (tarea_any g _).mono ?_
  rintro e w' ⟨rfl, rfl⟩
  refine ⟨_, rfl, ?_⟩
  refine w_call [.pointer (some ⟨D, 0, none⟩), .int .i64 (tlA g)] Try.func35 (by kernel_rfl) (by rfl) rfl ?_
  replace HS := ((((HS.front 4 rfl).front 4 rfl).front 4 rfl).front 4 rfl)
  refine (read_any HS hg.ok (by have := hg.pn; omega) (tlA g)).mono ?_
  clear HS
  rintro e w12 ⟨rfl, HS⟩
  refine ⟨_, rfl, ?_⟩
  refine fr_to (l' := [.pointer (some ⟨D, 0, none⟩), .int .u64 (uv g), undef, undef, .pointer (some ⟨g5, 0, none⟩), .int .i64 0, undef, undef, undef, .pointer (some ⟨D, 0, none⟩), .int .u64 (uv g), .int .i64 (tlA g), .tuple [.agg ((nums .u8 (S.readP (tlA g)))).toArray, .int .i64 (S.readE (tlA g))].toArray, undef, undef, undef, undef, undef, undef, undef, undef, undef, undef, undef]) rfl ?_
  refine p_run (l' := _) _ (x_move (.tuple [.agg ((nums .u8 (S.readP (tlA g)))).toArray, .int .i64 (S.readE (tlA g))].toArray) rfl rfl) rfl ?_
  refine p_run (l' := _) _ (x_extract (vs := [.agg ((nums .u8 (S.readP (tlA g)))).toArray, .int .i64 (S.readE (tlA g))]) 0 (.agg ((nums .u8 (S.readP (tlA g)))).toArray) rfl rfl rfl) rfl ?_
  refine p_run (l' := _) _ (x_extract (vs := [.agg ((nums .u8 (S.readP (tlA g)))).toArray, .int .i64 (S.readE (tlA g))]) 1 (.int .i64 (S.readE (tlA g))) rfl rfl rfl) rfl ?_
  refine St.wAlloc HS (cs := ((nums .u8 zpg))) (.agg ((nums .u8 zpg)).toArray) (by kernel_rfl) rfl ?_
  clear HS
  intro g13 w14 hg15 HS
  refine fr_to (l' := [.pointer (some ⟨D, 0, none⟩), .int .u64 (uv g), undef, undef, .pointer (some ⟨g5, 0, none⟩), .int .i64 0, .pointer (some ⟨g13, 0, none⟩), undef, .tuple [.agg ((nums .u8 (S.readP (tlA g)))).toArray, .int .i64 (S.readE (tlA g))].toArray, .pointer (some ⟨D, 0, none⟩), .int .u64 (uv g), .int .i64 (tlA g), .tuple [.agg ((nums .u8 (S.readP (tlA g)))).toArray, .int .i64 (S.readE (tlA g))].toArray, .agg ((nums .u8 (S.readP (tlA g)))).toArray, .int .i64 (S.readE (tlA g)), undef, undef, undef, undef, undef, undef, undef, undef, undef]) rfl ?_
  refine St.stores (cs' := ((nums .u8 (S.readP (tlA g))))) HS ((nums .u8 (S.readP (tlA g)))) 256 rfl rfl (nums_one _ _) (by kernel_rfl) (by simp [nums_length, readP_len hg.ok]) (by simp [nums_length, readP_len hg.ok, zlen]) (lay_all _ _ (by simp [nums_length, readP_len hg.ok, zlen])) ?_
  clear HS
  intro w16 HS
  refine p_run (l' := _) _ (x_assign (.int .i64 (S.readE (tlA g))) rfl rfl) rfl ?_
  refine wpList_nil ?_
  refine fr_at (l' := [.pointer (some ⟨D, 0, none⟩), .int .u64 (uv g), undef, undef, .pointer (some ⟨g5, 0, none⟩), .int .i64 0, .pointer (some ⟨g13, 0, none⟩), .int .i64 (S.readE (tlA g)), .tuple [.agg ((nums .u8 (S.readP (tlA g)))).toArray, .int .i64 (S.readE (tlA g))].toArray, .pointer (some ⟨D, 0, none⟩), .int .u64 (uv g), .int .i64 (tlA g), .tuple [.agg ((nums .u8 (S.readP (tlA g)))).toArray, .int .i64 (S.readE (tlA g))].toArray, .agg ((nums .u8 (S.readP (tlA g)))).toArray, .int .i64 (S.readE (tlA g)), undef, undef, undef, undef, undef, undef, undef, undef, undef]) rfl ?_
  refine hK9 _ _ ?_
  refine wp_seq_k (fun K17 hK18 => ?_)
  refine wp_seq_k (fun K19 hK20 => ?_)
  refine c_region (fun ops22 hops21 => ?_)
  clear hops21
  refine p_run (l' := _) _ (x_move (.int .i64 (S.readE (tlA g))) rfl rfl) rfl ?_
  refine p_run (l' := _) _ (x_cmp (k := .i64) (m := (S.readE (tlA g))) (n := 0) .neq false rfl rfl rfl (neq_yes h1) rfl) rfl ?_
  refine wpList_nil ?_
  refine fr_at (l' := [.pointer (some ⟨D, 0, none⟩), .int .u64 (uv g), undef, undef, .pointer (some ⟨g5, 0, none⟩), .int .i64 0, .pointer (some ⟨g13, 0, none⟩), .int .i64 (S.readE (tlA g)), .tuple [.agg ((nums .u8 (S.readP (tlA g)))).toArray, .int .i64 (S.readE (tlA g))].toArray, .pointer (some ⟨D, 0, none⟩), .int .u64 (uv g), .int .i64 (tlA g), .tuple [.agg ((nums .u8 (S.readP (tlA g)))).toArray, .int .i64 (S.readE (tlA g))].toArray, .agg ((nums .u8 (S.readP (tlA g)))).toArray, .int .i64 (S.readE (tlA g)), .int .i64 (S.readE (tlA g)), .bool false, undef, undef, undef, undef, undef, undef, undef]) rfl ?_
  refine hK20 _ _ ?_
  refine c_false rfl ?_
  refine wp_skip ?_
  refine hK18 _ _ ?_
  refine wp_seq_k (fun K23 hK24 => ?_)
  rw [h2] at HS
  · skip
    refine c_region (fun ops26 hops25 => ?_)
    clear hops25
    refine p_run (l' := _) _ (x_loads ((nums .u8 (q.map bv))) 256 rfl rfl (bkCells (HS.get (.head _)) 0 _ (whole _)) (by rfl) (by kernel_rfl) (by simp [List.length_map, hq, nums_length])) rfl ?_
    refine p_run (l' := _) _ (x_move (.int .u64 (uv g)) rfl rfl) rfl ?_
    refine w_call [.agg ((nums .u8 (q.map bv))).toArray, .int .u64 (uv g)] Try.func14 (by kernel_rfl) (by rfl) rfl ?_
    refine (topen_any HS g q hq).mono ?_
    clear HS
    rintro e w27 ⟨rfl, HS⟩
    refine ⟨_, rfl, ?_⟩
    refine p_run (l' := [.pointer (some ⟨D, 0, none⟩), .int .u64 (uv g), undef, undef, .pointer (some ⟨g5, 0, none⟩), .int .i64 0, .pointer (some ⟨g13, 0, none⟩), .int .i64 (S.readE (tlA g)), .tuple [.agg ((nums .u8 (S.readP (tlA g)))).toArray, .int .i64 (S.readE (tlA g))].toArray, .pointer (some ⟨D, 0, none⟩), .int .u64 (uv g), .int .i64 (tlA g), .tuple [.agg ((nums .u8 (S.readP (tlA g)))).toArray, .int .i64 (S.readE (tlA g))].toArray, .agg ((nums .u8 (S.readP (tlA g)))).toArray, .int .i64 (S.readE (tlA g)), .int .i64 (S.readE (tlA g)), .bool false, undef, undef, .agg ((nums .u8 (q.map bv))).toArray, .int .u64 (uv g), .tuple [.agg ((nums .u8 ((tlC g q).map bv))).toArray, .int .i64 (tlE g q)].toArray, .agg ((nums .u8 ((tlC g q).map bv))).toArray, undef]) _ (x_extract (vs := [.agg ((nums .u8 ((tlC g q).map bv))).toArray, .int .i64 (tlE g q)]) 0 (.agg ((nums .u8 ((tlC g q).map bv))).toArray) rfl rfl rfl) rfl ?_
    refine p_run (l' := _) _ (x_extract (vs := [.agg ((nums .u8 ((tlC g q).map bv))).toArray, .int .i64 (tlE g q)]) 1 (.int .i64 (tlE g q)) rfl rfl rfl) rfl ?_
    refine St.stores (cs' := ((nums .u8 ((tlC g q).map bv)))) (HS.front 5 rfl) ((nums .u8 ((tlC g q).map bv))) 240 rfl rfl (nums_one _ _) (by kernel_rfl) (by simp [(tlC_len g hq), List.length_map, nums_length]) (by simp [(tlC_len g hq), List.length_map, nums_length, zB_len]) (lay_all _ _ (by simp [(tlC_len g hq), List.length_map, nums_length, zB_len])) ?_
    clear HS
    intro w28 HS
    refine p_run (l' := _) _ (x_assign (.int .i64 (tlE g q)) rfl rfl) rfl ?_
    refine wpList_nil ?_
    refine fr_at (l' := [.pointer (some ⟨D, 0, none⟩), .int .u64 (uv g), undef, undef, .pointer (some ⟨g5, 0, none⟩), .int .i64 (tlE g q), .pointer (some ⟨g13, 0, none⟩), .int .i64 (S.readE (tlA g)), .tuple [.agg ((nums .u8 (S.readP (tlA g)))).toArray, .int .i64 (S.readE (tlA g))].toArray, .pointer (some ⟨D, 0, none⟩), .int .u64 (uv g), .int .i64 (tlA g), .tuple [.agg ((nums .u8 (S.readP (tlA g)))).toArray, .int .i64 (S.readE (tlA g))].toArray, .agg ((nums .u8 (S.readP (tlA g)))).toArray, .int .i64 (S.readE (tlA g)), .int .i64 (S.readE (tlA g)), .bool false, undef, undef, .agg ((nums .u8 (q.map bv))).toArray, .int .u64 (uv g), .tuple [.agg ((nums .u8 ((tlC g q).map bv))).toArray, .int .i64 (tlE g q)].toArray, .agg ((nums .u8 ((tlC g q).map bv))).toArray, .int .i64 (tlE g q)]) rfl ?_
    refine hK24 _ _ ?_
    refine wp_ret ?_
    try simp only [Exit.inBlock, Exit.then]
    refine c_ret (.tuple [.agg ((nums .u8 ((tlC g q).map bv))).toArray, .int .i64 (tlE g q)].toArray) (r_ct rfl rfl (run_loadVar_aggn (by rfl) ((nums .u8 ((tlC g q).map bv))) 240 (by kernel_rfl) (by simp [(tlC_len g hq), List.length_map, nums_length]) (bkCells (HS.get (.head _)) 0 _ (whole _))) rfl) ?_
    exact ⟨rfl, ((((HS.drop.drop.front 3 rfl).front 3 rfl).front 3 rfl).front 3 rfl)⟩

set_option maxRecDepth 10000 in
set_option maxHeartbeats 1000000 in
theorem tread_bad (HS : St w0 F W (dsk D gs gm v S L)) (hg : Dk.good S n) (hn : n < 1000) (g : UInt64) (z : Int) (h1 : S.readE (tlA g) = z) (hz : ¬ z = 0) : Calls Try.prog 20 #[.pointer (some ⟨D, 0, none⟩), .int .u64 (uv g)] W fun e w' => e = .returned (.tuple #[.agg (nums .u8 (zB.map bv)).toArray, .int .i64 z]) ∧ St w0 F w' (dsk D gs gm v S L) := by
  refine c_enter Try.func20 rfl 24 rfl [.pointer (some ⟨D, 0, none⟩), .int .u64 (uv g), undef, undef, undef, undef, undef, undef, undef, undef, undef, undef, undef, undef, undef, undef, undef, undef, undef, undef, undef, undef, undef, undef] rfl ?_
  refine wp_seq_k (fun K1 hK2 => ?_)
  refine c_region (fun ops4 hops3 => ?_)
  clear hops3
  refine St.wAlloc HS (cs := ((nums .u8 (zB.map bv)))) (.agg ((nums .u8 (zB.map bv))).toArray) (by kernel_rfl) rfl ?_
  clear HS
  intro g5 w6 hg7 HS
  refine p_run (l' := _) _ (x_assign (.int .i64 0) rfl rfl) rfl ?_
  refine wpList_nil ?_
  refine fr_at (l' := [.pointer (some ⟨D, 0, none⟩), .int .u64 (uv g), undef, undef, .pointer (some ⟨g5, 0, none⟩), .int .i64 0, undef, undef, undef, undef, undef, undef, undef, undef, undef, undef, undef, undef, undef, undef, undef, undef, undef, undef]) rfl ?_
  refine hK2 _ _ ?_
  refine wp_seq_k (fun K8 hK9 => ?_)
  refine c_region (fun ops11 hops10 => ?_)
  clear hops10
  refine p_run (l' := _) _ (x_move (.pointer (some ⟨D, 0, none⟩)) rfl rfl) rfl ?_
  refine p_run (l' := _) _ (x_move (.int .u64 (uv g)) rfl rfl) rfl ?_
  refine w_call [.int .u64 (uv g)] Try.func18 (by kernel_rfl) (by rfl) rfl ?_
  refine (tarea_any g _).mono ?_
  rintro e w' ⟨rfl, rfl⟩
  refine ⟨_, rfl, ?_⟩
  refine w_call [.pointer (some ⟨D, 0, none⟩), .int .i64 (tlA g)] Try.func35 (by kernel_rfl) (by rfl) rfl ?_
  replace HS := ((((HS.front 4 rfl).front 4 rfl).front 4 rfl).front 4 rfl)
  refine (read_any HS hg.ok (by have := hg.pn; omega) (tlA g)).mono ?_
  clear HS
  rintro e w12 ⟨rfl, HS⟩
  refine ⟨_, rfl, ?_⟩
  refine fr_to (l' := [.pointer (some ⟨D, 0, none⟩), .int .u64 (uv g), undef, undef, .pointer (some ⟨g5, 0, none⟩), .int .i64 0, undef, undef, undef, .pointer (some ⟨D, 0, none⟩), .int .u64 (uv g), .int .i64 (tlA g), .tuple [.agg ((nums .u8 (S.readP (tlA g)))).toArray, .int .i64 (S.readE (tlA g))].toArray, undef, undef, undef, undef, undef, undef, undef, undef, undef, undef, undef]) rfl ?_
  refine p_run (l' := _) _ (x_move (.tuple [.agg ((nums .u8 (S.readP (tlA g)))).toArray, .int .i64 (S.readE (tlA g))].toArray) rfl rfl) rfl ?_
  refine p_run (l' := _) _ (x_extract (vs := [.agg ((nums .u8 (S.readP (tlA g)))).toArray, .int .i64 (S.readE (tlA g))]) 0 (.agg ((nums .u8 (S.readP (tlA g)))).toArray) rfl rfl rfl) rfl ?_
  refine p_run (l' := _) _ (x_extract (vs := [.agg ((nums .u8 (S.readP (tlA g)))).toArray, .int .i64 (S.readE (tlA g))]) 1 (.int .i64 (S.readE (tlA g))) rfl rfl rfl) rfl ?_
  refine St.wAlloc HS (cs := ((nums .u8 zpg))) (.agg ((nums .u8 zpg)).toArray) (by kernel_rfl) rfl ?_
  clear HS
  intro g13 w14 hg15 HS
  refine fr_to (l' := [.pointer (some ⟨D, 0, none⟩), .int .u64 (uv g), undef, undef, .pointer (some ⟨g5, 0, none⟩), .int .i64 0, .pointer (some ⟨g13, 0, none⟩), undef, .tuple [.agg ((nums .u8 (S.readP (tlA g)))).toArray, .int .i64 (S.readE (tlA g))].toArray, .pointer (some ⟨D, 0, none⟩), .int .u64 (uv g), .int .i64 (tlA g), .tuple [.agg ((nums .u8 (S.readP (tlA g)))).toArray, .int .i64 (S.readE (tlA g))].toArray, .agg ((nums .u8 (S.readP (tlA g)))).toArray, .int .i64 (S.readE (tlA g)), undef, undef, undef, undef, undef, undef, undef, undef, undef]) rfl ?_
  refine St.stores (cs' := ((nums .u8 (S.readP (tlA g))))) HS ((nums .u8 (S.readP (tlA g)))) 256 rfl rfl (nums_one _ _) (by kernel_rfl) (by simp [nums_length, readP_len hg.ok]) (by simp [nums_length, readP_len hg.ok, zlen]) (lay_all _ _ (by simp [nums_length, readP_len hg.ok, zlen])) ?_
  clear HS
  intro w16 HS
  refine p_run (l' := _) _ (x_assign (.int .i64 (S.readE (tlA g))) rfl rfl) rfl ?_
  refine wpList_nil ?_
  refine fr_at (l' := [.pointer (some ⟨D, 0, none⟩), .int .u64 (uv g), undef, undef, .pointer (some ⟨g5, 0, none⟩), .int .i64 0, .pointer (some ⟨g13, 0, none⟩), .int .i64 (S.readE (tlA g)), .tuple [.agg ((nums .u8 (S.readP (tlA g)))).toArray, .int .i64 (S.readE (tlA g))].toArray, .pointer (some ⟨D, 0, none⟩), .int .u64 (uv g), .int .i64 (tlA g), .tuple [.agg ((nums .u8 (S.readP (tlA g)))).toArray, .int .i64 (S.readE (tlA g))].toArray, .agg ((nums .u8 (S.readP (tlA g)))).toArray, .int .i64 (S.readE (tlA g)), undef, undef, undef, undef, undef, undef, undef, undef, undef]) rfl ?_
  refine hK9 _ _ ?_
  refine wp_seq_k (fun K17 hK18 => ?_)
  refine wp_seq_k (fun K19 hK20 => ?_)
  refine c_region (fun ops22 hops21 => ?_)
  clear hops21
  refine p_run (l' := _) _ (x_move (.int .i64 (S.readE (tlA g))) rfl rfl) rfl ?_
  refine p_run (l' := _) _ (x_cmp (k := .i64) (m := (S.readE (tlA g))) (n := 0) .neq true rfl rfl rfl (by rw [h1]; exact neq_no hz) rfl) rfl ?_
  refine wpList_nil ?_
  refine fr_at (l' := [.pointer (some ⟨D, 0, none⟩), .int .u64 (uv g), undef, undef, .pointer (some ⟨g5, 0, none⟩), .int .i64 0, .pointer (some ⟨g13, 0, none⟩), .int .i64 (S.readE (tlA g)), .tuple [.agg ((nums .u8 (S.readP (tlA g)))).toArray, .int .i64 (S.readE (tlA g))].toArray, .pointer (some ⟨D, 0, none⟩), .int .u64 (uv g), .int .i64 (tlA g), .tuple [.agg ((nums .u8 (S.readP (tlA g)))).toArray, .int .i64 (S.readE (tlA g))].toArray, .agg ((nums .u8 (S.readP (tlA g)))).toArray, .int .i64 (S.readE (tlA g)), .int .i64 (S.readE (tlA g)), .bool true, undef, undef, undef, undef, undef, undef, undef]) rfl ?_
  refine hK20 _ _ ?_
  refine c_true rfl ?_
  refine wp_seq_k (fun K23 hK24 => ?_)
  refine c_region (fun ops26 hops25 => ?_)
  clear hops25
  refine p_run (l' := _) _ (x_build ((nums .u8 (zB.map bv))) rfl (by kernel_rfl)) rfl ?_
  refine p_run (l' := _) _ (x_move (.int .i64 (S.readE (tlA g))) rfl rfl) rfl ?_
  refine St.stores (cs' := ((nums .u8 (zB.map bv)))) (HS.front 5 rfl) ((nums .u8 (zB.map bv))) 240 rfl rfl (nums_one _ _) (by kernel_rfl) (by simp [List.length_map, nums_length, zB_len]) (by simp [List.length_map, nums_length, zB_len]) (lay_all _ _ (by simp [List.length_map, nums_length, zB_len])) ?_
  clear HS
  intro w27 HS
  refine p_run (l' := _) _ (x_assign (.int .i64 (S.readE (tlA g))) rfl rfl) rfl ?_
  refine wpList_nil ?_
  refine fr_at (l' := [.pointer (some ⟨D, 0, none⟩), .int .u64 (uv g), undef, undef, .pointer (some ⟨g5, 0, none⟩), .int .i64 (S.readE (tlA g)), .pointer (some ⟨g13, 0, none⟩), .int .i64 (S.readE (tlA g)), .tuple [.agg ((nums .u8 (S.readP (tlA g)))).toArray, .int .i64 (S.readE (tlA g))].toArray, .pointer (some ⟨D, 0, none⟩), .int .u64 (uv g), .int .i64 (tlA g), .tuple [.agg ((nums .u8 (S.readP (tlA g)))).toArray, .int .i64 (S.readE (tlA g))].toArray, .agg ((nums .u8 (S.readP (tlA g)))).toArray, .int .i64 (S.readE (tlA g)), .int .i64 (S.readE (tlA g)), .bool true, .agg ((nums .u8 (zB.map bv))).toArray, .int .i64 (S.readE (tlA g)), undef, undef, undef, undef, undef]) rfl ?_
  refine hK24 _ _ ?_
  refine wp_ret ?_
  try simp only [Exit.inBlock, Exit.then]
  refine c_ret (.tuple [.agg ((nums .u8 (zB.map bv))).toArray, .int .i64 (S.readE (tlA g))].toArray) (r_ct rfl rfl (run_loadVar_aggn (by rfl) ((nums .u8 (zB.map bv))) 240 (by kernel_rfl) (by simp [List.length_map, nums_length, zB_len]) (bkCells (HS.get (.head _)) 0 _ (whole _))) rfl) ?_
  rw [h1, ← zct_eq]
  exact ⟨rfl, ((((HS.drop.drop.front 3 rfl).front 3 rfl).front 3 rfl).front 3 rfl)⟩

set_option maxRecDepth 10000 in
set_option maxHeartbeats 1000000 in
theorem twrite_any (HS : St w0 F W (dsk D gs gm v S L)) (hg : Dk.good S n) (hn : n < 1000) (g : UInt64) (c : List UInt8) (hc : c.length = 240) : Calls Try.prog 22 #[.pointer (some ⟨D, 0, none⟩), .int .u64 (uv g), .agg ((nums .u8 (c.map bv))).toArray] W fun e w' => ∃ v', e = .returned (.int .i64 (S.writeE (tlA g))) ∧ St w0 F w' (dsk D gs gm v' (S.write (tlA g) ((tlB g c).map bv)) L) := by
  refine c_enter Try.func22 rfl 14 rfl [.pointer (some ⟨D, 0, none⟩), .int .u64 (uv g), .agg ((nums .u8 (c.map bv))).toArray, undef, undef, undef, undef, undef, undef, undef, undef, undef, undef, undef] rfl ?_
  refine wp_seq_k (fun K1 hK2 => ?_)
  refine c_region (fun ops4 hops3 => ?_)
  clear hops3
  refine St.wBox HS (cs := ((nums .u8 (c.map bv)))) (.agg ((nums .u8 (c.map bv))).toArray) rfl rfl ?_
  clear HS
  intro g5 w6 hg7 HS
  refine p_run (l' := _) _ (x_assign (.int .i64 0) rfl rfl) rfl ?_
  refine wpList_nil ?_
  refine fr_at (l' := [.pointer (some ⟨D, 0, none⟩), .int .u64 (uv g), .agg ((nums .u8 (c.map bv))).toArray, undef, undef, .pointer (some ⟨g5, 0, none⟩), .int .i64 0, undef, undef, undef, undef, undef, undef, undef]) rfl ?_
  refine hK2 _ _ ?_
  refine wp_seq_k (fun K8 hK9 => ?_)
  refine free_frame (n := 8) (T := _) [0, 0, 2, 0, 0, 30, 63, 127] [(0, 7), (1, 8), (2, 9), (3, 10), (4, 11), (5, 12), (6, 13), (7, 6)] (fun bq_ vq_ w_ => qv ((fun i_ => match i_ with | 0 => some (.pointer (some ⟨D, 0, none⟩)) | 1 => some (.int .u64 (uv g)) | 2 => some (.int .i64 (tlA g)) | 3 => some (.int .u64 (uv g)) | 4 => some (.agg ((nums .u8 (c.map bv))).toArray) | 7 => some (.int .i64 (S.writeE (tlA g))) | _ => none) : Nat → Option Value) bq_ vq_ ∧ cond (bq_ 6) (∃ (v13 : Value), vq_ 5 = .agg ((nums .u8 ((tlB g c).map bv))).toArray ∧ vq_ 6 = .int .i64 (S.writeE (tlA g)) ∧ St w0 F w_ (blk D (dskC gs gm v13 (S.write (tlA g) ((tlB g c).map bv))) 76 :: blk gs (pgs (S.write (tlA g) ((tlB g c).map bv)).stable) 27 :: mapR gm (S.write (tlA g) ((tlB g c).map bv)).cnt (S.write (tlA g) ((tlB g c).map bv)).bad :: row kWr rfl 102 v13 (S.write (tlA g) ((tlB g c).map bv)).pending :: blk g5 ((nums .u8 (c.map bv))) 29 :: L)) (cond (bq_ 5) (vq_ 5 = .agg ((nums .u8 ((tlB g c).map bv))).toArray ∧ St w0 F w_ (blk g5 ((nums .u8 (c.map bv))) 29 :: blk D (dskC gs gm v S) 76 :: blk gs (pgs S.stable) 27 :: mapR gm S.cnt S.bad :: row kWr rfl 102 v S.pending :: L)) ((St w0 F w_ (blk g5 ((nums .u8 (c.map bv))) 29 :: blk D (dskC gs gm v S) 76 :: blk gs (pgs S.stable) 27 :: mapR gm S.cnt S.bad :: row kWr rfl 102 v S.pending :: L))))) (by kernel_rfl) rfl rfl (by kernel_rfl) (by kernel_rfl) rfl (by kernel_rfl) (by kernel_rfl) ⟨qv_none, HS.draw⟩ ?_ ?_
  · clear HS
    intro i_ hi_ bq_ vq_ a_ w_ hG hb_ hon hoff hfr hel hval
    obtain ⟨hV, hE⟩ := hG
    have hi_ := List.mem_range.1 hi_
    have hcs : i_ = 0 ∨ i_ = 1 ∨ i_ = 2 ∨ i_ = 3 ∨ i_ = 4 ∨ i_ = 5 ∨ i_ = 6 ∨ i_ = 7 := by omega
    rcases hcs with rfl | rfl | rfl | rfl | rfl | rfl | rfl | rfl
    · have h0 : a_.tmps[0]? = some (.pointer (some ⟨D, 0, none⟩)) := (hel 0 (by decide)).trans rfl
      obtain ⟨l_, rfl⟩ := hfr
      have e0 : evl l_ (.tmp 0) = .pointer (some ⟨D, 0, none⟩) := evl_of h0
      refine ⟨_, rfl, fun K_ hK_ => wp_of_list rfl ?_⟩
      intro ops_
      refine p_run (l' := _) _ (x_move (.pointer (some ⟨D, 0, none⟩)) rfl e0) rfl ?_
      refine wpList_nil ?_
      exact norm_put (hK_ (.pointer (some ⟨D, 0, none⟩)) _ ⟨qv_up hV (fun _ h => Option.some.inj h), hE⟩)
    · have h1 : a_.tmps[1]? = some (.int .u64 (uv g)) := (hel 1 (by decide)).trans rfl
      obtain ⟨l_, rfl⟩ := hfr
      have e1 : evl l_ (.tmp 1) = .int .u64 (uv g) := evl_of h1
      refine ⟨_, rfl, fun K_ hK_ => wp_of_list rfl ?_⟩
      intro ops_
      refine p_run (l' := _) _ (x_move (.int .u64 (uv g)) rfl e1) rfl ?_
      refine wpList_nil ?_
      exact norm_put (hK_ (.int .u64 (uv g)) _ ⟨qv_up hV (fun _ h => Option.some.inj h), hE⟩)
    · have h8 : a_.tmps[8]? = some (.int .u64 (uv g)) := (hval (1, 8) (by decide) (hon 1 (by decide))).trans (congrArg some (hV 1 _ rfl (hon 1 (by decide))))
      obtain ⟨l_, rfl⟩ := hfr
      have hE0 := hE
      rw [show bq_ 6 = false from (hoff 6 (by decide))] at hE0
      rw [show bq_ 5 = false from (hoff 5 (by decide))] at hE0
      simp only [cond_true, cond_false] at hE0
      have HS := hE0
      have e8 : evl l_ (.tmp 8) = .int .u64 (uv g) := evl_of h8
      refine ⟨_, rfl, fun K_ hK_ => wp_of_list rfl ?_⟩
      intro ops_
      refine w_call [.int .u64 (uv g)] Try.func18 (by kernel_rfl) (by rfl) (by simp [e8]) ?_
      refine (tarea_any g _).mono ?_
      rintro e w' ⟨rfl, rfl⟩
      refine ⟨_, rfl, ?_⟩
      refine wpList_nil ?_
      exact norm_put (hK_ (.int .i64 (tlA g)) _ ⟨qv_up hV (fun _ h => Option.some.inj h), hE⟩)
    · have h1 : a_.tmps[1]? = some (.int .u64 (uv g)) := (hel 1 (by decide)).trans rfl
      obtain ⟨l_, rfl⟩ := hfr
      have e1 : evl l_ (.tmp 1) = .int .u64 (uv g) := evl_of h1
      refine ⟨_, rfl, fun K_ hK_ => wp_of_list rfl ?_⟩
      intro ops_
      refine p_run (l' := _) _ (x_move (.int .u64 (uv g)) rfl e1) rfl ?_
      refine wpList_nil ?_
      exact norm_put (hK_ (.int .u64 (uv g)) _ ⟨qv_up hV (fun _ h => Option.some.inj h), hE⟩)
    · have h5 : a_.tmps[5]? = some (.pointer (some ⟨g5, 0, none⟩)) := (hel 5 (by decide)).trans rfl
      obtain ⟨l_, rfl⟩ := hfr
      have hE0 := hE
      rw [show bq_ 6 = false from (hoff 6 (by decide))] at hE0
      rw [show bq_ 5 = false from (hoff 5 (by decide))] at hE0
      simp only [cond_true, cond_false] at hE0
      have HS := hE0
      have e5 : evl l_ (.tmp 5) = .pointer (some ⟨g5, 0, none⟩) := evl_of h5
      refine ⟨_, rfl, fun K_ hK_ => wp_of_list rfl ?_⟩
      intro ops_
      refine p_run (l' := _) _ (x_loads ((nums .u8 (c.map bv))) 240 rfl e5 (bkCells (HS.get (.head _)) 0 _ (whole _)) (by rfl) (by kernel_rfl) (by simp [List.length_map, hc, nums_length])) rfl ?_
      refine wpList_nil ?_
      exact norm_put (hK_ (.agg ((nums .u8 (c.map bv))).toArray) _ ⟨qv_up hV (fun _ h => Option.some.inj h), hE⟩)
    · have h10 : a_.tmps[10]? = some (.int .u64 (uv g)) := (hval (3, 10) (by decide) (hon 3 (by decide))).trans (congrArg some (hV 3 _ rfl (hon 3 (by decide))))
      have h11 : a_.tmps[11]? = some (.agg ((nums .u8 (c.map bv))).toArray) := (hval (4, 11) (by decide) (hon 4 (by decide))).trans (congrArg some (hV 4 _ rfl (hon 4 (by decide))))
      obtain ⟨l_, rfl⟩ := hfr
      have hE0 := hE
      rw [show bq_ 6 = false from (hoff 6 (by decide))] at hE0
      rw [show bq_ 5 = false from hb_] at hE0
      simp only [cond_true, cond_false] at hE0
      have HS := hE0
      have e10 : evl l_ (.tmp 10) = .int .u64 (uv g) := evl_of h10
      have e11 : evl l_ (.tmp 11) = .agg ((nums .u8 (c.map bv))).toArray := evl_of h11
      refine ⟨_, rfl, fun K_ hK_ => wp_of_list rfl ?_⟩
      intro ops_
      refine w_call [.int .u64 (uv g), .agg ((nums .u8 (c.map bv))).toArray] Try.func13 (by kernel_rfl) (by rfl) (by simp [e10, e11]) ?_
      refine (tpage_any HS g c hc).mono ?_
      clear HS
      rintro e w9501 ⟨rfl, HS⟩
      refine ⟨_, rfl, ?_⟩
      refine wpList_nil ?_
      refine norm_put (hK_ (.agg ((nums .u8 ((tlB g c).map bv))).toArray) _ ⟨qv_up hV (by intro _ h; cases h), ?_⟩)
      show cond (bq_ 6) _ _
      rw [show bq_ 6 = false from hoff 6 (by decide), cond_false]
      show cond true _ _
      rw [cond_true]
      exact ⟨rfl, (((((HS.front 4 rfl).front 4 rfl).front 4 rfl).front 4 rfl).front 4 rfl)⟩
    · have h7 : a_.tmps[7]? = some (.pointer (some ⟨D, 0, none⟩)) := (hval (0, 7) (by decide) (hon 0 (by decide))).trans (congrArg some (hV 0 _ rfl (hon 0 (by decide))))
      have h9 : a_.tmps[9]? = some (.int .i64 (tlA g)) := (hval (2, 9) (by decide) (hon 2 (by decide))).trans (congrArg some (hV 2 _ rfl (hon 2 (by decide))))
      have h12 := hval (5, 12) (by decide) (hon 5 (by decide))
      obtain ⟨l_, rfl⟩ := hfr
      have hE0 := hE
      rw [show bq_ 6 = false from hb_] at hE0
      rw [show bq_ 5 = true from (hon 5 (by decide))] at hE0
      simp only [cond_true, cond_false] at hE0
      obtain ⟨hv5, HS⟩ := hE0
      rw [hv5] at h12
      have e7 : evl l_ (.tmp 7) = .pointer (some ⟨D, 0, none⟩) := evl_of h7
      have e9 : evl l_ (.tmp 9) = .int .i64 (tlA g) := evl_of h9
      have e12 : evl l_ (.tmp 12) = .agg ((nums .u8 ((tlB g c).map bv))).toArray := evl_of h12
      refine ⟨_, rfl, fun K_ hK_ => wp_of_list rfl ?_⟩
      intro ops_
      refine w_call [.pointer (some ⟨D, 0, none⟩), .int .i64 (tlA g), .agg ((nums .u8 ((tlB g c).map bv))).toArray] Try.func36 (by kernel_rfl) (by rfl) (by simp [e7, e9, e12]) ?_
      replace HS := ((((HS.front 4 rfl).front 4 rfl).front 4 rfl).front 4 rfl)
      refine (write_any HS hg.lft (by have := hg.pn; omega) (tlA g) ((tlB g c).map bv) (tlP_len g hc)).mono ?_
      clear HS
      rintro e w9602 ⟨v9601, rfl, HS⟩
      refine ⟨_, rfl, ?_⟩
      refine wpList_nil ?_
      refine norm_put (hK_ (.int .i64 (S.writeE (tlA g))) _ ⟨qv_up hV (by intro _ h; cases h), ?_⟩)
      show cond true _ _
      rw [cond_true]
      exact ⟨v9601, hv5, rfl, (((((HS.front 4 rfl).front 4 rfl).front 4 rfl).front 4 rfl).front 4 rfl)⟩
    · have h13 := hval (6, 13) (by decide) (hon 6 (by decide))
      obtain ⟨l_, rfl⟩ := hfr
      have hE0 := hE
      rw [show bq_ 6 = true from (hon 6 (by decide))] at hE0
      simp only [cond_true, cond_false] at hE0
      obtain ⟨v13, hv5, hv6, HS⟩ := hE0
      rw [hv6] at h13
      have e13 : evl l_ (.tmp 13) = .int .i64 (S.writeE (tlA g)) := evl_of h13
      refine ⟨_, rfl, fun K_ hK_ => wp_of_list rfl ?_⟩
      intro ops_
      refine p_run (l' := _) _ (x_assign (.int .i64 (S.writeE (tlA g))) rfl e13) rfl ?_
      refine wpList_nil ?_
      exact norm_put (hK_ (.int .i64 (S.writeE (tlA g))) _ ⟨qv_up hV (fun _ h => Option.some.inj h), hE⟩)
  intro bq_ vq_ w_ hall hG
  obtain ⟨hV, hE⟩ := hG
  clear HS
  rw [show bq_ 6 = true from hall 6 (by decide)] at hE
  simp only [cond_true] at hE
  obtain ⟨v13, hv5, hv6, HS⟩ := hE
  have hv0 := hV 0 _ rfl (hall 0 (by decide))
  have hv1 := hV 1 _ rfl (hall 1 (by decide))
  have hv2 := hV 2 _ rfl (hall 2 (by decide))
  have hv3 := hV 3 _ rfl (hall 3 (by decide))
  have hv4 := hV 4 _ rfl (hall 4 (by decide))
  have hv7 := hV 7 _ rfl (hall 7 (by decide))
  clear hV hall
  rw [putSel_fr]
  simp only [tells, List.map_cons, List.map_nil, setAll, List.set_cons_succ, List.set_cons_zero, hv0, hv1, hv2, hv3, hv4, hv5, hv6, hv7]
  clear hv0 hv1 hv2 hv3 hv4 hv5 hv6 hv7
  generalize w_ = w9701 at HS ⊢
  refine fr_at (l' := [.pointer (some ⟨D, 0, none⟩), .int .u64 (uv g), .agg ((nums .u8 (c.map bv))).toArray, undef, undef, .pointer (some ⟨g5, 0, none⟩), .int .i64 (S.writeE (tlA g)), .pointer (some ⟨D, 0, none⟩), .int .u64 (uv g), .int .i64 (tlA g), .int .u64 (uv g), .agg ((nums .u8 (c.map bv))).toArray, .agg ((nums .u8 ((tlB g c).map bv))).toArray, .int .i64 (S.writeE (tlA g))]) rfl ?_
  refine hK9 _ _ ?_
  refine wp_ret ?_
  try simp only [Exit.inBlock, Exit.then]
  refine c_ret (.int .i64 (S.writeE (tlA g))) (r_tmp rfl rfl) ?_
  exact ⟨_, rfl, (((((HS.front 4 rfl).drop.front 3 rfl).front 3 rfl).front 3 rfl).front 3 rfl)⟩
end
end Go.Proofs.Ytiokdpnhaemciaa
