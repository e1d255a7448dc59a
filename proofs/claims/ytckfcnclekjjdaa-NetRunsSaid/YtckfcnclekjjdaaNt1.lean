/- Package net: its memory as parts; New, Len, there, push, slices.Delete, take. -/
import Derived.Test.YtckfcnclekjjdaaNtM
import Derived.Test.YtckfcnclekjjdaaWkO
import Derived.Test.YtckfcnclekjjdaaTurnB
set_option linter.unusedVariables false
set_option linter.unusedSimpArgs false
namespace Go.Proofs.Ytckfcnclekjjdaa
open Go.RowKit Go.Proofs.YtckfcnclekjjdaaW.PrintWords Go.Proofs.YtckfcnclekjjdaaW.PrintLast Crc
abbrev Fr_ := Int × Value × List UInt8
section
variable {w0 W : World} {F : Nat → Prop} {L : List Res} {G : Nat} {v : Value} {fs : List Fr_}
theorem wr64 {x : Int} (h : -9223372036854775808 ≤ x ∧ x < 9223372036854775808) : IntKind.i64.wrap x = x := by rw [IntKind.wrap_i64]; omega
def pk (fs : List Fr_) : List (Int × Value) := fs.map (fun f => (f.1, f.2.1))
def fro (f : Fr_) : Res := row kByte rfl 5 f.2.1 f.2.2
def frs (fs : List Fr_) : List Res := fs.map fro
def toN (fs : List Fr_) : List (Int × List UInt8) := fs.map (fun f => (f.1, f.2.2))
abbrev net (G : Nat) (v : Value) (fs : List Fr_) (L : List Res) : List Res := blk G [v] 72 :: row kPk rfl 75 v (pk fs) :: allR (frs fs) :: L
theorem pk_length (fs : List Fr_) : (pk fs).length = fs.length := List.length_map _
section
variable {fs : List Fr_} {f : Fr_} {i : Nat} {w0 W : World} {F : Nat → Prop} {L : List Res} {G : Nat} {v v' fv : Value} {tt : Int} {xs : List UInt8}
theorem pk_get (h : fs[i]? = some f) : (pk fs)[i]? = some (f.1, f.2.1) := by unfold pk; rw [List.getElem?_map, h]; rfl
theorem frs_get (h : fs[i]? = some f) : (frs fs)[i]? = some (fro f) := by unfold frs; rw [List.getElem?_map, h]; rfl
theorem pk_ne (h : fs[i]? = some f) : pk fs ≠ [] := fun e => by have := pk_get h; rw [e] at this; simp at this
theorem pk_set (x : Fr_) : (pk fs).set i (x.1, x.2.1) = pk (fs.set i x) := by unfold pk; rw [List.map_set]
theorem erase_map {α β : Type _} (f : α → β) (l : List α) (i : Nat) : (l.map f).eraseIdx i = (l.eraseIdx i).map f := by rw [List.eraseIdx_eq_take_drop_succ, List.eraseIdx_eq_take_drop_succ, List.map_append, List.map_take, List.map_drop]
theorem pk_erase : (pk fs).eraseIdx i = pk (fs.eraseIdx i) := erase_map _ _ _
theorem frs_erase : (frs fs).eraseIdx i = frs (fs.eraseIdx i) := erase_map _ _ _
theorem St.netPush (h : St w0 F W (row kByte rfl 5 fv xs :: blk G [v'] 72 :: row kPk rfl 75 v' (pk fs ++ [(tt, fv)]) :: allR (frs fs) :: L)) : St w0 F W (net G v' (fs ++ [(tt, fv, xs)]) L) := by
  have h1 : St w0 F W (row kByte rfl 5 fv xs :: allR (frs fs) :: blk G [v'] 72 :: row kPk rfl 75 v' (pk fs ++ [(tt, fv)]) :: L) := (h.front 3 rfl).front 1 rfl
  have h2 := ((h1.pushNew).front 2 rfl).front 2 rfl
  have e1 : pk (fs ++ [(tt, fv, xs)]) = pk fs ++ [(tt, fv)] := by unfold pk; rw [List.map_append]; rfl
  have e2 : frs (fs ++ [(tt, fv, xs)]) = frs fs ++ [row kByte rfl 5 fv xs] := by unfold frs; rw [List.map_append]; rfl
  show St w0 F W (blk G [v'] _ :: row kPk rfl _ v' (pk (fs ++ [(tt, fv, xs)])) :: allR (frs (fs ++ [(tt, fv, xs)])) :: L)
  rw [e1, e2]
  exact h2
end

set_option maxRecDepth 10000 in
theorem nNew_any (HS : St w0 F W L) : Calls Try.prog 22 #[] W fun e w' => ∃ G, e = .returned (.pointer (some ⟨G, 0, none⟩)) ∧ St w0 F w' (net G (.slice none 0 0) [] L) := by
  refine c_enter Try.func22 rfl 3 rfl [undef, undef, undef] rfl ?_
  refine wp_seq_k (fun K1 hK2 => ?_)
  refine c_region (fun ops4 hops3 => ?_)
  clear hops3
  refine p_run (l' := _) _ (x_assign (.pointer none) rfl rfl) rfl ?_
  refine wpList_nil ?_
  refine fr_at (l' := [.pointer none, undef, undef]) rfl ?_
  refine hK2 _ _ ?_
  refine wp_seq_k (fun K5 hK6 => ?_)
  refine c_region (fun ops8 hops7 => ?_)
  clear hops7
  refine p_run (l' := _) _ (x_build [.slice none 0 0] rfl (by kernel_rfl)) rfl ?_
  refine St.wBox HS (cs := [.slice none 0 0]) (.agg ([.slice none 0 0] : List Value).toArray) rfl rfl ?_
  clear HS
  intro g9 w10 hg11 HS
  refine p_run (l' := _) _ (x_assign (.pointer (some ⟨g9, 0, none⟩)) rfl rfl) rfl ?_
  refine wpList_nil ?_
  refine fr_at (l' := [.pointer (some ⟨g9, 0, none⟩), .agg ([.slice none 0 0] : List Value).toArray, .pointer (some ⟨g9, 0, none⟩)]) rfl ?_
  refine hK6 _ _ ?_
  refine wp_ret ?_
  try simp only [Exit.inBlock, Exit.then]
  refine c_ret (.pointer (some ⟨g9, 0, none⟩)) (r_tmp rfl rfl) ?_
  exact ⟨_, rfl, (((HS.nil kPk rfl 75).pushNil.front 1 rfl).front 2 rfl)⟩

set_option maxRecDepth 10000 in
theorem nLen_any (HS : St w0 F W (net G v fs L)) : Calls Try.prog 25 #[.pointer (some ⟨G, 0, none⟩)] W fun e w' => e = .returned (.int .i64 (fs.length : Int)) ∧ w' = W := by
  obtain ⟨A, c, hv, hcap, hrd⟩ := row_reads (HS.get (.tail _ (.head _)))
  rw [pk_length] at hv hcap
  subst hv
  · skip
    refine c_enter Try.func25 rfl 9 rfl [.pointer (some ⟨G, 0, none⟩), undef, undef, undef, undef, undef, undef, undef, undef] rfl ?_
    refine wp_seq_k (fun K1 hK2 => ?_)
    refine c_region (fun ops4 hops3 => ?_)
    clear hops3
    refine p_run (l' := _) _ (x_assign (.int .i64 0) rfl rfl) rfl ?_
    refine wpList_nil ?_
    refine fr_at (l' := [.pointer (some ⟨G, 0, none⟩), undef, .int .i64 0, undef, undef, undef, undef, undef, undef]) rfl ?_
    refine hK2 _ _ ?_
    refine wp_seq_k (fun K5 hK6 => ?_)
    refine c_region (fun ops8 hops7 => ?_)
    clear hops7
    refine p_run (l' := _) _ (x_move (.pointer (some ⟨G, 0, none⟩)) rfl rfl) rfl ?_
    refine p_run (l' := _) _ (x_nil rfl rfl) rfl ?_
    refine p_run (l' := _) _ (x_field (j := 0) _ _ rfl rfl Try.underlying72 rfl (by rfl) rfl) rfl ?_
    refine p_run (l' := [.pointer (some ⟨G, 0, none⟩), undef, .int .i64 0, .pointer (some ⟨G, 0, none⟩), .pointer (some ⟨G, 0, none⟩), .pointer (some ⟨G, 0, none⟩), .pointer (some ⟨G, 0, none⟩), undef, undef]) _ (x_field (j := 0) _ _ rfl rfl Try.underlying70 rfl (by rfl) rfl) rfl ?_
    refine p_run (l' := _) _ (x_load (.slice A fs.length c) rfl rfl (bkCell (HS.get (.head _)) 0 _ rfl) (by rfl)) rfl ?_
    refine p_run (l' := _) _ (x_len rfl rfl Try.underlying68) rfl ?_
    refine p_run (l' := _) _ (x_assign (.int .i64 (fs.length : Int)) rfl rfl) rfl ?_
    refine wpList_nil ?_
    refine fr_at (l' := [.pointer (some ⟨G, 0, none⟩), undef, .int .i64 (fs.length : Int), .pointer (some ⟨G, 0, none⟩), .pointer (some ⟨G, 0, none⟩), .pointer (some ⟨G, 0, none⟩), .pointer (some ⟨G, 0, none⟩), .slice A fs.length c, .int .i64 (fs.length : Int)]) rfl ?_
    refine hK6 _ _ ?_
    refine wp_ret ?_
    try simp only [Exit.inBlock, Exit.then]
    refine c_ret (.int .i64 (fs.length : Int)) (r_tmp rfl rfl) ?_
    exact ⟨rfl, rfl⟩

/-- Is there such a one? -/
def nTh (fs : List Fr_) (i : Int) : Bool := decide (0 ≤ i ∧ i < (fs.length : Int))

set_option maxRecDepth 10000 in
theorem nThere_any (HS : St w0 F W (net G v fs L)) (i : Int) : Calls Try.prog 42 #[.pointer (some ⟨G, 0, none⟩), .int .i64 i] W fun e w' => e = .returned (.bool (nTh fs i)) ∧ w' = W := by
  obtain ⟨A, c, hv, hcap, hrd⟩ := row_reads (HS.get (.tail _ (.head _)))
  rw [pk_length] at hv hcap
  subst hv
  by_cases h00 : 0 ≤ i
  · skip
    have h0 : decide (i ≥ 0) = true := decide_eq_true h00
    by_cases h11 : i < (fs.length : Int)
    · skip
      have h1 := decide_eq_true h11
      refine c_enter Try.func42 rfl 16 rfl [.pointer (some ⟨G, 0, none⟩), .int .i64 i, undef, undef, undef, undef, undef, undef, undef, undef, undef, undef, undef, undef, undef, undef] rfl ?_
      refine wp_seq_k (fun K1 hK2 => ?_)
      refine c_region (fun ops4 hops3 => ?_)
      clear hops3
      refine p_run (l' := _) _ (x_assign (.bool false) rfl rfl) rfl ?_
      refine wpList_nil ?_
      refine fr_at (l' := [.pointer (some ⟨G, 0, none⟩), .int .i64 i, undef, undef, .bool false, undef, undef, undef, undef, undef, undef, undef, undef, undef, undef, undef]) rfl ?_
      refine hK2 _ _ ?_
      refine wp_seq_k (fun K5 hK6 => ?_)
      refine c_region (fun ops8 hops7 => ?_)
      refine p_run (l' := _) _ (x_move (.int .i64 i) rfl rfl) rfl ?_
      refine p_run (l' := _) _ (x_cmp (k := .i64) (m := i) (n := 0) .geq true rfl rfl rfl h0 rfl) rfl ?_
      refine p_run (l' := _) _ (x_move (.bool true) rfl rfl) rfl ?_
      refine p_on rfl (by rw [hops7]; rfl) ?_
      refine p_run (l' := [.pointer (some ⟨G, 0, none⟩), .int .i64 i, undef, undef, .bool false, .int .i64 i, .bool true, .bool true, .int .i64 i, undef, undef, undef, undef, undef, undef, undef]) _ (x_move (.int .i64 i) rfl rfl) rfl ?_
      refine p_on rfl (by rw [hops7]; rfl) ?_
      refine p_run (l' := _) _ (x_move (.pointer (some ⟨G, 0, none⟩)) rfl rfl) rfl ?_
      refine p_on rfl (by rw [hops7]; rfl) ?_
      refine p_run (l' := _) _ (x_nil rfl rfl) rfl ?_
      refine p_on rfl (by rw [hops7]; rfl) ?_
      refine p_run (l' := _) _ (x_field (j := 0) _ _ rfl rfl Try.underlying70 rfl (by rfl) rfl) rfl ?_
      refine p_on rfl (by rw [hops7]; rfl) ?_
      refine p_run (l' := [.pointer (some ⟨G, 0, none⟩), .int .i64 i, undef, undef, .bool false, .int .i64 i, .bool true, .bool true, .int .i64 i, .pointer (some ⟨G, 0, none⟩), .pointer (some ⟨G, 0, none⟩), .pointer (some ⟨G, 0, none⟩), .slice A fs.length c, undef, undef, undef]) _ (x_load (.slice A fs.length c) rfl rfl (bkCell (HS.get (.head _)) 0 _ rfl) (by rfl)) rfl ?_
      refine p_on rfl (by rw [hops7]; rfl) ?_
      refine p_run (l' := _) _ (x_len rfl rfl Try.underlying68) rfl ?_
      refine p_on rfl (by rw [hops7]; rfl) ?_
      refine p_run (l' := _) _ (x_cmp (k := .i64) (m := i) (n := (fs.length : Int)) .lss true rfl rfl rfl h1 rfl) rfl ?_
      refine p_run (l' := _) _ (x_pick true (.bool true) (.bool false) (.bool true) rfl rfl rfl rfl rfl) rfl ?_
      refine p_run (l' := [.pointer (some ⟨G, 0, none⟩), .int .i64 i, undef, undef, .bool true, .int .i64 i, .bool true, .bool true, .int .i64 i, .pointer (some ⟨G, 0, none⟩), .pointer (some ⟨G, 0, none⟩), .pointer (some ⟨G, 0, none⟩), .slice A fs.length c, .int .i64 (fs.length : Int), .bool true, .bool true]) _ (x_assign (.bool true) rfl rfl) rfl ?_
      clear hops7
      refine wpList_nil ?_
      refine hK6 _ _ ?_
      refine wp_ret ?_
      try simp only [Exit.inBlock, Exit.then]
      refine c_ret (.bool true) (r_tmp rfl rfl) ?_
      exact ⟨by rw [show nTh fs i = true from decide_eq_true ⟨h00, h11⟩], rfl⟩
    · skip
      have h1 := decide_eq_false h11
      refine c_enter Try.func42 rfl 16 rfl [.pointer (some ⟨G, 0, none⟩), .int .i64 i, undef, undef, undef, undef, undef, undef, undef, undef, undef, undef, undef, undef, undef, undef] rfl ?_
      refine wp_seq_k (fun K1 hK2 => ?_)
      refine c_region (fun ops4 hops3 => ?_)
      clear hops3
      refine p_run (l' := _) _ (x_assign (.bool false) rfl rfl) rfl ?_
      refine wpList_nil ?_
      refine fr_at (l' := [.pointer (some ⟨G, 0, none⟩), .int .i64 i, undef, undef, .bool false, undef, undef, undef, undef, undef, undef, undef, undef, undef, undef, undef]) rfl ?_
      refine hK2 _ _ ?_
      refine wp_seq_k (fun K5 hK6 => ?_)
      refine c_region (fun ops8 hops7 => ?_)
      refine p_run (l' := _) _ (x_move (.int .i64 i) rfl rfl) rfl ?_
      refine p_run (l' := _) _ (x_cmp (k := .i64) (m := i) (n := 0) .geq true rfl rfl rfl h0 rfl) rfl ?_
      refine p_run (l' := _) _ (x_move (.bool true) rfl rfl) rfl ?_
      refine p_on rfl (by rw [hops7]; rfl) ?_
      refine p_run (l' := [.pointer (some ⟨G, 0, none⟩), .int .i64 i, undef, undef, .bool false, .int .i64 i, .bool true, .bool true, .int .i64 i, undef, undef, undef, undef, undef, undef, undef]) _ (x_move (.int .i64 i) rfl rfl) rfl ?_
      refine p_on rfl (by rw [hops7]; rfl) ?_
      refine p_run (l' := _) _ (x_move (.pointer (some ⟨G, 0, none⟩)) rfl rfl) rfl ?_
      refine p_on rfl (by rw [hops7]; rfl) ?_
      refine p_run (l' := _) _ (x_nil rfl rfl) rfl ?_
      refine p_on rfl (by rw [hops7]; rfl) ?_
      refine p_run (l' := _) _ (x_field (j := 0) _ _ rfl rfl Try.underlying70 rfl (by rfl) rfl) rfl ?_
      refine p_on rfl (by rw [hops7]; rfl) ?_
      refine p_run (l' := [.pointer (some ⟨G, 0, none⟩), .int .i64 i, undef, undef, .bool false, .int .i64 i, .bool true, .bool true, .int .i64 i, .pointer (some ⟨G, 0, none⟩), .pointer (some ⟨G, 0, none⟩), .pointer (some ⟨G, 0, none⟩), .slice A fs.length c, undef, undef, undef]) _ (x_load (.slice A fs.length c) rfl rfl (bkCell (HS.get (.head _)) 0 _ rfl) (by rfl)) rfl ?_
      refine p_on rfl (by rw [hops7]; rfl) ?_
      refine p_run (l' := _) _ (x_len rfl rfl Try.underlying68) rfl ?_
      refine p_on rfl (by rw [hops7]; rfl) ?_
      refine p_run (l' := _) _ (x_cmp (k := .i64) (m := i) (n := (fs.length : Int)) .lss false rfl rfl rfl h1 rfl) rfl ?_
      refine p_run (l' := _) _ (x_pick true (.bool false) (.bool false) (.bool false) rfl rfl rfl rfl rfl) rfl ?_
      refine p_run (l' := [.pointer (some ⟨G, 0, none⟩), .int .i64 i, undef, undef, .bool false, .int .i64 i, .bool true, .bool true, .int .i64 i, .pointer (some ⟨G, 0, none⟩), .pointer (some ⟨G, 0, none⟩), .pointer (some ⟨G, 0, none⟩), .slice A fs.length c, .int .i64 (fs.length : Int), .bool false, .bool false]) _ (x_assign (.bool false) rfl rfl) rfl ?_
      clear hops7
      refine wpList_nil ?_
      refine hK6 _ _ ?_
      refine wp_ret ?_
      try simp only [Exit.inBlock, Exit.then]
      refine c_ret (.bool false) (r_tmp rfl rfl) ?_
      exact ⟨by rw [show nTh fs i = false from decide_eq_false (fun h => h11 h.2)], rfl⟩
  · skip
    have h0 : decide (i ≥ 0) = false := decide_eq_false h00
    refine c_enter Try.func42 rfl 16 rfl [.pointer (some ⟨G, 0, none⟩), .int .i64 i, undef, undef, undef, undef, undef, undef, undef, undef, undef, undef, undef, undef, undef, undef] rfl ?_
    refine wp_seq_k (fun K1 hK2 => ?_)
    refine c_region (fun ops4 hops3 => ?_)
    clear hops3
    refine p_run (l' := _) _ (x_assign (.bool false) rfl rfl) rfl ?_
    refine wpList_nil ?_
    refine fr_at (l' := [.pointer (some ⟨G, 0, none⟩), .int .i64 i, undef, undef, .bool false, undef, undef, undef, undef, undef, undef, undef, undef, undef, undef, undef]) rfl ?_
    refine hK2 _ _ ?_
    refine wp_seq_k (fun K5 hK6 => ?_)
    refine c_region (fun ops8 hops7 => ?_)
    refine p_run (l' := _) _ (x_move (.int .i64 i) rfl rfl) rfl ?_
    refine p_run (l' := _) _ (x_cmp (k := .i64) (m := i) (n := 0) .geq false rfl rfl rfl h0 rfl) rfl ?_
    refine p_run (l' := _) _ (x_move (.bool false) rfl rfl) rfl ?_
    refine p_off (l' := [.pointer (some ⟨G, 0, none⟩), .int .i64 i, undef, undef, .bool false, .int .i64 i, .bool false, .bool false, undef, undef, undef, undef, undef, undef, undef, undef]) (by rw [hops7]; rfl) rfl ?_
    refine p_off (l' := _) (by rw [hops7]; rfl) rfl ?_
    refine p_off (l' := _) (by rw [hops7]; rfl) rfl ?_
    refine p_off (l' := _) (by rw [hops7]; rfl) rfl ?_
    refine p_off (l' := [.pointer (some ⟨G, 0, none⟩), .int .i64 i, undef, undef, .bool false, .int .i64 i, .bool false, .bool false, undef, undef, undef, undef, undef, undef, undef, undef]) (by rw [hops7]; rfl) rfl ?_
    refine p_off (l' := _) (by rw [hops7]; rfl) rfl ?_
    refine p_off (l' := _) (by rw [hops7]; rfl) rfl ?_
    refine p_run (l' := _) _ (x_pick false (undef) (.bool false) (.bool false) rfl rfl rfl rfl rfl) rfl ?_
    refine p_run (l' := [.pointer (some ⟨G, 0, none⟩), .int .i64 i, undef, undef, .bool false, .int .i64 i, .bool false, .bool false, undef, undef, undef, undef, undef, undef, undef, .bool false]) _ (x_assign (.bool false) rfl rfl) rfl ?_
    clear hops7
    refine wpList_nil ?_
    refine hK6 _ _ ?_
    refine wp_ret ?_
    try simp only [Exit.inBlock, Exit.then]
    refine c_ret (.bool false) (r_tmp rfl rfl) ?_
    exact ⟨by rw [show nTh fs i = false from decide_eq_false (fun h => h00 h.1)], rfl⟩

set_option maxRecDepth 10000 in
theorem nPush_any {fv : Value} {xs : List UInt8} {tt : Int} (HS : St w0 F W (row kByte rfl 5 fv xs :: net G v fs L)) (hl : fs.length ≤ 1000) : Calls Try.prog 41 #[.pointer (some ⟨G, 0, none⟩), .agg ([.int .i64 tt, fv] : List Value).toArray] W fun e w' => ∃ v', e = .returned (.tuple #[]) ∧ St w0 F w' (net G v' (fs ++ [(tt, fv, xs)]) L) := by
  refine c_enter Try.func41 rfl 14 rfl [.pointer (some ⟨G, 0, none⟩), .agg ([.int .i64 tt, fv] : List Value).toArray, undef, undef, undef, undef, undef, undef, undef, undef, undef, undef, undef, undef] rfl ?_
  refine wp_seq_k (fun K1 hK2 => ?_)
  refine c_region (fun ops4 hops3 => ?_)
  clear hops3
  refine St.wBox HS (cs := [.int .i64 tt, fv]) (.agg ([.int .i64 tt, fv] : List Value).toArray) rfl rfl ?_
  clear HS
  intro g5 w6 hg7 HS
  refine wpList_nil ?_
  refine fr_at (l' := [.pointer (some ⟨G, 0, none⟩), .agg ([.int .i64 tt, fv] : List Value).toArray, undef, .pointer (some ⟨g5, 0, none⟩), undef, undef, undef, undef, undef, undef, undef, undef, undef, undef]) rfl ?_
  refine hK2 _ _ ?_
  refine free_frame (n := 11) (T := _) [0, 0, 2, 6, 14, 0, 32, 126, 255, 511, 1023] [(0, 4), (1, 5), (2, 6), (3, 7), (4, 8), (5, 9), (6, 10), (7, 11), (8, 12), (9, 13)] (fun bq_ vq_ w_ => qv ((fun i_ => match i_ with | 0 => some (.pointer (some ⟨G, 0, none⟩)) | 1 => some (.pointer (some ⟨G, 0, none⟩)) | 2 => some (.pointer (some ⟨G, 0, none⟩)) | 3 => some (.pointer (some ⟨G, 0, none⟩)) | 4 => some (v) | 5 => some (.agg ([.int .i64 tt, fv] : List Value).toArray) | 8 => some (.pointer (some ⟨G, 0, none⟩)) | 9 => some (.pointer (some ⟨G, 0, none⟩)) | _ => none) : Nat → Option Value) bq_ vq_ ∧ cond (bq_ 10) (∃ (g10 : Nat) (v13 : Value), vq_ 6 = .slice (some ⟨g10, 0, none⟩) 1 1 ∧ vq_ 7 = v13 ∧ St w0 F w_ (blk G [v13] 72 :: row kPk rfl 75 v13 ((pk fs) ++ [(tt, fv)]) :: blk g10 [.int .i64 tt, fv] 75 :: blk g5 [.int .i64 tt, fv] 75 :: row kByte rfl 5 fv xs :: allR (frs fs) :: L)) (cond (bq_ 7) (∃ (g10 : Nat) (v13 : Value), vq_ 6 = .slice (some ⟨g10, 0, none⟩) 1 1 ∧ vq_ 7 = v13 ∧ St w0 F w_ (row kPk rfl 75 v13 ((pk fs) ++ [(tt, fv)]) :: blk g10 [.int .i64 tt, fv] 75 :: blk g5 [.int .i64 tt, fv] 75 :: row kByte rfl 5 fv xs :: blk G [v] 72 :: allR (frs fs) :: L)) (cond (bq_ 6) (∃ (g10 : Nat), vq_ 6 = .slice (some ⟨g10, 0, none⟩) 1 1 ∧ St w0 F w_ (blk g10 [.int .i64 tt, fv] 75 :: blk g5 [.int .i64 tt, fv] 75 :: row kByte rfl 5 fv xs :: blk G [v] 72 :: row kPk rfl 75 v (pk fs) :: allR (frs fs) :: L)) ((St w0 F w_ (blk g5 [.int .i64 tt, fv] 75 :: row kByte rfl 5 fv xs :: blk G [v] 72 :: row kPk rfl 75 v (pk fs) :: allR (frs fs) :: L)))))) (by kernel_rfl) rfl rfl (by kernel_rfl) (by kernel_rfl) rfl (by kernel_rfl) (by kernel_rfl) ⟨qv_none, HS.draw⟩ ?_ ?_
  · clear HS
    intro i_ hi_ bq_ vq_ a_ w_ hG hb_ hon hoff hfr hel hval
    obtain ⟨hV, hE⟩ := hG
    have hi_ := List.mem_range.1 hi_
    have hcs : i_ = 0 ∨ i_ = 1 ∨ i_ = 2 ∨ i_ = 3 ∨ i_ = 4 ∨ i_ = 5 ∨ i_ = 6 ∨ i_ = 7 ∨ i_ = 8 ∨ i_ = 9 ∨ i_ = 10 := by omega
    rcases hcs with rfl | rfl | rfl | rfl | rfl | rfl | rfl | rfl | rfl | rfl | rfl
    · have h0 : a_.tmps[0]? = some (.pointer (some ⟨G, 0, none⟩)) := (hel 0 (by decide)).trans rfl
      obtain ⟨l_, rfl⟩ := hfr
      have e0 : evl l_ (.tmp 0) = .pointer (some ⟨G, 0, none⟩) := evl_of h0
      refine ⟨_, rfl, fun K_ hK_ => wp_of_list rfl ?_⟩
      intro ops_
      refine p_run (l' := _) _ (x_move (.pointer (some ⟨G, 0, none⟩)) rfl e0) rfl ?_
      refine wpList_nil ?_
      exact norm_put (hK_ (.pointer (some ⟨G, 0, none⟩)) _ ⟨qv_up hV (fun _ h => Option.some.inj h), hE⟩)
    · have h0 : a_.tmps[0]? = some (.pointer (some ⟨G, 0, none⟩)) := (hel 0 (by decide)).trans rfl
      obtain ⟨l_, rfl⟩ := hfr
      have e0 : evl l_ (.tmp 0) = .pointer (some ⟨G, 0, none⟩) := evl_of h0
      refine ⟨_, rfl, fun K_ hK_ => wp_of_list rfl ?_⟩
      intro ops_
      refine p_run (l' := _) _ (x_move (.pointer (some ⟨G, 0, none⟩)) rfl e0) rfl ?_
      refine wpList_nil ?_
      exact norm_put (hK_ (.pointer (some ⟨G, 0, none⟩)) _ ⟨qv_up hV (fun _ h => Option.some.inj h), hE⟩)
    · have h5 : a_.tmps[5]? = some (.pointer (some ⟨G, 0, none⟩)) := (hval (1, 5) (by decide) (hon 1 (by decide))).trans (congrArg some (hV 1 _ rfl (hon 1 (by decide))))
      obtain ⟨l_, rfl⟩ := hfr
      have e5 : evl l_ (.tmp 5) = .pointer (some ⟨G, 0, none⟩) := evl_of h5
      refine ⟨_, rfl, fun K_ hK_ => wp_of_list rfl ?_⟩
      intro ops_
      refine p_run (l' := _) _ (x_nil rfl e5) rfl ?_
      refine wpList_nil ?_
      exact norm_put (hK_ (.pointer (some ⟨G, 0, none⟩)) _ ⟨qv_up hV (fun _ h => Option.some.inj h), hE⟩)
    · have h6 : a_.tmps[6]? = some (.pointer (some ⟨G, 0, none⟩)) := (hval (2, 6) (by decide) (hon 2 (by decide))).trans (congrArg some (hV 2 _ rfl (hon 2 (by decide))))
      obtain ⟨l_, rfl⟩ := hfr
      have e6 : evl l_ (.tmp 6) = .pointer (some ⟨G, 0, none⟩) := evl_of h6
      refine ⟨_, rfl, fun K_ hK_ => wp_of_list rfl ?_⟩
      intro ops_
      refine p_run (l' := _) _ (x_field (j := 0) _ _ rfl e6 Try.underlying70 rfl (by rfl) rfl) rfl ?_
      refine wpList_nil ?_
      exact norm_put (hK_ (.pointer (some ⟨G, 0, none⟩)) _ ⟨qv_up hV (fun _ h => Option.some.inj h), hE⟩)
    · have h7 : a_.tmps[7]? = some (.pointer (some ⟨G, 0, none⟩)) := (hval (3, 7) (by decide) (hon 3 (by decide))).trans (congrArg some (hV 3 _ rfl (hon 3 (by decide))))
      obtain ⟨l_, rfl⟩ := hfr
      rcases hq6 : bq_ 6 with _ | _
      · skip
        have hE0 := hE
        rw [show bq_ 10 = false from (hoff 10 (by decide))] at hE0
        rw [show bq_ 7 = false from (hoff 7 (by decide))] at hE0
        rw [show bq_ 6 = false from hq6] at hE0
        simp only [cond_true, cond_false] at hE0
        have HS := hE0
        have e7 : evl l_ (.tmp 7) = .pointer (some ⟨G, 0, none⟩) := evl_of h7
        refine ⟨_, rfl, fun K_ hK_ => wp_of_list rfl ?_⟩
        intro ops_
        refine p_run (l' := _) _ (x_load (v) rfl e7 (bkCell (HS.get (.tail _ (.tail _ (.head _)))) 0 _ rfl) (by rfl)) rfl ?_
        refine wpList_nil ?_
        exact norm_put (hK_ (v) _ ⟨qv_up hV (fun _ h => Option.some.inj h), hE⟩)
      · have hE0 := hE
        rw [show bq_ 10 = false from (hoff 10 (by decide))] at hE0
        rw [show bq_ 7 = false from (hoff 7 (by decide))] at hE0
        rw [show bq_ 6 = true from hq6] at hE0
        simp only [cond_true, cond_false] at hE0
        obtain ⟨g10, hv6, HS⟩ := hE0
        have e7 : evl l_ (.tmp 7) = .pointer (some ⟨G, 0, none⟩) := evl_of h7
        refine ⟨_, rfl, fun K_ hK_ => wp_of_list rfl ?_⟩
        intro ops_
        refine p_run (l' := _) _ (x_load (v) rfl e7 (bkCell (HS.get (.tail _ (.tail _ (.tail _ (.head _))))) 0 _ rfl) (by rfl)) rfl ?_
        refine wpList_nil ?_
        exact norm_put (hK_ (v) _ ⟨qv_up hV (fun _ h => Option.some.inj h), hE⟩)
    · have h3 : a_.tmps[3]? = some (.pointer (some ⟨g5, 0, none⟩)) := (hel 3 (by decide)).trans rfl
      obtain ⟨l_, rfl⟩ := hfr
      have hE0 := hE
      rw [show bq_ 10 = false from (hoff 10 (by decide))] at hE0
      rw [show bq_ 7 = false from (hoff 7 (by decide))] at hE0
      rw [show bq_ 6 = false from (hoff 6 (by decide))] at hE0
      simp only [cond_true, cond_false] at hE0
      have HS := hE0
      have e3 : evl l_ (.tmp 3) = .pointer (some ⟨g5, 0, none⟩) := evl_of h3
      refine ⟨_, rfl, fun K_ hK_ => wp_of_list rfl ?_⟩
      intro ops_
      refine p_run (l' := _) _ (x_loads [.int .i64 tt, fv] 2 rfl e3 (bkCells (HS.get (.head _)) 0 _ rfl) (by rfl) (by kernel_rfl) rfl) rfl ?_
      refine wpList_nil ?_
      exact norm_put (hK_ (.agg ([.int .i64 tt, fv] : List Value).toArray) _ ⟨qv_up hV (fun _ h => Option.some.inj h), hE⟩)
    · have h9 : a_.tmps[9]? = some (.agg ([.int .i64 tt, fv] : List Value).toArray) := (hval (5, 9) (by decide) (hon 5 (by decide))).trans (congrArg some (hV 5 _ rfl (hon 5 (by decide))))
      obtain ⟨l_, rfl⟩ := hfr
      have hE0 := hE
      rw [show bq_ 10 = false from (hoff 10 (by decide))] at hE0
      rw [show bq_ 7 = false from (hoff 7 (by decide))] at hE0
      rw [show bq_ 6 = false from hb_] at hE0
      simp only [cond_true, cond_false] at hE0
      have HS := hE0
      have e9 : evl l_ (.tmp 9) = .agg ([.int .i64 tt, fv] : List Value).toArray := evl_of h9
      refine ⟨_, rfl, fun K_ hK_ => wp_of_list rfl ?_⟩
      intro ops_
      refine St.wLit1 HS [.int .i64 tt, fv] 2 (.agg [.int .i64 0, .slice none 0 0].toArray) (.agg ([.int .i64 tt, fv] : List Value).toArray) Try.underlying68 (by kernel_rfl) (by decide) e9 rfl rfl ?_
      clear HS
      intro g900601 w900602 hg900603 HS
      refine wpList_nil ?_
      refine norm_put (hK_ (.slice (some ⟨g900601, 0, none⟩) 1 1) _ ⟨qv_up hV (by intro _ h; cases h), ?_⟩)
      show cond (bq_ 10) _ _
      rw [show bq_ 10 = false from hoff 10 (by decide), cond_false]
      show cond (bq_ 7) _ _
      rw [show bq_ 7 = false from hoff 7 (by decide), cond_false]
      show cond true _ _
      rw [cond_true]
      exact ⟨g900601, rfl, ((((((HS.front 5 rfl).front 5 rfl).front 5 rfl).front 5 rfl).front 5 rfl).front 5 rfl)⟩
    · have h8 : a_.tmps[8]? = some (v) := (hval (4, 8) (by decide) (hon 4 (by decide))).trans (congrArg some (hV 4 _ rfl (hon 4 (by decide))))
      have h10 := hval (6, 10) (by decide) (hon 6 (by decide))
      obtain ⟨l_, rfl⟩ := hfr
      have hE0 := hE
      rw [show bq_ 10 = false from (hoff 10 (by decide))] at hE0
      rw [show bq_ 7 = false from hb_] at hE0
      rw [show bq_ 6 = true from (hon 6 (by decide))] at hE0
      simp only [cond_true, cond_false] at hE0
      obtain ⟨g10, hv6, HS⟩ := hE0
      rw [hv6] at h10
      have e8 : evl l_ (.tmp 8) = v := evl_of h8
      have e10 : evl l_ (.tmp 10) = .slice (some ⟨g10, 0, none⟩) 1 1 := evl_of h10
      refine ⟨_, rfl, fun K_ hK_ => wp_of_list rfl ?_⟩
      intro ops_
      replace HS := (HS.front 4 rfl)
      refine St.wAppend HS ((.agg #[.int .i64 0, .slice none 0 0])) 32 Try.underlying68 (by kernel_rfl) rfl (by decide) (by decide) [(tt, fv)] _ _ _ e8 e10 (lit_reads (HS.get (.tail _ (.head _))) ((Reps.none _ _).snoc (p := (tt, fv)) ⟨rfl, (row_one (HS.get (.tail _ (.tail _ (.tail _ (.head _))))))⟩ rfl) (by simp)) (fun _ _ h => h) (by simp [pk_length]; omega) ?_
      clear HS
      intro v900701 w900702 HS
      refine wpList_nil ?_
      refine norm_put (hK_ (v900701) _ ⟨qv_up hV (by intro _ h; cases h), ?_⟩)
      show cond (bq_ 10) _ _
      rw [show bq_ 10 = false from hoff 10 (by decide), cond_false]
      show cond true _ _
      rw [cond_true]
      exact ⟨g10, v900701, hv6, rfl, ((((((HS.front 5 rfl).front 5 rfl).front 5 rfl).front 5 rfl).front 5 rfl).front 5 rfl)⟩
    · have h4 : a_.tmps[4]? = some (.pointer (some ⟨G, 0, none⟩)) := (hval (0, 4) (by decide) (hon 0 (by decide))).trans (congrArg some (hV 0 _ rfl (hon 0 (by decide))))
      obtain ⟨l_, rfl⟩ := hfr
      have e4 : evl l_ (.tmp 4) = .pointer (some ⟨G, 0, none⟩) := evl_of h4
      refine ⟨_, rfl, fun K_ hK_ => wp_of_list rfl ?_⟩
      intro ops_
      refine p_run (l' := _) _ (x_nil rfl e4) rfl ?_
      refine wpList_nil ?_
      exact norm_put (hK_ (.pointer (some ⟨G, 0, none⟩)) _ ⟨qv_up hV (fun _ h => Option.some.inj h), hE⟩)
    · have h12 : a_.tmps[12]? = some (.pointer (some ⟨G, 0, none⟩)) := (hval (8, 12) (by decide) (hon 8 (by decide))).trans (congrArg some (hV 8 _ rfl (hon 8 (by decide))))
      obtain ⟨l_, rfl⟩ := hfr
      have e12 : evl l_ (.tmp 12) = .pointer (some ⟨G, 0, none⟩) := evl_of h12
      refine ⟨_, rfl, fun K_ hK_ => wp_of_list rfl ?_⟩
      intro ops_
      refine p_run (l' := _) _ (x_field (j := 0) _ _ rfl e12 Try.underlying70 rfl (by rfl) rfl) rfl ?_
      refine wpList_nil ?_
      exact norm_put (hK_ (.pointer (some ⟨G, 0, none⟩)) _ ⟨qv_up hV (fun _ h => Option.some.inj h), hE⟩)
    · have h11 := hval (7, 11) (by decide) (hon 7 (by decide))
      have h13 : a_.tmps[13]? = some (.pointer (some ⟨G, 0, none⟩)) := (hval (9, 13) (by decide) (hon 9 (by decide))).trans (congrArg some (hV 9 _ rfl (hon 9 (by decide))))
      obtain ⟨l_, rfl⟩ := hfr
      have hE0 := hE
      rw [show bq_ 10 = false from hb_] at hE0
      rw [show bq_ 7 = true from (hon 7 (by decide))] at hE0
      simp only [cond_true, cond_false] at hE0
      obtain ⟨g10, v13, hv6, hv7, HS⟩ := hE0
      rw [hv7] at h11
      have e11 : evl l_ (.tmp 11) = v13 := evl_of h11
      have e13 : evl l_ (.tmp 13) = .pointer (some ⟨G, 0, none⟩) := evl_of h13
      refine ⟨_, rfl, fun K_ hK_ => wp_of_list rfl ?_⟩
      intro ops_
      refine St.store (cs' := [v13]) (HS.front 4 rfl) (v13) e13 e11 (row_one (HS.get (.head _))) (by kernel_rfl) (by rfl) rfl ?_
      clear HS
      intro w901001 HS
      refine wpList_nil ?_
      refine norm_none (hK_ undef _ ⟨qv_up hV (by intro _ h; cases h), ?_⟩)
      show cond true _ _
      rw [cond_true]
      exact ⟨g10, v13, hv6, hv7, ((((((HS.front 5 rfl).front 5 rfl).front 5 rfl).front 5 rfl).front 5 rfl).front 5 rfl)⟩
  intro bq_ vq_ w_ hall hG
  obtain ⟨hV, hE⟩ := hG
  clear HS
  rw [show bq_ 10 = true from hall 10 (by decide)] at hE
  simp only [cond_true] at hE
  obtain ⟨g10, v13, hv6, hv7, HS⟩ := hE
  have hv0 := hV 0 _ rfl (hall 0 (by decide))
  have hv1 := hV 1 _ rfl (hall 1 (by decide))
  have hv2 := hV 2 _ rfl (hall 2 (by decide))
  have hv3 := hV 3 _ rfl (hall 3 (by decide))
  have hv4 := hV 4 _ rfl (hall 4 (by decide))
  have hv5 := hV 5 _ rfl (hall 5 (by decide))
  have hv8 := hV 8 _ rfl (hall 8 (by decide))
  have hv9 := hV 9 _ rfl (hall 9 (by decide))
  clear hV hall
  rw [putSel_fr]
  simp only [tells, List.map_cons, List.map_nil, setAll, List.set_cons_succ, List.set_cons_zero, hv0, hv1, hv2, hv3, hv4, hv5, hv6, hv7, hv8, hv9]
  clear hv0 hv1 hv2 hv3 hv4 hv5 hv6 hv7 hv8 hv9
  generalize w_ = w901002 at HS ⊢
  refine fr_at (l' := [.pointer (some ⟨G, 0, none⟩), .agg ([.int .i64 tt, fv] : List Value).toArray, undef, .pointer (some ⟨g5, 0, none⟩), .pointer (some ⟨G, 0, none⟩), .pointer (some ⟨G, 0, none⟩), .pointer (some ⟨G, 0, none⟩), .pointer (some ⟨G, 0, none⟩), v, .agg ([.int .i64 tt, fv] : List Value).toArray, .slice (some ⟨g10, 0, none⟩) 1 1, v13, .pointer (some ⟨G, 0, none⟩), .pointer (some ⟨G, 0, none⟩)]) rfl ?_
  refine c_end (.tuple #[]) (r_none rfl) ?_
  exact ⟨_, rfl, St.netPush ((((((HS.front 2 rfl).drop.front 2 rfl).drop.front 3 rfl).front 2 rfl).front 2 rfl).front 3 rfl)⟩

section
variable {ps : List (Int × Value)} {sp : List Value} {i g c : Nat} {w : World} {e : TypeId}
theorem zc1 : (Builtin.zeroCells (Value.agg #[.int .i64 0, .slice none 0 0]).cells 1).toList = [.int .i64 0, .slice none 0 0] := by kernel_rfl
theorem pk_pre (hi : i < ps.length) : ((pkC ps ++ sp).drop 0).take (pkC (ps.take i)).length = pkC (ps.take i) := by
  rw [List.drop_zero, pkC_split (List.getElem?_eq_getElem hi), List.append_assoc, List.take_left' rfl]
theorem pk_mem {qs : List (Int × Value)} (h : ∀ p ∈ ps, p.2.oneCell' = true) (hq : ∀ q ∈ qs, q ∈ ps) : (pkC qs).all (·.oneCell') = true := by
  rw [List.all_eq_true]
  intro u hu
  unfold pkC at hu
  obtain ⟨p, hp, hu⟩ := List.mem_flatMap.1 hu
  rcases List.mem_cons.1 hu with rfl | hu
  · rfl
  · obtain rfl := List.mem_singleton.1 hu
    exact h p (hq p hp)
theorem pk_post (h : (blk g (pkC ps ++ sp) e).holds w) (hi : i < ps.length) : ∀ j u, (pkC (ps.drop (i + 1)))[j]? = some u → w.cell? ((⟨g, (i + 1) * 2, none⟩ : Addr).add j) = some u := by
  refine bkCells h _ _ ?_
  have hA : (pkC (ps.take (i + 1))).length = (i + 1) * 2 := by rw [pkC_length, List.length_take]; omega
  have e1 : pkC ps ++ sp = pkC (ps.take (i + 1)) ++ (pkC (ps.drop (i + 1)) ++ sp) := by rw [← List.append_assoc, ← pkC_append, List.take_append_drop]
  rw [e1, List.drop_left' hA, List.take_left' rfl]
theorem pk_room (hi : i < ps.length) (h : (pkC ps ++ sp).length = c * 2) (hc : ps.length ≤ c) : (lay (pkC ps ++ sp) (i * 2) (pkC (ps.drop (i + 1)))).length = c * 2 := by
  rw [lay_length _ _ _ (by rw [pkC_length, List.length_drop, h]; omega), h]
end

set_option maxRecDepth 10000 in
set_option maxHeartbeats 1000000 in
theorem nDel_any {ps : List (Int × Value)} {sp : List Value} {g i c : Nat} (HS : St w0 F W (blk g (pkC ps ++ sp) 75 :: L)) (hi : i < ps.length) (hc1 : ps.length ≤ c) (hc2 : c ≤ 9223372036854775807) (hc3 : (pkC ps ++ sp).length = c * 2) (hone : ∀ p ∈ ps, p.2.oneCell' = true) (hsm : ps.length ≤ 1000) : Calls Try.prog 45 #[.slice (some ⟨g, 0, none⟩) ps.length c, .int .i64 (i : Int), .int .i64 ((i + 1 : Nat) : Int)] W fun e w' => e = .returned (.slice (some ⟨g, 0, none⟩) (ps.length - 1) c) ∧ St w0 F w' (blk g (pkC (ps.eraseIdx i) ++ ([.int .i64 0, .slice none 0 0] ++ sp)) 75 :: L) := by
  by_cases hfull : c = i + 1
  · skip
    refine c_enter Try.func45 rfl 33 rfl [.slice (some ⟨g, 0, none⟩) ps.length c, .int .i64 (i : Int), .int .i64 ((i + 1 : Nat) : Int), undef, undef, undef, undef, undef, undef, undef, undef, undef, undef, undef, undef, undef, undef, undef, undef, undef, undef, undef, undef, undef, undef, undef, undef, undef, undef, undef, undef, undef, undef] rfl ?_
    refine wp_seq_k (fun K1 hK2 => ?_)
    refine c_region (fun ops4 hops3 => ?_)
    clear hops3
    refine p_run (l' := _) _ (x_assign (.slice none 0 0) rfl rfl) rfl ?_
    refine wpList_nil ?_
    refine fr_at (l' := [.slice (some ⟨g, 0, none⟩) ps.length c, .int .i64 (i : Int), .int .i64 ((i + 1 : Nat) : Int), undef, undef, undef, .slice none 0 0, undef, undef, undef, undef, undef, undef, undef, undef, undef, undef, undef, undef, undef, undef, undef, undef, undef, undef, undef, undef, undef, undef, undef, undef, undef, undef]) rfl ?_
    refine hK2 _ _ ?_
    refine wp_seq_k (fun K5 hK6 => ?_)
    refine c_region (fun ops8 hops7 => ?_)
    clear hops7
    refine p_run (l' := _) _ (x_move (.slice (some ⟨g, 0, none⟩) ps.length c) rfl rfl) rfl ?_
    refine p_run (l' := _) _ (x_move (.int .i64 (i : Int)) rfl rfl) rfl ?_
    refine p_run (l' := _) _ (x_move (.int .i64 ((i + 1 : Nat) : Int)) rfl rfl) rfl ?_
    refine p_run (l' := [.slice (some ⟨g, 0, none⟩) ps.length c, .int .i64 (i : Int), .int .i64 ((i + 1 : Nat) : Int), undef, undef, undef, .slice none 0 0, undef, .slice (some ⟨g, 0, none⟩) ps.length c, .int .i64 (i : Int), .int .i64 ((i + 1 : Nat) : Int), .slice (some ⟨g, 0, none⟩) ps.length c, undef, undef, undef, undef, undef, undef, undef, undef, undef, undef, undef, undef, undef, undef, undef, undef, undef, undef, undef, undef, undef]) _ (x_move (.slice (some ⟨g, 0, none⟩) ps.length c) rfl rfl) rfl ?_
    refine p_run (l' := _) _ (x_len rfl rfl Try.underlying68) rfl ?_
    refine p_run (l' := _) (.slice (if ps.length = i then some ⟨g, 0, none⟩ else (some (⟨g, 0, none⟩ : Addr)).map (·.add (i * 2))) (i + 1 - i) (ps.length - i)) (x_slice3 (sz := 2) (lo := i) (hi := i + 1) (mx := ps.length) _ rfl rfl Try.underlying68 (by kernel_rfl) rfl rfl rfl (by omega) (by omega) (by omega) rfl) rfl ?_
    refine wpList_nil ?_
    refine fr_at (l' := [.slice (some ⟨g, 0, none⟩) ps.length c, .int .i64 (i : Int), .int .i64 ((i + 1 : Nat) : Int), undef, undef, undef, .slice none 0 0, undef, .slice (some ⟨g, 0, none⟩) ps.length c, .int .i64 (i : Int), .int .i64 ((i + 1 : Nat) : Int), .slice (some ⟨g, 0, none⟩) ps.length c, .int .i64 (ps.length : Int), .slice (if ps.length = i then some ⟨g, 0, none⟩ else (some (⟨g, 0, none⟩ : Addr)).map (·.add (i * 2))) (i + 1 - i) (ps.length - i), undef, undef, undef, undef, undef, undef, undef, undef, undef, undef, undef, undef, undef, undef, undef, undef, undef, undef, undef]) rfl ?_
    refine hK6 _ _ ?_
    refine wp_seq_k (fun K9 hK10 => ?_)
    refine wp_seq_k (fun K11 hK12 => ?_)
    refine c_region (fun ops14 hops13 => ?_)
    clear hops13
    refine p_run (l' := _) _ (x_move (.int .i64 (i : Int)) rfl rfl) rfl ?_
    refine p_run (l' := _) _ (x_move (.int .i64 ((i + 1 : Nat) : Int)) rfl rfl) rfl ?_
    refine p_run (l' := _) _ (x_cmp (k := .i64) (m := (i : Int)) (n := ((i + 1 : Nat) : Int)) .eql false rfl rfl rfl (by unfold cmpB; simp; omega) rfl) rfl ?_
    refine wpList_nil ?_
    refine fr_at (l' := [.slice (some ⟨g, 0, none⟩) ps.length c, .int .i64 (i : Int), .int .i64 ((i + 1 : Nat) : Int), undef, undef, undef, .slice none 0 0, undef, .slice (some ⟨g, 0, none⟩) ps.length c, .int .i64 (i : Int), .int .i64 ((i + 1 : Nat) : Int), .slice (some ⟨g, 0, none⟩) ps.length c, .int .i64 (ps.length : Int), .slice (if ps.length = i then some ⟨g, 0, none⟩ else (some (⟨g, 0, none⟩ : Addr)).map (·.add (i * 2))) (i + 1 - i) (ps.length - i), .int .i64 (i : Int), .int .i64 ((i + 1 : Nat) : Int), .bool false, undef, undef, undef, undef, undef, undef, undef, undef, undef, undef, undef, undef, undef, undef, undef, undef]) rfl ?_
    refine hK12 _ _ ?_
    refine c_false rfl ?_
    refine wp_skip ?_
    refine hK10 _ _ ?_
    refine wp_seq_k (fun K15 hK16 => ?_)
    refine c_region (fun ops18 hops17 => ?_)
    clear hops17
    refine p_run (l' := _) _ (x_move (.slice (some ⟨g, 0, none⟩) ps.length c) rfl rfl) rfl ?_
    refine p_run (l' := _) _ (x_len rfl rfl Try.underlying68) rfl ?_
    refine p_run (l' := _) _ (x_assign (.int .i64 (ps.length : Int)) rfl rfl) rfl ?_
    refine wpList_nil ?_
    refine fr_at (l' := [.slice (some ⟨g, 0, none⟩) ps.length c, .int .i64 (i : Int), .int .i64 ((i + 1 : Nat) : Int), undef, undef, undef, .slice none 0 0, .int .i64 (ps.length : Int), .slice (some ⟨g, 0, none⟩) ps.length c, .int .i64 (i : Int), .int .i64 ((i + 1 : Nat) : Int), .slice (some ⟨g, 0, none⟩) ps.length c, .int .i64 (ps.length : Int), .slice (if ps.length = i then some ⟨g, 0, none⟩ else (some (⟨g, 0, none⟩ : Addr)).map (·.add (i * 2))) (i + 1 - i) (ps.length - i), .int .i64 (i : Int), .int .i64 ((i + 1 : Nat) : Int), .bool false, undef, .slice (some ⟨g, 0, none⟩) ps.length c, .int .i64 (ps.length : Int), undef, undef, undef, undef, undef, undef, undef, undef, undef, undef, undef, undef, undef]) rfl ?_
    refine hK16 _ _ ?_
    refine wp_seq_k (fun K19 hK20 => ?_)
    refine free_frame2 (n := 8) (T := _) [0, 0, 3, 0, 0, 24, 63, 127] [(0, 20), (1, 21), (2, 22), (3, 23), (4, 24), (5, 25), (6, 26), (7, 0)] (fun bq_ vq_ w_ => qv ((fun i_ => match i_ with | 0 => some (.slice (some ⟨g, 0, none⟩) ps.length c) | 1 => some (.int .i64 (i : Int)) | 2 => some (.slice (some ⟨g, 0, none⟩) i c) | 3 => some (.slice (some ⟨g, 0, none⟩) ps.length c) | 4 => some (.int .i64 ((i + 1 : Nat) : Int)) | 5 => some (.slice (some ⟨g, 0, none⟩) (ps.length - (i + 1)) (c - (i + 1))) | 7 => some (.slice (some ⟨g, 0, none⟩) (ps.length - 1) c) | _ => none) : Nat → Option Value) bq_ vq_ ∧ cond (bq_ 6) (vq_ 6 = .slice (some ⟨g, 0, none⟩) (ps.length - 1) c ∧ St w0 F w_ (blk g ((lay (pkC ps ++ sp) (i * 2) (pkC (ps.drop (i + 1))))) 75 :: L)) ((St w0 F w_ (blk g ((pkC ps ++ sp)) 75 :: L)))) (by kernel_rfl) rfl rfl (by kernel_rfl) (by kernel_rfl) rfl (by kernel_rfl) (by kernel_rfl) ⟨qv_none, HS.draw⟩ ?_ ?_
    · clear HS
      intro i_ hi_ bq_ vq_ a_ w_ hG hb_ hon hoff hfr hel hval hno
      obtain ⟨hV, hE⟩ := hG
      have hi_ := List.mem_range.1 hi_
      have hcs : i_ = 0 ∨ i_ = 1 ∨ i_ = 2 ∨ i_ = 3 ∨ i_ = 4 ∨ i_ = 5 ∨ i_ = 6 ∨ i_ = 7 := by omega
      rcases hcs with rfl | rfl | rfl | rfl | rfl | rfl | rfl | rfl
      · have h0 : a_.tmps[0]? = some (.slice (some ⟨g, 0, none⟩) ps.length c) := (hno 7 0 (hoff 7 (by decide)) (by decide)).trans rfl
        obtain ⟨l_, rfl⟩ := hfr
        have e0 : evl l_ (.tmp 0) = .slice (some ⟨g, 0, none⟩) ps.length c := evl_of h0
        refine ⟨_, rfl, fun K_ hK_ => wp_of_list rfl ?_⟩
        intro ops_
        refine p_run (l' := _) _ (x_move (.slice (some ⟨g, 0, none⟩) ps.length c) rfl e0) rfl ?_
        refine wpList_nil ?_
        exact norm_put (hK_ (.slice (some ⟨g, 0, none⟩) ps.length c) _ ⟨qv_up hV (fun _ h => Option.some.inj h), hE⟩)
      · have h1 : a_.tmps[1]? = some (.int .i64 (i : Int)) := (hel 1 (by decide)).trans rfl
        obtain ⟨l_, rfl⟩ := hfr
        have e1 : evl l_ (.tmp 1) = .int .i64 (i : Int) := evl_of h1
        refine ⟨_, rfl, fun K_ hK_ => wp_of_list rfl ?_⟩
        intro ops_
        refine p_run (l' := _) _ (x_move (.int .i64 (i : Int)) rfl e1) rfl ?_
        refine wpList_nil ?_
        exact norm_put (hK_ (.int .i64 (i : Int)) _ ⟨qv_up hV (fun _ h => Option.some.inj h), hE⟩)
      · have h20 : a_.tmps[20]? = some (.slice (some ⟨g, 0, none⟩) ps.length c) := (hval (0, 20) (by decide) (hon 0 (by decide))).trans (congrArg some (hV 0 _ rfl (hon 0 (by decide))))
        have h21 : a_.tmps[21]? = some (.int .i64 (i : Int)) := (hval (1, 21) (by decide) (hon 1 (by decide))).trans (congrArg some (hV 1 _ rfl (hon 1 (by decide))))
        obtain ⟨l_, rfl⟩ := hfr
        have e20 : evl l_ (.tmp 20) = .slice (some ⟨g, 0, none⟩) ps.length c := evl_of h20
        have e21 : evl l_ (.tmp 21) = .int .i64 (i : Int) := evl_of h21
        refine ⟨_, rfl, fun K_ hK_ => wp_of_list rfl ?_⟩
        intro ops_
        refine p_run (l' := _) (.slice (some ⟨g, 0, none⟩) i c) ((x_slice (sz := 2) (L := none) (H := (some (.tmp 21))) (lo := 0) (hi := i) (some ⟨g, 0, none⟩) rfl e20 Try.underlying68 (by kernel_rfl) rfl ⟨_, _, e21, (by omega), rfl⟩ (by omega) (by omega) (by split; rfl; rw [Option.map_some, add_mk])).trans rfl) rfl ?_
        refine wpList_nil ?_
        exact norm_put (hK_ (.slice (some ⟨g, 0, none⟩) i c) _ ⟨qv_up hV (fun _ h => Option.some.inj h), hE⟩)
      · have h0 : a_.tmps[0]? = some (.slice (some ⟨g, 0, none⟩) ps.length c) := (hno 7 0 (hoff 7 (by decide)) (by decide)).trans rfl
        obtain ⟨l_, rfl⟩ := hfr
        have e0 : evl l_ (.tmp 0) = .slice (some ⟨g, 0, none⟩) ps.length c := evl_of h0
        refine ⟨_, rfl, fun K_ hK_ => wp_of_list rfl ?_⟩
        intro ops_
        refine p_run (l' := _) _ (x_move (.slice (some ⟨g, 0, none⟩) ps.length c) rfl e0) rfl ?_
        refine wpList_nil ?_
        exact norm_put (hK_ (.slice (some ⟨g, 0, none⟩) ps.length c) _ ⟨qv_up hV (fun _ h => Option.some.inj h), hE⟩)
      · have h2 : a_.tmps[2]? = some (.int .i64 ((i + 1 : Nat) : Int)) := (hel 2 (by decide)).trans rfl
        obtain ⟨l_, rfl⟩ := hfr
        have e2 : evl l_ (.tmp 2) = .int .i64 ((i + 1 : Nat) : Int) := evl_of h2
        refine ⟨_, rfl, fun K_ hK_ => wp_of_list rfl ?_⟩
        intro ops_
        refine p_run (l' := _) _ (x_move (.int .i64 ((i + 1 : Nat) : Int)) rfl e2) rfl ?_
        refine wpList_nil ?_
        exact norm_put (hK_ (.int .i64 ((i + 1 : Nat) : Int)) _ ⟨qv_up hV (fun _ h => Option.some.inj h), hE⟩)
      · have h23 : a_.tmps[23]? = some (.slice (some ⟨g, 0, none⟩) ps.length c) := (hval (3, 23) (by decide) (hon 3 (by decide))).trans (congrArg some (hV 3 _ rfl (hon 3 (by decide))))
        have h24 : a_.tmps[24]? = some (.int .i64 ((i + 1 : Nat) : Int)) := (hval (4, 24) (by decide) (hon 4 (by decide))).trans (congrArg some (hV 4 _ rfl (hon 4 (by decide))))
        obtain ⟨l_, rfl⟩ := hfr
        have e23 : evl l_ (.tmp 23) = .slice (some ⟨g, 0, none⟩) ps.length c := evl_of h23
        have e24 : evl l_ (.tmp 24) = .int .i64 ((i + 1 : Nat) : Int) := evl_of h24
        refine ⟨_, rfl, fun K_ hK_ => wp_of_list rfl ?_⟩
        intro ops_
        refine p_run (l' := _) (.slice (some ⟨g, 0, none⟩) (ps.length - (i + 1)) (c - (i + 1))) ((x_slice (sz := 2) (L := (some (.tmp 24))) (H := none) (lo := (i + 1 : Nat)) (hi := ps.length) (some ⟨g, 0, none⟩) rfl e23 Try.underlying68 (by kernel_rfl) ⟨_, _, e24, (by omega), rfl⟩ rfl (by omega) (by omega) (by rw [if_pos hfull])).trans (by first | rfl | (rw [show ps.length - (i + 1 : Nat) = ps.length - (i + 1) from (by omega), show c - (i + 1 : Nat) = c - (i + 1) from (by omega)]))) rfl ?_
        refine wpList_nil ?_
        exact norm_put (hK_ (.slice (some ⟨g, 0, none⟩) (ps.length - (i + 1)) (c - (i + 1))) _ ⟨qv_up hV (fun _ h => Option.some.inj h), hE⟩)
      · have h22 : a_.tmps[22]? = some (.slice (some ⟨g, 0, none⟩) i c) := (hval (2, 22) (by decide) (hon 2 (by decide))).trans (congrArg some (hV 2 _ rfl (hon 2 (by decide))))
        have h25 : a_.tmps[25]? = some (.slice (some ⟨g, 0, none⟩) (ps.length - (i + 1)) (c - (i + 1))) := (hval (5, 25) (by decide) (hon 5 (by decide))).trans (congrArg some (hV 5 _ rfl (hon 5 (by decide))))
        obtain ⟨l_, rfl⟩ := hfr
        have hE0 := hE
        rw [show bq_ 6 = false from hb_] at hE0
        simp only [cond_true, cond_false] at hE0
        have HS := hE0
        have e22 : evl l_ (.tmp 22) = .slice (some ⟨g, 0, none⟩) i c := evl_of h22
        have e25 : evl l_ (.tmp 25) = .slice (some ⟨g, 0, none⟩) (ps.length - (i + 1)) (c - (i + 1)) := evl_of h25
        refine ⟨_, rfl, fun K_ hK_ => wp_of_list rfl ?_⟩
        intro ops_
        refine St.wApp2 HS (z := .agg #[.int .i64 0, .slice none 0 0]) (sz := 2) (bytes := 32) (k := 0) Try.underlying68 (by kernel_rfl) rfl (by decide) (n := i) (cap := c) (m := ps.length - (i + 1)) (c := c - (i + 1)) (a := ⟨g, 0, none⟩) (pkC (ps.take i)) (pkC (ps.drop (i + 1))) e22 e25 (by rw [pkC_length, List.length_take]; omega) (pk_pre hi) (by rw [pkC_length, List.length_drop]) (fun j u hu => by rw [List.drop_of_length_le (by omega)] at hu; simp [pkC] at hu) (pk_mem hone (fun q hq => List.mem_of_mem_drop hq)) (by rw [Nat.zero_add, hc3]; omega) (by omega) (by omega) (fun hroom => ?_) (fun hgrow => absurd hgrow (by omega))
        clear HS
        intro w900601 HS
        rw [Nat.zero_add] at HS
        rw [show i + (ps.length - (i + 1)) = ps.length - 1 from by omega]
        refine wpList_nil ?_
        refine norm_put (hK_ (.slice (some ⟨g, 0, none⟩) (ps.length - 1) c) _ ⟨qv_up hV (by intro _ h; cases h), ?_⟩)
        show cond true _ _
        rw [cond_true]
        exact ⟨rfl, HS⟩
      · have h26 := hval (6, 26) (by decide) (hon 6 (by decide))
        obtain ⟨l_, rfl⟩ := hfr
        have hE0 := hE
        rw [show bq_ 6 = true from (hon 6 (by decide))] at hE0
        simp only [cond_true, cond_false] at hE0
        obtain ⟨hv6, HS⟩ := hE0
        rw [hv6] at h26
        have e26 : evl l_ (.tmp 26) = .slice (some ⟨g, 0, none⟩) (ps.length - 1) c := evl_of h26
        refine ⟨_, rfl, fun K_ hK_ => wp_of_list rfl ?_⟩
        intro ops_
        refine p_run (l' := _) _ (x_assign (.slice (some ⟨g, 0, none⟩) (ps.length - 1) c) rfl e26) rfl ?_
        refine wpList_nil ?_
        exact norm_put (hK_ (.slice (some ⟨g, 0, none⟩) (ps.length - 1) c) _ ⟨qv_up hV (fun _ h => Option.some.inj h), hE⟩)
    intro bq_ vq_ w_ hall hG
    obtain ⟨hV, hE⟩ := hG
    clear HS
    rw [show bq_ 6 = true from hall 6 (by decide)] at hE
    simp only [cond_true] at hE
    obtain ⟨hv6, HS⟩ := hE
    have hv0 := hV 0 _ rfl (hall 0 (by decide))
    have hv1 := hV 1 _ rfl (hall 1 (by decide))
    have hv2 := hV 2 _ rfl (hall 2 (by decide))
    have hv3 := hV 3 _ rfl (hall 3 (by decide))
    have hv4 := hV 4 _ rfl (hall 4 (by decide))
    have hv5 := hV 5 _ rfl (hall 5 (by decide))
    have hv7 := hV 7 _ rfl (hall 7 (by decide))
    clear hV hall
    rw [putSel_fr]
    simp only [tells, List.map_cons, List.map_nil, setAll, List.set_cons_succ, List.set_cons_zero, hv0, hv1, hv2, hv3, hv4, hv5, hv6, hv7]
    clear hv0 hv1 hv2 hv3 hv4 hv5 hv6 hv7
    generalize w_ = w900701 at HS ⊢
    refine fr_at (l' := [.slice (some ⟨g, 0, none⟩) (ps.length - 1) c, .int .i64 (i : Int), .int .i64 ((i + 1 : Nat) : Int), undef, undef, undef, .slice none 0 0, .int .i64 (ps.length : Int), .slice (some ⟨g, 0, none⟩) ps.length c, .int .i64 (i : Int), .int .i64 ((i + 1 : Nat) : Int), .slice (some ⟨g, 0, none⟩) ps.length c, .int .i64 (ps.length : Int), .slice (if ps.length = i then some ⟨g, 0, none⟩ else (some (⟨g, 0, none⟩ : Addr)).map (·.add (i * 2))) (i + 1 - i) (ps.length - i), .int .i64 (i : Int), .int .i64 ((i + 1 : Nat) : Int), .bool false, undef, .slice (some ⟨g, 0, none⟩) ps.length c, .int .i64 (ps.length : Int), .slice (some ⟨g, 0, none⟩) ps.length c, .int .i64 (i : Int), .slice (some ⟨g, 0, none⟩) i c, .slice (some ⟨g, 0, none⟩) ps.length c, .int .i64 ((i + 1 : Nat) : Int), .slice (some ⟨g, 0, none⟩) (ps.length - (i + 1)) (c - (i + 1)), .slice (some ⟨g, 0, none⟩) (ps.length - 1) c, undef, undef, undef, undef, undef, undef]) rfl ?_
    refine hK20 _ _ ?_
    refine wp_seq_k (fun K900702 hK900703 => ?_)
    refine c_region (fun ops900705 hops900704 => ?_)
    clear hops900704
    refine p_run (l' := _) _ (x_move (.slice (some ⟨g, 0, none⟩) (ps.length - 1) c) rfl rfl) rfl ?_
    refine p_run (l' := _) _ (x_move (.slice (some ⟨g, 0, none⟩) (ps.length - 1) c) rfl rfl) rfl ?_
    refine p_run (l' := _) _ (x_len rfl rfl Try.underlying68) rfl ?_
    refine p_run (l' := [.slice (some ⟨g, 0, none⟩) (ps.length - 1) c, .int .i64 (i : Int), .int .i64 ((i + 1 : Nat) : Int), undef, undef, undef, .slice none 0 0, .int .i64 (ps.length : Int), .slice (some ⟨g, 0, none⟩) ps.length c, .int .i64 (i : Int), .int .i64 ((i + 1 : Nat) : Int), .slice (some ⟨g, 0, none⟩) ps.length c, .int .i64 (ps.length : Int), .slice (if ps.length = i then some ⟨g, 0, none⟩ else (some (⟨g, 0, none⟩ : Addr)).map (·.add (i * 2))) (i + 1 - i) (ps.length - i), .int .i64 (i : Int), .int .i64 ((i + 1 : Nat) : Int), .bool false, undef, .slice (some ⟨g, 0, none⟩) ps.length c, .int .i64 (ps.length : Int), .slice (some ⟨g, 0, none⟩) ps.length c, .int .i64 (i : Int), .slice (some ⟨g, 0, none⟩) i c, .slice (some ⟨g, 0, none⟩) ps.length c, .int .i64 ((i + 1 : Nat) : Int), .slice (some ⟨g, 0, none⟩) (ps.length - (i + 1)) (c - (i + 1)), .slice (some ⟨g, 0, none⟩) (ps.length - 1) c, .slice (some ⟨g, 0, none⟩) (ps.length - 1) c, .slice (some ⟨g, 0, none⟩) (ps.length - 1) c, .int .i64 ((ps.length - 1 : Nat) : Int), .int .i64 (ps.length : Int), undef, undef]) _ (x_move (.int .i64 (ps.length : Int)) rfl rfl) rfl ?_
    refine p_run (l' := _) (.slice (some ⟨g, (ps.length - 1) * 2, none⟩) 1 (c - (ps.length - 1))) ((x_slice (sz := 2) (L := (some (.tmp 29))) (H := (some (.tmp 30))) (lo := (ps.length - 1 : Nat)) (hi := ps.length) (some ⟨g, (ps.length - 1) * 2, none⟩) rfl rfl Try.underlying68 (by kernel_rfl) ⟨_, _, rfl, (by omega), rfl⟩ ⟨_, _, rfl, (by omega), rfl⟩ (by omega) (by omega) (by rw [if_neg (by omega)]; simp only [Option.map_some, add_mk, Nat.zero_add])).trans (by first | rfl | (rw [show ps.length - (ps.length - 1 : Nat) = 1 from (by omega), show c - (ps.length - 1 : Nat) = c - (ps.length - 1) from (by omega)]))) rfl ?_
    refine St.wClear HS (z := .agg #[.int .i64 0, .slice none 0 0]) 2 Try.underlying68 (by kernel_rfl) rfl (by decide) (n := 1) (k := (ps.length - 1) * 2) rfl (by decide) (by rw [pk_room hi hc3 hc1]; omega) ?_
    clear HS
    intro w900706 HS
    show wpList _ _ _ _ (fr _) _
    rw [zc1, pk_del hi] at HS
    refine wpList_nil ?_
    refine fr_at (l' := [.slice (some ⟨g, 0, none⟩) (ps.length - 1) c, .int .i64 (i : Int), .int .i64 ((i + 1 : Nat) : Int), undef, undef, undef, .slice none 0 0, .int .i64 (ps.length : Int), .slice (some ⟨g, 0, none⟩) ps.length c, .int .i64 (i : Int), .int .i64 ((i + 1 : Nat) : Int), .slice (some ⟨g, 0, none⟩) ps.length c, .int .i64 (ps.length : Int), .slice (if ps.length = i then some ⟨g, 0, none⟩ else (some (⟨g, 0, none⟩ : Addr)).map (·.add (i * 2))) (i + 1 - i) (ps.length - i), .int .i64 (i : Int), .int .i64 ((i + 1 : Nat) : Int), .bool false, undef, .slice (some ⟨g, 0, none⟩) ps.length c, .int .i64 (ps.length : Int), .slice (some ⟨g, 0, none⟩) ps.length c, .int .i64 (i : Int), .slice (some ⟨g, 0, none⟩) i c, .slice (some ⟨g, 0, none⟩) ps.length c, .int .i64 ((i + 1 : Nat) : Int), .slice (some ⟨g, 0, none⟩) (ps.length - (i + 1)) (c - (i + 1)), .slice (some ⟨g, 0, none⟩) (ps.length - 1) c, .slice (some ⟨g, 0, none⟩) (ps.length - 1) c, .slice (some ⟨g, 0, none⟩) (ps.length - 1) c, .int .i64 ((ps.length - 1 : Nat) : Int), .int .i64 (ps.length : Int), .slice (some ⟨g, (ps.length - 1) * 2, none⟩) 1 (c - (ps.length - 1)), undef]) rfl ?_
    refine hK900703 _ _ ?_
    refine wp_seq_k (fun K900707 hK900708 => ?_)
    refine c_region (fun ops900710 hops900709 => ?_)
    clear hops900709
    refine p_run (l' := _) _ (x_move (.slice (some ⟨g, 0, none⟩) (ps.length - 1) c) rfl rfl) rfl ?_
    refine p_run (l' := _) _ (x_assign (.slice (some ⟨g, 0, none⟩) (ps.length - 1) c) rfl rfl) rfl ?_
    refine wpList_nil ?_
    refine fr_at (l' := [.slice (some ⟨g, 0, none⟩) (ps.length - 1) c, .int .i64 (i : Int), .int .i64 ((i + 1 : Nat) : Int), undef, undef, undef, .slice (some ⟨g, 0, none⟩) (ps.length - 1) c, .int .i64 (ps.length : Int), .slice (some ⟨g, 0, none⟩) ps.length c, .int .i64 (i : Int), .int .i64 ((i + 1 : Nat) : Int), .slice (some ⟨g, 0, none⟩) ps.length c, .int .i64 (ps.length : Int), .slice (if ps.length = i then some ⟨g, 0, none⟩ else (some (⟨g, 0, none⟩ : Addr)).map (·.add (i * 2))) (i + 1 - i) (ps.length - i), .int .i64 (i : Int), .int .i64 ((i + 1 : Nat) : Int), .bool false, undef, .slice (some ⟨g, 0, none⟩) ps.length c, .int .i64 (ps.length : Int), .slice (some ⟨g, 0, none⟩) ps.length c, .int .i64 (i : Int), .slice (some ⟨g, 0, none⟩) i c, .slice (some ⟨g, 0, none⟩) ps.length c, .int .i64 ((i + 1 : Nat) : Int), .slice (some ⟨g, 0, none⟩) (ps.length - (i + 1)) (c - (i + 1)), .slice (some ⟨g, 0, none⟩) (ps.length - 1) c, .slice (some ⟨g, 0, none⟩) (ps.length - 1) c, .slice (some ⟨g, 0, none⟩) (ps.length - 1) c, .int .i64 ((ps.length - 1 : Nat) : Int), .int .i64 (ps.length : Int), .slice (some ⟨g, (ps.length - 1) * 2, none⟩) 1 (c - (ps.length - 1)), .slice (some ⟨g, 0, none⟩) (ps.length - 1) c]) rfl ?_
    refine hK900708 _ _ ?_
    refine wp_ret ?_
    try simp only [Exit.inBlock, Exit.then]
    refine c_ret (.slice (some ⟨g, 0, none⟩) (ps.length - 1) c) (r_tmp rfl rfl) ?_
    exact ⟨rfl, HS⟩
  · skip
    refine c_enter Try.func45 rfl 33 rfl [.slice (some ⟨g, 0, none⟩) ps.length c, .int .i64 (i : Int), .int .i64 ((i + 1 : Nat) : Int), undef, undef, undef, undef, undef, undef, undef, undef, undef, undef, undef, undef, undef, undef, undef, undef, undef, undef, undef, undef, undef, undef, undef, undef, undef, undef, undef, undef, undef, undef] rfl ?_
    refine wp_seq_k (fun K1 hK2 => ?_)
    refine c_region (fun ops4 hops3 => ?_)
    clear hops3
    refine p_run (l' := _) _ (x_assign (.slice none 0 0) rfl rfl) rfl ?_
    refine wpList_nil ?_
    refine fr_at (l' := [.slice (some ⟨g, 0, none⟩) ps.length c, .int .i64 (i : Int), .int .i64 ((i + 1 : Nat) : Int), undef, undef, undef, .slice none 0 0, undef, undef, undef, undef, undef, undef, undef, undef, undef, undef, undef, undef, undef, undef, undef, undef, undef, undef, undef, undef, undef, undef, undef, undef, undef, undef]) rfl ?_
    refine hK2 _ _ ?_
    refine wp_seq_k (fun K5 hK6 => ?_)
    refine c_region (fun ops8 hops7 => ?_)
    clear hops7
    refine p_run (l' := _) _ (x_move (.slice (some ⟨g, 0, none⟩) ps.length c) rfl rfl) rfl ?_
    refine p_run (l' := _) _ (x_move (.int .i64 (i : Int)) rfl rfl) rfl ?_
    refine p_run (l' := _) _ (x_move (.int .i64 ((i + 1 : Nat) : Int)) rfl rfl) rfl ?_
    refine p_run (l' := [.slice (some ⟨g, 0, none⟩) ps.length c, .int .i64 (i : Int), .int .i64 ((i + 1 : Nat) : Int), undef, undef, undef, .slice none 0 0, undef, .slice (some ⟨g, 0, none⟩) ps.length c, .int .i64 (i : Int), .int .i64 ((i + 1 : Nat) : Int), .slice (some ⟨g, 0, none⟩) ps.length c, undef, undef, undef, undef, undef, undef, undef, undef, undef, undef, undef, undef, undef, undef, undef, undef, undef, undef, undef, undef, undef]) _ (x_move (.slice (some ⟨g, 0, none⟩) ps.length c) rfl rfl) rfl ?_
    refine p_run (l' := _) _ (x_len rfl rfl Try.underlying68) rfl ?_
    refine p_run (l' := _) (.slice (if ps.length = i then some ⟨g, 0, none⟩ else (some (⟨g, 0, none⟩ : Addr)).map (·.add (i * 2))) (i + 1 - i) (ps.length - i)) (x_slice3 (sz := 2) (lo := i) (hi := i + 1) (mx := ps.length) _ rfl rfl Try.underlying68 (by kernel_rfl) rfl rfl rfl (by omega) (by omega) (by omega) rfl) rfl ?_
    refine wpList_nil ?_
    refine fr_at (l' := [.slice (some ⟨g, 0, none⟩) ps.length c, .int .i64 (i : Int), .int .i64 ((i + 1 : Nat) : Int), undef, undef, undef, .slice none 0 0, undef, .slice (some ⟨g, 0, none⟩) ps.length c, .int .i64 (i : Int), .int .i64 ((i + 1 : Nat) : Int), .slice (some ⟨g, 0, none⟩) ps.length c, .int .i64 (ps.length : Int), .slice (if ps.length = i then some ⟨g, 0, none⟩ else (some (⟨g, 0, none⟩ : Addr)).map (·.add (i * 2))) (i + 1 - i) (ps.length - i), undef, undef, undef, undef, undef, undef, undef, undef, undef, undef, undef, undef, undef, undef, undef, undef, undef, undef, undef]) rfl ?_
    refine hK6 _ _ ?_
    refine wp_seq_k (fun K9 hK10 => ?_)
    refine wp_seq_k (fun K11 hK12 => ?_)
    refine c_region (fun ops14 hops13 => ?_)
    clear hops13
    refine p_run (l' := _) _ (x_move (.int .i64 (i : Int)) rfl rfl) rfl ?_
    refine p_run (l' := _) _ (x_move (.int .i64 ((i + 1 : Nat) : Int)) rfl rfl) rfl ?_
    refine p_run (l' := _) _ (x_cmp (k := .i64) (m := (i : Int)) (n := ((i + 1 : Nat) : Int)) .eql false rfl rfl rfl (by unfold cmpB; simp; omega) rfl) rfl ?_
    refine wpList_nil ?_
    refine fr_at (l' := [.slice (some ⟨g, 0, none⟩) ps.length c, .int .i64 (i : Int), .int .i64 ((i + 1 : Nat) : Int), undef, undef, undef, .slice none 0 0, undef, .slice (some ⟨g, 0, none⟩) ps.length c, .int .i64 (i : Int), .int .i64 ((i + 1 : Nat) : Int), .slice (some ⟨g, 0, none⟩) ps.length c, .int .i64 (ps.length : Int), .slice (if ps.length = i then some ⟨g, 0, none⟩ else (some (⟨g, 0, none⟩ : Addr)).map (·.add (i * 2))) (i + 1 - i) (ps.length - i), .int .i64 (i : Int), .int .i64 ((i + 1 : Nat) : Int), .bool false, undef, undef, undef, undef, undef, undef, undef, undef, undef, undef, undef, undef, undef, undef, undef, undef]) rfl ?_
    refine hK12 _ _ ?_
    refine c_false rfl ?_
    refine wp_skip ?_
    refine hK10 _ _ ?_
    refine wp_seq_k (fun K15 hK16 => ?_)
    refine c_region (fun ops18 hops17 => ?_)
    clear hops17
    refine p_run (l' := _) _ (x_move (.slice (some ⟨g, 0, none⟩) ps.length c) rfl rfl) rfl ?_
    refine p_run (l' := _) _ (x_len rfl rfl Try.underlying68) rfl ?_
    refine p_run (l' := _) _ (x_assign (.int .i64 (ps.length : Int)) rfl rfl) rfl ?_
    refine wpList_nil ?_
    refine fr_at (l' := [.slice (some ⟨g, 0, none⟩) ps.length c, .int .i64 (i : Int), .int .i64 ((i + 1 : Nat) : Int), undef, undef, undef, .slice none 0 0, .int .i64 (ps.length : Int), .slice (some ⟨g, 0, none⟩) ps.length c, .int .i64 (i : Int), .int .i64 ((i + 1 : Nat) : Int), .slice (some ⟨g, 0, none⟩) ps.length c, .int .i64 (ps.length : Int), .slice (if ps.length = i then some ⟨g, 0, none⟩ else (some (⟨g, 0, none⟩ : Addr)).map (·.add (i * 2))) (i + 1 - i) (ps.length - i), .int .i64 (i : Int), .int .i64 ((i + 1 : Nat) : Int), .bool false, undef, .slice (some ⟨g, 0, none⟩) ps.length c, .int .i64 (ps.length : Int), undef, undef, undef, undef, undef, undef, undef, undef, undef, undef, undef, undef, undef]) rfl ?_
    refine hK16 _ _ ?_
    refine wp_seq_k (fun K19 hK20 => ?_)
    refine free_frame2 (n := 8) (T := _) [0, 0, 3, 0, 0, 24, 63, 127] [(0, 20), (1, 21), (2, 22), (3, 23), (4, 24), (5, 25), (6, 26), (7, 0)] (fun bq_ vq_ w_ => qv ((fun i_ => match i_ with | 0 => some (.slice (some ⟨g, 0, none⟩) ps.length c) | 1 => some (.int .i64 (i : Int)) | 2 => some (.slice (some ⟨g, 0, none⟩) i c) | 3 => some (.slice (some ⟨g, 0, none⟩) ps.length c) | 4 => some (.int .i64 ((i + 1 : Nat) : Int)) | 5 => some (.slice (some ⟨g, (i + 1) * 2, none⟩) (ps.length - (i + 1)) (c - (i + 1))) | 7 => some (.slice (some ⟨g, 0, none⟩) (ps.length - 1) c) | _ => none) : Nat → Option Value) bq_ vq_ ∧ cond (bq_ 6) (vq_ 6 = .slice (some ⟨g, 0, none⟩) (ps.length - 1) c ∧ St w0 F w_ (blk g ((lay (pkC ps ++ sp) (i * 2) (pkC (ps.drop (i + 1))))) 75 :: L)) ((St w0 F w_ (blk g ((pkC ps ++ sp)) 75 :: L)))) (by kernel_rfl) rfl rfl (by kernel_rfl) (by kernel_rfl) rfl (by kernel_rfl) (by kernel_rfl) ⟨qv_none, HS.draw⟩ ?_ ?_
    · clear HS
      intro i_ hi_ bq_ vq_ a_ w_ hG hb_ hon hoff hfr hel hval hno
      obtain ⟨hV, hE⟩ := hG
      have hi_ := List.mem_range.1 hi_
      have hcs : i_ = 0 ∨ i_ = 1 ∨ i_ = 2 ∨ i_ = 3 ∨ i_ = 4 ∨ i_ = 5 ∨ i_ = 6 ∨ i_ = 7 := by omega
      rcases hcs with rfl | rfl | rfl | rfl | rfl | rfl | rfl | rfl
      · have h0 : a_.tmps[0]? = some (.slice (some ⟨g, 0, none⟩) ps.length c) := (hno 7 0 (hoff 7 (by decide)) (by decide)).trans rfl
        obtain ⟨l_, rfl⟩ := hfr
        have e0 : evl l_ (.tmp 0) = .slice (some ⟨g, 0, none⟩) ps.length c := evl_of h0
        refine ⟨_, rfl, fun K_ hK_ => wp_of_list rfl ?_⟩
        intro ops_
        refine p_run (l' := _) _ (x_move (.slice (some ⟨g, 0, none⟩) ps.length c) rfl e0) rfl ?_
        refine wpList_nil ?_
        exact norm_put (hK_ (.slice (some ⟨g, 0, none⟩) ps.length c) _ ⟨qv_up hV (fun _ h => Option.some.inj h), hE⟩)
      · have h1 : a_.tmps[1]? = some (.int .i64 (i : Int)) := (hel 1 (by decide)).trans rfl
        obtain ⟨l_, rfl⟩ := hfr
        have e1 : evl l_ (.tmp 1) = .int .i64 (i : Int) := evl_of h1
        refine ⟨_, rfl, fun K_ hK_ => wp_of_list rfl ?_⟩
        intro ops_
        refine p_run (l' := _) _ (x_move (.int .i64 (i : Int)) rfl e1) rfl ?_
        refine wpList_nil ?_
        exact norm_put (hK_ (.int .i64 (i : Int)) _ ⟨qv_up hV (fun _ h => Option.some.inj h), hE⟩)
      · have h20 : a_.tmps[20]? = some (.slice (some ⟨g, 0, none⟩) ps.length c) := (hval (0, 20) (by decide) (hon 0 (by decide))).trans (congrArg some (hV 0 _ rfl (hon 0 (by decide))))
        have h21 : a_.tmps[21]? = some (.int .i64 (i : Int)) := (hval (1, 21) (by decide) (hon 1 (by decide))).trans (congrArg some (hV 1 _ rfl (hon 1 (by decide))))
        obtain ⟨l_, rfl⟩ := hfr
        have e20 : evl l_ (.tmp 20) = .slice (some ⟨g, 0, none⟩) ps.length c := evl_of h20
        have e21 : evl l_ (.tmp 21) = .int .i64 (i : Int) := evl_of h21
        refine ⟨_, rfl, fun K_ hK_ => wp_of_list rfl ?_⟩
        intro ops_
        refine p_run (l' := _) (.slice (some ⟨g, 0, none⟩) i c) ((x_slice (sz := 2) (L := none) (H := (some (.tmp 21))) (lo := 0) (hi := i) (some ⟨g, 0, none⟩) rfl e20 Try.underlying68 (by kernel_rfl) rfl ⟨_, _, e21, (by omega), rfl⟩ (by omega) (by omega) (by split; rfl; rw [Option.map_some, add_mk])).trans rfl) rfl ?_
        refine wpList_nil ?_
        exact norm_put (hK_ (.slice (some ⟨g, 0, none⟩) i c) _ ⟨qv_up hV (fun _ h => Option.some.inj h), hE⟩)
      · have h0 : a_.tmps[0]? = some (.slice (some ⟨g, 0, none⟩) ps.length c) := (hno 7 0 (hoff 7 (by decide)) (by decide)).trans rfl
        obtain ⟨l_, rfl⟩ := hfr
        have e0 : evl l_ (.tmp 0) = .slice (some ⟨g, 0, none⟩) ps.length c := evl_of h0
        refine ⟨_, rfl, fun K_ hK_ => wp_of_list rfl ?_⟩
        intro ops_
        refine p_run (l' := _) _ (x_move (.slice (some ⟨g, 0, none⟩) ps.length c) rfl e0) rfl ?_
        refine wpList_nil ?_
        exact norm_put (hK_ (.slice (some ⟨g, 0, none⟩) ps.length c) _ ⟨qv_up hV (fun _ h => Option.some.inj h), hE⟩)
      · have h2 : a_.tmps[2]? = some (.int .i64 ((i + 1 : Nat) : Int)) := (hel 2 (by decide)).trans rfl
        obtain ⟨l_, rfl⟩ := hfr
        have e2 : evl l_ (.tmp 2) = .int .i64 ((i + 1 : Nat) : Int) := evl_of h2
        refine ⟨_, rfl, fun K_ hK_ => wp_of_list rfl ?_⟩
        intro ops_
        refine p_run (l' := _) _ (x_move (.int .i64 ((i + 1 : Nat) : Int)) rfl e2) rfl ?_
        refine wpList_nil ?_
        exact norm_put (hK_ (.int .i64 ((i + 1 : Nat) : Int)) _ ⟨qv_up hV (fun _ h => Option.some.inj h), hE⟩)
      · have h23 : a_.tmps[23]? = some (.slice (some ⟨g, 0, none⟩) ps.length c) := (hval (3, 23) (by decide) (hon 3 (by decide))).trans (congrArg some (hV 3 _ rfl (hon 3 (by decide))))
        have h24 : a_.tmps[24]? = some (.int .i64 ((i + 1 : Nat) : Int)) := (hval (4, 24) (by decide) (hon 4 (by decide))).trans (congrArg some (hV 4 _ rfl (hon 4 (by decide))))
        obtain ⟨l_, rfl⟩ := hfr
        have e23 : evl l_ (.tmp 23) = .slice (some ⟨g, 0, none⟩) ps.length c := evl_of h23
        have e24 : evl l_ (.tmp 24) = .int .i64 ((i + 1 : Nat) : Int) := evl_of h24
        refine ⟨_, rfl, fun K_ hK_ => wp_of_list rfl ?_⟩
        intro ops_
        refine p_run (l' := _) (.slice (some ⟨g, (i + 1) * 2, none⟩) (ps.length - (i + 1)) (c - (i + 1))) ((x_slice (sz := 2) (L := (some (.tmp 24))) (H := none) (lo := (i + 1 : Nat)) (hi := ps.length) (some ⟨g, (i + 1) * 2, none⟩) rfl e23 Try.underlying68 (by kernel_rfl) ⟨_, _, e24, (by omega), rfl⟩ rfl (by omega) (by omega) (by rw [if_neg hfull]; simp only [Option.map_some, add_mk, Nat.zero_add])).trans (by first | rfl | (rw [show ps.length - (i + 1 : Nat) = ps.length - (i + 1) from (by omega), show c - (i + 1 : Nat) = c - (i + 1) from (by omega)]))) rfl ?_
        refine wpList_nil ?_
        exact norm_put (hK_ (.slice (some ⟨g, (i + 1) * 2, none⟩) (ps.length - (i + 1)) (c - (i + 1))) _ ⟨qv_up hV (fun _ h => Option.some.inj h), hE⟩)
      · have h22 : a_.tmps[22]? = some (.slice (some ⟨g, 0, none⟩) i c) := (hval (2, 22) (by decide) (hon 2 (by decide))).trans (congrArg some (hV 2 _ rfl (hon 2 (by decide))))
        have h25 : a_.tmps[25]? = some (.slice (some ⟨g, (i + 1) * 2, none⟩) (ps.length - (i + 1)) (c - (i + 1))) := (hval (5, 25) (by decide) (hon 5 (by decide))).trans (congrArg some (hV 5 _ rfl (hon 5 (by decide))))
        obtain ⟨l_, rfl⟩ := hfr
        have hE0 := hE
        rw [show bq_ 6 = false from hb_] at hE0
        simp only [cond_true, cond_false] at hE0
        have HS := hE0
        have e22 : evl l_ (.tmp 22) = .slice (some ⟨g, 0, none⟩) i c := evl_of h22
        have e25 : evl l_ (.tmp 25) = .slice (some ⟨g, (i + 1) * 2, none⟩) (ps.length - (i + 1)) (c - (i + 1)) := evl_of h25
        refine ⟨_, rfl, fun K_ hK_ => wp_of_list rfl ?_⟩
        intro ops_
        refine St.wApp2 HS (z := .agg #[.int .i64 0, .slice none 0 0]) (sz := 2) (bytes := 32) (k := 0) Try.underlying68 (by kernel_rfl) rfl (by decide) (n := i) (cap := c) (m := ps.length - (i + 1)) (c := c - (i + 1)) (a := ⟨g, (i + 1) * 2, none⟩) (pkC (ps.take i)) (pkC (ps.drop (i + 1))) e22 e25 (by rw [pkC_length, List.length_take]; omega) (pk_pre hi) (by rw [pkC_length, List.length_drop]) (pk_post HS.hs.head hi) (pk_mem hone (fun q hq => List.mem_of_mem_drop hq)) (by rw [Nat.zero_add, hc3]; omega) (by omega) (by omega) (fun hroom => ?_) (fun hgrow => absurd hgrow (by omega))
        clear HS
        intro w900601 HS
        rw [Nat.zero_add] at HS
        rw [show i + (ps.length - (i + 1)) = ps.length - 1 from by omega]
        refine wpList_nil ?_
        refine norm_put (hK_ (.slice (some ⟨g, 0, none⟩) (ps.length - 1) c) _ ⟨qv_up hV (by intro _ h; cases h), ?_⟩)
        show cond true _ _
        rw [cond_true]
        exact ⟨rfl, HS⟩
      · have h26 := hval (6, 26) (by decide) (hon 6 (by decide))
        obtain ⟨l_, rfl⟩ := hfr
        have hE0 := hE
        rw [show bq_ 6 = true from (hon 6 (by decide))] at hE0
        simp only [cond_true, cond_false] at hE0
        obtain ⟨hv6, HS⟩ := hE0
        rw [hv6] at h26
        have e26 : evl l_ (.tmp 26) = .slice (some ⟨g, 0, none⟩) (ps.length - 1) c := evl_of h26
        refine ⟨_, rfl, fun K_ hK_ => wp_of_list rfl ?_⟩
        intro ops_
        refine p_run (l' := _) _ (x_assign (.slice (some ⟨g, 0, none⟩) (ps.length - 1) c) rfl e26) rfl ?_
        refine wpList_nil ?_
        exact norm_put (hK_ (.slice (some ⟨g, 0, none⟩) (ps.length - 1) c) _ ⟨qv_up hV (fun _ h => Option.some.inj h), hE⟩)
    intro bq_ vq_ w_ hall hG
    obtain ⟨hV, hE⟩ := hG
    clear HS
    rw [show bq_ 6 = true from hall 6 (by decide)] at hE
    simp only [cond_true] at hE
    obtain ⟨hv6, HS⟩ := hE
    have hv0 := hV 0 _ rfl (hall 0 (by decide))
    have hv1 := hV 1 _ rfl (hall 1 (by decide))
    have hv2 := hV 2 _ rfl (hall 2 (by decide))
    have hv3 := hV 3 _ rfl (hall 3 (by decide))
    have hv4 := hV 4 _ rfl (hall 4 (by decide))
    have hv5 := hV 5 _ rfl (hall 5 (by decide))
    have hv7 := hV 7 _ rfl (hall 7 (by decide))
    clear hV hall
    rw [putSel_fr]
    simp only [tells, List.map_cons, List.map_nil, setAll, List.set_cons_succ, List.set_cons_zero, hv0, hv1, hv2, hv3, hv4, hv5, hv6, hv7]
    clear hv0 hv1 hv2 hv3 hv4 hv5 hv6 hv7
    generalize w_ = w900701 at HS ⊢
    refine fr_at (l' := [.slice (some ⟨g, 0, none⟩) (ps.length - 1) c, .int .i64 (i : Int), .int .i64 ((i + 1 : Nat) : Int), undef, undef, undef, .slice none 0 0, .int .i64 (ps.length : Int), .slice (some ⟨g, 0, none⟩) ps.length c, .int .i64 (i : Int), .int .i64 ((i + 1 : Nat) : Int), .slice (some ⟨g, 0, none⟩) ps.length c, .int .i64 (ps.length : Int), .slice (if ps.length = i then some ⟨g, 0, none⟩ else (some (⟨g, 0, none⟩ : Addr)).map (·.add (i * 2))) (i + 1 - i) (ps.length - i), .int .i64 (i : Int), .int .i64 ((i + 1 : Nat) : Int), .bool false, undef, .slice (some ⟨g, 0, none⟩) ps.length c, .int .i64 (ps.length : Int), .slice (some ⟨g, 0, none⟩) ps.length c, .int .i64 (i : Int), .slice (some ⟨g, 0, none⟩) i c, .slice (some ⟨g, 0, none⟩) ps.length c, .int .i64 ((i + 1 : Nat) : Int), .slice (some ⟨g, (i + 1) * 2, none⟩) (ps.length - (i + 1)) (c - (i + 1)), .slice (some ⟨g, 0, none⟩) (ps.length - 1) c, undef, undef, undef, undef, undef, undef]) rfl ?_
    refine hK20 _ _ ?_
    refine wp_seq_k (fun K900702 hK900703 => ?_)
    refine c_region (fun ops900705 hops900704 => ?_)
    clear hops900704
    refine p_run (l' := _) _ (x_move (.slice (some ⟨g, 0, none⟩) (ps.length - 1) c) rfl rfl) rfl ?_
    refine p_run (l' := _) _ (x_move (.slice (some ⟨g, 0, none⟩) (ps.length - 1) c) rfl rfl) rfl ?_
    refine p_run (l' := _) _ (x_len rfl rfl Try.underlying68) rfl ?_
    refine p_run (l' := [.slice (some ⟨g, 0, none⟩) (ps.length - 1) c, .int .i64 (i : Int), .int .i64 ((i + 1 : Nat) : Int), undef, undef, undef, .slice none 0 0, .int .i64 (ps.length : Int), .slice (some ⟨g, 0, none⟩) ps.length c, .int .i64 (i : Int), .int .i64 ((i + 1 : Nat) : Int), .slice (some ⟨g, 0, none⟩) ps.length c, .int .i64 (ps.length : Int), .slice (if ps.length = i then some ⟨g, 0, none⟩ else (some (⟨g, 0, none⟩ : Addr)).map (·.add (i * 2))) (i + 1 - i) (ps.length - i), .int .i64 (i : Int), .int .i64 ((i + 1 : Nat) : Int), .bool false, undef, .slice (some ⟨g, 0, none⟩) ps.length c, .int .i64 (ps.length : Int), .slice (some ⟨g, 0, none⟩) ps.length c, .int .i64 (i : Int), .slice (some ⟨g, 0, none⟩) i c, .slice (some ⟨g, 0, none⟩) ps.length c, .int .i64 ((i + 1 : Nat) : Int), .slice (some ⟨g, (i + 1) * 2, none⟩) (ps.length - (i + 1)) (c - (i + 1)), .slice (some ⟨g, 0, none⟩) (ps.length - 1) c, .slice (some ⟨g, 0, none⟩) (ps.length - 1) c, .slice (some ⟨g, 0, none⟩) (ps.length - 1) c, .int .i64 ((ps.length - 1 : Nat) : Int), .int .i64 (ps.length : Int), undef, undef]) _ (x_move (.int .i64 (ps.length : Int)) rfl rfl) rfl ?_
    refine p_run (l' := _) (.slice (some ⟨g, (ps.length - 1) * 2, none⟩) 1 (c - (ps.length - 1))) ((x_slice (sz := 2) (L := (some (.tmp 29))) (H := (some (.tmp 30))) (lo := (ps.length - 1 : Nat)) (hi := ps.length) (some ⟨g, (ps.length - 1) * 2, none⟩) rfl rfl Try.underlying68 (by kernel_rfl) ⟨_, _, rfl, (by omega), rfl⟩ ⟨_, _, rfl, (by omega), rfl⟩ (by omega) (by omega) (by rw [if_neg (by omega)]; simp only [Option.map_some, add_mk, Nat.zero_add])).trans (by first | rfl | (rw [show ps.length - (ps.length - 1 : Nat) = 1 from (by omega), show c - (ps.length - 1 : Nat) = c - (ps.length - 1) from (by omega)]))) rfl ?_
    refine St.wClear HS (z := .agg #[.int .i64 0, .slice none 0 0]) 2 Try.underlying68 (by kernel_rfl) rfl (by decide) (n := 1) (k := (ps.length - 1) * 2) rfl (by decide) (by rw [pk_room hi hc3 hc1]; omega) ?_
    clear HS
    intro w900706 HS
    show wpList _ _ _ _ (fr _) _
    rw [zc1, pk_del hi] at HS
    refine wpList_nil ?_
    refine fr_at (l' := [.slice (some ⟨g, 0, none⟩) (ps.length - 1) c, .int .i64 (i : Int), .int .i64 ((i + 1 : Nat) : Int), undef, undef, undef, .slice none 0 0, .int .i64 (ps.length : Int), .slice (some ⟨g, 0, none⟩) ps.length c, .int .i64 (i : Int), .int .i64 ((i + 1 : Nat) : Int), .slice (some ⟨g, 0, none⟩) ps.length c, .int .i64 (ps.length : Int), .slice (if ps.length = i then some ⟨g, 0, none⟩ else (some (⟨g, 0, none⟩ : Addr)).map (·.add (i * 2))) (i + 1 - i) (ps.length - i), .int .i64 (i : Int), .int .i64 ((i + 1 : Nat) : Int), .bool false, undef, .slice (some ⟨g, 0, none⟩) ps.length c, .int .i64 (ps.length : Int), .slice (some ⟨g, 0, none⟩) ps.length c, .int .i64 (i : Int), .slice (some ⟨g, 0, none⟩) i c, .slice (some ⟨g, 0, none⟩) ps.length c, .int .i64 ((i + 1 : Nat) : Int), .slice (some ⟨g, (i + 1) * 2, none⟩) (ps.length - (i + 1)) (c - (i + 1)), .slice (some ⟨g, 0, none⟩) (ps.length - 1) c, .slice (some ⟨g, 0, none⟩) (ps.length - 1) c, .slice (some ⟨g, 0, none⟩) (ps.length - 1) c, .int .i64 ((ps.length - 1 : Nat) : Int), .int .i64 (ps.length : Int), .slice (some ⟨g, (ps.length - 1) * 2, none⟩) 1 (c - (ps.length - 1)), undef]) rfl ?_
    refine hK900703 _ _ ?_
    refine wp_seq_k (fun K900707 hK900708 => ?_)
    refine c_region (fun ops900710 hops900709 => ?_)
    clear hops900709
    refine p_run (l' := _) _ (x_move (.slice (some ⟨g, 0, none⟩) (ps.length - 1) c) rfl rfl) rfl ?_
    refine p_run (l' := _) _ (x_assign (.slice (some ⟨g, 0, none⟩) (ps.length - 1) c) rfl rfl) rfl ?_
    refine wpList_nil ?_
    refine fr_at (l' := [.slice (some ⟨g, 0, none⟩) (ps.length - 1) c, .int .i64 (i : Int), .int .i64 ((i + 1 : Nat) : Int), undef, undef, undef, .slice (some ⟨g, 0, none⟩) (ps.length - 1) c, .int .i64 (ps.length : Int), .slice (some ⟨g, 0, none⟩) ps.length c, .int .i64 (i : Int), .int .i64 ((i + 1 : Nat) : Int), .slice (some ⟨g, 0, none⟩) ps.length c, .int .i64 (ps.length : Int), .slice (if ps.length = i then some ⟨g, 0, none⟩ else (some (⟨g, 0, none⟩ : Addr)).map (·.add (i * 2))) (i + 1 - i) (ps.length - i), .int .i64 (i : Int), .int .i64 ((i + 1 : Nat) : Int), .bool false, undef, .slice (some ⟨g, 0, none⟩) ps.length c, .int .i64 (ps.length : Int), .slice (some ⟨g, 0, none⟩) ps.length c, .int .i64 (i : Int), .slice (some ⟨g, 0, none⟩) i c, .slice (some ⟨g, 0, none⟩) ps.length c, .int .i64 ((i + 1 : Nat) : Int), .slice (some ⟨g, (i + 1) * 2, none⟩) (ps.length - (i + 1)) (c - (i + 1)), .slice (some ⟨g, 0, none⟩) (ps.length - 1) c, .slice (some ⟨g, 0, none⟩) (ps.length - 1) c, .slice (some ⟨g, 0, none⟩) (ps.length - 1) c, .int .i64 ((ps.length - 1 : Nat) : Int), .int .i64 (ps.length : Int), .slice (some ⟨g, (ps.length - 1) * 2, none⟩) 1 (c - (ps.length - 1)), .slice (some ⟨g, 0, none⟩) (ps.length - 1) c]) rfl ?_
    refine hK900708 _ _ ?_
    refine wp_ret ?_
    try simp only [Exit.inBlock, Exit.then]
    refine c_ret (.slice (some ⟨g, 0, none⟩) (ps.length - 1) c) (r_tmp rfl rfl) ?_
    exact ⟨rfl, HS⟩

theorem nDel_n {ps : List (Int × Value)} {sp : List Value} {g i c n : Nat} (HS : St w0 F W (blk g (pkC ps ++ sp) 75 :: L)) (hn : n = ps.length) (hi : i < ps.length) (hc1 : ps.length ≤ c) (hc2 : c ≤ 9223372036854775807) (hc3 : (pkC ps ++ sp).length = c * 2) (hone : ∀ p ∈ ps, p.2.oneCell' = true) (hsm : ps.length ≤ 1000) :
    Calls Try.prog 45 #[.slice (some ⟨g, 0, none⟩) n c, .int .i64 (i : Int), .int .i64 ((i + 1 : Nat) : Int)] W fun e w' => e = .returned (.slice (some ⟨g, 0, none⟩) (n - 1) c) ∧ St w0 F w' (blk g (pkC (ps.eraseIdx i) ++ ([.int .i64 0, .slice none 0 0] ++ sp)) 75 :: L) := by
  subst hn
  exact nDel_any HS hi hc1 hc2 hc3 hone hsm
end
end Go.Proofs.Ytckfcnclekjjdaa
