/- record's writer; Bytes. -/
import Derived.Test.YtkiiangookibnaaZRecordTellsFr3
set_option linter.unusedVariables false
set_option linter.unusedSimpArgs false
namespace Go.Proofs.Ytkiiangookibnaa
open Go.RowKit Go.Proofs.YtkiiangookibnaaW.PrintWords Go.Proofs.YtkiiangookibnaaW.PrintLast
abbrev U4k2 (l : List Value) : List Value := undef :: undef :: undef :: undef :: l
abbrev U8k2 (l : List Value) : List Value := U4k2 (U4k2 l)
abbrev U16k2 (l : List Value) : List Value := U8k2 (U8k2 l)
abbrev U32k2 (l : List Value) : List Value := U16k2 (U16k2 l)
abbrev U64k2 (l : List Value) : List Value := U32k2 (U32k2 l)
set_option maxRecDepth 10000 in
theorem up_any (w : World) (x : Int) (h : -1 ≤ x ∧ x < 1000) : Calls Try.prog 24 #[.int .i64 x] w fun e w' => e = .returned (.int .u64 (uv (UInt64.ofNat (x + 1).toNat))) ∧ Below w.heap.size w w' := by
  have HS := St.empty w
  · skip
    refine c_enter Try.func24 rfl 6 rfl [.int .i64 x, undef, undef, undef, undef, undef] rfl ?_
    refine wp_seq_k (fun K1 hK2 => ?_)
    refine c_region (fun ops4 hops3 => ?_)
    clear hops3
    refine p_run _ (x_assign (.int .u64 0) rfl rfl) rfl ?_
    refine wpList_nil ?_
    refine hK2 _ _ ?_
    refine wp_seq_k (fun K5 hK6 => ?_)
    refine c_region (fun ops8 hops7 => ?_)
    clear hops7
    refine p_run _ (x_move (.int .i64 x) rfl rfl) rfl ?_
    refine p_run _ (x_arith (k := .i64) (m := x) (n := 1) .add ((x + 1)) rfl rfl rfl (show IntKind.i64.wrap (x + 1) = (x + 1) from (wr64' (by omega))) rfl) rfl ?_
    refine p_run _ (x_conv (k := .i64) (m := (x + 1)) .u64 ((uv (UInt64.ofNat (x + 1).toNat))) rfl (by rw [Try.underlying3]; rfl) Try.underlying30 rfl (u32_conv (by omega) (by omega))) rfl ?_
    refine p_run _ (x_assign (.int .u64 (uv (UInt64.ofNat (x + 1).toNat))) rfl rfl) rfl ?_
    refine wpList_nil ?_
    refine fr_at (l' := [.int .i64 x, undef, .int .u64 (uv (UInt64.ofNat (x + 1).toNat)), .int .i64 x, .int .i64 (x + 1), .int .u64 (uv (UInt64.ofNat (x + 1).toNat))]) rfl ?_
    refine hK6 _ _ ?_
    refine wp_ret ?_
    try simp only [Exit.inBlock, Exit.then]
    refine c_ret (.int .u64 (uv (UInt64.ofNat (x + 1).toNat))) (r_tmp rfl rfl) ?_
    exact ⟨rfl, HS.belowOf⟩
set_option maxRecDepth 10000 in
theorem flag_any (w : World) (b : Bool) : Calls Try.prog 23 #[.bool b] w fun e w' => e = .returned (.int .u64 (if b then 1 else 0)) ∧ Below w.heap.size w w' := by
  have HS := St.empty w
  rcases b with _ | _
  · skip
    refine c_enter Try.func23 rfl 4 rfl [.bool false, undef, undef, undef] rfl ?_
    refine wp_seq_k (fun K1 hK2 => ?_)
    refine c_region (fun ops4 hops3 => ?_)
    clear hops3
    refine p_run _ (x_assign (.int .u64 0) rfl rfl) rfl ?_
    refine wpList_nil ?_
    refine hK2 _ _ ?_
    refine wp_seq_k (fun K5 hK6 => ?_)
    refine wp_seq_k (fun K7 hK8 => ?_)
    refine c_region (fun ops10 hops9 => ?_)
    clear hops9
    refine p_run _ (x_move (.bool false) rfl rfl) rfl ?_
    refine wpList_nil ?_
    refine hK8 _ _ ?_
    refine c_false rfl ?_
    refine wp_skip ?_
    refine hK6 _ _ ?_
    refine wp_seq_k (fun K11 hK12 => ?_)
    refine c_region (fun ops14 hops13 => ?_)
    clear hops13
    refine p_run _ (x_assign (.int .u64 0) rfl rfl) rfl ?_
    refine wpList_nil ?_
    refine hK12 _ _ ?_
    refine wp_ret ?_
    try simp only [Exit.inBlock, Exit.then]
    refine c_ret (.int .u64 0) (r_tmp rfl rfl) ?_
    exact ⟨rfl, HS.belowOf⟩
  · skip
    refine c_enter Try.func23 rfl 4 rfl [.bool true, undef, undef, undef] rfl ?_
    refine wp_seq_k (fun K1 hK2 => ?_)
    refine c_region (fun ops4 hops3 => ?_)
    clear hops3
    refine p_run _ (x_assign (.int .u64 0) rfl rfl) rfl ?_
    refine wpList_nil ?_
    refine hK2 _ _ ?_
    refine wp_seq_k (fun K5 hK6 => ?_)
    refine wp_seq_k (fun K7 hK8 => ?_)
    refine c_region (fun ops10 hops9 => ?_)
    clear hops9
    refine p_run _ (x_move (.bool true) rfl rfl) rfl ?_
    refine wpList_nil ?_
    refine hK8 _ _ ?_
    refine c_true rfl ?_
    refine wp_seq_k (fun K11 hK12 => ?_)
    refine c_region (fun ops14 hops13 => ?_)
    clear hops13
    refine p_run _ (x_assign (.int .u64 1) rfl rfl) rfl ?_
    refine wpList_nil ?_
    refine hK12 _ _ ?_
    refine wp_ret ?_
    try simp only [Exit.inBlock, Exit.then]
    refine c_ret (.int .u64 1) (r_tmp rfl rfl) ?_
    exact ⟨rfl, HS.belowOf⟩
section
variable {w0 W : World} {F : Nat → Prop} {L : List Res} {v : Value} {xs : List UInt8} {O : Nat}
set_option maxRecDepth 10000 in
theorem wput_any (HS : St w0 F W (blk O [v] 57 :: row kByte rfl 5 v xs :: L)) {m : Nat} (hm : wideB (m : Int) = true) {A : Option Addr} {cl : Nat} {l : List UInt64} (hL : Ru W A l) (hf : l.all (fits m) = true) (hx : xs.length + 8 * l.length ≤ 100000) : Calls Try.prog 22 #[.pointer (some ⟨O, 0, none⟩), .int .i64 (m : Int), .slice A l.length cl] W fun e w' => ∃ v', e = .returned (.tuple #[]) ∧ St w0 F w' (blk O [v'] 57 :: row kByte rfl 5 v' (xs ++ packs m l) :: L) := by
  skip
  · skip
    refine c_enter Try.func22 rfl 24 rfl (.pointer (some ⟨O, 0, none⟩) :: .int .i64 (m : Int) :: .slice A l.length cl :: U16k2 (U4k2 (undef :: []))) rfl ?_
    refine wp_seq_k (fun K1 hK2 => ?_)
    refine c_region (fun ops4 hops3 => ?_)
    clear hops3
    refine p_run _ (x_move (.pointer (some ⟨O, 0, none⟩)) rfl rfl) rfl ?_
    refine p_run _ (x_nil rfl rfl) rfl ?_
    refine p_run _ (x_field (j := 0) _ _ rfl rfl Try.underlying57 rfl (by rfl) rfl) rfl ?_
    refine p_run _ (x_load (v) rfl rfl (bkCell (HS.get (.head _)) 0 _ rfl) (by rfl)) rfl ?_
    refine p_run _ (x_move (.int .i64 (m : Int)) rfl rfl) rfl ?_
    refine p_run _ (x_move (.slice A l.length cl) rfl rfl) rfl ?_
    refine w_call [v, .int .i64 (m : Int), .slice A l.length cl] Try.func47 (by kernel_rfl) (by rfl) rfl ?_
    replace HS := (HS.front 1 rfl)
    refine (putR_any HS hm hL hf hx).mono ?_
    clear HS
    rintro e w6 ⟨v5, rfl, HS⟩
    refine ⟨_, rfl, ?_⟩
    refine fr_to (l' := (.pointer (some ⟨O, 0, none⟩) :: .int .i64 (m : Int) :: .slice A l.length cl :: U4k2 (undef :: undef :: .pointer (some ⟨O, 0, none⟩) :: .pointer (some ⟨O, 0, none⟩) :: .pointer (some ⟨O, 0, none⟩) :: v :: .int .i64 (m : Int) :: .slice A l.length cl :: .tuple [v5, .int .i64 0].toArray :: U8k2 ([])))) rfl ?_
    refine p_run _ (x_move (.tuple [v5, .int .i64 0].toArray) rfl rfl) rfl ?_
    refine p_run _ (x_extract (vs := [v5, .int .i64 0]) 0 (v5) rfl rfl rfl) rfl ?_
    refine p_run _ (x_extract (vs := [v5, .int .i64 0]) 1 (.int .i64 0) rfl rfl rfl) rfl ?_
    refine p_run _ (x_assign (v5) rfl rfl) rfl ?_
    refine p_run _ (x_assign (.int .i64 0) rfl rfl) rfl ?_
    refine wpList_nil ?_
    obtain ⟨qz7, hqz7⟩ : ∃ q_ : V8, q_ = ⟨.tuple [v5, .int .i64 0].toArray, .pointer (some ⟨O, 0, none⟩), .pointer (some ⟨O, 0, none⟩), .pointer (some ⟨O, 0, none⟩), v, .int .i64 (m : Int), .slice A l.length cl, .tuple [v5, .int .i64 0].toArray⟩ := ⟨_, rfl⟩
    refine fr_at (l' := (.pointer (some ⟨O, 0, none⟩) :: .int .i64 (m : Int) :: .slice A l.length cl :: undef :: undef :: undef :: v5 :: .int .i64 0 :: V8.l qz7 (v5 :: .int .i64 0 :: U4k2 (undef :: undef :: [])))) (by subst hqz7; rfl) ?_
    refine hK2 _ _ ?_
    refine wp_seq_k (fun K8 hK9 => ?_)
    refine c_region (fun ops11 hops10 => ?_)
    clear hops10
    refine p_run _ (x_move (.int .i64 0) rfl rfl) rfl ?_
    refine p_run _ (x_cmp (k := .i64) (m := 0) (n := 0) .eql true rfl rfl rfl (by decide) rfl) rfl ?_
    refine wpList_nil ?_
    refine hK9 _ _ ?_
    refine c_true rfl ?_
    refine c_region (fun ops13 hops12 => ?_)
    clear hops12
    refine p_run _ (x_move (.pointer (some ⟨O, 0, none⟩)) rfl rfl) rfl ?_
    refine p_run _ (x_move (v5) rfl rfl) rfl ?_
    refine p_run _ (x_nil rfl rfl) rfl ?_
    refine p_run _ (x_field (j := 0) _ _ rfl rfl Try.underlying57 rfl (by rfl) rfl) rfl ?_
    refine St.store (cs' := [v5]) (HS.front 2 rfl) (v5) rfl rfl (row_one (HS.get (.head _))) (by kernel_rfl) (by rfl) rfl ?_
    clear HS
    intro w14 HS
    refine wpList_nil ?_
    obtain ⟨qz15, hqz15⟩ : ∃ q_ : V8, q_ = ⟨.pointer (some ⟨O, 0, none⟩), .int .i64 (m : Int), .slice A l.length cl, undef, undef, undef, v5, .int .i64 0⟩ := ⟨_, rfl⟩
    obtain ⟨qz16, hqz16⟩ : ∃ q_ : V8, q_ = ⟨v5, .int .i64 0, .int .i64 0, .bool true, .pointer (some ⟨O, 0, none⟩), v5, .pointer (some ⟨O, 0, none⟩), .pointer (some ⟨O, 0, none⟩)⟩ := ⟨_, rfl⟩
    refine fr_at (l' := (V8.l qz15 (V8.l qz7 (V8.l qz16 ([]))))) (by subst hqz15 hqz16; rfl) ?_
    refine c_end (.tuple #[]) (r_none rfl) ?_
    exact ⟨_, rfl, (((HS.front 2 rfl).drop.front 1 rfl).front 1 rfl)⟩
set_option maxRecDepth 10000 in
theorem wlab_any (HS : St w0 F W (blk O [v] 57 :: row kByte rfl 5 v xs :: L)) {B : Option Addr} {d : Nat} {l : List Lb} (hB : kLb.C W B l.length l) (hu : ∀ x ∈ l, u32 x.1 ∧ u32 x.2) (hx : xs.length + 16 * l.length ≤ 90000) : Calls Try.prog 25 #[.pointer (some ⟨O, 0, none⟩), .slice B l.length d] W fun e w' => ∃ v', e = .returned (.tuple #[]) ∧ St w0 F w' (blk O [v'] 57 :: row kByte rfl 5 v' (xs ++ l.flatMap lbB) :: L) := by
  skip
  · skip
    refine c_enter Try.func25 rfl 13 rfl (.pointer (some ⟨O, 0, none⟩) :: .slice B l.length d :: U8k2 (undef :: undef :: undef :: [])) rfl ?_
    refine c_region (fun ops2 hops1 => ?_)
    clear hops1
    refine p_run _ (x_move (.pointer (some ⟨O, 0, none⟩)) rfl rfl) rfl ?_
    refine p_run _ (x_move (.pointer (some ⟨O, 0, none⟩)) rfl rfl) rfl ?_
    refine p_run _ (x_nil rfl rfl) rfl ?_
    refine p_run _ (x_field (j := 0) _ _ rfl rfl Try.underlying57 rfl (by rfl) rfl) rfl ?_
    refine p_run _ (x_load (v) rfl rfl (bkCell (HS.get (.head _)) 0 _ rfl) (by rfl)) rfl ?_
    refine p_run _ (x_move (.slice B l.length d) rfl rfl) rfl ?_
    refine w_call [v, .slice B l.length d] Try.func48 (by kernel_rfl) (by rfl) rfl ?_
    obtain ⟨A0, c0, hv_, hsl_⟩ := Own.sl (row_own (HS.get (.tail _ (.head _))))
    subst hv_
    refine (lput_any _ A0 c0 xs hsl_ B d l hB hu hx).mono ?_
    rintro e w4 ⟨v3, rfl, hk_⟩
    clear hsl_
    replace HS := HS.more hk_
    clear hk_
    refine ⟨_, rfl, ?_⟩
    refine fr_to (l' := (.pointer (some ⟨O, 0, none⟩) :: .slice B l.length d :: undef :: undef :: .pointer (some ⟨O, 0, none⟩) :: .pointer (some ⟨O, 0, none⟩) :: .pointer (some ⟨O, 0, none⟩) :: .pointer (some ⟨O, 0, none⟩) :: .slice A0 xs.length c0 :: .slice B l.length d :: v3 :: undef :: undef :: [])) rfl ?_
    refine p_run _ (x_nil rfl rfl) rfl ?_
    refine p_run _ (x_field (j := 0) _ _ rfl rfl Try.underlying57 rfl (by rfl) rfl) rfl ?_
    refine St.store (cs' := [v3]) (HS.front 1 rfl) (v3) rfl rfl (row_one (HS.get (.head _))) (by kernel_rfl) (by rfl) rfl ?_
    clear HS
    intro w5 HS
    refine wpList_nil ?_
    obtain ⟨qz6, hqz6⟩ : ∃ q_ : V8, q_ = ⟨.pointer (some ⟨O, 0, none⟩), .slice B l.length d, undef, undef, .pointer (some ⟨O, 0, none⟩), .pointer (some ⟨O, 0, none⟩), .pointer (some ⟨O, 0, none⟩), .pointer (some ⟨O, 0, none⟩)⟩ := ⟨_, rfl⟩
    refine fr_at (l' := (V8.l qz6 (.slice A0 xs.length c0 :: .slice B l.length d :: v3 :: .pointer (some ⟨O, 0, none⟩) :: .pointer (some ⟨O, 0, none⟩) :: []))) (by subst hqz6; rfl) ?_
    refine c_end (.tuple #[]) (r_none rfl) ?_
    exact ⟨_, rfl, (((HS.front 2 rfl).drop.front 1 rfl).front 1 rfl)⟩
end
def q1 (r : Rc) : List UInt8 := nB 4 r.e
def q2 (r : Rc) : List UInt8 := q1 r ++ nB 1 (if r.p then 1 else 0)
def q3 (r : Rc) : List UInt8 := q2 r ++ (nB 4 r.b ++ (nB 4 r.q ++ []))
def q4 (r : Rc) : List UInt8 := q3 r ++ nB 1 (r.l + 1)
def q5 (r : Rc) : List UInt8 := q4 r ++ [(r.xe, r.xq)].flatMap lbB
def q6 (r : Rc) : List UInt8 := q5 r ++ nB 1 (r.sn.length : Int)
def q7 (r : Rc) (j : Nat) : List UInt8 := q6 r ++ (r.sn.take j).flatMap snB
def q8 (r : Rc) : List UInt8 := q7 r r.sn.length ++ nB 8 r.s
def q9 (r : Rc) : List UInt8 := q8 r ++ [(r.te, r.tq), (r.be, r.bq)].flatMap lbB
theorem q_end (r : Rc) : q9 r ++ (nB 1 r.nx ++ (nB 1 r.tt ++ (nB 1 (r.rt + 1) ++ []))) = rcB r := by
  unfold q9 q8 q7 q6 q5 q4 q3 q2 q1 rcB
  simp only [List.take_length, List.append_assoc, List.flatMap_cons, List.flatMap_nil, lbB, List.nil_append, List.append_nil]
theorem q_len (r : Rc) : (q1 r).length = 4 ∧ (q2 r).length = 5 ∧ (q3 r).length = 13 ∧ (q4 r).length = 14 ∧ (q5 r).length = 22 ∧ (q6 r).length = 23 := by
  have e1 : (q1 r).length = 4 := nB_len _ _
  have e2 : (q2 r).length = 5 := by unfold q2; rw [List.length_append, e1, nB_len]
  have e3 : (q3 r).length = 13 := by unfold q3; rw [List.length_append, e2]; simp [nB_len]
  have e4 : (q4 r).length = 14 := by unfold q4; rw [List.length_append, e3, nB_len]
  have e5 : (q5 r).length = 22 := by unfold q5; rw [List.length_append, e4]; simp [lbB, nB_len]
  exact ⟨e1, e2, e3, e4, e5, by unfold q6; rw [List.length_append, e5, nB_len]⟩
theorem q7_len (r : Rc) (j : Nat) : (q7 r j).length ≤ 23 + 13 * r.sn.length := by
  unfold q7
  rw [List.length_append, (q_len r).2.2.2.2.2, flat_len (n := 13) _ (fun x _ => snB_len x), List.length_take]
  omega
theorem q9_len (r : Rc) : (q8 r).length ≤ 31 + 13 * r.sn.length ∧ (q9 r).length ≤ 47 + 13 * r.sn.length := by
  have h := q7_len r r.sn.length
  have e : (q8 r).length ≤ 31 + 13 * r.sn.length := by unfold q8; rw [List.length_append, nB_len]; omega
  exact ⟨e, by unfold q9; rw [List.length_append]; simp only [List.flatMap_cons, List.flatMap_nil, lbB_len, List.length_append, List.length_nil]; omega⟩
theorem q7_step {r : Rc} {j : Nat} {x : Sn} (hx : r.sn[j]? = some x) : q7 r j ++ [(x.1, x.2.1)].flatMap lbB ++ nB 1 (x.2.2.1 + 1) ++ nB 4 x.2.2.2 = q7 r (j + 1) := by
  obtain ⟨hj, rfl⟩ := List.getElem?_eq_some_iff.1 hx
  unfold q7
  rw [List.take_succ_eq_append_getElem hj, List.flatMap_append]
  simp [snB, lbB]
theorem q7_zero (r : Rc) : q7 r 0 = q6 r := by unfold q7; rw [List.take_zero, List.flatMap_nil, List.append_nil]
theorem lb_reps1 (w : World) (a b : Int) : Reps (kLb.K w) kLb.sz [(a, b)] [.int .u32 a, .int .u32 b] := by
  refine ⟨rfl, fun j p hj => ?_⟩
  match j, hj with
  | 0, hj =>
    obtain rfl : (a, b) = p := by simpa using hj
    exact rfl
theorem lb_reps2 (w : World) (a b c d : Int) : Reps (kLb.K w) kLb.sz [(a, b), (c, d)] [.int .u32 a, .int .u32 b, .int .u32 c, .int .u32 d] := by
  refine ⟨rfl, fun j p hj => ?_⟩
  match j, hj with
  | 0, hj =>
    obtain rfl : (a, b) = p := by simpa using hj
    exact rfl
  | 1, hj =>
    obtain rfl : (c, d) = p := by simpa using hj
    exact rfl
theorem flag_uv (b : Bool) : (if b then 1 else 0 : Int) = uv (UInt64.ofNat (if b then 1 else 0 : Int).toNat) := by cases b <;> decide
set_option maxRecDepth 10000 in
set_option maxHeartbeats 8000000 in
theorem rbytes_law (w : World) (r : Rc) (A : Option Addr) (c : Nat) (hA : kSn.C w A r.sn.length r.sn) (hl : r.sn.length ≤ 1000) (hw : r.wf) : Calls Try.prog 8 #[rcV r A c] w fun e w' => ∃ A' c', e = .returned (.tuple #[.slice A' (bB r).length c', .int .i64 (bE r)]) ∧ St w (fun _ => False) w' [row kByte rfl 5 (.slice A' (bB r).length c') (bB r)] := by
  have HS := St.empty w
  rcases hok : rcOk r with _ | _
  · skip
    refine c_enter Try.func8 rfl 110 rfl (rcV r A c :: U64k2 (U32k2 (U8k2 (U4k2 (undef :: []))))) rfl ?_
    refine wp_seq_k (fun K1 hK2 => ?_)
    refine c_region (fun ops4 hops3 => ?_)
    clear hops3
    refine St.wBox HS (cs := (.int .u32 r.e :: .bool r.p :: .int .u32 r.b :: .int .u32 r.q :: .int .i64 r.l :: .int .u32 r.xe :: .int .u32 r.xq :: .slice A r.sn.length c :: .int .u64 r.s :: .int .u32 r.te :: .int .u32 r.tq :: .int .u32 r.be :: .int .u32 r.bq :: .int .i64 r.nx :: .int .i64 r.tt :: .int .i64 r.rt :: [])) (rcV r A c) rfl rfl ?_
    clear HS
    intro g5 w6 hg7 HS
    refine p_run _ (x_assign (.slice none 0 0) rfl rfl) rfl ?_
    refine p_run _ (x_assign (.int .i64 0) rfl rfl) rfl ?_
    refine wpList_nil ?_
    refine hK2 _ _ ?_
    refine wp_seq_k (fun K8 hK9 => ?_)
    refine wp_seq_k (fun K10 hK11 => ?_)
    refine c_region (fun ops13 hops12 => ?_)
    clear hops12
    refine p_run _ (x_loads (.int .u32 r.e :: .bool r.p :: .int .u32 r.b :: .int .u32 r.q :: .int .i64 r.l :: .int .u32 r.xe :: .int .u32 r.xq :: .slice A r.sn.length c :: .int .u64 r.s :: .int .u32 r.te :: .int .u32 r.tq :: .int .u32 r.be :: .int .u32 r.bq :: .int .i64 r.nx :: .int .i64 r.tt :: .int .i64 r.rt :: []) 16 rfl rfl (bkCells (HS.get (.head _)) 0 _ rfl) (by rfl) (by kernel_rfl) rfl) rfl ?_
    refine w_call [rcV r A c] Try.func14 (by kernel_rfl) (by rfl) rfl ?_
    refine (rright_any _ r A c (Kd.C_below hA HS.belowOf) hl).mono ?_
    rintro e w14 ⟨he_, hb_⟩
    rw [hok] at he_
    subst he_
    replace HS := HS.here hb_
    clear hb_
    refine ⟨_, rfl, ?_⟩
    refine p_run _ (x_not false rfl rfl) rfl ?_
    refine wpList_nil ?_
    refine fr_at (l' := (rcV r A c :: .pointer (some ⟨g5, 0, none⟩) :: .slice none 0 0 :: .int .i64 0 :: undef :: undef :: undef :: rcV r A c :: .bool false :: .bool true :: U64k2 (U32k2 (U4k2 ([]))))) rfl ?_
    refine hK11 _ _ ?_
    refine c_true rfl ?_
    refine wp_seq_k (fun K15 hK16 => ?_)
    refine c_region (fun ops18 hops17 => ?_)
    clear hops17
    refine p_run _ (x_assign (.slice none 0 0) rfl rfl) rfl ?_
    refine p_run _ (x_assign (.int .i64 141) rfl rfl) rfl ?_
    refine wpList_nil ?_
    refine hK16 _ _ ?_
    refine wp_ret ?_
    try simp only [Exit.inBlock, Exit.then]
    refine c_ret (.tuple [.slice none 0 0, .int .i64 141].toArray) (r_tmp2 rfl rfl rfl) ?_
    replace HS := HS.nil kByte rfl 5
    obtain ⟨e1, e2⟩ := bb_no hok
    rw [e1, e2]
    exact ⟨none, 0, rfl, (HS.front 1 rfl).drop⟩
  · skip
    obtain ⟨⟨e1_, e2_⟩, b1_, q1_, ⟨l1_, l2_⟩, n8_, hsn, ⟨r1_, r2_⟩, ⟨x1_, x2_⟩, t1_, t2_⟩ := rc_of hok
    have hs_ : r.s = uv (UInt64.ofNat r.s.toNat) := by unfold uv; rw [nat_of hw.s.1 hw.s.2]; have := hw.s.1; omega
    obtain ⟨s1_, s2_⟩ := hw.s
    obtain ⟨b2_, b3_⟩ := hw.b
    obtain ⟨q2_, q3_⟩ := hw.q
    refine c_enter Try.func8 rfl 110 rfl (rcV r A c :: U64k2 (U32k2 (U8k2 (U4k2 (undef :: []))))) rfl ?_
    refine wp_seq_k (fun K1 hK2 => ?_)
    refine c_region (fun ops4 hops3 => ?_)
    clear hops3
    refine St.wBox HS (cs := (.int .u32 r.e :: .bool r.p :: .int .u32 r.b :: .int .u32 r.q :: .int .i64 r.l :: .int .u32 r.xe :: .int .u32 r.xq :: .slice A r.sn.length c :: .int .u64 r.s :: .int .u32 r.te :: .int .u32 r.tq :: .int .u32 r.be :: .int .u32 r.bq :: .int .i64 r.nx :: .int .i64 r.tt :: .int .i64 r.rt :: [])) (rcV r A c) rfl rfl ?_
    clear HS
    intro g5 w6 hg7 HS
    refine p_run _ (x_assign (.slice none 0 0) rfl rfl) rfl ?_
    refine p_run _ (x_assign (.int .i64 0) rfl rfl) rfl ?_
    refine wpList_nil ?_
    refine hK2 _ _ ?_
    refine wp_seq_k (fun K8 hK9 => ?_)
    refine wp_seq_k (fun K10 hK11 => ?_)
    refine c_region (fun ops13 hops12 => ?_)
    clear hops12
    refine p_run _ (x_loads (.int .u32 r.e :: .bool r.p :: .int .u32 r.b :: .int .u32 r.q :: .int .i64 r.l :: .int .u32 r.xe :: .int .u32 r.xq :: .slice A r.sn.length c :: .int .u64 r.s :: .int .u32 r.te :: .int .u32 r.tq :: .int .u32 r.be :: .int .u32 r.bq :: .int .i64 r.nx :: .int .i64 r.tt :: .int .i64 r.rt :: []) 16 rfl rfl (bkCells (HS.get (.head _)) 0 _ rfl) (by rfl) (by kernel_rfl) rfl) rfl ?_
    refine w_call [rcV r A c] Try.func14 (by kernel_rfl) (by rfl) rfl ?_
    refine (rright_any _ r A c (Kd.C_below hA HS.belowOf) hl).mono ?_
    rintro e w14 ⟨he_, hb_⟩
    rw [hok] at he_
    subst he_
    replace HS := HS.here hb_
    clear hb_
    refine ⟨_, rfl, ?_⟩
    refine p_run _ (x_not true rfl rfl) rfl ?_
    refine wpList_nil ?_
    refine fr_at (l' := (rcV r A c :: .pointer (some ⟨g5, 0, none⟩) :: .slice none 0 0 :: .int .i64 0 :: undef :: undef :: undef :: rcV r A c :: .bool true :: .bool false :: U64k2 (U32k2 (U4k2 ([]))))) rfl ?_
    refine hK11 _ _ ?_
    refine c_false rfl ?_
    refine wp_skip ?_
    refine hK9 _ _ ?_
    refine wp_seq_k (fun K15 hK16 => ?_)
    refine c_region (fun ops18 hops17 => ?_)
    clear hops17
    refine p_run _ (x_build [.slice none 0 0] rfl (by kernel_rfl)) rfl ?_
    refine St.wBox HS (cs := [.slice none 0 0]) (.agg ([.slice none 0 0] : List Value).toArray) rfl rfl ?_
    clear HS
    intro g19 w20 hg21 HS
    refine p_run _ (x_assign (.pointer (some ⟨g19, 0, none⟩)) rfl rfl) rfl ?_
    refine wpList_nil ?_
    refine hK16 _ _ ?_
    refine wp_seq_k (fun K22 hK23 => ?_)
    refine c_region (fun ops25 hops24 => ?_)
    clear hops24
    refine p_run _ (x_move (.pointer (some ⟨g19, 0, none⟩)) rfl rfl) rfl ?_
    refine p_run _ (x_field (j := 0) _ _ rfl rfl Try.underlying34 rfl (by rfl) rfl) rfl ?_
    refine p_run _ (x_load (.int .u32 r.e) rfl rfl (bkCell (HS.get (.tail _ (.head _))) 0 _ rfl) (by rfl)) rfl ?_
    refine p_run (l' := (rcV r A c :: .pointer (some ⟨g5, 0, none⟩) :: .slice none 0 0 :: .int .i64 0 :: .pointer (some ⟨g19, 0, none⟩) :: undef :: undef :: rcV r A c :: .bool true :: .bool false :: .agg ([.slice none 0 0] : List Value).toArray :: .pointer (some ⟨g19, 0, none⟩) :: .pointer (some ⟨g19, 0, none⟩) :: .pointer (some ⟨g5, 0, none⟩) :: .int .u32 r.e :: .int .u64 (uv (UInt64.ofNat r.e.toNat)) :: U64k2 (U16k2 (U8k2 (U4k2 (undef :: undef :: [])))))) _ (x_conv (k := .u32) (m := r.e) .u64 ((uv (UInt64.ofNat r.e.toNat))) rfl (by rw [Try.underlying26]; rfl) Try.underlying30 rfl (u32_conv (by omega) (by omega))) rfl ?_
    refine St.wLit1 HS [.int .u64 (uv (UInt64.ofNat r.e.toNat))] 1 (.int .u64 0) (.int .u64 (uv (UInt64.ofNat r.e.toNat))) Try.underlying87 (by kernel_rfl) (by decide) rfl rfl rfl ?_
    clear HS
    intro g26 w27 hg28 HS
    refine w_call [.pointer (some ⟨g19, 0, none⟩), .int .i64 4, .slice (some ⟨g26, 0, none⟩) 1 1] Try.func22 (by kernel_rfl) (by rfl) rfl ?_
    replace HS := HS.nil kByte rfl 5
    replace HS := (HS.front 2 rfl)
    refine (wput_any (m := 4) HS (by decide) (l := [UInt64.ofNat r.e.toNat]) (ru_lit (l := [UInt64.ofNat r.e.toNat]) (HS.get (.tail _ (.tail _ (.head _)))) rfl (by simp)) (by rw [List.all_cons, fit1 (x := r.e) (by omega) (by omega) (by omega)]; rfl) (by simp only [List.length_cons, List.length_nil]; decide)).mono ?_
    clear HS
    rintro e w30 ⟨v29, rfl, HS⟩
    rw [pk_cons 4 (x := r.e) (by omega) (by omega), pk_nil, List.append_nil] at HS
    replace HS : St _ _ _ (blk _ _ _ :: row kByte rfl _ _ (q1 r) :: _) := HS
    refine ⟨_, rfl, ?_⟩
    refine wpList_nil ?_
    refine hK23 _ _ ?_
    refine wp_seq_k (fun K31 hK32 => ?_)
    refine c_region (fun ops34 hops33 => ?_)
    clear hops33
    refine p_run _ (x_move (.pointer (some ⟨g19, 0, none⟩)) rfl rfl) rfl ?_
    refine p_run _ (x_field (j := 1) _ _ rfl rfl Try.underlying34 rfl (by rfl) rfl) rfl ?_
    refine p_run _ (x_load (.bool r.p) rfl rfl (bkCell (HS.get (.tail _ (.tail _ (.tail _ (.head _))))) 1 _ rfl) (by rfl)) rfl ?_
    refine w_call [.bool r.p] Try.func23 (by kernel_rfl) (by rfl) rfl ?_
    refine (flag_any _ r.p).mono ?_
    rw [flag_uv]
    rintro e w35 ⟨rfl, hb_⟩
    replace HS := HS.here hb_
    clear hb_
    refine ⟨_, rfl, ?_⟩
    refine St.wLit1 HS [.int .u64 (uv (UInt64.ofNat (if r.p then 1 else 0 : Int).toNat))] 1 (.int .u64 0) (.int .u64 (uv (UInt64.ofNat (if r.p then 1 else 0 : Int).toNat))) Try.underlying87 (by kernel_rfl) (by decide) rfl rfl rfl ?_
    clear HS
    intro g36 w37 hg38 HS
    refine fr_to (l' := (rcV r A c :: .pointer (some ⟨g5, 0, none⟩) :: .slice none 0 0 :: .int .i64 0 :: .pointer (some ⟨g19, 0, none⟩) :: undef :: undef :: rcV r A c :: .bool true :: .bool false :: .agg ([.slice none 0 0] : List Value).toArray :: .pointer (some ⟨g19, 0, none⟩) :: .pointer (some ⟨g19, 0, none⟩) :: .pointer (some ⟨g5, 0, none⟩) :: .int .u32 r.e :: .int .u64 (uv (UInt64.ofNat r.e.toNat)) :: .slice (some ⟨g26, 0, none⟩) 1 1 :: .tuple [].toArray :: .pointer (some ⟨g19, 0, none⟩) :: .pointer (some ⟨g5, 1, none⟩) :: .bool r.p :: .int .u64 (uv (UInt64.ofNat (if r.p then 1 else 0 : Int).toNat)) :: .slice (some ⟨g36, 0, none⟩) 1 1 :: U64k2 (U16k2 (U4k2 (undef :: undef :: undef :: []))))) rfl ?_
    refine w_call [.pointer (some ⟨g19, 0, none⟩), .int .i64 1, .slice (some ⟨g36, 0, none⟩) 1 1] Try.func22 (by kernel_rfl) (by rfl) rfl ?_
    replace HS := ((HS.front 2 rfl).front 2 rfl)
    refine (wput_any (m := 1) HS (by decide) (l := [UInt64.ofNat (if r.p then 1 else 0 : Int).toNat]) (ru_lit (l := [UInt64.ofNat (if r.p then 1 else 0 : Int).toNat]) (HS.get (.tail _ (.tail _ (.head _)))) rfl (by simp)) (by rw [List.all_cons, fit1 (x := (if r.p then 1 else 0 : Int)) (by split <;> decide) (by split <;> decide) (by split <;> decide)]; rfl) (by simp only [List.length_cons, List.length_nil]; rw [(q_len r).1]; decide)).mono ?_
    clear HS
    rintro e w40 ⟨v39, rfl, HS⟩
    rw [pk_cons 1 (x := (if r.p then 1 else 0 : Int)) (by split <;> decide) (by split <;> decide), pk_nil, List.append_nil] at HS
    replace HS : St _ _ _ (blk _ _ _ :: row kByte rfl _ _ (q2 r) :: _) := HS
    refine ⟨_, rfl, ?_⟩
    refine wpList_nil ?_
    refine hK32 _ _ ?_
    refine wp_seq_k (fun K41 hK42 => ?_)
    refine c_region (fun ops44 hops43 => ?_)
    clear hops43
    refine p_run _ (x_move (.pointer (some ⟨g19, 0, none⟩)) rfl rfl) rfl ?_
    refine p_run _ (x_field (j := 2) _ _ rfl rfl Try.underlying34 rfl (by rfl) rfl) rfl ?_
    refine p_run _ (x_load (.int .u32 r.b) rfl rfl (bkCell (HS.get (.tail _ (.tail _ (.tail _ (.tail _ (.head _)))))) 2 _ rfl) (by rfl)) rfl ?_
    refine p_run _ (x_conv (k := .u32) (m := r.b) .u64 ((uv (UInt64.ofNat r.b.toNat))) rfl (by rw [Try.underlying26]; rfl) Try.underlying30 rfl (u32_conv (by omega) (by omega))) rfl ?_
    refine p_run _ (x_field (j := 3) _ _ rfl rfl Try.underlying34 rfl (by rfl) rfl) rfl ?_
    refine p_run (l' := (rcV r A c :: .pointer (some ⟨g5, 0, none⟩) :: .slice none 0 0 :: .int .i64 0 :: .pointer (some ⟨g19, 0, none⟩) :: undef :: undef :: rcV r A c :: .bool true :: .bool false :: .agg ([.slice none 0 0] : List Value).toArray :: .pointer (some ⟨g19, 0, none⟩) :: .pointer (some ⟨g19, 0, none⟩) :: .pointer (some ⟨g5, 0, none⟩) :: .int .u32 r.e :: .int .u64 (uv (UInt64.ofNat r.e.toNat)) :: .slice (some ⟨g26, 0, none⟩) 1 1 :: .tuple [].toArray :: .pointer (some ⟨g19, 0, none⟩) :: .pointer (some ⟨g5, 1, none⟩) :: .bool r.p :: .int .u64 (uv (UInt64.ofNat (if r.p then 1 else 0 : Int).toNat)) :: .slice (some ⟨g36, 0, none⟩) 1 1 :: .tuple [].toArray :: .pointer (some ⟨g19, 0, none⟩) :: .pointer (some ⟨g5, 2, none⟩) :: .int .u32 r.b :: .int .u64 (uv (UInt64.ofNat r.b.toNat)) :: .pointer (some ⟨g5, 3, none⟩) :: .int .u32 r.q :: U64k2 (U16k2 ([])))) _ (x_load (.int .u32 r.q) rfl rfl (bkCell (HS.get (.tail _ (.tail _ (.tail _ (.tail _ (.head _)))))) 3 _ rfl) (by rfl)) rfl ?_
    refine p_run _ (x_conv (k := .u32) (m := r.q) .u64 ((uv (UInt64.ofNat r.q.toNat))) rfl (by rw [Try.underlying26]; rfl) Try.underlying30 rfl (u32_conv (by omega) (by omega))) rfl ?_
    refine St.wLit HS (cs := [.int .u64 (uv (UInt64.ofNat r.b.toNat)), .int .u64 (uv (UInt64.ofNat r.q.toNat))]) 1 (.int .u64 0) Try.underlying87 (by kernel_rfl) (by decide) (by kernel_rfl) ?_
    clear HS
    intro g45 w46 hg47 HS
    refine w_call [.pointer (some ⟨g19, 0, none⟩), .int .i64 4, .slice (some ⟨g45, 0, none⟩) 2 2] Try.func22 (by kernel_rfl) (by rfl) rfl ?_
    replace HS := ((HS.front 2 rfl).front 2 rfl)
    refine (wput_any (m := 4) HS (by decide) (l := [UInt64.ofNat r.b.toNat, UInt64.ofNat r.q.toNat]) (ru_lit (l := [UInt64.ofNat r.b.toNat, UInt64.ofNat r.q.toNat]) (HS.get (.tail _ (.tail _ (.head _)))) rfl (by simp)) (by rw [List.all_cons, List.all_cons, fit1 (x := r.b) (by omega) (by omega) (by omega), fit1 (x := r.q) (by omega) (by omega) (by omega)]; rfl) (by simp only [List.length_cons, List.length_nil]; rw [(q_len r).2.1]; decide)).mono ?_
    clear HS
    rintro e w49 ⟨v48, rfl, HS⟩
    rw [pk_cons 4 (x := r.b) (by omega) (by omega), pk_cons 4 (x := r.q) (by omega) (by omega), pk_nil] at HS
    replace HS : St _ _ _ (blk _ _ _ :: row kByte rfl _ _ (q3 r) :: _) := HS
    refine ⟨_, rfl, ?_⟩
    refine wpList_nil ?_
    refine hK42 _ _ ?_
    refine wp_seq_k (fun K50 hK51 => ?_)
    refine c_region (fun ops53 hops52 => ?_)
    clear hops52
    refine p_run _ (x_move (.pointer (some ⟨g19, 0, none⟩)) rfl rfl) rfl ?_
    refine p_run _ (x_field (j := 4) _ _ rfl rfl Try.underlying34 rfl (by rfl) rfl) rfl ?_
    refine p_run _ (x_load (.int .i64 r.l) rfl rfl (bkCell (HS.get (.tail _ (.tail _ (.tail _ (.tail _ (.tail _ (.head _))))))) 4 _ rfl) (by rfl)) rfl ?_
    refine w_call [.int .i64 r.l] Try.func24 (by kernel_rfl) (by rfl) rfl ?_
    refine (up_any _ r.l (by omega)).mono ?_
    rintro e w54 ⟨rfl, hb_⟩
    replace HS := HS.here hb_
    clear hb_
    refine ⟨_, rfl, ?_⟩
    refine fr_to (l' := (rcV r A c :: .pointer (some ⟨g5, 0, none⟩) :: .slice none 0 0 :: .int .i64 0 :: .pointer (some ⟨g19, 0, none⟩) :: undef :: undef :: rcV r A c :: .bool true :: .bool false :: .agg ([.slice none 0 0] : List Value).toArray :: .pointer (some ⟨g19, 0, none⟩) :: .pointer (some ⟨g19, 0, none⟩) :: .pointer (some ⟨g5, 0, none⟩) :: .int .u32 r.e :: .int .u64 (uv (UInt64.ofNat r.e.toNat)) :: .slice (some ⟨g26, 0, none⟩) 1 1 :: .tuple [].toArray :: .pointer (some ⟨g19, 0, none⟩) :: .pointer (some ⟨g5, 1, none⟩) :: .bool r.p :: .int .u64 (uv (UInt64.ofNat (if r.p then 1 else 0 : Int).toNat)) :: .slice (some ⟨g36, 0, none⟩) 1 1 :: .tuple [].toArray :: .pointer (some ⟨g19, 0, none⟩) :: .pointer (some ⟨g5, 2, none⟩) :: .int .u32 r.b :: .int .u64 (uv (UInt64.ofNat r.b.toNat)) :: .pointer (some ⟨g5, 3, none⟩) :: .int .u32 r.q :: .int .u64 (uv (UInt64.ofNat r.q.toNat)) :: .slice (some ⟨g45, 0, none⟩) 2 2 :: .tuple [].toArray :: .pointer (some ⟨g19, 0, none⟩) :: .pointer (some ⟨g5, 4, none⟩) :: .int .i64 r.l :: .int .u64 (uv (UInt64.ofNat (r.l + 1).toNat)) :: U64k2 (U8k2 (undef :: [])))) rfl ?_
    refine St.wLit1 HS [.int .u64 (uv (UInt64.ofNat (r.l + 1).toNat))] 1 (.int .u64 0) (.int .u64 (uv (UInt64.ofNat (r.l + 1).toNat))) Try.underlying87 (by kernel_rfl) (by decide) rfl rfl rfl ?_
    clear HS
    intro g55 w56 hg57 HS
    refine w_call [.pointer (some ⟨g19, 0, none⟩), .int .i64 1, .slice (some ⟨g55, 0, none⟩) 1 1] Try.func22 (by kernel_rfl) (by rfl) rfl ?_
    replace HS := ((HS.front 2 rfl).front 2 rfl)
    refine (wput_any (m := 1) HS (by decide) (l := [UInt64.ofNat (r.l + 1).toNat]) (ru_lit (l := [UInt64.ofNat (r.l + 1).toNat]) (HS.get (.tail _ (.tail _ (.head _)))) rfl (by simp)) (by rw [List.all_cons, fit1 (x := (r.l + 1)) (by omega) (by omega) (by omega)]; rfl) (by simp only [List.length_cons, List.length_nil]; rw [(q_len r).2.2.1]; decide)).mono ?_
    clear HS
    rintro e w59 ⟨v58, rfl, HS⟩
    rw [pk_cons 1 (x := (r.l + 1)) (by omega) (by omega), pk_nil, List.append_nil] at HS
    replace HS : St _ _ _ (blk _ _ _ :: row kByte rfl _ _ (q4 r) :: _) := HS
    refine ⟨_, rfl, ?_⟩
    refine wpList_nil ?_
    refine hK51 _ _ ?_
    refine wp_seq_k (fun K60 hK61 => ?_)
    refine c_region (fun ops63 hops62 => ?_)
    clear hops62
    refine p_run _ (x_move (.pointer (some ⟨g19, 0, none⟩)) rfl rfl) rfl ?_
    refine p_run _ (x_field (j := 5) _ _ rfl rfl Try.underlying34 rfl (by rfl) rfl) rfl ?_
    refine p_run _ (x_loads [.int .u32 r.xe, .int .u32 r.xq] 2 rfl rfl (bkCells (HS.get (.tail _ (.tail _ (.tail _ (.tail _ (.tail _ (.tail _ (.head _)))))))) 5 _ rfl) (by rfl) (by kernel_rfl) rfl) rfl ?_
    refine St.wLit1 HS [.int .u32 r.xe, .int .u32 r.xq] 2 (.agg [.int .u32 0, .int .u32 0].toArray) (.agg ([.int .u32 r.xe, .int .u32 r.xq] : List Value).toArray) Try.underlying81 (by kernel_rfl) (by decide) rfl rfl rfl ?_
    clear HS
    intro g64 w65 hg66 HS
    refine w_call [.pointer (some ⟨g19, 0, none⟩), .slice (some ⟨g64, 0, none⟩) 1 1] Try.func25 (by kernel_rfl) (by rfl) rfl ?_
    replace HS := ((HS.front 2 rfl).front 2 rfl)
    refine (wlab_any HS (l := [(r.xe, r.xq)]) (lit_reads (HS.get (.tail _ (.tail _ (.head _)))) (lb_reps1 _ r.xe r.xq) (by simp)) (by intro y hy; rcases List.mem_singleton.1 hy with rfl; exact ⟨hw.xe, hw.xq⟩) (by simp only [List.length_cons, List.length_nil]; rw [(q_len r).2.2.2.1]; decide)).mono ?_
    clear HS
    rintro e w68 ⟨v67, rfl, HS⟩
    replace HS : St _ _ _ (blk _ _ _ :: row kByte rfl _ _ (q5 r) :: _) := HS
    refine ⟨_, rfl, ?_⟩
    refine fr_to (l' := (rcV r A c :: .pointer (some ⟨g5, 0, none⟩) :: .slice none 0 0 :: .int .i64 0 :: .pointer (some ⟨g19, 0, none⟩) :: undef :: undef :: rcV r A c :: .bool true :: .bool false :: .agg ([.slice none 0 0] : List Value).toArray :: .pointer (some ⟨g19, 0, none⟩) :: .pointer (some ⟨g19, 0, none⟩) :: .pointer (some ⟨g5, 0, none⟩) :: .int .u32 r.e :: .int .u64 (uv (UInt64.ofNat r.e.toNat)) :: .slice (some ⟨g26, 0, none⟩) 1 1 :: .tuple [].toArray :: .pointer (some ⟨g19, 0, none⟩) :: .pointer (some ⟨g5, 1, none⟩) :: .bool r.p :: .int .u64 (uv (UInt64.ofNat (if r.p then 1 else 0 : Int).toNat)) :: .slice (some ⟨g36, 0, none⟩) 1 1 :: .tuple [].toArray :: .pointer (some ⟨g19, 0, none⟩) :: .pointer (some ⟨g5, 2, none⟩) :: .int .u32 r.b :: .int .u64 (uv (UInt64.ofNat r.b.toNat)) :: .pointer (some ⟨g5, 3, none⟩) :: .int .u32 r.q :: .int .u64 (uv (UInt64.ofNat r.q.toNat)) :: .slice (some ⟨g45, 0, none⟩) 2 2 :: .tuple [].toArray :: .pointer (some ⟨g19, 0, none⟩) :: .pointer (some ⟨g5, 4, none⟩) :: .int .i64 r.l :: .int .u64 (uv (UInt64.ofNat (r.l + 1).toNat)) :: .slice (some ⟨g55, 0, none⟩) 1 1 :: .tuple [].toArray :: .pointer (some ⟨g19, 0, none⟩) :: .pointer (some ⟨g5, 5, none⟩) :: .agg ([.int .u32 r.xe, .int .u32 r.xq] : List Value).toArray :: .slice (some ⟨g64, 0, none⟩) 1 1 :: .tuple [].toArray :: U64k2 (undef :: undef :: []))) rfl ?_
    refine wpList_nil ?_
    refine hK61 _ _ ?_
    refine wp_seq_k (fun K69 hK70 => ?_)
    refine c_region (fun ops72 hops71 => ?_)
    clear hops71
    refine p_run _ (x_move (.pointer (some ⟨g19, 0, none⟩)) rfl rfl) rfl ?_
    refine p_run _ (x_field (j := 7) _ _ rfl rfl Try.underlying34 rfl (by rfl) rfl) rfl ?_
    refine p_run _ (x_load (.slice A r.sn.length c) rfl rfl (bkCell (HS.get (.tail _ (.tail _ (.tail _ (.tail _ (.tail _ (.tail _ (.tail _ (.head _))))))))) 7 _ rfl) (by rfl)) rfl ?_
    refine p_run _ (x_len rfl rfl Try.underlying29) rfl ?_
    refine p_run _ (x_conv (k := .i64) (m := (r.sn.length : Int)) .u64 ((uv (UInt64.ofNat (r.sn.length : Int).toNat))) rfl (by rw [Try.underlying3]; rfl) Try.underlying30 rfl (u32_conv (by omega) (by omega))) rfl ?_
    refine St.wLit1 HS [.int .u64 (uv (UInt64.ofNat (r.sn.length : Int).toNat))] 1 (.int .u64 0) (.int .u64 (uv (UInt64.ofNat (r.sn.length : Int).toNat))) Try.underlying87 (by kernel_rfl) (by decide) rfl rfl rfl ?_
    clear HS
    intro g73 w74 hg75 HS
    refine w_call [.pointer (some ⟨g19, 0, none⟩), .int .i64 1, .slice (some ⟨g73, 0, none⟩) 1 1] Try.func22 (by kernel_rfl) (by rfl) rfl ?_
    replace HS := ((HS.front 2 rfl).front 2 rfl)
    refine (wput_any (m := 1) HS (by decide) (l := [UInt64.ofNat (r.sn.length : Int).toNat]) (ru_lit (l := [UInt64.ofNat (r.sn.length : Int).toNat]) (HS.get (.tail _ (.tail _ (.head _)))) rfl (by simp)) (by rw [List.all_cons, fit1 (x := (r.sn.length : Int)) (by omega) (by omega) (by omega)]; rfl) (by simp only [List.length_cons, List.length_nil]; rw [(q_len r).2.2.2.2.1]; decide)).mono ?_
    clear HS
    rintro e w77 ⟨v76, rfl, HS⟩
    rw [pk_cons 1 (x := (r.sn.length : Int)) (by omega) (by omega), pk_nil, List.append_nil] at HS
    replace HS : St _ _ _ (blk _ _ _ :: row kByte rfl _ _ (q6 r) :: _) := HS
    refine ⟨_, rfl, ?_⟩
    refine fr_to (l' := (rcV r A c :: .pointer (some ⟨g5, 0, none⟩) :: .slice none 0 0 :: .int .i64 0 :: .pointer (some ⟨g19, 0, none⟩) :: undef :: undef :: rcV r A c :: .bool true :: .bool false :: .agg ([.slice none 0 0] : List Value).toArray :: .pointer (some ⟨g19, 0, none⟩) :: .pointer (some ⟨g19, 0, none⟩) :: .pointer (some ⟨g5, 0, none⟩) :: .int .u32 r.e :: .int .u64 (uv (UInt64.ofNat r.e.toNat)) :: .slice (some ⟨g26, 0, none⟩) 1 1 :: .tuple [].toArray :: .pointer (some ⟨g19, 0, none⟩) :: .pointer (some ⟨g5, 1, none⟩) :: .bool r.p :: .int .u64 (uv (UInt64.ofNat (if r.p then 1 else 0 : Int).toNat)) :: .slice (some ⟨g36, 0, none⟩) 1 1 :: .tuple [].toArray :: .pointer (some ⟨g19, 0, none⟩) :: .pointer (some ⟨g5, 2, none⟩) :: .int .u32 r.b :: .int .u64 (uv (UInt64.ofNat r.b.toNat)) :: .pointer (some ⟨g5, 3, none⟩) :: .int .u32 r.q :: .int .u64 (uv (UInt64.ofNat r.q.toNat)) :: .slice (some ⟨g45, 0, none⟩) 2 2 :: .tuple [].toArray :: .pointer (some ⟨g19, 0, none⟩) :: .pointer (some ⟨g5, 4, none⟩) :: .int .i64 r.l :: .int .u64 (uv (UInt64.ofNat (r.l + 1).toNat)) :: .slice (some ⟨g55, 0, none⟩) 1 1 :: .tuple [].toArray :: .pointer (some ⟨g19, 0, none⟩) :: .pointer (some ⟨g5, 5, none⟩) :: .agg ([.int .u32 r.xe, .int .u32 r.xq] : List Value).toArray :: .slice (some ⟨g64, 0, none⟩) 1 1 :: .tuple [].toArray :: .pointer (some ⟨g19, 0, none⟩) :: .pointer (some ⟨g5, 7, none⟩) :: .slice A r.sn.length c :: .int .i64 (r.sn.length : Int) :: .int .u64 (uv (UInt64.ofNat (r.sn.length : Int).toNat)) :: .slice (some ⟨g73, 0, none⟩) 1 1 :: .tuple [].toArray :: U32k2 (U16k2 (U8k2 (undef :: undef :: undef :: []))))) rfl ?_
    refine wpList_nil ?_
    refine hK70 _ _ ?_
    refine wp_seq_k (fun K78 hK79 => ?_)
    refine wp_seq_k (fun K80 hK81 => ?_)
    refine c_region (fun ops83 hops82 => ?_)
    clear hops82
    refine p_run _ (x_field (j := 7) _ _ rfl rfl Try.underlying34 rfl (by rfl) rfl) rfl ?_
    refine p_run _ (x_load (.slice A r.sn.length c) rfl rfl (bkCell (HS.get (.tail _ (.tail _ (.tail _ (.tail _ (.tail _ (.tail _ (.tail _ (.tail _ (.head _)))))))))) 7 _ rfl) (by rfl)) rfl ?_
    refine p_run _ (x_len rfl rfl Try.underlying29) rfl ?_
    refine p_run _ (x_move (.int .i64 0) rfl rfl) rfl ?_
    refine wpList_nil ?_
    obtain ⟨qz84, hqz84⟩ : ∃ q_ : V8, q_ = ⟨.bool true, .bool false, .agg ([.slice none 0 0] : List Value).toArray, .pointer (some ⟨g19, 0, none⟩), .pointer (some ⟨g19, 0, none⟩), .pointer (some ⟨g5, 0, none⟩), .int .u32 r.e, .int .u64 (uv (UInt64.ofNat r.e.toNat))⟩ := ⟨_, rfl⟩
    obtain ⟨qz85, hqz85⟩ : ∃ q_ : V8, q_ = ⟨.slice (some ⟨g26, 0, none⟩) 1 1, .tuple [].toArray, .pointer (some ⟨g19, 0, none⟩), .pointer (some ⟨g5, 1, none⟩), .bool r.p, .int .u64 (uv (UInt64.ofNat (if r.p then 1 else 0 : Int).toNat)), .slice (some ⟨g36, 0, none⟩) 1 1, .tuple [].toArray⟩ := ⟨_, rfl⟩
    obtain ⟨qz86, hqz86⟩ : ∃ q_ : V8, q_ = ⟨.pointer (some ⟨g19, 0, none⟩), .pointer (some ⟨g5, 2, none⟩), .int .u32 r.b, .int .u64 (uv (UInt64.ofNat r.b.toNat)), .pointer (some ⟨g5, 3, none⟩), .int .u32 r.q, .int .u64 (uv (UInt64.ofNat r.q.toNat)), .slice (some ⟨g45, 0, none⟩) 2 2⟩ := ⟨_, rfl⟩
    obtain ⟨qz87, hqz87⟩ : ∃ q_ : V8, q_ = ⟨.tuple [].toArray, .pointer (some ⟨g19, 0, none⟩), .pointer (some ⟨g5, 4, none⟩), .int .i64 r.l, .int .u64 (uv (UInt64.ofNat (r.l + 1).toNat)), .slice (some ⟨g55, 0, none⟩) 1 1, .tuple [].toArray, .pointer (some ⟨g19, 0, none⟩)⟩ := ⟨_, rfl⟩
    obtain ⟨qz88, hqz88⟩ : ∃ q_ : V8, q_ = ⟨.pointer (some ⟨g5, 5, none⟩), .agg ([.int .u32 r.xe, .int .u32 r.xq] : List Value).toArray, .slice (some ⟨g64, 0, none⟩) 1 1, .tuple [].toArray, .pointer (some ⟨g19, 0, none⟩), .pointer (some ⟨g5, 7, none⟩), .slice A r.sn.length c, .int .i64 (r.sn.length : Int)⟩ := ⟨_, rfl⟩
    refine fr_at (l' := (rcV r A c :: .pointer (some ⟨g5, 0, none⟩) :: .slice none 0 0 :: .int .i64 0 :: .pointer (some ⟨g19, 0, none⟩) :: undef :: undef :: rcV r A c :: V8.l qz84 (V8.l qz85 (V8.l qz86 (V8.l qz87 (V8.l qz88 (.int .u64 (uv (UInt64.ofNat (r.sn.length : Int).toNat)) :: .slice (some ⟨g73, 0, none⟩) 1 1 :: .tuple [].toArray :: .pointer (some ⟨g5, 7, none⟩) :: .slice A r.sn.length c :: .int .i64 (r.sn.length : Int) :: .int .i64 0 :: U32k2 (U16k2 (U4k2 (undef :: undef :: undef :: [])))))))))) (by subst hqz84 hqz85 hqz86 hqz87 hqz88; rfl) ?_
    refine hK81 _ _ ?_
    refine wp_block ?_
    refine c_loop (ι := Nat × Value) (fun i_ a_ w_ => match i_ with | (j, u4) => ∃ (u6 : Value) (u55 : Value) (u56 : Value) (u57 : Value) (u58 : Value) (u59 : Value) (u60 : Value) (u61 : Value) (u62 : Value) (u63 : Value) (u64 : Value) (u65 : Value) (u66 : Value) (u67 : Value) (u68 : Value) (u69 : Value) (u70 : Value) (u71 : Value) (u72 : Value) (u73 : Value) (u74 : Value) (u75 : Value), a_ = fr (rcV r A c :: .pointer (some ⟨g5, 0, none⟩) :: .slice none 0 0 :: .int .i64 0 :: .pointer (some ⟨g19, 0, none⟩) :: undef :: u6 :: rcV r A c :: V8.l qz84 (V8.l qz85 (V8.l qz86 (V8.l qz87 (V8.l qz88 (.int .u64 (uv (UInt64.ofNat (r.sn.length : Int).toNat)) :: .slice (some ⟨g73, 0, none⟩) 1 1 :: .tuple [].toArray :: .pointer (some ⟨g5, 7, none⟩) :: .slice A r.sn.length c :: .int .i64 (r.sn.length : Int) :: .int .i64 (j : Int) :: u55 :: u56 :: u57 :: u58 :: u59 :: u60 :: u61 :: u62 :: u63 :: u64 :: u65 :: u66 :: u67 :: u68 :: u69 :: u70 :: u71 :: u72 :: u73 :: u74 :: u75 :: U32k2 (undef :: undef :: []))))))) ∧ St w (fun _ => False) w_ ([blk g19 [u4] 57, row kByte rfl 5 u4 (q7 r j), blk g5 (.int .u32 r.e :: .bool r.p :: .int .u32 r.b :: .int .u32 r.q :: .int .i64 r.l :: .int .u32 r.xe :: .int .u32 r.xq :: .slice A r.sn.length c :: .int .u64 r.s :: .int .u32 r.te :: .int .u32 r.tq :: .int .u32 r.be :: .int .u32 r.bq :: .int .i64 r.nx :: .int .i64 r.tt :: .int .i64 r.rt :: []) 34]) ∧ (j ≤ r.sn.length)) (fun i_ => match i_ with | (j, u4) => r.sn.length - j) (0, v76) ?_ ?_
    · exact ⟨_, _, _, _, _, _, _, _, _, _, _, _, _, _, _, _, _, _, _, _, _, _, rfl, (by rw [q7_zero]; exact (((((((((HS.front 2 rfl).drop.front 2 rfl).drop.front 2 rfl).drop.front 2 rfl).drop.front 2 rfl).drop.front 2 rfl).drop.front 2 rfl).front 2 rfl).front 2 rfl)), Nat.zero_le _⟩
    · clear HS
      rintro ⟨j, u4⟩ a_ w91 ⟨u6, u55, u56, u57, u58, u59, u60, u61, u62, u63, u64, u65, u66, u67, u68, u69, u70, u71, u72, u73, u74, u75, rfl, HS, hI⟩ J89 hJ90
      have hjl := hI
      refine wp_seq_k (fun K92 hK93 => ?_)
      refine c_region (fun ops95 hops94 => ?_)
      clear hops94
      refine p_run _ (x_cmp (k := .i64) (m := (j : Int)) (n := (r.sn.length : Int)) .lss (decide ((j : Int) < (r.sn.length : Int))) rfl rfl rfl rfl rfl) rfl ?_
      refine wpList_nil ?_
      refine hK93 _ _ ?_
      refine wp_seq_k (fun K96 hK97 => ?_)
      refine c_cond (t := decide ((j : Int) < (r.sn.length : Int))) rfl (fun hc98 => ?_) (fun hc98 => ?_)
      · have hlt : j < r.sn.length := by have := of_decide_eq_true hc98; omega
        obtain ⟨ad, x, rfl, hx, -⟩ := sn_get (Kd.C_below hA HS.belowOf) j hlt
        have hwx := hw.sn x (List.mem_of_getElem? hx)
        obtain ⟨⟨y1, y2⟩, ⟨y3, y4⟩, -, y5, y6⟩ := hw.sn x (List.mem_of_getElem? hx)
        obtain ⟨y7, y8⟩ := sn_root _ _ _ hsn x (List.mem_of_getElem? hx)
        refine wp_skip ?_
        refine hK97 _ _ ?_
        refine wp_seq_k (fun K99 hK100 => ?_)
        refine wp_block ?_
        refine wp_seq_k (fun K101 hK102 => ?_)
        refine c_region (fun ops104 hops103 => ?_)
        clear hops103
        refine p_run _ (x_index (A := ad) (j := j * 4) (sz := 4) rfl rfl rfl Try.underlying29 (by kernel_rfl) (by omega) rfl) rfl ?_
        refine p_run _ (x_loads [.int .u32 x.1, .int .u32 x.2.1, .int .i64 x.2.2.1, .int .u32 x.2.2.2] 4 rfl rfl (sn_cells (Kd.C_below hA HS.belowOf) hx) (by rfl) (by kernel_rfl) rfl) rfl ?_
        refine St.wAlloc HS (cs := [.int .u32 0, .int .u32 0, .int .i64 0, .int .u32 0]) (.agg [.int .u32 0, .int .u32 0, .int .i64 0, .int .u32 0].toArray) (by kernel_rfl) rfl ?_
        clear HS
        intro g105 w106 hg107 HS
        refine St.stores (cs' := [.int .u32 x.1, .int .u32 x.2.1, .int .i64 x.2.2.1, .int .u32 x.2.2.2]) HS [.int .u32 x.1, .int .u32 x.2.1, .int .i64 x.2.2.1, .int .u32 x.2.2.2] 4 rfl rfl (by rfl) (by kernel_rfl) rfl (by simp) rfl ?_
        clear HS
        intro w108 HS
        refine wpList_nil ?_
        refine fr_at (l' := (rcV r (some ad) c :: .pointer (some ⟨g5, 0, none⟩) :: .slice none 0 0 :: .int .i64 0 :: .pointer (some ⟨g19, 0, none⟩) :: undef :: .pointer (some ⟨g105, 0, none⟩) :: rcV r (some ad) c :: V8.l qz84 (V8.l qz85 (V8.l qz86 (V8.l qz87 (V8.l qz88 (.int .u64 (uv (UInt64.ofNat (r.sn.length : Int).toNat)) :: .slice (some ⟨g73, 0, none⟩) 1 1 :: .tuple [].toArray :: .pointer (some ⟨g5, 7, none⟩) :: .slice (some ad) r.sn.length c :: .int .i64 (r.sn.length : Int) :: .int .i64 (j : Int) :: .bool (decide ((j : Int) < (r.sn.length : Int))) :: .pointer (some ((ad).add (j * 4))) :: .agg ([.int .u32 x.1, .int .u32 x.2.1, .int .i64 x.2.2.1, .int .u32 x.2.2.2] : List Value).toArray :: u58 :: u59 :: u60 :: u61 :: u62 :: u63 :: u64 :: u65 :: u66 :: u67 :: u68 :: u69 :: u70 :: u71 :: u72 :: u73 :: u74 :: u75 :: U32k2 (undef :: undef :: [])))))))) rfl ?_
        refine hK102 _ _ ?_
        refine wp_seq_k (fun K109 hK110 => ?_)
        refine c_region (fun ops112 hops111 => ?_)
        clear hops111
        refine p_run _ (x_move (.pointer (some ⟨g19, 0, none⟩)) rfl rfl) rfl ?_
        refine p_run _ (x_field (j := 0) _ _ rfl rfl Try.underlying48 rfl (by rfl) rfl) rfl ?_
        refine p_run _ (x_loads [.int .u32 x.1, .int .u32 x.2.1] 2 rfl rfl (bkCells (HS.get (.head _)) 0 _ rfl) (by rfl) (by kernel_rfl) rfl) rfl ?_
        refine St.wLit1 HS [.int .u32 x.1, .int .u32 x.2.1] 2 (.agg [.int .u32 0, .int .u32 0].toArray) (.agg ([.int .u32 x.1, .int .u32 x.2.1] : List Value).toArray) Try.underlying81 (by kernel_rfl) (by decide) rfl rfl rfl ?_
        clear HS
        intro g113 w114 hg115 HS
        refine w_call [.pointer (some ⟨g19, 0, none⟩), .slice (some ⟨g113, 0, none⟩) 1 1] Try.func25 (by kernel_rfl) (by rfl) rfl ?_
        replace HS := ((HS.front 3 rfl).front 3 rfl)
        refine (wlab_any HS (l := [(x.1, x.2.1)]) (lit_reads (HS.get (.tail _ (.tail _ (.head _)))) (lb_reps1 _ x.1 x.2.1) (by simp)) (by intro y hy; rcases List.mem_singleton.1 hy with rfl; exact ⟨hwx.1, hwx.2.1⟩) (by simp only [List.length_cons, List.length_nil]; have := q7_len r j; omega)).mono ?_
        clear HS
        rintro e w117 ⟨v116, rfl, HS⟩
        refine ⟨_, rfl, ?_⟩
        refine wpList_nil ?_
        refine fr_at (l' := (rcV r (some ad) c :: .pointer (some ⟨g5, 0, none⟩) :: .slice none 0 0 :: .int .i64 0 :: .pointer (some ⟨g19, 0, none⟩) :: undef :: .pointer (some ⟨g105, 0, none⟩) :: rcV r (some ad) c :: V8.l qz84 (V8.l qz85 (V8.l qz86 (V8.l qz87 (V8.l qz88 (.int .u64 (uv (UInt64.ofNat (r.sn.length : Int).toNat)) :: .slice (some ⟨g73, 0, none⟩) 1 1 :: .tuple [].toArray :: .pointer (some ⟨g5, 7, none⟩) :: .slice (some ad) r.sn.length c :: .int .i64 (r.sn.length : Int) :: .int .i64 (j : Int) :: .bool (decide ((j : Int) < (r.sn.length : Int))) :: .pointer (some ((ad).add (j * 4))) :: .agg ([.int .u32 x.1, .int .u32 x.2.1, .int .i64 x.2.2.1, .int .u32 x.2.2.2] : List Value).toArray :: .pointer (some ⟨g19, 0, none⟩) :: .pointer (some ⟨g105, 0, none⟩) :: .agg ([.int .u32 x.1, .int .u32 x.2.1] : List Value).toArray :: .slice (some ⟨g113, 0, none⟩) 1 1 :: .tuple [].toArray :: u63 :: u64 :: u65 :: u66 :: u67 :: u68 :: u69 :: u70 :: u71 :: u72 :: u73 :: u74 :: u75 :: U32k2 (undef :: undef :: [])))))))) rfl ?_
        refine hK110 _ _ ?_
        refine wp_seq_k (fun K118 hK119 => ?_)
        refine c_region (fun ops121 hops120 => ?_)
        clear hops120
        refine p_run _ (x_move (.pointer (some ⟨g19, 0, none⟩)) rfl rfl) rfl ?_
        refine p_run _ (x_field (j := 2) _ _ rfl rfl Try.underlying48 rfl (by rfl) rfl) rfl ?_
        refine p_run _ (x_load (.int .i64 x.2.2.1) rfl rfl (bkCell (HS.get (.tail _ (.tail _ (.tail _ (.head _))))) 2 _ rfl) (by rfl)) rfl ?_
        refine w_call [.int .i64 x.2.2.1] Try.func24 (by kernel_rfl) (by rfl) rfl ?_
        refine (up_any _ x.2.2.1 (by omega)).mono ?_
        rintro e w122 ⟨rfl, hb_⟩
        replace HS := HS.here hb_
        clear hb_
        refine ⟨_, rfl, ?_⟩
        refine St.wLit1 HS [.int .u64 (uv (UInt64.ofNat (x.2.2.1 + 1).toNat))] 1 (.int .u64 0) (.int .u64 (uv (UInt64.ofNat (x.2.2.1 + 1).toNat))) Try.underlying87 (by kernel_rfl) (by decide) rfl rfl rfl ?_
        clear HS
        intro g123 w124 hg125 HS
        refine w_call [.pointer (some ⟨g19, 0, none⟩), .int .i64 1, .slice (some ⟨g123, 0, none⟩) 1 1] Try.func22 (by kernel_rfl) (by rfl) rfl ?_
        replace HS := ((HS.front 2 rfl).front 2 rfl)
        refine (wput_any (m := 1) HS (by decide) (l := [UInt64.ofNat (x.2.2.1 + 1).toNat]) (ru_lit (l := [UInt64.ofNat (x.2.2.1 + 1).toNat]) (HS.get (.tail _ (.tail _ (.head _)))) rfl (by simp)) (by rw [List.all_cons, fit1 (x := (x.2.2.1 + 1)) (by omega) (by omega) (by omega)]; rfl) (by simp only [List.length_cons, List.length_nil]; have := q7_len r j; simp only [List.length_append, nB_len, List.flatMap_cons, List.flatMap_nil, lbB_len, List.length_nil]; omega)).mono ?_
        clear HS
        rintro e w127 ⟨v126, rfl, HS⟩
        rw [pk_cons 1 (x := (x.2.2.1 + 1)) (by omega) (by omega), pk_nil, List.append_nil] at HS
        refine ⟨_, rfl, ?_⟩
        refine wpList_nil ?_
        refine fr_at (l' := (rcV r (some ad) c :: .pointer (some ⟨g5, 0, none⟩) :: .slice none 0 0 :: .int .i64 0 :: .pointer (some ⟨g19, 0, none⟩) :: undef :: .pointer (some ⟨g105, 0, none⟩) :: rcV r (some ad) c :: V8.l qz84 (V8.l qz85 (V8.l qz86 (V8.l qz87 (V8.l qz88 (.int .u64 (uv (UInt64.ofNat (r.sn.length : Int).toNat)) :: .slice (some ⟨g73, 0, none⟩) 1 1 :: .tuple [].toArray :: .pointer (some ⟨g5, 7, none⟩) :: .slice (some ad) r.sn.length c :: .int .i64 (r.sn.length : Int) :: .int .i64 (j : Int) :: .bool (decide ((j : Int) < (r.sn.length : Int))) :: .pointer (some ((ad).add (j * 4))) :: .agg ([.int .u32 x.1, .int .u32 x.2.1, .int .i64 x.2.2.1, .int .u32 x.2.2.2] : List Value).toArray :: .pointer (some ⟨g19, 0, none⟩) :: .pointer (some ⟨g105, 0, none⟩) :: .agg ([.int .u32 x.1, .int .u32 x.2.1] : List Value).toArray :: .slice (some ⟨g113, 0, none⟩) 1 1 :: .tuple [].toArray :: .pointer (some ⟨g19, 0, none⟩) :: .pointer (some ⟨g105, 2, none⟩) :: .int .i64 x.2.2.1 :: .int .u64 (uv (UInt64.ofNat (x.2.2.1 + 1).toNat)) :: .slice (some ⟨g123, 0, none⟩) 1 1 :: .tuple [].toArray :: u69 :: u70 :: u71 :: u72 :: u73 :: u74 :: u75 :: U32k2 (undef :: undef :: [])))))))) rfl ?_
        refine hK119 _ _ ?_
        refine c_region (fun ops129 hops128 => ?_)
        clear hops128
        refine p_run _ (x_move (.pointer (some ⟨g19, 0, none⟩)) rfl rfl) rfl ?_
        refine p_run _ (x_field (j := 3) _ _ rfl rfl Try.underlying48 rfl (by rfl) rfl) rfl ?_
        refine p_run _ (x_load (.int .u32 x.2.2.2) rfl rfl (bkCell (HS.get (.tail _ (.tail _ (.tail _ (.tail _ (.head _)))))) 3 _ rfl) (by rfl)) rfl ?_
        refine p_run _ (x_conv (k := .u32) (m := x.2.2.2) .u64 ((uv (UInt64.ofNat x.2.2.2.toNat))) rfl (by rw [Try.underlying26]; rfl) Try.underlying30 rfl (u32_conv (by omega) (by omega))) rfl ?_
        refine St.wLit1 HS [.int .u64 (uv (UInt64.ofNat x.2.2.2.toNat))] 1 (.int .u64 0) (.int .u64 (uv (UInt64.ofNat x.2.2.2.toNat))) Try.underlying87 (by kernel_rfl) (by decide) rfl rfl rfl ?_
        clear HS
        intro g130 w131 hg132 HS
        refine w_call [.pointer (some ⟨g19, 0, none⟩), .int .i64 4, .slice (some ⟨g130, 0, none⟩) 1 1] Try.func22 (by kernel_rfl) (by rfl) rfl ?_
        replace HS := ((HS.front 2 rfl).front 2 rfl)
        refine (wput_any (m := 4) HS (by decide) (l := [UInt64.ofNat x.2.2.2.toNat]) (ru_lit (l := [UInt64.ofNat x.2.2.2.toNat]) (HS.get (.tail _ (.tail _ (.head _)))) rfl (by simp)) (by rw [List.all_cons, fit1 (x := x.2.2.2) (by omega) (by omega) (by omega)]; rfl) (by simp only [List.length_cons, List.length_nil]; have := q7_len r j; simp only [List.length_append, nB_len, List.flatMap_cons, List.flatMap_nil, lbB_len, List.length_nil]; omega)).mono ?_
        clear HS
        rintro e w134 ⟨v133, rfl, HS⟩
        rw [pk_cons 4 (x := x.2.2.2) (by omega) (by omega), pk_nil, List.append_nil] at HS
        rw [q7_step hx] at HS
        refine ⟨_, rfl, ?_⟩
        refine wpList_nil ?_
        refine fr_at (l' := (rcV r (some ad) c :: .pointer (some ⟨g5, 0, none⟩) :: .slice none 0 0 :: .int .i64 0 :: .pointer (some ⟨g19, 0, none⟩) :: undef :: .pointer (some ⟨g105, 0, none⟩) :: rcV r (some ad) c :: V8.l qz84 (V8.l qz85 (V8.l qz86 (V8.l qz87 (V8.l qz88 (.int .u64 (uv (UInt64.ofNat (r.sn.length : Int).toNat)) :: .slice (some ⟨g73, 0, none⟩) 1 1 :: .tuple [].toArray :: .pointer (some ⟨g5, 7, none⟩) :: .slice (some ad) r.sn.length c :: .int .i64 (r.sn.length : Int) :: .int .i64 (j : Int) :: .bool (decide ((j : Int) < (r.sn.length : Int))) :: .pointer (some ((ad).add (j * 4))) :: .agg ([.int .u32 x.1, .int .u32 x.2.1, .int .i64 x.2.2.1, .int .u32 x.2.2.2] : List Value).toArray :: .pointer (some ⟨g19, 0, none⟩) :: .pointer (some ⟨g105, 0, none⟩) :: .agg ([.int .u32 x.1, .int .u32 x.2.1] : List Value).toArray :: .slice (some ⟨g113, 0, none⟩) 1 1 :: .tuple [].toArray :: .pointer (some ⟨g19, 0, none⟩) :: .pointer (some ⟨g105, 2, none⟩) :: .int .i64 x.2.2.1 :: .int .u64 (uv (UInt64.ofNat (x.2.2.1 + 1).toNat)) :: .slice (some ⟨g123, 0, none⟩) 1 1 :: .tuple [].toArray :: .pointer (some ⟨g19, 0, none⟩) :: .pointer (some ⟨g105, 3, none⟩) :: .int .u32 x.2.2.2 :: .int .u64 (uv (UInt64.ofNat x.2.2.2.toNat)) :: .slice (some ⟨g130, 0, none⟩) 1 1 :: .tuple [].toArray :: u75 :: U32k2 (undef :: undef :: [])))))))) rfl ?_
        refine hK100 _ _ ?_
        refine c_region (fun ops136 hops135 => ?_)
        clear hops135
        refine p_run _ (x_arith (k := .i64) (m := (j : Int)) (n := 1) .add (((j + 1 : Nat) : Int)) rfl rfl rfl (show IntKind.i64.wrap ((j : Int) + 1) = ((j + 1 : Nat) : Int) from ((wr64' (by omega)).trans (by omega))) rfl) rfl ?_
        refine p_run _ (x_move (.int .i64 ((j + 1 : Nat) : Int)) rfl rfl) rfl ?_
        refine wpList_nil ?_
        refine fr_at (l' := (rcV r (some ad) c :: .pointer (some ⟨g5, 0, none⟩) :: .slice none 0 0 :: .int .i64 0 :: .pointer (some ⟨g19, 0, none⟩) :: undef :: .pointer (some ⟨g105, 0, none⟩) :: rcV r (some ad) c :: V8.l qz84 (V8.l qz85 (V8.l qz86 (V8.l qz87 (V8.l qz88 (.int .u64 (uv (UInt64.ofNat (r.sn.length : Int).toNat)) :: .slice (some ⟨g73, 0, none⟩) 1 1 :: .tuple [].toArray :: .pointer (some ⟨g5, 7, none⟩) :: .slice (some ad) r.sn.length c :: .int .i64 (r.sn.length : Int) :: .int .i64 ((j + 1 : Nat) : Int) :: .bool (decide ((j : Int) < (r.sn.length : Int))) :: .pointer (some ((ad).add (j * 4))) :: .agg ([.int .u32 x.1, .int .u32 x.2.1, .int .i64 x.2.2.1, .int .u32 x.2.2.2] : List Value).toArray :: .pointer (some ⟨g19, 0, none⟩) :: .pointer (some ⟨g105, 0, none⟩) :: .agg ([.int .u32 x.1, .int .u32 x.2.1] : List Value).toArray :: .slice (some ⟨g113, 0, none⟩) 1 1 :: .tuple [].toArray :: .pointer (some ⟨g19, 0, none⟩) :: .pointer (some ⟨g105, 2, none⟩) :: .int .i64 x.2.2.1 :: .int .u64 (uv (UInt64.ofNat (x.2.2.1 + 1).toNat)) :: .slice (some ⟨g123, 0, none⟩) 1 1 :: .tuple [].toArray :: .pointer (some ⟨g19, 0, none⟩) :: .pointer (some ⟨g105, 3, none⟩) :: .int .u32 x.2.2.2 :: .int .u64 (uv (UInt64.ofNat x.2.2.2.toNat)) :: .slice (some ⟨g130, 0, none⟩) 1 1 :: .tuple [].toArray :: .int .i64 ((j + 1 : Nat) : Int) :: U32k2 (undef :: undef :: [])))))))) rfl ?_
        refine hJ90 (j + 1, v133) _ _ ?_ ?_
        · show r.sn.length - (j + 1) < r.sn.length - j; omega
        · exact ⟨_, _, _, _, _, _, _, _, _, _, _, _, _, _, _, _, _, _, _, _, _, _, rfl, (((((((HS.front 2 rfl).drop.front 2 rfl).drop.front 2 rfl).drop.front 2 rfl).drop.front 2 rfl).front 2 rfl).front 2 rfl), (by omega)⟩
      · have hlt : j = r.sn.length := by have := of_decide_eq_false hc98; omega
        subst hlt
        refine wp_exit ?_
        refine hK79 _ _ ?_
        refine wp_seq_k (fun K137 hK138 => ?_)
        refine c_region (fun ops140 hops139 => ?_)
        clear hops139
        refine p_run _ (x_move (.pointer (some ⟨g19, 0, none⟩)) rfl rfl) rfl ?_
        refine p_run _ (x_field (j := 8) _ _ rfl rfl Try.underlying34 rfl (by rfl) rfl) rfl ?_
        refine p_run _ (x_field (j := 8) _ _ rfl rfl Try.underlying32 rfl (by rfl) rfl) rfl ?_
        refine p_run _ (x_load (.int .u64 r.s) rfl rfl (bkCell (HS.get (.tail _ (.tail _ (.head _)))) 8 _ rfl) (by rfl)) rfl ?_
        refine St.wLit1 HS [.int .u64 r.s] 1 (.int .u64 0) (.int .u64 r.s) Try.underlying87 (by kernel_rfl) (by decide) rfl rfl rfl ?_
        clear HS
        intro g141 w142 hg143 HS
        refine w_call [.pointer (some ⟨g19, 0, none⟩), .int .i64 8, .slice (some ⟨g141, 0, none⟩) 1 1] Try.func22 (by kernel_rfl) (by rfl) rfl ?_
        replace HS := ((HS.front 2 rfl).front 2 rfl)
        refine (wput_any (m := 8) HS (by decide) (l := [UInt64.ofNat r.s.toNat]) (ru_lit (l := [UInt64.ofNat r.s.toNat]) (by have h := HS.get (.tail _ (.tail _ (.head _))); rw [hs_] at h; exact h) rfl (by simp)) (by rw [List.all_cons, fit1 (x := r.s) (by omega) (by omega) (by omega)]; rfl) (by simp only [List.length_cons, List.length_nil]; have := q7_len r r.sn.length; omega)).mono ?_
        clear HS
        rintro e w145 ⟨v144, rfl, HS⟩
        rw [pk_cons 8 (x := r.s) (by omega) (by omega), pk_nil, List.append_nil] at HS
        replace HS : St _ _ _ (blk _ _ _ :: row kByte rfl _ _ (q8 r) :: _) := HS
        refine ⟨_, rfl, ?_⟩
        refine wpList_nil ?_
        obtain ⟨qz146, hqz146⟩ : ∃ q_ : V8, q_ = ⟨.int .u64 (uv (UInt64.ofNat (r.sn.length : Int).toNat)), .slice (some ⟨g73, 0, none⟩) 1 1, .tuple [].toArray, .pointer (some ⟨g5, 7, none⟩), .slice A r.sn.length c, .int .i64 (r.sn.length : Int), .int .i64 (r.sn.length : Int), .bool (decide ((r.sn.length : Int) < (r.sn.length : Int)))⟩ := ⟨_, rfl⟩
        obtain ⟨qz147, hqz147⟩ : ∃ q_ : V8, q_ = ⟨u56, u57, u58, u59, u60, u61, u62, u63⟩ := ⟨_, rfl⟩
        obtain ⟨qz148, hqz148⟩ : ∃ q_ : V8, q_ = ⟨u64, u65, u66, u67, u68, u69, u70, u71⟩ := ⟨_, rfl⟩
        obtain ⟨qz149, hqz149⟩ : ∃ q_ : V8, q_ = ⟨u72, u73, u74, u75, .pointer (some ⟨g19, 0, none⟩), .pointer (some ⟨g5, 8, none⟩), .pointer (some ⟨g5, 8, none⟩), .int .u64 r.s⟩ := ⟨_, rfl⟩
        refine fr_at (l' := (rcV r A c :: .pointer (some ⟨g5, 0, none⟩) :: .slice none 0 0 :: .int .i64 0 :: .pointer (some ⟨g19, 0, none⟩) :: undef :: u6 :: rcV r A c :: V8.l qz84 (V8.l qz85 (V8.l qz86 (V8.l qz87 (V8.l qz88 (V8.l qz146 (V8.l qz147 (V8.l qz148 (V8.l qz149 (.slice (some ⟨g141, 0, none⟩) 1 1 :: .tuple [].toArray :: U16k2 (U8k2 (U4k2 ([])))))))))))))) (by subst hqz146 hqz147 hqz148 hqz149; rfl) ?_
        refine hK138 _ _ ?_
        refine wp_seq_k (fun K150 hK151 => ?_)
        refine c_region (fun ops153 hops152 => ?_)
        clear hops152
        refine p_run _ (x_move (.pointer (some ⟨g19, 0, none⟩)) rfl rfl) rfl ?_
        refine p_run _ (x_field (j := 8) _ _ rfl rfl Try.underlying34 rfl (by rfl) rfl) rfl ?_
        refine p_run _ (x_field (j := 9) _ _ rfl rfl Try.underlying32 rfl (by rfl) rfl) rfl ?_
        refine p_run _ (x_loads [.int .u32 r.te, .int .u32 r.tq] 2 rfl rfl (bkCells (HS.get (.tail _ (.tail _ (.tail _ (.head _))))) 9 _ rfl) (by rfl) (by kernel_rfl) rfl) rfl ?_
        refine p_run _ (x_field (j := 8) _ _ rfl rfl Try.underlying34 rfl (by rfl) rfl) rfl ?_
        refine p_run _ (x_field (j := 11) _ _ rfl rfl Try.underlying32 rfl (by rfl) rfl) rfl ?_
        refine p_run (l' := (rcV r A c :: .pointer (some ⟨g5, 0, none⟩) :: .slice none 0 0 :: .int .i64 0 :: .pointer (some ⟨g19, 0, none⟩) :: undef :: u6 :: rcV r A c :: V8.l qz84 (V8.l qz85 (V8.l qz86 (V8.l qz87 (V8.l qz88 (V8.l qz146 (V8.l qz147 (V8.l qz148 (V8.l qz149 (.slice (some ⟨g141, 0, none⟩) 1 1 :: .tuple [].toArray :: .pointer (some ⟨g19, 0, none⟩) :: .pointer (some ⟨g5, 8, none⟩) :: .pointer (some ⟨g5, 9, none⟩) :: .agg ([.int .u32 r.te, .int .u32 r.tq] : List Value).toArray :: .pointer (some ⟨g5, 8, none⟩) :: .pointer (some ⟨g5, 11, none⟩) :: .agg ([.int .u32 r.be, .int .u32 r.bq] : List Value).toArray :: U16k2 (U4k2 (undef :: []))))))))))))) _ (x_loads [.int .u32 r.be, .int .u32 r.bq] 2 rfl rfl (bkCells (HS.get (.tail _ (.tail _ (.tail _ (.head _))))) 11 _ rfl) (by rfl) (by kernel_rfl) rfl) rfl ?_
        refine St.wLit HS (cs := [.int .u32 r.te, .int .u32 r.tq, .int .u32 r.be, .int .u32 r.bq]) 2 (.agg [.int .u32 0, .int .u32 0].toArray) Try.underlying81 (by kernel_rfl) (by decide) (by kernel_rfl) ?_
        clear HS
        intro g154 w155 hg156 HS
        refine w_call [.pointer (some ⟨g19, 0, none⟩), .slice (some ⟨g154, 0, none⟩) 2 2] Try.func25 (by kernel_rfl) (by rfl) rfl ?_
        replace HS := ((HS.front 2 rfl).front 2 rfl)
        refine (wlab_any HS (l := [(r.te, r.tq), (r.be, r.bq)]) (lit_reads (HS.get (.tail _ (.tail _ (.head _)))) (lb_reps2 _ r.te r.tq r.be r.bq) (by simp)) (by intro y hy; simp only [List.mem_cons, List.not_mem_nil, or_false] at hy; rcases hy with rfl | rfl; exact ⟨hw.te, hw.tq⟩; exact ⟨hw.be, hw.bq⟩) (by simp only [List.length_cons, List.length_nil]; have := (q9_len r).1; omega)).mono ?_
        clear HS
        rintro e w158 ⟨v157, rfl, HS⟩
        replace HS : St _ _ _ (blk _ _ _ :: row kByte rfl _ _ (q9 r) :: _) := HS
        refine ⟨_, rfl, ?_⟩
        refine wpList_nil ?_
        refine hK151 _ _ ?_
        refine wp_seq_k (fun K159 hK160 => ?_)
        refine free_frame (n := 15) (T := _) [0, 0, 2, 6, 14, 0, 32, 96, 224, 0, 512, 1536, 3584, 8190, 16383] [(0, 91), (1, 92), (2, 93), (3, 94), (4, 95), (5, 96), (6, 97), (7, 98), (8, 99), (9, 100), (10, 101), (11, 102), (12, 103), (13, 104), (14, 105)] (fun bq_ vq_ w_ => qv ((fun i_ => match i_ with | 0 => some (.pointer (some ⟨g19, 0, none⟩)) | 1 => some (.pointer (some ⟨g5, 8, none⟩)) | 2 => some (.pointer (some ⟨g5, 13, none⟩)) | 3 => some (.int .i64 r.nx) | 4 => some (.int .u64 (uv (UInt64.ofNat r.nx.toNat))) | 5 => some (.pointer (some ⟨g5, 8, none⟩)) | 6 => some (.pointer (some ⟨g5, 14, none⟩)) | 7 => some (.int .i64 r.tt) | 8 => some (.int .u64 (uv (UInt64.ofNat r.tt.toNat))) | 9 => some (.pointer (some ⟨g5, 8, none⟩)) | 10 => some (.pointer (some ⟨g5, 15, none⟩)) | 11 => some (.int .i64 r.rt) | _ => none) : Nat → Option Value) bq_ vq_ ∧ cond (bq_ 14) (∃ (g164 : Nat) (v167 : Value), vq_ 12 = .int .u64 (uv (UInt64.ofNat (r.rt + 1).toNat)) ∧ vq_ 13 = .slice (some ⟨g164, 0, none⟩) 3 3 ∧ vq_ 14 = .tuple [].toArray ∧ St w (fun _ => False) w_ ([blk g19 [v167] 57, row kByte rfl 5 v167 (rcB r), blk g164 [.int .u64 (uv (UInt64.ofNat r.nx.toNat)), .int .u64 (uv (UInt64.ofNat r.tt.toNat)), .int .u64 (uv (UInt64.ofNat (r.rt + 1).toNat))] 30, blk g154 [.int .u32 r.te, .int .u32 r.tq, .int .u32 r.be, .int .u32 r.bq] 28, blk g141 [.int .u64 r.s] 30, blk g5 (.int .u32 r.e :: .bool r.p :: .int .u32 r.b :: .int .u32 r.q :: .int .i64 r.l :: .int .u32 r.xe :: .int .u32 r.xq :: .slice A r.sn.length c :: .int .u64 r.s :: .int .u32 r.te :: .int .u32 r.tq :: .int .u32 r.be :: .int .u32 r.bq :: .int .i64 r.nx :: .int .i64 r.tt :: .int .i64 r.rt :: []) 34])) (cond (bq_ 13) (∃ (g164 : Nat), vq_ 12 = .int .u64 (uv (UInt64.ofNat (r.rt + 1).toNat)) ∧ vq_ 13 = .slice (some ⟨g164, 0, none⟩) 3 3 ∧ St w (fun _ => False) w_ ([blk g164 [.int .u64 (uv (UInt64.ofNat r.nx.toNat)), .int .u64 (uv (UInt64.ofNat r.tt.toNat)), .int .u64 (uv (UInt64.ofNat (r.rt + 1).toNat))] 30, blk g19 [v157] 57, row kByte rfl 5 v157 (q9 r), blk g154 [.int .u32 r.te, .int .u32 r.tq, .int .u32 r.be, .int .u32 r.bq] 28, blk g141 [.int .u64 r.s] 30, blk g5 (.int .u32 r.e :: .bool r.p :: .int .u32 r.b :: .int .u32 r.q :: .int .i64 r.l :: .int .u32 r.xe :: .int .u32 r.xq :: .slice A r.sn.length c :: .int .u64 r.s :: .int .u32 r.te :: .int .u32 r.tq :: .int .u32 r.be :: .int .u32 r.bq :: .int .i64 r.nx :: .int .i64 r.tt :: .int .i64 r.rt :: []) 34])) (cond (bq_ 12) (vq_ 12 = .int .u64 (uv (UInt64.ofNat (r.rt + 1).toNat)) ∧ St w (fun _ => False) w_ ([blk g19 [v157] 57, row kByte rfl 5 v157 (q9 r), blk g154 [.int .u32 r.te, .int .u32 r.tq, .int .u32 r.be, .int .u32 r.bq] 28, blk g141 [.int .u64 r.s] 30, blk g5 (.int .u32 r.e :: .bool r.p :: .int .u32 r.b :: .int .u32 r.q :: .int .i64 r.l :: .int .u32 r.xe :: .int .u32 r.xq :: .slice A r.sn.length c :: .int .u64 r.s :: .int .u32 r.te :: .int .u32 r.tq :: .int .u32 r.be :: .int .u32 r.bq :: .int .i64 r.nx :: .int .i64 r.tt :: .int .i64 r.rt :: []) 34])) ((St w (fun _ => False) w_ ([blk g19 [v157] 57, row kByte rfl 5 v157 (q9 r), blk g154 [.int .u32 r.te, .int .u32 r.tq, .int .u32 r.be, .int .u32 r.bq] 28, blk g141 [.int .u64 r.s] 30, blk g5 (.int .u32 r.e :: .bool r.p :: .int .u32 r.b :: .int .u32 r.q :: .int .i64 r.l :: .int .u32 r.xe :: .int .u32 r.xq :: .slice A r.sn.length c :: .int .u64 r.s :: .int .u32 r.te :: .int .u32 r.tq :: .int .u32 r.be :: .int .u32 r.bq :: .int .i64 r.nx :: .int .i64 r.tt :: .int .i64 r.rt :: []) 34])))))) (by kernel_rfl) rfl rfl (by kernel_rfl) (by kernel_rfl) rfl (by kernel_rfl) (by kernel_rfl) ⟨qv_none, HS.draw⟩ ?_ ?_
        · clear HS
          intro i_ hi_ bq_ vq_ a_ w_ hG hb_ hon hoff hfr hel hval
          obtain ⟨hV, hE⟩ := hG
          have hi_ := List.mem_range.1 hi_
          obtain ⟨l_, rfl⟩ := hfr
          have hv_ := fun (j t : Nat) (v : Value) (h1 : (j, t) ∈ [(0, 91), (1, 92), (2, 93), (3, 94), (4, 95), (5, 96), (6, 97), (7, 98), (8, 99), (9, 100), (10, 101), (11, 102), (12, 103), (13, 104), (14, 105)]) h2 h3 => (hval (j, t) h1 h3).trans (congrArg some (hV j v h2 h3))
          have hcs : i_ = 0 ∨ i_ = 1 ∨ i_ = 2 ∨ i_ = 3 ∨ i_ = 4 ∨ i_ = 5 ∨ i_ = 6 ∨ i_ = 7 ∨ i_ = 8 ∨ i_ = 9 ∨ i_ = 10 ∨ i_ = 11 ∨ i_ = 12 ∨ i_ = 13 ∨ i_ = 14 := by omega
          rcases hcs with rfl | rfl | rfl | rfl | rfl | rfl | rfl | rfl | rfl | rfl | rfl | rfl | rfl | rfl | rfl
          · have e4 : evl l_ (.tmp 4) = .pointer (some ⟨g19, 0, none⟩) := evl_of ((hel 4 (by decide)).trans rfl)
            exact ⟨_, rfl, fun K_ hK_ => q_op _ (x_move (.pointer (some ⟨g19, 0, none⟩)) rfl e4) (hK_ _ _ ⟨qv_up hV (fun _ h => Option.some.inj h), hE⟩)⟩
          · have e1 : evl l_ (.tmp 1) = .pointer (some ⟨g5, 0, none⟩) := evl_of ((hel 1 (by decide)).trans rfl)
            exact ⟨_, rfl, fun K_ hK_ => q_op _ (x_field (j := 8) _ _ rfl e1 Try.underlying34 rfl (by rfl) rfl) (hK_ _ _ ⟨qv_up hV (fun _ h => Option.some.inj h), hE⟩)⟩
          · have e92 : evl l_ (.tmp 92) = .pointer (some ⟨g5, 8, none⟩) := evl_of (hv_ 1 92 _ (by decide) rfl (hon 1 (by decide)))
            exact ⟨_, rfl, fun K_ hK_ => q_op _ (x_field (j := 13) _ _ rfl e92 Try.underlying32 rfl (by rfl) rfl) (hK_ _ _ ⟨qv_up hV (fun _ h => Option.some.inj h), hE⟩)⟩
          · rcases hq12 : bq_ 12 with _ | _
            · skip
              have hE0 := hE
              rw [show bq_ 14 = false from (hoff 14 (by decide))] at hE0
              rw [show bq_ 13 = false from (hoff 13 (by decide))] at hE0
              rw [show bq_ 12 = false from hq12] at hE0
              simp only [cond_true, cond_false] at hE0
              have HS := hE0
              have e93 : evl l_ (.tmp 93) = .pointer (some ⟨g5, 13, none⟩) := evl_of (hv_ 2 93 _ (by decide) rfl (hon 2 (by decide)))
              exact ⟨_, rfl, fun K_ hK_ => q_op _ (x_load (.int .i64 r.nx) rfl e93 (bkCell (HS.get (.tail _ (.tail _ (.tail _ (.tail _ (.head _)))))) 13 _ rfl) (by rfl)) (hK_ _ _ ⟨qv_up hV (fun _ h => Option.some.inj h), hE⟩)⟩
            · have hE0 := hE
              rw [show bq_ 14 = false from (hoff 14 (by decide))] at hE0
              rw [show bq_ 13 = false from (hoff 13 (by decide))] at hE0
              rw [show bq_ 12 = true from hq12] at hE0
              simp only [cond_true, cond_false] at hE0
              obtain ⟨hv12, HS⟩ := hE0
              have e93 : evl l_ (.tmp 93) = .pointer (some ⟨g5, 13, none⟩) := evl_of (hv_ 2 93 _ (by decide) rfl (hon 2 (by decide)))
              exact ⟨_, rfl, fun K_ hK_ => q_op _ (x_load (.int .i64 r.nx) rfl e93 (bkCell (HS.get (.tail _ (.tail _ (.tail _ (.tail _ (.head _)))))) 13 _ rfl) (by rfl)) (hK_ _ _ ⟨qv_up hV (fun _ h => Option.some.inj h), hE⟩)⟩
          · have e94 : evl l_ (.tmp 94) = .int .i64 r.nx := evl_of (hv_ 3 94 _ (by decide) rfl (hon 3 (by decide)))
            exact ⟨_, rfl, fun K_ hK_ => q_op _ (x_conv (k := .i64) (m := r.nx) .u64 ((uv (UInt64.ofNat r.nx.toNat))) rfl (by rw [Try.underlying3]; rfl) Try.underlying30 e94 (u32_conv (by omega) (by omega))) (hK_ _ _ ⟨qv_up hV (fun _ h => Option.some.inj h), hE⟩)⟩
          · have e1 : evl l_ (.tmp 1) = .pointer (some ⟨g5, 0, none⟩) := evl_of ((hel 1 (by decide)).trans rfl)
            exact ⟨_, rfl, fun K_ hK_ => q_op _ (x_field (j := 8) _ _ rfl e1 Try.underlying34 rfl (by rfl) rfl) (hK_ _ _ ⟨qv_up hV (fun _ h => Option.some.inj h), hE⟩)⟩
          · have e96 : evl l_ (.tmp 96) = .pointer (some ⟨g5, 8, none⟩) := evl_of (hv_ 5 96 _ (by decide) rfl (hon 5 (by decide)))
            exact ⟨_, rfl, fun K_ hK_ => q_op _ (x_field (j := 14) _ _ rfl e96 Try.underlying32 rfl (by rfl) rfl) (hK_ _ _ ⟨qv_up hV (fun _ h => Option.some.inj h), hE⟩)⟩
          · rcases hq12 : bq_ 12 with _ | _
            · skip
              have hE0 := hE
              rw [show bq_ 14 = false from (hoff 14 (by decide))] at hE0
              rw [show bq_ 13 = false from (hoff 13 (by decide))] at hE0
              rw [show bq_ 12 = false from hq12] at hE0
              simp only [cond_true, cond_false] at hE0
              have HS := hE0
              have e97 : evl l_ (.tmp 97) = .pointer (some ⟨g5, 14, none⟩) := evl_of (hv_ 6 97 _ (by decide) rfl (hon 6 (by decide)))
              exact ⟨_, rfl, fun K_ hK_ => q_op _ (x_load (.int .i64 r.tt) rfl e97 (bkCell (HS.get (.tail _ (.tail _ (.tail _ (.tail _ (.head _)))))) 14 _ rfl) (by rfl)) (hK_ _ _ ⟨qv_up hV (fun _ h => Option.some.inj h), hE⟩)⟩
            · have hE0 := hE
              rw [show bq_ 14 = false from (hoff 14 (by decide))] at hE0
              rw [show bq_ 13 = false from (hoff 13 (by decide))] at hE0
              rw [show bq_ 12 = true from hq12] at hE0
              simp only [cond_true, cond_false] at hE0
              obtain ⟨hv12, HS⟩ := hE0
              have e97 : evl l_ (.tmp 97) = .pointer (some ⟨g5, 14, none⟩) := evl_of (hv_ 6 97 _ (by decide) rfl (hon 6 (by decide)))
              exact ⟨_, rfl, fun K_ hK_ => q_op _ (x_load (.int .i64 r.tt) rfl e97 (bkCell (HS.get (.tail _ (.tail _ (.tail _ (.tail _ (.head _)))))) 14 _ rfl) (by rfl)) (hK_ _ _ ⟨qv_up hV (fun _ h => Option.some.inj h), hE⟩)⟩
          · have e98 : evl l_ (.tmp 98) = .int .i64 r.tt := evl_of (hv_ 7 98 _ (by decide) rfl (hon 7 (by decide)))
            exact ⟨_, rfl, fun K_ hK_ => q_op _ (x_conv (k := .i64) (m := r.tt) .u64 ((uv (UInt64.ofNat r.tt.toNat))) rfl (by rw [Try.underlying3]; rfl) Try.underlying30 e98 (u32_conv (by omega) (by omega))) (hK_ _ _ ⟨qv_up hV (fun _ h => Option.some.inj h), hE⟩)⟩
          · have e1 : evl l_ (.tmp 1) = .pointer (some ⟨g5, 0, none⟩) := evl_of ((hel 1 (by decide)).trans rfl)
            exact ⟨_, rfl, fun K_ hK_ => q_op _ (x_field (j := 8) _ _ rfl e1 Try.underlying34 rfl (by rfl) rfl) (hK_ _ _ ⟨qv_up hV (fun _ h => Option.some.inj h), hE⟩)⟩
          · have e100 : evl l_ (.tmp 100) = .pointer (some ⟨g5, 8, none⟩) := evl_of (hv_ 9 100 _ (by decide) rfl (hon 9 (by decide)))
            exact ⟨_, rfl, fun K_ hK_ => q_op _ (x_field (j := 15) _ _ rfl e100 Try.underlying32 rfl (by rfl) rfl) (hK_ _ _ ⟨qv_up hV (fun _ h => Option.some.inj h), hE⟩)⟩
          · have hE0 := hE
            rw [show bq_ 14 = false from (hoff 14 (by decide))] at hE0
            rw [show bq_ 13 = false from (hoff 13 (by decide))] at hE0
            rw [show bq_ 12 = false from (hoff 12 (by decide))] at hE0
            simp only [cond_true, cond_false] at hE0
            have HS := hE0
            have e101 : evl l_ (.tmp 101) = .pointer (some ⟨g5, 15, none⟩) := evl_of (hv_ 10 101 _ (by decide) rfl (hon 10 (by decide)))
            exact ⟨_, rfl, fun K_ hK_ => q_op _ (x_load (.int .i64 r.rt) rfl e101 (bkCell (HS.get (.tail _ (.tail _ (.tail _ (.tail _ (.head _)))))) 15 _ rfl) (by rfl)) (hK_ _ _ ⟨qv_up hV (fun _ h => Option.some.inj h), hE⟩)⟩
          · have h102 : (fr l_).tmps[102]? = some (.int .i64 r.rt) := hv_ 11 102 _ (by decide) rfl (hon 11 (by decide))
            have hE0 := hE
            rw [show bq_ 14 = false from (hoff 14 (by decide))] at hE0
            rw [show bq_ 13 = false from (hoff 13 (by decide))] at hE0
            rw [show bq_ 12 = false from hb_] at hE0
            simp only [cond_true, cond_false] at hE0
            have HS := hE0
            have e102 : evl l_ (.tmp 102) = .int .i64 r.rt := evl_of h102
            refine ⟨_, rfl, fun K_ hK_ => wp_of_list rfl ?_⟩
            intro ops_
            refine w_call [.int .i64 r.rt] Try.func24 (by kernel_rfl) (by rfl) (by simp only [List.map_cons, List.map_nil, e102] <;> rfl) ?_
            refine (up_any _ r.rt (by omega)).mono ?_
            rintro e w901201 ⟨rfl, hb_⟩
            replace HS := HS.here hb_
            clear hb_
            refine ⟨_, rfl, ?_⟩
            refine wpList_nil ?_
            refine norm_put (hK_ (.int .u64 (uv (UInt64.ofNat (r.rt + 1).toNat))) _ ⟨qv_up hV (by intro _ h; cases h), ?_⟩)
            show cond (bq_ 14) _ _
            rw [show bq_ 14 = false from hoff 14 (by decide), cond_false]
            show cond (bq_ 13) _ _
            rw [show bq_ 13 = false from hoff 13 (by decide), cond_false]
            show cond true _ _
            rw [cond_true]
            exact ⟨rfl, (((((HS.front 4 rfl).front 4 rfl).front 4 rfl).front 4 rfl).front 4 rfl)⟩
          · have h95 : (fr l_).tmps[95]? = some (.int .u64 (uv (UInt64.ofNat r.nx.toNat))) := hv_ 4 95 _ (by decide) rfl (hon 4 (by decide))
            have h99 : (fr l_).tmps[99]? = some (.int .u64 (uv (UInt64.ofNat r.tt.toNat))) := hv_ 8 99 _ (by decide) rfl (hon 8 (by decide))
            have h103 := hval (12, 103) (by decide) (hon 12 (by decide))
            have hE0 := hE
            rw [show bq_ 14 = false from (hoff 14 (by decide))] at hE0
            rw [show bq_ 13 = false from hb_] at hE0
            rw [show bq_ 12 = true from (hon 12 (by decide))] at hE0
            simp only [cond_true, cond_false] at hE0
            obtain ⟨hv12, HS⟩ := hE0
            rw [hv12] at h103
            have e95 : evl l_ (.tmp 95) = .int .u64 (uv (UInt64.ofNat r.nx.toNat)) := evl_of h95
            have e99 : evl l_ (.tmp 99) = .int .u64 (uv (UInt64.ofNat r.tt.toNat)) := evl_of h99
            have e103 : evl l_ (.tmp 103) = .int .u64 (uv (UInt64.ofNat (r.rt + 1).toNat)) := evl_of h103
            refine ⟨_, rfl, fun K_ hK_ => wp_of_list rfl ?_⟩
            intro ops_
            refine St.wLit HS (cs := [.int .u64 (uv (UInt64.ofNat r.nx.toNat)), .int .u64 (uv (UInt64.ofNat r.tt.toNat)), .int .u64 (uv (UInt64.ofNat (r.rt + 1).toNat))]) 1 (.int .u64 0) Try.underlying87 (by kernel_rfl) (by decide) (by show Instr.fill _ _ (Array.map (fun x : Nat × Operand => (x.1, evl l_ x.2)) #[(0, Operand.tmp 95), (1, Operand.tmp 99), (2, Operand.tmp 103)]).toList = _; rw [show (Array.map (fun x : Nat × Operand => (x.1, evl l_ x.2)) #[(0, Operand.tmp 95), (1, Operand.tmp 99), (2, Operand.tmp 103)]).toList = [(0, .int .u64 (uv (UInt64.ofNat r.nx.toNat))), (1, .int .u64 (uv (UInt64.ofNat r.tt.toNat))), (2, .int .u64 (uv (UInt64.ofNat (r.rt + 1).toNat)))] from by simp [e95, e99, e103]]; kernel_rfl) ?_
            clear HS
            intro g901301 w901302 hg901303 HS
            refine wpList_nil ?_
            refine norm_put (hK_ (.slice (some ⟨g901301, 0, none⟩) 3 3) _ ⟨qv_up hV (by intro _ h; cases h), ?_⟩)
            show cond (bq_ 14) _ _
            rw [show bq_ 14 = false from hoff 14 (by decide), cond_false]
            show cond true _ _
            rw [cond_true]
            exact ⟨g901301, hv12, rfl, ((((((HS.front 5 rfl).front 5 rfl).front 5 rfl).front 5 rfl).front 5 rfl).front 5 rfl)⟩
          · have h91 : (fr l_).tmps[91]? = some (.pointer (some ⟨g19, 0, none⟩)) := hv_ 0 91 _ (by decide) rfl (hon 0 (by decide))
            have h104 := hval (13, 104) (by decide) (hon 13 (by decide))
            have hE0 := hE
            rw [show bq_ 14 = false from hb_] at hE0
            rw [show bq_ 13 = true from (hon 13 (by decide))] at hE0
            simp only [cond_true, cond_false] at hE0
            obtain ⟨g164, hv12, hv13, HS⟩ := hE0
            rw [hv13] at h104
            have e91 : evl l_ (.tmp 91) = .pointer (some ⟨g19, 0, none⟩) := evl_of h91
            have e104 : evl l_ (.tmp 104) = .slice (some ⟨g164, 0, none⟩) 3 3 := evl_of h104
            refine ⟨_, rfl, fun K_ hK_ => wp_of_list rfl ?_⟩
            intro ops_
            refine w_call [.pointer (some ⟨g19, 0, none⟩), .int .i64 1, .slice (some ⟨g164, 0, none⟩) 3 3] Try.func22 (by kernel_rfl) (by rfl) (by simp only [List.map_cons, List.map_nil, e91, e104] <;> rfl) ?_
            replace HS := ((HS.front 2 rfl).front 2 rfl)
            refine (wput_any (m := 1) HS (by decide) (l := [UInt64.ofNat r.nx.toNat, UInt64.ofNat r.tt.toNat, UInt64.ofNat (r.rt + 1).toNat]) (ru_lit (l := [UInt64.ofNat r.nx.toNat, UInt64.ofNat r.tt.toNat, UInt64.ofNat (r.rt + 1).toNat]) (HS.get (.tail _ (.tail _ (.head _)))) rfl (by simp)) (by rw [List.all_cons, List.all_cons, List.all_cons, fit1 (x := r.nx) (by omega) (by omega) (by omega), fit1 (x := r.tt) (by omega) (by omega) (by omega), fit1 (x := (r.rt + 1)) (by omega) (by omega) (by omega)]; rfl) (by simp only [List.length_cons, List.length_nil]; have := (q9_len r).2; omega)).mono ?_
            clear HS
            rintro e w901402 ⟨v901401, rfl, HS⟩
            rw [pk_cons 1 (x := r.nx) (by omega) (by omega), pk_cons 1 (x := r.tt) (by omega) (by omega), pk_cons 1 (x := (r.rt + 1)) (by omega) (by omega), pk_nil] at HS
            rw [q_end] at HS
            refine ⟨_, rfl, ?_⟩
            refine wpList_nil ?_
            refine norm_put (hK_ (.tuple ([] : List Value).toArray) _ ⟨qv_up hV (by intro _ h; cases h), ?_⟩)
            show cond true _ _
            rw [cond_true]
            exact ⟨g164, v901401, hv12, hv13, rfl, ((((((HS.front 5 rfl).front 5 rfl).front 5 rfl).front 5 rfl).front 5 rfl).front 5 rfl)⟩
        intro bq_ vq_ w_ hall hG
        obtain ⟨hV, hE⟩ := hG
        clear HS
        rw [show bq_ 14 = true from hall 14 (by decide)] at hE
        simp only [cond_true] at hE
        obtain ⟨g164, v167, hv12, hv13, hv14, HS⟩ := hE
        have hv0 := hV 0 _ rfl (hall 0 (by decide))
        have hv1 := hV 1 _ rfl (hall 1 (by decide))
        have hv2 := hV 2 _ rfl (hall 2 (by decide))
        have hv3 := hV 3 _ rfl (hall 3 (by decide))
        have hv4 := hV 4 _ rfl (hall 4 (by decide))
        have hv5 := hV 5 _ rfl (hall 5 (by decide))
        have hv6 := hV 6 _ rfl (hall 6 (by decide))
        have hv7 := hV 7 _ rfl (hall 7 (by decide))
        have hv8 := hV 8 _ rfl (hall 8 (by decide))
        have hv9 := hV 9 _ rfl (hall 9 (by decide))
        have hv10 := hV 10 _ rfl (hall 10 (by decide))
        have hv11 := hV 11 _ rfl (hall 11 (by decide))
        clear hV hall
        rw [putSel_fr]
        simp only [tells, List.map_cons, List.map_nil, setAll, List.set_cons_succ, List.set_cons_zero, hv0, hv1, hv2, hv3, hv4, hv5, hv6, hv7, hv8, hv9, hv10, hv11, hv12, hv13, hv14]
        clear hv0 hv1 hv2 hv3 hv4 hv5 hv6 hv7 hv8 hv9 hv10 hv11 hv12 hv13 hv14
        generalize w_ = w901403 at HS ⊢
        refine fr_at (l' := (rcV r A c :: .pointer (some ⟨g5, 0, none⟩) :: .slice none 0 0 :: .int .i64 0 :: .pointer (some ⟨g19, 0, none⟩) :: undef :: u6 :: rcV r A c :: V8.l qz84 (V8.l qz85 (V8.l qz86 (V8.l qz87 (V8.l qz88 (V8.l qz146 (V8.l qz147 (V8.l qz148 (V8.l qz149 (.slice (some ⟨g141, 0, none⟩) 1 1 :: .tuple [].toArray :: .pointer (some ⟨g19, 0, none⟩) :: .pointer (some ⟨g5, 8, none⟩) :: .pointer (some ⟨g5, 9, none⟩) :: .agg ([.int .u32 r.te, .int .u32 r.tq] : List Value).toArray :: .pointer (some ⟨g5, 8, none⟩) :: .pointer (some ⟨g5, 11, none⟩) :: .agg ([.int .u32 r.be, .int .u32 r.bq] : List Value).toArray :: .slice (some ⟨g154, 0, none⟩) 2 2 :: .tuple [].toArray :: .pointer (some ⟨g19, 0, none⟩) :: .pointer (some ⟨g5, 8, none⟩) :: .pointer (some ⟨g5, 13, none⟩) :: .int .i64 r.nx :: .int .u64 (uv (UInt64.ofNat r.nx.toNat)) :: .pointer (some ⟨g5, 8, none⟩) :: .pointer (some ⟨g5, 14, none⟩) :: .int .i64 r.tt :: .int .u64 (uv (UInt64.ofNat r.tt.toNat)) :: .pointer (some ⟨g5, 8, none⟩) :: .pointer (some ⟨g5, 15, none⟩) :: .int .i64 r.rt :: .int .u64 (uv (UInt64.ofNat (r.rt + 1).toNat)) :: .slice (some ⟨g164, 0, none⟩) 3 3 :: .tuple [].toArray :: U4k2 ([])))))))))))) rfl ?_
        refine hK160 _ _ ?_
        refine wp_seq_k (fun K901404 hK901405 => ?_)
        refine c_region (fun ops901407 hops901406 => ?_)
        clear hops901406
        refine p_run _ (x_move (.pointer (some ⟨g19, 0, none⟩)) rfl rfl) rfl ?_
        refine p_run _ (x_nil rfl rfl) rfl ?_
        refine p_run _ (x_field (j := 0) _ _ rfl rfl Try.underlying57 rfl (by rfl) rfl) rfl ?_
        refine p_run _ (x_load (v167) rfl rfl (bkCell (HS.get (.head _)) 0 _ rfl) (by rfl)) rfl ?_
        refine p_run _ (x_assign (v167) rfl rfl) rfl ?_
        refine p_run _ (x_assign (.int .i64 0) rfl rfl) rfl ?_
        refine wpList_nil ?_
        obtain ⟨qz901408, hqz901408⟩ : ∃ q_ : V8, q_ = ⟨.slice (some ⟨g141, 0, none⟩) 1 1, .tuple [].toArray, .pointer (some ⟨g19, 0, none⟩), .pointer (some ⟨g5, 8, none⟩), .pointer (some ⟨g5, 9, none⟩), .agg ([.int .u32 r.te, .int .u32 r.tq] : List Value).toArray, .pointer (some ⟨g5, 8, none⟩), .pointer (some ⟨g5, 11, none⟩)⟩ := ⟨_, rfl⟩
        obtain ⟨qz901409, hqz901409⟩ : ∃ q_ : V8, q_ = ⟨.agg ([.int .u32 r.be, .int .u32 r.bq] : List Value).toArray, .slice (some ⟨g154, 0, none⟩) 2 2, .tuple [].toArray, .pointer (some ⟨g19, 0, none⟩), .pointer (some ⟨g5, 8, none⟩), .pointer (some ⟨g5, 13, none⟩), .int .i64 r.nx, .int .u64 (uv (UInt64.ofNat r.nx.toNat))⟩ := ⟨_, rfl⟩
        obtain ⟨qz901410, hqz901410⟩ : ∃ q_ : V8, q_ = ⟨.pointer (some ⟨g5, 8, none⟩), .pointer (some ⟨g5, 14, none⟩), .int .i64 r.tt, .int .u64 (uv (UInt64.ofNat r.tt.toNat)), .pointer (some ⟨g5, 8, none⟩), .pointer (some ⟨g5, 15, none⟩), .int .i64 r.rt, .int .u64 (uv (UInt64.ofNat (r.rt + 1).toNat))⟩ := ⟨_, rfl⟩
        refine fr_at (l' := (rcV r A c :: .pointer (some ⟨g5, 0, none⟩) :: v167 :: .int .i64 0 :: .pointer (some ⟨g19, 0, none⟩) :: undef :: u6 :: rcV r A c :: V8.l qz84 (V8.l qz85 (V8.l qz86 (V8.l qz87 (V8.l qz88 (V8.l qz146 (V8.l qz147 (V8.l qz148 (V8.l qz149 (V8.l qz901408 (V8.l qz901409 (V8.l qz901410 (.slice (some ⟨g164, 0, none⟩) 3 3 :: .tuple [].toArray :: .pointer (some ⟨g19, 0, none⟩) :: .pointer (some ⟨g19, 0, none⟩) :: .pointer (some ⟨g19, 0, none⟩) :: v167 :: [])))))))))))))) (by subst hqz901408 hqz901409 hqz901410; rfl) ?_
        refine hK901405 _ _ ?_
        refine wp_ret ?_
        try simp only [Exit.inBlock, Exit.then]
        refine c_ret (.tuple [v167, .int .i64 0].toArray) (r_tmp2 rfl rfl rfl) ?_
        obtain ⟨e1, e2⟩ := bb_yes hok
        rw [e1, e2]
        obtain ⟨A', c', hv_, -, -⟩ := row_reads (HS.get (.tail _ (.head _)))
        subst hv_
        exact ⟨_, _, rfl, ((((HS.drop.front 1 rfl).drop.front 1 rfl).drop.front 1 rfl).drop.front 1 rfl).drop⟩
end Go.Proofs.Ytkiiangookibnaa
