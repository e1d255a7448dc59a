/- frame.Bytes. -/
import Derived.Test.YtmachdikonelbaaZFrameReadsFr3
import Derived.Room.AppendAsks
set_option linter.unusedVariables false
set_option linter.unusedSimpArgs false
namespace Go.Proofs.Ytmachdikonelbaa
open Go.RowKit Go.Proofs.YtmachdikonelbaaW.PrintWords Go.Proofs.YtmachdikonelbaaW.PrintLast Crc
abbrev U4f4 (l : List Value) : List Value := undef :: undef :: undef :: undef :: l
abbrev U8f4 (l : List Value) : List Value := U4f4 (U4f4 l)
abbrev U16f4 (l : List Value) : List Value := U8f4 (U8f4 l)
abbrev U32f4 (l : List Value) : List Value := U16f4 (U16f4 l)
abbrev U64f4 (l : List Value) : List Value := U32f4 (U32f4 l)
def h1 (m : Mg) : List UInt8 := nB 1 m.k
def h2 (m : Mg) : List UInt8 := h1 m ++ nB 4 m.e
def h3 (m : Mg) : List UInt8 := h2 m ++ nB 8 m.s
def h4 (m : Mg) : List UInt8 := h3 m ++ [(m.te, m.ts), (m.be, m.bs)].flatMap lbB
def h5 (m : Mg) : List UInt8 := h4 m ++ (nB 1 m.ix ++ (nB 1 m.tt ++ []))
def h6 (m : Mg) : List UInt8 := h5 m ++ nB 4 m.tk
def h7 (m : Mg) : List UInt8 := h6 m ++ nB 1 (m.its.length : Int)
def h8 (m : Mg) (j : Nat) : List UInt8 := h7 m ++ (m.its.take j).flatMap itB
def h9 (m : Mg) : List UInt8 := h8 m m.its.length ++ nB 1 (m.hvs.length : Int)
def h10 (m : Mg) (j : Nat) : List UInt8 := h9 m ++ (m.hvs.take j).flatMap hvB
theorem h_end (m : Mg) : h10 m m.hvs.length = mgB m := by
  unfold h10 h9 h8 h7 h6 h5 h4 h3 h2 h1 mgB
  simp only [List.take_length, List.append_assoc, List.flatMap_cons, List.flatMap_nil, lbB, List.nil_append, List.append_nil]
theorem h_len (m : Mg) : (h1 m).length = 1 ∧ (h2 m).length = 5 ∧ (h3 m).length = 13 ∧ (h4 m).length = 29 ∧ (h5 m).length = 31 ∧ (h6 m).length = 35 ∧ (h7 m).length = 36 := by
  have e1 : (h1 m).length = 1 := nB_len _ _
  have e2 : (h2 m).length = 5 := by unfold h2; rw [List.length_append, e1, nB_len]
  have e3 : (h3 m).length = 13 := by unfold h3; rw [List.length_append, e2, nB_len]
  have e4 : (h4 m).length = 29 := by unfold h4; rw [List.length_append, e3]; simp [lbB, nB_len]
  have e5 : (h5 m).length = 31 := by unfold h5; rw [List.length_append, e4]; simp [nB_len]
  have e6 : (h6 m).length = 35 := by unfold h6; rw [List.length_append, e5, nB_len]
  exact ⟨e1, e2, e3, e4, e5, e6, by unfold h7; rw [List.length_append, e6, nB_len]⟩
theorem it_take {m : Mg} (hw : m.wf) (j : Nat) : ((m.its.take j).flatMap itB).length ≤ 18 * m.its.length := by
  rw [flat_len (n := 18) _ (fun x hx => itB_len (hw.its x (List.mem_of_mem_take hx)).2), List.length_take]
  omega
theorem hv_take (m : Mg) (j : Nat) : ((m.hvs.take j).flatMap hvB).length ≤ 12 * m.hvs.length := by
  rw [flat_len (n := 12) _ (fun x _ => hvB_len x), List.length_take]
  omega
theorem h8_len {m : Mg} (hw : m.wf) (j : Nat) : (h8 m j).length ≤ 36 + 18 * m.its.length := by
  have := it_take hw j
  unfold h8
  rw [List.length_append, (h_len m).2.2.2.2.2.2]
  omega
theorem h10_len {m : Mg} (hw : m.wf) (j : Nat) : (h10 m j).length ≤ 37 + 18 * m.its.length + 12 * m.hvs.length := by
  have := hv_take m j
  have := h8_len hw m.its.length
  unfold h10 h9
  rw [List.length_append, List.length_append, nB_len]
  omega
theorem h8_step {m : Mg} {j : Nat} {x : It} (hx : m.its[j]? = some x) : h8 m j ++ (nB 1 x.1 ++ (nB 1 (if x.2.1 then 1 else 0) ++ [])) ++ x.2.2 = h8 m (j + 1) := by
  obtain ⟨hj, rfl⟩ := List.getElem?_eq_some_iff.1 hx
  unfold h8
  rw [List.take_succ_eq_append_getElem hj, List.flatMap_append]
  simp [itB]
theorem h10_step {m : Mg} {j : Nat} {x : Hv} (hx : m.hvs[j]? = some x) : h10 m j ++ [(x.1, x.2.1)].flatMap lbB ++ nB 4 x.2.2 = h10 m (j + 1) := by
  obtain ⟨hj, rfl⟩ := List.getElem?_eq_some_iff.1 hx
  unfold h10
  rw [List.take_succ_eq_append_getElem hj, List.flatMap_append]
  simp [hvB, lbB]
theorem lb_reps1 (w : World) (a b : Int) : Reps (kLb.K w) kLb.sz [(a, b)] [.int .u32 a, .int .u32 b] := by
  refine ⟨rfl, fun j p hj => ?_⟩
  match j, hj with
  | 0, hj =>
    obtain rfl : (a, b) = p := by simpa using hj
    exact rfl
theorem lb_reps2 (w : World) (a b c d : Int) : Reps (kLb.K w) kLb.sz [(a, b), (c, d)] [.int .u32 a, .int .u32 b, .int .u32 c, .int .u32 d] := by
  refine ⟨rfl, fun j p hj => ?_⟩
  match j, hj with
  | 0, hj =>
    obtain rfl : (a, b) = p := by simpa using hj
    exact rfl
  | 1, hj =>
    obtain rfl : (c, d) = p := by simpa using hj
    exact rfl
section
variable {P : Program} {ops : Array Oper} {Q : Exit → Act → World → Prop} {rest : List Oper} {l : List Value} {w : World} {d ty t t2 e : Nat} {pos : String} {after : Array Edge} {x y : Operand}
theorem runT_app2 {i : TypeInfo} (hi : P.info? e = some i) (ht2 : P.underlying t2 = some (.slice e)) (ht : P.underlying t = some (.slice e)) (a b : Value) (es : Array Event) : (Builtin.append_ #[t, t2] ty #[a, b]).runT P w es = (Builtin.append_ #[t, t] ty #[a, b]).runT P w es := by
  cases a <;> simp [-Sem.runT_eq, Builtin.append_, Room.Sem.bind_def, Room.Sem.pure_def', underlying, program, sizeOf, typeInfo, Sem.bind, Sem.runT, ht, ht2, hi]
theorem exec_app (o : Oper) (tt : Array TypeId) (ho : o.op = .call { callee := .builtin .append, args := #[x, y], argTypes := tt }) (a : Act) : execOp a.eval o = (Builtin.append_ tt o.type #[a.eval x, a.eval y]).bind (fun v => Sem.pure (Next.value v)) := by
  unfold execOp
  simp only [ho, resolve, invoke, builtin, List.map_toArray, List.map_cons, List.map_nil]
  rfl
theorem wp_app2 (hi' : (P.info? e).isSome = true) (ht2 : P.underlying t2 = some (.slice e)) (ht : P.underlying t = some (.slice e)) (h : wpList P ops Q (⟨some d, .call { callee := .builtin .append, args := #[x, y], argTypes := #[t, t] }, ty, pos, after, none⟩ :: rest) (fr l) w) : wpList P ops Q (⟨some d, .call { callee := .builtin .append, args := #[x, y], argTypes := #[t, t2] }, ty, pos, after, none⟩ :: rest) (fr l) w := by
  obtain ⟨i, hi⟩ := Option.isSome_iff_exists.1 hi'
  have hT : ∀ es, (execOp (fr l).eval ⟨some d, .call { callee := .builtin .append, args := #[x, y], argTypes := #[t, t2] }, ty, pos, after, none⟩).runT P w es = (execOp (fr l).eval ⟨some d, .call { callee := .builtin .append, args := #[x, y], argTypes := #[t, t] }, ty, pos, after, none⟩).runT P w es := fun es => by
    rw [exec_app _ _ rfl, exec_app _ _ rfl, Room.Sem.runT_bind, Room.Sem.runT_bind, runT_app2 hi ht2 ht]
  have hR : (execOp (fr l).eval ⟨some d, .call { callee := .builtin .append, args := #[x, y], argTypes := #[t, t2] }, ty, pos, after, none⟩).run P w = (execOp (fr l).eval ⟨some d, .call { callee := .builtin .append, args := #[x, y], argTypes := #[t, t] }, ty, pos, after, none⟩).run P w := by
    rw [← Sem.runT_fst P _ w #[], ← Sem.runT_fst P _ w #[], hT]
  unfold wpList at h ⊢
  have hw : ∀ a : Array TypeId, Region.wanted (⟨some d, .call { callee := .builtin .append, args := #[x, y], argTypes := a }, ty, pos, after, none⟩ : Oper) (yielded ops (fr l).tmps) = true := fun a => by simp [Region.wanted]
  rw [if_pos (hw _)] at h ⊢
  rcases h with h | h
  · refine .inl ?_
    unfold Oper.wp at h ⊢
    rw [hR]; exact h
  · refine .inr ⟨?_, h.2⟩
    have := h.1
    unfold Oper.asks at this ⊢
    rw [hT, hR]
    exact this
end
def fbB (m : Mg) : List UInt8 := if mgOk m = true then sealB (mgB m) else []
def fbE (m : Mg) : Int := if mgOk m = true then 0 else 181
theorem h8_zero (m : Mg) : h8 m 0 = h7 m := by unfold h8; rw [List.take_zero, List.flatMap_nil, List.append_nil]
theorem h10_zero (m : Mg) : h10 m 0 = h9 m := by unfold h10; rw [List.take_zero, List.flatMap_nil, List.append_nil]
set_option maxRecDepth 10000 in
set_option maxHeartbeats 8000000 in
theorem fbytes_any (w : World) (m : Mg) (A : Option Addr) (c : Nat) (hA : kIt.C w A m.its.length m.its) (B : Option Addr) (d : Nat) (hB : kHv.C w B m.hvs.length m.hvs) (hl : m.its.length ≤ 1000) (hl2 : m.hvs.length ≤ 1000) (hw : m.wf) : Calls Try.prog 9 #[mgV m A c B d] w fun e w' => ∃ A' c', e = .returned (.tuple #[.slice A' (fbB m).length c', .int .i64 (fbE m)]) ∧ St w (fun _ => False) w' [row kByte rfl 5 (.slice A' (fbB m).length c') (fbB m)] := by
  have HS := St.empty w
  rcases hok : mgOk m with _ | _
  · skip
    refine c_enter Try.func9 rfl 100 rfl (mgV m A c B d :: U64f4 (U32f4 (undef :: undef :: undef :: []))) rfl ?_
    refine wp_seq_k (fun K1 hK2 => ?_)
    refine c_region (fun ops4 hops3 => ?_)
    clear hops3
    refine St.wBox HS (cs := [.int .i64 m.k, .int .u32 m.e, .int .u64 m.s, .int .u32 m.te, .int .u32 m.ts, .int .u32 m.be, .int .u32 m.bs, .int .i64 m.ix, .int .i64 m.tt, .int .u32 m.tk, .slice A m.its.length c, .slice B m.hvs.length d]) (mgV m A c B d) rfl rfl ?_
    clear HS
    intro g5 w6 hg7 HS
    refine p_run _ (x_assign (.slice none 0 0) rfl rfl) rfl ?_
    refine p_run _ (x_assign (.int .i64 0) rfl rfl) rfl ?_
    refine wpList_nil ?_
    refine hK2 _ _ ?_
    refine wp_seq_k (fun K8 hK9 => ?_)
    refine wp_seq_k (fun K10 hK11 => ?_)
    refine c_region (fun ops13 hops12 => ?_)
    clear hops12
    refine p_run _ (x_loads [.int .i64 m.k, .int .u32 m.e, .int .u64 m.s, .int .u32 m.te, .int .u32 m.ts, .int .u32 m.be, .int .u32 m.bs, .int .i64 m.ix, .int .i64 m.tt, .int .u32 m.tk, .slice A m.its.length c, .slice B m.hvs.length d] 12 rfl rfl (bkCells (HS.get (.head _)) 0 _ rfl) (by rfl) (by kernel_rfl) rfl) rfl ?_
    refine w_call [mgV m A c B d] Try.func14 (by kernel_rfl) (by rfl) rfl ?_
    refine (fright_any _ m A c (Kd.C_below hA HS.belowOf) B d (Kd.C_below hB HS.belowOf) hl hl2).mono ?_
    rintro e w14 ⟨he_, hb_⟩
    rw [hok] at he_
    subst he_
    replace HS := HS.here hb_
    clear hb_
    refine ⟨_, rfl, ?_⟩
    refine p_run _ (x_not false rfl rfl) rfl ?_
    refine wpList_nil ?_
    refine fr_at (l' := (mgV m A c B d :: .pointer (some ⟨g5, 0, none⟩) :: .slice none 0 0 :: .int .i64 0 :: U4f4 (undef :: undef :: mgV m A c B d :: .bool false :: .bool true :: U64f4 (U16f4 (U4f4 (undef :: undef :: undef :: [])))))) rfl ?_
    refine hK11 _ _ ?_
    refine c_true rfl ?_
    refine wp_seq_k (fun K15 hK16 => ?_)
    refine c_region (fun ops18 hops17 => ?_)
    clear hops17
    refine p_run _ (x_assign (.slice none 0 0) rfl rfl) rfl ?_
    refine p_run _ (x_assign (.int .i64 181) rfl rfl) rfl ?_
    refine wpList_nil ?_
    refine hK16 _ _ ?_
    refine wp_ret ?_
    try simp only [Exit.inBlock, Exit.then]
    refine c_ret (.tuple [.slice none 0 0, .int .i64 181].toArray) (r_tmp2 rfl rfl rfl) ?_
    replace HS := HS.nil kByte rfl 5
    have e1 : fbB m = [] := if_neg (by rw [hok]; decide)
    have e2 : fbE m = 181 := if_neg (by rw [hok]; decide)
    rw [e1, e2]
    exact ⟨none, 0, rfl, (HS.front 1 rfl).drop⟩
  · skip
    obtain ⟨⟨k1, k2⟩, ⟨e1_, e2_⟩, ⟨x1, x2, t1, t2⟩, hi4, hh8, hio, hho⟩ := nm_of hok
    have hs_ : m.s = uv (UInt64.ofNat m.s.toNat) := by unfold uv; rw [nat_of hw.s.1 hw.s.2]; have := hw.s.1; omega
    obtain ⟨s1_, s2_⟩ := hw.s
    obtain ⟨tk1, tk2⟩ := hw.tk
    refine c_enter Try.func9 rfl 100 rfl (mgV m A c B d :: U64f4 (U32f4 (undef :: undef :: undef :: []))) rfl ?_
    refine wp_seq_k (fun K1 hK2 => ?_)
    refine c_region (fun ops4 hops3 => ?_)
    clear hops3
    refine St.wBox HS (cs := [.int .i64 m.k, .int .u32 m.e, .int .u64 m.s, .int .u32 m.te, .int .u32 m.ts, .int .u32 m.be, .int .u32 m.bs, .int .i64 m.ix, .int .i64 m.tt, .int .u32 m.tk, .slice A m.its.length c, .slice B m.hvs.length d]) (mgV m A c B d) rfl rfl ?_
    clear HS
    intro g5 w6 hg7 HS
    refine p_run _ (x_assign (.slice none 0 0) rfl rfl) rfl ?_
    refine p_run _ (x_assign (.int .i64 0) rfl rfl) rfl ?_
    refine wpList_nil ?_
    refine hK2 _ _ ?_
    refine wp_seq_k (fun K8 hK9 => ?_)
    refine wp_seq_k (fun K10 hK11 => ?_)
    refine c_region (fun ops13 hops12 => ?_)
    clear hops12
    refine p_run _ (x_loads [.int .i64 m.k, .int .u32 m.e, .int .u64 m.s, .int .u32 m.te, .int .u32 m.ts, .int .u32 m.be, .int .u32 m.bs, .int .i64 m.ix, .int .i64 m.tt, .int .u32 m.tk, .slice A m.its.length c, .slice B m.hvs.length d] 12 rfl rfl (bkCells (HS.get (.head _)) 0 _ rfl) (by rfl) (by kernel_rfl) rfl) rfl ?_
    refine w_call [mgV m A c B d] Try.func14 (by kernel_rfl) (by rfl) rfl ?_
    refine (fright_any _ m A c (Kd.C_below hA HS.belowOf) B d (Kd.C_below hB HS.belowOf) hl hl2).mono ?_
    rintro e w14 ⟨he_, hb_⟩
    rw [hok] at he_
    subst he_
    replace HS := HS.here hb_
    clear hb_
    refine ⟨_, rfl, ?_⟩
    refine p_run _ (x_not true rfl rfl) rfl ?_
    refine wpList_nil ?_
    refine fr_at (l' := (mgV m A c B d :: .pointer (some ⟨g5, 0, none⟩) :: .slice none 0 0 :: .int .i64 0 :: U4f4 (undef :: undef :: mgV m A c B d :: .bool true :: .bool false :: U64f4 (U16f4 (U4f4 (undef :: undef :: undef :: [])))))) rfl ?_
    refine hK11 _ _ ?_
    refine c_false rfl ?_
    refine wp_skip ?_
    refine hK9 _ _ ?_
    refine wp_seq_k (fun K15 hK16 => ?_)
    refine c_region (fun ops18 hops17 => ?_)
    clear hops17
    refine St.wAlloc HS (cs := [.slice none 0 0]) (.slice none 0 0) (by kernel_rfl) rfl ?_
    clear HS
    intro g19 w20 hg21 HS
    refine wpList_nil ?_
    refine hK16 _ _ ?_
    refine wp_seq_k (fun K22 hK23 => ?_)
    refine c_region (fun ops25 hops24 => ?_)
    clear hops24
    refine p_run _ (x_field (j := 0) _ _ rfl rfl Try.underlying33 rfl (by rfl) rfl) rfl ?_
    refine p_run _ (x_load (.int .i64 m.k) rfl rfl (bkCell (HS.get (.tail _ (.head _))) 0 _ rfl) (by rfl)) rfl ?_
    refine p_run _ (x_conv (k := .i64) (m := m.k) .u64 ((uv (UInt64.ofNat m.k.toNat))) rfl (by rw [Try.underlying3]; rfl) Try.underlying27 rfl (u32_conv (by omega) (by omega))) rfl ?_
    refine St.wLit1 HS [.int .u64 (uv (UInt64.ofNat m.k.toNat))] 1 (.int .u64 0) (.int .u64 (uv (UInt64.ofNat m.k.toNat))) Try.underlying86 (by kernel_rfl) (by decide) rfl rfl rfl ?_
    clear HS
    intro g26 w27 hg28 HS
    refine w_call [.pointer (some ⟨g19, 0, none⟩), .int .i64 1, .slice (some ⟨g26, 0, none⟩) 1 1] Try.func19 (by kernel_rfl) (by rfl) rfl ?_
    replace HS := HS.nil kByte rfl 5
    replace HS := (HS.front 2 rfl)
    refine (oput_any (m := 1) HS (by decide) (l := [UInt64.ofNat m.k.toNat]) (ru_lit (l := [UInt64.ofNat m.k.toNat]) (HS.get (.tail _ (.tail _ (.head _)))) rfl (by simp)) (by rw [List.all_cons, fit1 (x := m.k) (by omega) (by omega) (by omega)]; rfl) (by simp only [List.length_cons, List.length_nil]; decide)).mono ?_
    clear HS
    rintro e w30 ⟨v29, rfl, HS⟩
    rw [pk_cons 1 (x := m.k) (by omega) (by omega), pk_nil, List.append_nil] at HS
    replace HS : St _ _ _ (blk _ _ _ :: row kByte rfl _ _ (h1 m) :: _) := HS
    refine ⟨_, rfl, ?_⟩
    refine wpList_nil ?_
    refine fr_at (l' := (mgV m A c B d :: .pointer (some ⟨g5, 0, none⟩) :: .slice none 0 0 :: .int .i64 0 :: .pointer (some ⟨g19, 0, none⟩) :: U4f4 (undef :: mgV m A c B d :: .bool true :: .bool false :: .pointer (some ⟨g5, 0, none⟩) :: .int .i64 m.k :: .int .u64 (uv (UInt64.ofNat m.k.toNat)) :: .slice (some ⟨g26, 0, none⟩) 1 1 :: .tuple [].toArray :: U64f4 (U16f4 (undef :: undef :: []))))) rfl ?_
    refine hK23 _ _ ?_
    refine wp_seq_k (fun K31 hK32 => ?_)
    refine c_region (fun ops34 hops33 => ?_)
    clear hops33
    refine p_run _ (x_field (j := 1) _ _ rfl rfl Try.underlying33 rfl (by rfl) rfl) rfl ?_
    refine p_run _ (x_load (.int .u32 m.e) rfl rfl (bkCell (HS.get (.tail _ (.tail _ (.tail _ (.head _))))) 1 _ rfl) (by rfl)) rfl ?_
    refine p_run _ (x_conv (k := .u32) (m := m.e) .u64 ((uv (UInt64.ofNat m.e.toNat))) rfl (by rw [Try.underlying26]; rfl) Try.underlying27 rfl (u32_conv (by omega) (by omega))) rfl ?_
    refine St.wLit1 HS [.int .u64 (uv (UInt64.ofNat m.e.toNat))] 1 (.int .u64 0) (.int .u64 (uv (UInt64.ofNat m.e.toNat))) Try.underlying86 (by kernel_rfl) (by decide) rfl rfl rfl ?_
    clear HS
    intro g35 w36 hg37 HS
    refine w_call [.pointer (some ⟨g19, 0, none⟩), .int .i64 4, .slice (some ⟨g35, 0, none⟩) 1 1] Try.func19 (by kernel_rfl) (by rfl) rfl ?_
    replace HS := ((HS.front 2 rfl).front 2 rfl)
    refine (oput_any (m := 4) HS (by decide) (l := [UInt64.ofNat m.e.toNat]) (ru_lit (l := [UInt64.ofNat m.e.toNat]) (HS.get (.tail _ (.tail _ (.head _)))) rfl (by simp)) (by rw [List.all_cons, fit1 (x := m.e) (by omega) (by omega) (by omega)]; rfl) (by simp only [List.length_cons, List.length_nil]; rw [(h_len m).1]; decide)).mono ?_
    clear HS
    rintro e w39 ⟨v38, rfl, HS⟩
    rw [pk_cons 4 (x := m.e) (by omega) (by omega), pk_nil, List.append_nil] at HS
    replace HS : St _ _ _ (blk _ _ _ :: row kByte rfl _ _ (h2 m) :: _) := HS
    refine ⟨_, rfl, ?_⟩
    refine wpList_nil ?_
    refine fr_at (l' := (mgV m A c B d :: .pointer (some ⟨g5, 0, none⟩) :: .slice none 0 0 :: .int .i64 0 :: .pointer (some ⟨g19, 0, none⟩) :: U4f4 (undef :: mgV m A c B d :: .bool true :: .bool false :: .pointer (some ⟨g5, 0, none⟩) :: .int .i64 m.k :: .int .u64 (uv (UInt64.ofNat m.k.toNat)) :: .slice (some ⟨g26, 0, none⟩) 1 1 :: .tuple [].toArray :: .pointer (some ⟨g5, 1, none⟩) :: .int .u32 m.e :: .int .u64 (uv (UInt64.ofNat m.e.toNat)) :: .slice (some ⟨g35, 0, none⟩) 1 1 :: .tuple [].toArray :: U64f4 (U8f4 (U4f4 (undef :: [])))))) rfl ?_
    refine hK32 _ _ ?_
    refine wp_seq_k (fun K40 hK41 => ?_)
    refine c_region (fun ops43 hops42 => ?_)
    clear hops42
    refine p_run _ (x_field (j := 2) _ _ rfl rfl Try.underlying33 rfl (by rfl) rfl) rfl ?_
    refine p_run _ (x_load (.int .u64 m.s) rfl rfl (bkCell (HS.get (.tail _ (.tail _ (.tail _ (.tail _ (.head _)))))) 2 _ rfl) (by rfl)) rfl ?_
    refine St.wLit1 HS [.int .u64 m.s] 1 (.int .u64 0) (.int .u64 m.s) Try.underlying86 (by kernel_rfl) (by decide) rfl rfl rfl ?_
    clear HS
    intro g44 w45 hg46 HS
    refine w_call [.pointer (some ⟨g19, 0, none⟩), .int .i64 8, .slice (some ⟨g44, 0, none⟩) 1 1] Try.func19 (by kernel_rfl) (by rfl) rfl ?_
    replace HS := ((HS.front 2 rfl).front 2 rfl)
    refine (oput_any (m := 8) HS (by decide) (l := [UInt64.ofNat m.s.toNat]) (ru_lit (l := [UInt64.ofNat m.s.toNat]) (by have h := HS.get (.tail _ (.tail _ (.head _))); rw [hs_] at h; exact h) rfl (by simp)) (by rw [List.all_cons, fit1 (x := m.s) (by omega) (by omega) (by omega)]; rfl) (by simp only [List.length_cons, List.length_nil]; rw [(h_len m).2.1]; decide)).mono ?_
    clear HS
    rintro e w48 ⟨v47, rfl, HS⟩
    rw [pk_cons 8 (x := m.s) (by omega) (by omega), pk_nil, List.append_nil] at HS
    replace HS : St _ _ _ (blk _ _ _ :: row kByte rfl _ _ (h3 m) :: _) := HS
    refine ⟨_, rfl, ?_⟩
    refine wpList_nil ?_
    refine hK41 _ _ ?_
    refine wp_seq_k (fun K49 hK50 => ?_)
    refine c_region (fun ops52 hops51 => ?_)
    clear hops51
    refine p_run _ (x_load (v47) rfl rfl (bkCell (HS.get (.head _)) 0 _ rfl) (by rfl)) rfl ?_
    refine p_run _ (x_field (j := 3) _ _ rfl rfl Try.underlying33 rfl (by rfl) rfl) rfl ?_
    refine p_run (l' := (mgV m A c B d :: .pointer (some ⟨g5, 0, none⟩) :: .slice none 0 0 :: .int .i64 0 :: .pointer (some ⟨g19, 0, none⟩) :: U4f4 (undef :: mgV m A c B d :: .bool true :: .bool false :: .pointer (some ⟨g5, 0, none⟩) :: .int .i64 m.k :: .int .u64 (uv (UInt64.ofNat m.k.toNat)) :: .slice (some ⟨g26, 0, none⟩) 1 1 :: .tuple [].toArray :: .pointer (some ⟨g5, 1, none⟩) :: .int .u32 m.e :: .int .u64 (uv (UInt64.ofNat m.e.toNat)) :: .slice (some ⟨g35, 0, none⟩) 1 1 :: .tuple [].toArray :: .pointer (some ⟨g5, 2, none⟩) :: .int .u64 m.s :: .slice (some ⟨g44, 0, none⟩) 1 1 :: .tuple [].toArray :: v47 :: .pointer (some ⟨g5, 3, none⟩) :: .agg ([.int .u32 m.te, .int .u32 m.ts] : List Value).toArray :: U64f4 (U4f4 (undef :: undef :: []))))) _ (x_loads [.int .u32 m.te, .int .u32 m.ts] 2 rfl rfl (bkCells (HS.get (.tail _ (.tail _ (.tail _ (.tail _ (.tail _ (.head _))))))) 3 _ rfl) (by rfl) (by kernel_rfl) rfl) rfl ?_
    refine p_run _ (x_field (j := 5) _ _ rfl rfl Try.underlying33 rfl (by rfl) rfl) rfl ?_
    refine p_run _ (x_loads [.int .u32 m.be, .int .u32 m.bs] 2 rfl rfl (bkCells (HS.get (.tail _ (.tail _ (.tail _ (.tail _ (.tail _ (.head _))))))) 5 _ rfl) (by rfl) (by kernel_rfl) rfl) rfl ?_
    refine St.wLit HS (cs := [.int .u32 m.te, .int .u32 m.ts, .int .u32 m.be, .int .u32 m.bs]) 2 (.agg [.int .u32 0, .int .u32 0].toArray) Try.underlying68 (by kernel_rfl) (by decide) (by kernel_rfl) ?_
    clear HS
    intro g53 w54 hg55 HS
    refine w_call [v47, .slice (some ⟨g53, 0, none⟩) 2 2] Try.func20 (by kernel_rfl) (by rfl) rfl ?_
    replace HS := ((HS.front 2 rfl).front 2 rfl)
    replace HS := (HS.front 1 rfl)
    obtain ⟨A56, c57, hv_, hsl_⟩ := Own.sl (row_own HS.hs.head)
    subst hv_
    refine (lput_any _ _ c57 (h3 m) hsl_ _ 2 [(m.te, m.ts), (m.be, m.bs)] (lit_reads (HS.get (.tail _ (.tail _ (.head _)))) (lb_reps2 _ m.te m.ts m.be m.bs) (by simp)) (by intro y hy; simp only [List.mem_cons, List.not_mem_nil, or_false] at hy; rcases hy with rfl | rfl; exact ⟨hw.te, hw.ts⟩; exact ⟨hw.be, hw.bs⟩) (by simp only [List.length_cons, List.length_nil]; rw [(h_len m).2.2.1]; decide)).mono ?_
    rintro e w59 ⟨v58, rfl, hk_⟩
    clear hsl_
    replace HS := HS.more hk_
    clear hk_
    replace HS : St _ _ _ (row kByte rfl _ _ (h4 m) :: _) := HS
    refine ⟨_, rfl, ?_⟩
    refine St.store (cs' := [v58]) (HS.front 2 rfl) (v58) rfl rfl (row_one (HS.get (.head _))) (by kernel_rfl) (by rfl) rfl ?_
    clear HS
    intro w60 HS
    refine wpList_nil ?_
    refine hK50 _ _ ?_
    refine wp_seq_k (fun K61 hK62 => ?_)
    refine c_region (fun ops64 hops63 => ?_)
    clear hops63
    refine p_run _ (x_field (j := 7) _ _ rfl rfl Try.underlying33 rfl (by rfl) rfl) rfl ?_
    refine p_run _ (x_load (.int .i64 m.ix) rfl rfl (bkCell (HS.get (.tail _ (.tail _ (.tail _ (.tail _ (.tail _ (.tail _ (.tail _ (.head _))))))))) 7 _ rfl) (by rfl)) rfl ?_
    refine p_run (l' := (mgV m A c B d :: .pointer (some ⟨g5, 0, none⟩) :: .slice none 0 0 :: .int .i64 0 :: .pointer (some ⟨g19, 0, none⟩) :: U4f4 (undef :: mgV m A c B d :: .bool true :: .bool false :: .pointer (some ⟨g5, 0, none⟩) :: .int .i64 m.k :: .int .u64 (uv (UInt64.ofNat m.k.toNat)) :: .slice (some ⟨g26, 0, none⟩) 1 1 :: .tuple [].toArray :: .pointer (some ⟨g5, 1, none⟩) :: .int .u32 m.e :: .int .u64 (uv (UInt64.ofNat m.e.toNat)) :: .slice (some ⟨g35, 0, none⟩) 1 1 :: .tuple [].toArray :: .pointer (some ⟨g5, 2, none⟩) :: .int .u64 m.s :: .slice (some ⟨g44, 0, none⟩) 1 1 :: .tuple [].toArray :: .slice A56 ((h3 m).length) c57 :: .pointer (some ⟨g5, 3, none⟩) :: .agg ([.int .u32 m.te, .int .u32 m.ts] : List Value).toArray :: .pointer (some ⟨g5, 5, none⟩) :: .agg ([.int .u32 m.be, .int .u32 m.bs] : List Value).toArray :: .slice (some ⟨g53, 0, none⟩) 2 2 :: v58 :: .pointer (some ⟨g5, 7, none⟩) :: .int .i64 m.ix :: .int .u64 (uv (UInt64.ofNat m.ix.toNat)) :: U32f4 (U16f4 (U8f4 (U4f4 (undef :: undef :: undef :: []))))))) _ (x_conv (k := .i64) (m := m.ix) .u64 ((uv (UInt64.ofNat m.ix.toNat))) rfl (by rw [Try.underlying3]; rfl) Try.underlying27 rfl (u32_conv (by omega) (by omega))) rfl ?_
    refine p_run _ (x_field (j := 8) _ _ rfl rfl Try.underlying33 rfl (by rfl) rfl) rfl ?_
    refine p_run _ (x_load (.int .i64 m.tt) rfl rfl (bkCell (HS.get (.tail _ (.tail _ (.tail _ (.tail _ (.tail _ (.tail _ (.tail _ (.head _))))))))) 8 _ rfl) (by rfl)) rfl ?_
    refine p_run _ (x_conv (k := .i64) (m := m.tt) .u64 ((uv (UInt64.ofNat m.tt.toNat))) rfl (by rw [Try.underlying3]; rfl) Try.underlying27 rfl (u32_conv (by omega) (by omega))) rfl ?_
    refine St.wLit HS (cs := [.int .u64 (uv (UInt64.ofNat m.ix.toNat)), .int .u64 (uv (UInt64.ofNat m.tt.toNat))]) 1 (.int .u64 0) Try.underlying86 (by kernel_rfl) (by decide) (by kernel_rfl) ?_
    clear HS
    intro g65 w66 hg67 HS
    refine w_call [.pointer (some ⟨g19, 0, none⟩), .int .i64 1, .slice (some ⟨g65, 0, none⟩) 2 2] Try.func19 (by kernel_rfl) (by rfl) rfl ?_
    replace HS := ((HS.front 2 rfl).front 2 rfl)
    refine (oput_any (m := 1) HS (by decide) (l := [UInt64.ofNat m.ix.toNat, UInt64.ofNat m.tt.toNat]) (ru_lit (l := [UInt64.ofNat m.ix.toNat, UInt64.ofNat m.tt.toNat]) (HS.get (.tail _ (.tail _ (.head _)))) rfl (by simp)) (by rw [List.all_cons, List.all_cons, fit1 (x := m.ix) (by omega) (by omega) (by omega), fit1 (x := m.tt) (by omega) (by omega) (by omega)]; rfl) (by simp only [List.length_cons, List.length_nil]; rw [(h_len m).2.2.2.1]; decide)).mono ?_
    clear HS
    rintro e w69 ⟨v68, rfl, HS⟩
    rw [pk_cons 1 (x := m.ix) (by omega) (by omega), pk_cons 1 (x := m.tt) (by omega) (by omega), pk_nil] at HS
    replace HS : St _ _ _ (blk _ _ _ :: row kByte rfl _ _ (h5 m) :: _) := HS
    refine ⟨_, rfl, ?_⟩
    refine wpList_nil ?_
    obtain ⟨qz70, hqz70⟩ : ∃ q_ : V8, q_ = ⟨.slice (some ⟨g26, 0, none⟩) 1 1, .tuple [].toArray, .pointer (some ⟨g5, 1, none⟩), .int .u32 m.e, .int .u64 (uv (UInt64.ofNat m.e.toNat)), .slice (some ⟨g35, 0, none⟩) 1 1, .tuple [].toArray, .pointer (some ⟨g5, 2, none⟩)⟩ := ⟨_, rfl⟩
    obtain ⟨qz71, hqz71⟩ : ∃ q_ : V8, q_ = ⟨.int .u64 m.s, .slice (some ⟨g44, 0, none⟩) 1 1, .tuple [].toArray, .slice A56 ((h3 m).length) c57, .pointer (some ⟨g5, 3, none⟩), .agg ([.int .u32 m.te, .int .u32 m.ts] : List Value).toArray, .pointer (some ⟨g5, 5, none⟩), .agg ([.int .u32 m.be, .int .u32 m.bs] : List Value).toArray⟩ := ⟨_, rfl⟩
    obtain ⟨qz72, hqz72⟩ : ∃ q_ : V8, q_ = ⟨.slice (some ⟨g53, 0, none⟩) 2 2, v58, .pointer (some ⟨g5, 7, none⟩), .int .i64 m.ix, .int .u64 (uv (UInt64.ofNat m.ix.toNat)), .pointer (some ⟨g5, 8, none⟩), .int .i64 m.tt, .int .u64 (uv (UInt64.ofNat m.tt.toNat))⟩ := ⟨_, rfl⟩
    refine fr_at (l' := (mgV m A c B d :: .pointer (some ⟨g5, 0, none⟩) :: .slice none 0 0 :: .int .i64 0 :: .pointer (some ⟨g19, 0, none⟩) :: U4f4 (undef :: mgV m A c B d :: .bool true :: .bool false :: .pointer (some ⟨g5, 0, none⟩) :: .int .i64 m.k :: .int .u64 (uv (UInt64.ofNat m.k.toNat)) :: V8.l qz70 (V8.l qz71 (V8.l qz72 (.slice (some ⟨g65, 0, none⟩) 2 2 :: .tuple [].toArray :: U32f4 (U16f4 (U8f4 (undef :: undef :: []))))))))) (by subst hqz70 hqz71 hqz72; rfl) ?_
    refine hK62 _ _ ?_
    refine wp_seq_k (fun K73 hK74 => ?_)
    refine c_region (fun ops76 hops75 => ?_)
    clear hops75
    refine p_run _ (x_field (j := 9) _ _ rfl rfl Try.underlying33 rfl (by rfl) rfl) rfl ?_
    refine p_run _ (x_load (.int .u32 m.tk) rfl rfl (bkCell (HS.get (.tail _ (.tail _ (.tail _ (.tail _ (.tail _ (.tail _ (.tail _ (.tail _ (.head _)))))))))) 9 _ rfl) (by rfl)) rfl ?_
    refine p_run _ (x_conv (k := .u32) (m := m.tk) .u64 ((uv (UInt64.ofNat m.tk.toNat))) rfl (by rw [Try.underlying26]; rfl) Try.underlying27 rfl (u32_conv (by omega) (by omega))) rfl ?_
    refine St.wLit1 HS [.int .u64 (uv (UInt64.ofNat m.tk.toNat))] 1 (.int .u64 0) (.int .u64 (uv (UInt64.ofNat m.tk.toNat))) Try.underlying86 (by kernel_rfl) (by decide) rfl rfl rfl ?_
    clear HS
    intro g77 w78 hg79 HS
    refine w_call [.pointer (some ⟨g19, 0, none⟩), .int .i64 4, .slice (some ⟨g77, 0, none⟩) 1 1] Try.func19 (by kernel_rfl) (by rfl) rfl ?_
    replace HS := ((HS.front 2 rfl).front 2 rfl)
    refine (oput_any (m := 4) HS (by decide) (l := [UInt64.ofNat m.tk.toNat]) (ru_lit (l := [UInt64.ofNat m.tk.toNat]) (HS.get (.tail _ (.tail _ (.head _)))) rfl (by simp)) (by rw [List.all_cons, fit1 (x := m.tk) (by omega) (by omega) (by omega)]; rfl) (by simp only [List.length_cons, List.length_nil]; rw [(h_len m).2.2.2.2.1]; decide)).mono ?_
    clear HS
    rintro e w81 ⟨v80, rfl, HS⟩
    rw [pk_cons 4 (x := m.tk) (by omega) (by omega), pk_nil, List.append_nil] at HS
    replace HS : St _ _ _ (blk _ _ _ :: row kByte rfl _ _ (h6 m) :: _) := HS
    refine ⟨_, rfl, ?_⟩
    refine wpList_nil ?_
    refine fr_at (l' := (mgV m A c B d :: .pointer (some ⟨g5, 0, none⟩) :: .slice none 0 0 :: .int .i64 0 :: .pointer (some ⟨g19, 0, none⟩) :: U4f4 (undef :: mgV m A c B d :: .bool true :: .bool false :: .pointer (some ⟨g5, 0, none⟩) :: .int .i64 m.k :: .int .u64 (uv (UInt64.ofNat m.k.toNat)) :: V8.l qz70 (V8.l qz71 (V8.l qz72 (.slice (some ⟨g65, 0, none⟩) 2 2 :: .tuple [].toArray :: .pointer (some ⟨g5, 9, none⟩) :: .int .u32 m.tk :: .int .u64 (uv (UInt64.ofNat m.tk.toNat)) :: .slice (some ⟨g77, 0, none⟩) 1 1 :: .tuple [].toArray :: U32f4 (U16f4 (U4f4 (undef :: []))))))))) rfl ?_
    refine hK74 _ _ ?_
    refine wp_seq_k (fun K82 hK83 => ?_)
    refine c_region (fun ops85 hops84 => ?_)
    clear hops84
    refine p_run _ (x_field (j := 10) _ _ rfl rfl Try.underlying33 rfl (by rfl) rfl) rfl ?_
    refine p_run _ (x_load (.slice A m.its.length c) rfl rfl (bkCell (HS.get (.tail _ (.tail _ (.tail _ (.tail _ (.tail _ (.tail _ (.tail _ (.tail _ (.tail _ (.head _))))))))))) 10 _ rfl) (by rfl)) rfl ?_
    refine p_run _ (x_len rfl rfl Try.underlying30) rfl ?_
    refine p_run _ (x_conv (k := .i64) (m := (m.its.length : Int)) .u64 ((uv (UInt64.ofNat (m.its.length : Int).toNat))) rfl (by rw [Try.underlying3]; rfl) Try.underlying27 rfl (u32_conv (by omega) (by omega))) rfl ?_
    refine St.wLit1 HS [.int .u64 (uv (UInt64.ofNat (m.its.length : Int).toNat))] 1 (.int .u64 0) (.int .u64 (uv (UInt64.ofNat (m.its.length : Int).toNat))) Try.underlying86 (by kernel_rfl) (by decide) rfl rfl rfl ?_
    clear HS
    intro g86 w87 hg88 HS
    refine w_call [.pointer (some ⟨g19, 0, none⟩), .int .i64 1, .slice (some ⟨g86, 0, none⟩) 1 1] Try.func19 (by kernel_rfl) (by rfl) rfl ?_
    replace HS := ((HS.front 2 rfl).front 2 rfl)
    refine (oput_any (m := 1) HS (by decide) (l := [UInt64.ofNat (m.its.length : Int).toNat]) (ru_lit (l := [UInt64.ofNat (m.its.length : Int).toNat]) (HS.get (.tail _ (.tail _ (.head _)))) rfl (by simp)) (by rw [List.all_cons, fit1 (x := (m.its.length : Int)) (by omega) (by omega) (by omega)]; rfl) (by simp only [List.length_cons, List.length_nil]; rw [(h_len m).2.2.2.2.2.1]; decide)).mono ?_
    clear HS
    rintro e w90 ⟨v89, rfl, HS⟩
    rw [pk_cons 1 (x := (m.its.length : Int)) (by omega) (by omega), pk_nil, List.append_nil] at HS
    replace HS : St _ _ _ (blk _ _ _ :: row kByte rfl _ _ (h7 m) :: _) := HS
    refine ⟨_, rfl, ?_⟩
    refine wpList_nil ?_
    obtain ⟨qz91, hqz91⟩ : ∃ q_ : V8, q_ = ⟨.slice (some ⟨g65, 0, none⟩) 2 2, .tuple [].toArray, .pointer (some ⟨g5, 9, none⟩), .int .u32 m.tk, .int .u64 (uv (UInt64.ofNat m.tk.toNat)), .slice (some ⟨g77, 0, none⟩) 1 1, .tuple [].toArray, .pointer (some ⟨g5, 10, none⟩)⟩ := ⟨_, rfl⟩
    refine fr_at (l' := (mgV m A c B d :: .pointer (some ⟨g5, 0, none⟩) :: .slice none 0 0 :: .int .i64 0 :: .pointer (some ⟨g19, 0, none⟩) :: U4f4 (undef :: mgV m A c B d :: .bool true :: .bool false :: .pointer (some ⟨g5, 0, none⟩) :: .int .i64 m.k :: .int .u64 (uv (UInt64.ofNat m.k.toNat)) :: V8.l qz70 (V8.l qz71 (V8.l qz72 (V8.l qz91 (.slice A m.its.length c :: .int .i64 (m.its.length : Int) :: .int .u64 (uv (UInt64.ofNat (m.its.length : Int).toNat)) :: .slice (some ⟨g86, 0, none⟩) 1 1 :: .tuple [].toArray :: U32f4 (U8f4 (U4f4 (undef :: undef :: undef :: [])))))))))) (by subst hqz91; rfl) ?_
    refine hK83 _ _ ?_
    refine wp_seq_k (fun K92 hK93 => ?_)
    refine wp_seq_k (fun K94 hK95 => ?_)
    refine c_region (fun ops97 hops96 => ?_)
    clear hops96
    refine p_run _ (x_field (j := 10) _ _ rfl rfl Try.underlying33 rfl (by rfl) rfl) rfl ?_
    refine p_run _ (x_load (.slice A m.its.length c) rfl rfl (bkCell (HS.get (.tail _ (.tail _ (.tail _ (.tail _ (.tail _ (.tail _ (.tail _ (.tail _ (.tail _ (.tail _ (.head _)))))))))))) 10 _ rfl) (by rfl)) rfl ?_
    refine p_run _ (x_len rfl rfl Try.underlying30) rfl ?_
    refine p_run _ (x_move (.int .i64 0) rfl rfl) rfl ?_
    refine wpList_nil ?_
    refine fr_at (l' := (mgV m A c B d :: .pointer (some ⟨g5, 0, none⟩) :: .slice none 0 0 :: .int .i64 0 :: .pointer (some ⟨g19, 0, none⟩) :: U4f4 (undef :: mgV m A c B d :: .bool true :: .bool false :: .pointer (some ⟨g5, 0, none⟩) :: .int .i64 m.k :: .int .u64 (uv (UInt64.ofNat m.k.toNat)) :: V8.l qz70 (V8.l qz71 (V8.l qz72 (V8.l qz91 (.slice A m.its.length c :: .int .i64 (m.its.length : Int) :: .int .u64 (uv (UInt64.ofNat (m.its.length : Int).toNat)) :: .slice (some ⟨g86, 0, none⟩) 1 1 :: .tuple [].toArray :: .pointer (some ⟨g5, 10, none⟩) :: .slice A m.its.length c :: .int .i64 (m.its.length : Int) :: .int .i64 0 :: U32f4 (U8f4 (undef :: undef :: undef :: []))))))))) rfl ?_
    refine hK95 _ _ ?_
    refine wp_block ?_
    refine c_loop (ι := Nat × Value) (fun i_ a_ w_ => match i_ with | (j, u4) => ∃ (u6 : Value) (u7 : Value) (u57 : Value) (u58 : Value) (u59 : Value) (u60 : Value) (u61 : Value) (u62 : Value) (u63 : Value) (u64 : Value) (u65 : Value) (u66 : Value) (u67 : Value) (u68 : Value) (u69 : Value) (u70 : Value) (u71 : Value) (u72 : Value), a_ = fr (mgV m A c B d :: .pointer (some ⟨g5, 0, none⟩) :: .slice none 0 0 :: .int .i64 0 :: .pointer (some ⟨g19, 0, none⟩) :: undef :: u6 :: u7 :: undef :: undef :: mgV m A c B d :: .bool true :: .bool false :: .pointer (some ⟨g5, 0, none⟩) :: .int .i64 m.k :: .int .u64 (uv (UInt64.ofNat m.k.toNat)) :: V8.l qz70 (V8.l qz71 (V8.l qz72 (V8.l qz91 (.slice A m.its.length c :: .int .i64 (m.its.length : Int) :: .int .u64 (uv (UInt64.ofNat (m.its.length : Int).toNat)) :: .slice (some ⟨g86, 0, none⟩) 1 1 :: .tuple [].toArray :: .pointer (some ⟨g5, 10, none⟩) :: .slice A m.its.length c :: .int .i64 (m.its.length : Int) :: .int .i64 (j : Int) :: u57 :: u58 :: u59 :: u60 :: u61 :: u62 :: u63 :: u64 :: u65 :: u66 :: u67 :: u68 :: u69 :: u70 :: u71 :: u72 :: U16f4 (U8f4 (undef :: undef :: undef :: []))))))) ∧ St w (fun _ => False) w_ ([blk g19 [u4] 47, row kByte rfl 5 u4 (h8 m j), blk g5 [.int .i64 m.k, .int .u32 m.e, .int .u64 m.s, .int .u32 m.te, .int .u32 m.ts, .int .u32 m.be, .int .u32 m.bs, .int .i64 m.ix, .int .i64 m.tt, .int .u32 m.tk, .slice A m.its.length c, .slice B m.hvs.length d] 33]) ∧ (j ≤ m.its.length)) (fun i_ => match i_ with | (j, u4) => m.its.length - j) (0, v89) ?_ ?_
    · exact ⟨_, _, _, _, _, _, _, _, _, _, _, _, _, _, _, _, _, _, rfl, (by rw [h8_zero]; exact (((((((((((HS.front 2 rfl).drop.front 2 rfl).drop.front 2 rfl).drop.front 2 rfl).drop.front 2 rfl).drop.front 2 rfl).drop.front 2 rfl).drop.front 2 rfl).drop.front 2 rfl).front 2 rfl).front 2 rfl)), Nat.zero_le _⟩
    · clear HS
      rintro ⟨j, u4⟩ a_ w100 ⟨u6, u7, u57, u58, u59, u60, u61, u62, u63, u64, u65, u66, u67, u68, u69, u70, u71, u72, rfl, HS, hI⟩ J98 hJ99
      have hjl := hI
      refine wp_seq_k (fun K101 hK102 => ?_)
      refine c_region (fun ops104 hops103 => ?_)
      clear hops103
      refine p_run _ (x_cmp (k := .i64) (m := (j : Int)) (n := (m.its.length : Int)) .lss (decide ((j : Int) < (m.its.length : Int))) rfl rfl rfl rfl rfl) rfl ?_
      refine wpList_nil ?_
      refine hK102 _ _ ?_
      refine wp_seq_k (fun K105 hK106 => ?_)
      refine c_cond (t := decide ((j : Int) < (m.its.length : Int))) rfl (fun hc107 => ?_) (fun hc107 => ?_)
      · have hlt : j < m.its.length := by have := of_decide_eq_true hc107; omega
        obtain ⟨ad, x, rfl, hx, hx16, -⟩ := it_get (Kd.C_below hA HS.belowOf) j hlt
        have hxo := hio x (List.mem_of_getElem? hx)
        unfold itOk at hxo
        simp only [Bool.and_eq_true, decide_eq_true_eq] at hxo
        obtain ⟨⟨hx0, hx64⟩, -⟩ := hxo
        refine wp_skip ?_
        refine hK106 _ _ ?_
        refine wp_seq_k (fun K108 hK109 => ?_)
        refine wp_block ?_
        refine wp_seq_k (fun K110 hK111 => ?_)
        refine c_region (fun ops113 hops112 => ?_)
        clear hops112
        refine p_run _ (x_index (A := ad) (j := j * 18) (sz := 18) rfl rfl rfl Try.underlying30 (by kernel_rfl) (by omega) rfl) rfl ?_
        refine p_run _ (x_loads (Value.int .i64 x.1 :: Value.bool x.2.1 :: (nums .u8 (x.2.2.map bv))) 18 rfl rfl (it_cells (Kd.C_below hA HS.belowOf) hx) (by rfl) (by kernel_rfl) (by simp [List.length_map, hx16, nums_length])) rfl ?_
        refine St.wAlloc HS (cs := (Value.int .i64 0 :: Value.bool false :: (nums .u8 (zB16.map bv)))) (.agg (Value.int .i64 0 :: Value.bool false :: (nums .u8 (zB16.map bv))).toArray) (by kernel_rfl) rfl ?_
        clear HS
        intro g114 w115 hg116 HS
        refine St.stores (cs' := (Value.int .i64 x.1 :: Value.bool x.2.1 :: (nums .u8 (x.2.2.map bv)))) HS (Value.int .i64 x.1 :: Value.bool x.2.1 :: (nums .u8 (x.2.2.map bv))) 18 rfl rfl (all1 rfl (all1 rfl (nums_one _ _))) (by kernel_rfl) (by simp [List.length_map, hx16, nums_length]) (by simp [List.length_map, hx16, nums_length, zB16_len]) (lay_all _ _ (by simp [List.length_map, hx16, nums_length, zB16_len])) ?_
        clear HS
        intro w117 HS
        refine wpList_nil ?_
        refine hK111 _ _ ?_
        refine wp_seq_k (fun K118 hK119 => ?_)
        refine c_region (fun ops121 hops120 => ?_)
        clear hops120
        refine p_run _ (x_assign (.int .u64 0) rfl rfl) rfl ?_
        refine wpList_nil ?_
        refine fr_at (l' := (mgV m (some ad) c B d :: .pointer (some ⟨g5, 0, none⟩) :: .slice none 0 0 :: .int .i64 0 :: .pointer (some ⟨g19, 0, none⟩) :: undef :: .pointer (some ⟨g114, 0, none⟩) :: .int .u64 0 :: undef :: undef :: mgV m (some ad) c B d :: .bool true :: .bool false :: .pointer (some ⟨g5, 0, none⟩) :: .int .i64 m.k :: .int .u64 (uv (UInt64.ofNat m.k.toNat)) :: V8.l qz70 (V8.l qz71 (V8.l qz72 (V8.l qz91 (.slice (some ad) m.its.length c :: .int .i64 (m.its.length : Int) :: .int .u64 (uv (UInt64.ofNat (m.its.length : Int).toNat)) :: .slice (some ⟨g86, 0, none⟩) 1 1 :: .tuple [].toArray :: .pointer (some ⟨g5, 10, none⟩) :: .slice (some ad) m.its.length c :: .int .i64 (m.its.length : Int) :: .int .i64 (j : Int) :: .bool (decide ((j : Int) < (m.its.length : Int))) :: .pointer (some ((ad).add (j * 18))) :: .agg (Value.int .i64 x.1 :: Value.bool x.2.1 :: (nums .u8 (x.2.2.map bv))).toArray :: u60 :: u61 :: u62 :: u63 :: u64 :: u65 :: u66 :: u67 :: u68 :: u69 :: u70 :: u71 :: u72 :: U16f4 (U8f4 (undef :: undef :: undef :: [])))))))) rfl ?_
        refine hK119 _ _ ?_
        refine wp_seq_k (fun K122 hK123 => ?_)
        refine wp_seq_k (fun K124 hK125 => ?_)
        rcases hxb : x.2.1 with _ | _
        · skip
          rw [hxb] at HS
          try rw [hxb]
          refine c_region (fun ops127 hops126 => ?_)
          clear hops126
          refine p_run _ (x_field (j := 1) _ _ rfl rfl Try.underlying53 rfl (by rfl) rfl) rfl ?_
          refine p_run _ (x_load (.bool false) rfl rfl (bkCell (HS.get (.head _)) 1 _ rfl) (by rfl)) rfl ?_
          refine wpList_nil ?_
          refine hK125 _ _ ?_
          refine c_false rfl ?_
          refine wp_skip ?_
          refine hK123 _ _ ?_
          refine wp_seq_k (fun K128 hK129 => ?_)
          refine c_region (fun ops131 hops130 => ?_)
          clear hops130
          refine p_run _ (x_field (j := 0) _ _ rfl rfl Try.underlying53 rfl (by rfl) rfl) rfl ?_
          refine p_run _ (x_load (.int .i64 x.1) rfl rfl (bkCell (HS.get (.head _)) 0 _ rfl) (by rfl)) rfl ?_
          refine p_run _ (x_conv (k := .i64) (m := x.1) .u64 ((uv (UInt64.ofNat x.1.toNat))) rfl (by rw [Try.underlying3]; rfl) Try.underlying27 rfl (u32_conv (by omega) (by omega))) rfl ?_
          refine p_run _ (x_move (.int .u64 0) rfl rfl) rfl ?_
          refine St.wLit HS (cs := [.int .u64 (uv (UInt64.ofNat x.1.toNat)), .int .u64 0]) 1 (.int .u64 0) Try.underlying86 (by kernel_rfl) (by decide) (by kernel_rfl) ?_
          clear HS
          intro g132 w133 hg134 HS
          refine fr_to (l' := (mgV m (some ad) c B d :: .pointer (some ⟨g5, 0, none⟩) :: .slice none 0 0 :: .int .i64 0 :: .pointer (some ⟨g19, 0, none⟩) :: undef :: .pointer (some ⟨g114, 0, none⟩) :: .int .u64 0 :: undef :: undef :: mgV m (some ad) c B d :: .bool true :: .bool false :: .pointer (some ⟨g5, 0, none⟩) :: .int .i64 m.k :: .int .u64 (uv (UInt64.ofNat m.k.toNat)) :: V8.l qz70 (V8.l qz71 (V8.l qz72 (V8.l qz91 (.slice (some ad) m.its.length c :: .int .i64 (m.its.length : Int) :: .int .u64 (uv (UInt64.ofNat (m.its.length : Int).toNat)) :: .slice (some ⟨g86, 0, none⟩) 1 1 :: .tuple [].toArray :: .pointer (some ⟨g5, 10, none⟩) :: .slice (some ad) m.its.length c :: .int .i64 (m.its.length : Int) :: .int .i64 (j : Int) :: .bool (decide ((j : Int) < (m.its.length : Int))) :: .pointer (some ((ad).add (j * 18))) :: .agg (Value.int .i64 x.1 :: Value.bool false :: (nums .u8 (x.2.2.map bv))).toArray :: .pointer (some ⟨g114, 1, none⟩) :: .bool false :: .pointer (some ⟨g114, 0, none⟩) :: .int .i64 x.1 :: .int .u64 (uv (UInt64.ofNat x.1.toNat)) :: .int .u64 0 :: .slice (some ⟨g132, 0, none⟩) 2 2 :: u67 :: u68 :: u69 :: u70 :: u71 :: u72 :: U16f4 (U8f4 (undef :: undef :: undef :: [])))))))) rfl ?_
          refine w_call [.pointer (some ⟨g19, 0, none⟩), .int .i64 1, .slice (some ⟨g132, 0, none⟩) 2 2] Try.func19 (by kernel_rfl) (by rfl) rfl ?_
          replace HS := ((HS.front 3 rfl).front 3 rfl)
          refine (oput_any (m := 1) HS (by decide) (l := [UInt64.ofNat x.1.toNat, UInt64.ofNat (0 : Int).toNat]) (ru_lit (l := [UInt64.ofNat x.1.toNat, UInt64.ofNat (0 : Int).toNat]) (HS.get (.tail _ (.tail _ (.head _)))) rfl (by simp)) (by rw [List.all_cons, List.all_cons, fit1 (x := x.1) (by omega) (by omega) (by omega), fit1 (x := (0 : Int)) (by omega) (by omega) (by omega)]; rfl) (by simp only [List.length_cons, List.length_nil]; have := h8_len hw j; omega)).mono ?_
          clear HS
          rintro e w136 ⟨v135, rfl, HS⟩
          rw [pk_cons 1 (x := x.1) (by omega) (by omega), pk_cons 1 (x := (0 : Int)) (by omega) (by omega), pk_nil] at HS
          refine ⟨_, rfl, ?_⟩
          refine wpList_nil ?_
          refine hK129 _ _ ?_
          refine free_frame (n := 5) (T := _) [0, 0, 2, 7, 15] [(0, 68), (1, 69), (2, 70), (3, 71)] (fun bq_ vq_ w_ => qv ((fun i_ => match i_ with | 0 => some (v135) | 1 => some (.pointer (some ⟨g114, 2, none⟩)) | 2 => some (.slice (some ⟨g114, 2, none⟩) 16 16) | _ => none) : Nat → Option Value) bq_ vq_ ∧ cond (bq_ 4) (∃ (v139 : Value), vq_ 3 = v139 ∧ St w (fun _ => False) w_ ([blk g19 [v139] 47, row kByte rfl 5 v139 ((h8 m j ++ (nB 1 x.1 ++ (nB 1 (0 : Int) ++ []))) ++ x.2.2), blk g132 [.int .u64 (uv (UInt64.ofNat x.1.toNat)), .int .u64 0] 27, blk g114 (Value.int .i64 x.1 :: Value.bool false :: (nums .u8 (x.2.2.map bv))) 53, blk g5 [.int .i64 m.k, .int .u32 m.e, .int .u64 m.s, .int .u32 m.te, .int .u32 m.ts, .int .u32 m.be, .int .u32 m.bs, .int .i64 m.ix, .int .i64 m.tt, .int .u32 m.tk, .slice (some ad) m.its.length c, .slice B m.hvs.length d] 33])) (cond (bq_ 3) (∃ (v139 : Value), vq_ 3 = v139 ∧ St w (fun _ => False) w_ ([row kByte rfl 5 v139 ((h8 m j ++ (nB 1 x.1 ++ (nB 1 (0 : Int) ++ []))) ++ x.2.2), blk g19 [v135] 47, blk g132 [.int .u64 (uv (UInt64.ofNat x.1.toNat)), .int .u64 0] 27, blk g114 (Value.int .i64 x.1 :: Value.bool false :: (nums .u8 (x.2.2.map bv))) 53, blk g5 [.int .i64 m.k, .int .u32 m.e, .int .u64 m.s, .int .u32 m.te, .int .u32 m.ts, .int .u32 m.be, .int .u32 m.bs, .int .i64 m.ix, .int .i64 m.tt, .int .u32 m.tk, .slice (some ad) m.its.length c, .slice B m.hvs.length d] 33])) ((St w (fun _ => False) w_ ([blk g19 [v135] 47, row kByte rfl 5 v135 (h8 m j ++ (nB 1 x.1 ++ (nB 1 (0 : Int) ++ []))), blk g132 [.int .u64 (uv (UInt64.ofNat x.1.toNat)), .int .u64 0] 27, blk g114 (Value.int .i64 x.1 :: Value.bool false :: (nums .u8 (x.2.2.map bv))) 53, blk g5 [.int .i64 m.k, .int .u32 m.e, .int .u64 m.s, .int .u32 m.te, .int .u32 m.ts, .int .u32 m.be, .int .u32 m.bs, .int .i64 m.ix, .int .i64 m.tt, .int .u32 m.tk, .slice (some ad) m.its.length c, .slice B m.hvs.length d] 33]))))) (by kernel_rfl) rfl rfl (by kernel_rfl) (by kernel_rfl) rfl (by kernel_rfl) (by kernel_rfl) ⟨qv_none, HS.draw⟩ ?_ ?_
          · clear HS
            intro i_ hi_ bq_ vq_ a_ w_ hG hb_ hon hoff hfr hel hval
            obtain ⟨hV, hE⟩ := hG
            have hi_ := List.mem_range.1 hi_
            obtain ⟨l_, rfl⟩ := hfr
            have hv_ := fun (j t : Nat) (v : Value) (h1 : (j, t) ∈ [(0, 68), (1, 69), (2, 70), (3, 71)]) h2 h3 => (hval (j, t) h1 h3).trans (congrArg some (hV j v h2 h3))
            have hcs : i_ = 0 ∨ i_ = 1 ∨ i_ = 2 ∨ i_ = 3 ∨ i_ = 4 := by omega
            rcases hcs with rfl | rfl | rfl | rfl | rfl
            · have hE0 := hE
              rw [show bq_ 4 = false from (hoff 4 (by decide))] at hE0
              rw [show bq_ 3 = false from (hoff 3 (by decide))] at hE0
              simp only [cond_true, cond_false] at hE0
              have HS := hE0
              have e4 : evl l_ (.tmp 4) = .pointer (some ⟨g19, 0, none⟩) := evl_of ((hel 4 (by decide)).trans rfl)
              exact ⟨_, rfl, fun K_ hK_ => q_op _ (x_load (v135) rfl e4 (bkCell (HS.get (.head _)) 0 _ rfl) (by rfl)) (hK_ _ _ ⟨qv_up hV (fun _ h => Option.some.inj h), hE⟩)⟩
            · have e6 : evl l_ (.tmp 6) = .pointer (some ⟨g114, 0, none⟩) := evl_of ((hel 6 (by decide)).trans rfl)
              exact ⟨_, rfl, fun K_ hK_ => q_op _ (x_field (j := 2) _ _ rfl e6 Try.underlying53 rfl (by rfl) rfl) (hK_ _ _ ⟨qv_up hV (fun _ h => Option.some.inj h), hE⟩)⟩
            · have e69 : evl l_ (.tmp 69) = .pointer (some ⟨g114, 2, none⟩) := evl_of (hv_ 1 69 _ (by decide) rfl (hon 1 (by decide)))
              exact ⟨_, rfl, fun K_ hK_ => q_op (.slice (some ⟨g114, 2, none⟩) 16 16) ((x_sliceArr (sz := 1) (L := none) (H := none) (lo := 0) (hi := 16) ⟨g114, 2, none⟩ rfl e69 Try.underlying51 (by kernel_rfl) rfl rfl (by omega) (by omega) (by first | rfl | (rw [if_neg (by omega), add_mk]; rfl))).trans rfl) (hK_ _ _ ⟨qv_up hV (fun _ h => Option.some.inj h), hE⟩)⟩
            · have h68 : (fr l_).tmps[68]? = some (v135) := hv_ 0 68 _ (by decide) rfl (hon 0 (by decide))
              have h70 : (fr l_).tmps[70]? = some (.slice (some ⟨g114, 2, none⟩) 16 16) := hv_ 2 70 _ (by decide) rfl (hon 2 (by decide))
              have hE0 := hE
              rw [show bq_ 4 = false from (hoff 4 (by decide))] at hE0
              rw [show bq_ 3 = false from hb_] at hE0
              simp only [cond_true, cond_false] at hE0
              have HS := hE0
              have e68 : evl l_ (.tmp 68) = v135 := evl_of h68
              have e70 : evl l_ (.tmp 70) = .slice (some ⟨g114, 2, none⟩) 16 16 := evl_of h70
              refine ⟨_, rfl, fun K_ hK_ => wp_of_list rfl ?_⟩
              intro ops_
              replace HS := (HS.front 1 rfl)
              refine wp_app2 (by kernel_rfl) Try.underlying22 Try.underlying47 ?_
              refine St.wAppend HS (.int .u8 0) 1 Try.underlying47 (by kernel_rfl) rfl (by decide) (by decide) x.2.2 _ _ _ e68 e70 (hx16 ▸ rd_sub (HS.get (.tail _ (.tail _ (.tail _ (.head _))))) 2 (by show (nums .u8 (x.2.2.map bv)).take x.2.2.length = _; exact List.take_of_length_le (by rw [nums_length, List.length_map]; exact Nat.le_refl _)) (by omega)) (fun _ _ h => h) (by have := h8_len hw j; simp only [List.length_append, nB_len, List.length_nil]; omega) ?_
              clear HS
              intro v900301 w900302 HS
              refine wpList_nil ?_
              refine norm_put (hK_ (v900301) _ ⟨qv_up hV (by intro _ h; cases h), ?_⟩)
              show cond (bq_ 4) _ _
              rw [show bq_ 4 = false from hoff 4 (by decide), cond_false]
              show cond true _ _
              rw [cond_true]
              exact ⟨v900301, rfl, (((((HS.front 4 rfl).front 4 rfl).front 4 rfl).front 4 rfl).front 4 rfl)⟩
            · have h4 : (fr l_).tmps[4]? = some (.pointer (some ⟨g19, 0, none⟩)) := (hel 4 (by decide)).trans rfl
              have h71 := hval (3, 71) (by decide) (hon 3 (by decide))
              have hE0 := hE
              rw [show bq_ 4 = false from hb_] at hE0
              rw [show bq_ 3 = true from (hon 3 (by decide))] at hE0
              simp only [cond_true, cond_false] at hE0
              obtain ⟨v139, hv3, HS⟩ := hE0
              rw [hv3] at h71
              have e4 : evl l_ (.tmp 4) = .pointer (some ⟨g19, 0, none⟩) := evl_of h4
              have e71 : evl l_ (.tmp 71) = v139 := evl_of h71
              refine ⟨_, rfl, fun K_ hK_ => wp_of_list rfl ?_⟩
              intro ops_
              refine St.store (cs' := [v139]) (HS.front 1 rfl) (v139) e4 e71 (row_one (HS.get (.head _))) (by kernel_rfl) (by rfl) rfl ?_
              clear HS
              intro w900401 HS
              refine wpList_nil ?_
              refine norm_none (hK_ undef _ ⟨qv_up hV (by intro _ h; cases h), ?_⟩)
              show cond true _ _
              rw [cond_true]
              exact ⟨v139, hv3, (((((HS.front 4 rfl).front 4 rfl).front 4 rfl).front 4 rfl).front 4 rfl)⟩
          intro bq_ vq_ w_ hall hG
          obtain ⟨hV, hE⟩ := hG
          clear HS
          rw [show bq_ 4 = true from hall 4 (by decide)] at hE
          simp only [cond_true] at hE
          obtain ⟨v139, hv3, HS⟩ := hE
          have hv0 := hV 0 _ rfl (hall 0 (by decide))
          have hv1 := hV 1 _ rfl (hall 1 (by decide))
          have hv2 := hV 2 _ rfl (hall 2 (by decide))
          clear hV hall
          rw [putSel_fr]
          simp only [tells, List.map_cons, List.map_nil, setAll, List.set_cons_succ, List.set_cons_zero, hv0, hv1, hv2, hv3]
          clear hv0 hv1 hv2 hv3
          generalize w_ = w900402 at HS ⊢
          refine fr_at (l' := (mgV m (some ad) c B d :: .pointer (some ⟨g5, 0, none⟩) :: .slice none 0 0 :: .int .i64 0 :: .pointer (some ⟨g19, 0, none⟩) :: undef :: .pointer (some ⟨g114, 0, none⟩) :: .int .u64 0 :: undef :: undef :: mgV m (some ad) c B d :: .bool true :: .bool false :: .pointer (some ⟨g5, 0, none⟩) :: .int .i64 m.k :: .int .u64 (uv (UInt64.ofNat m.k.toNat)) :: V8.l qz70 (V8.l qz71 (V8.l qz72 (V8.l qz91 (.slice (some ad) m.its.length c :: .int .i64 (m.its.length : Int) :: .int .u64 (uv (UInt64.ofNat (m.its.length : Int).toNat)) :: .slice (some ⟨g86, 0, none⟩) 1 1 :: .tuple [].toArray :: .pointer (some ⟨g5, 10, none⟩) :: .slice (some ad) m.its.length c :: .int .i64 (m.its.length : Int) :: .int .i64 (j : Int) :: .bool (decide ((j : Int) < (m.its.length : Int))) :: .pointer (some ((ad).add (j * 18))) :: .agg (Value.int .i64 x.1 :: Value.bool false :: (nums .u8 (x.2.2.map bv))).toArray :: .pointer (some ⟨g114, 1, none⟩) :: .bool false :: .pointer (some ⟨g114, 0, none⟩) :: .int .i64 x.1 :: .int .u64 (uv (UInt64.ofNat x.1.toNat)) :: .int .u64 0 :: .slice (some ⟨g132, 0, none⟩) 2 2 :: .tuple [].toArray :: v135 :: .pointer (some ⟨g114, 2, none⟩) :: .slice (some ⟨g114, 2, none⟩) 16 16 :: v139 :: u72 :: U16f4 (U8f4 (undef :: undef :: undef :: [])))))))) rfl ?_
          refine hK109 _ _ ?_
          refine c_region (fun ops900404 hops900403 => ?_)
          clear hops900403
          refine p_run _ (x_arith (k := .i64) (m := (j : Int)) (n := 1) .add (((j + 1 : Nat) : Int)) rfl rfl rfl (show IntKind.i64.wrap ((j : Int) + 1) = ((j + 1 : Nat) : Int) from ((wr64' (by omega)).trans (by omega))) rfl) rfl ?_
          refine p_run _ (x_move (.int .i64 ((j + 1 : Nat) : Int)) rfl rfl) rfl ?_
          refine wpList_nil ?_
          refine fr_at (l' := (mgV m (some ad) c B d :: .pointer (some ⟨g5, 0, none⟩) :: .slice none 0 0 :: .int .i64 0 :: .pointer (some ⟨g19, 0, none⟩) :: undef :: .pointer (some ⟨g114, 0, none⟩) :: .int .u64 0 :: undef :: undef :: mgV m (some ad) c B d :: .bool true :: .bool false :: .pointer (some ⟨g5, 0, none⟩) :: .int .i64 m.k :: .int .u64 (uv (UInt64.ofNat m.k.toNat)) :: V8.l qz70 (V8.l qz71 (V8.l qz72 (V8.l qz91 (.slice (some ad) m.its.length c :: .int .i64 (m.its.length : Int) :: .int .u64 (uv (UInt64.ofNat (m.its.length : Int).toNat)) :: .slice (some ⟨g86, 0, none⟩) 1 1 :: .tuple [].toArray :: .pointer (some ⟨g5, 10, none⟩) :: .slice (some ad) m.its.length c :: .int .i64 (m.its.length : Int) :: .int .i64 ((j + 1 : Nat) : Int) :: .bool (decide ((j : Int) < (m.its.length : Int))) :: .pointer (some ((ad).add (j * 18))) :: .agg (Value.int .i64 x.1 :: Value.bool false :: (nums .u8 (x.2.2.map bv))).toArray :: .pointer (some ⟨g114, 1, none⟩) :: .bool false :: .pointer (some ⟨g114, 0, none⟩) :: .int .i64 x.1 :: .int .u64 (uv (UInt64.ofNat x.1.toNat)) :: .int .u64 0 :: .slice (some ⟨g132, 0, none⟩) 2 2 :: .tuple [].toArray :: v135 :: .pointer (some ⟨g114, 2, none⟩) :: .slice (some ⟨g114, 2, none⟩) 16 16 :: v139 :: .int .i64 ((j + 1 : Nat) : Int) :: U16f4 (U8f4 (undef :: undef :: undef :: [])))))))) rfl ?_
          rw [show (0 : Int) = (if x.2.1 then 1 else 0) from by rw [hxb]; rfl, h8_step hx] at HS
          refine hJ99 (j + 1, v139) _ _ ?_ ?_
          · show m.its.length - (j + 1) < m.its.length - j; omega
          · exact ⟨_, _, _, _, _, _, _, _, _, _, _, _, _, _, _, _, _, _, rfl, (((((HS.front 2 rfl).drop.front 2 rfl).drop.front 2 rfl).front 2 rfl).front 2 rfl), (by omega)⟩
        · skip
          rw [hxb] at HS
          try rw [hxb]
          refine c_region (fun ops900406 hops900405 => ?_)
          clear hops900405
          refine p_run _ (x_field (j := 1) _ _ rfl rfl Try.underlying53 rfl (by rfl) rfl) rfl ?_
          refine p_run _ (x_load (.bool true) rfl rfl (bkCell (HS.get (.head _)) 1 _ rfl) (by rfl)) rfl ?_
          refine wpList_nil ?_
          refine hK125 _ _ ?_
          refine c_true rfl ?_
          refine c_region (fun ops900408 hops900407 => ?_)
          clear hops900407
          refine p_run _ (x_assign (.int .u64 1) rfl rfl) rfl ?_
          refine wpList_nil ?_
          refine hK123 _ _ ?_
          refine wp_seq_k (fun K900409 hK900410 => ?_)
          refine c_region (fun ops900412 hops900411 => ?_)
          clear hops900411
          refine p_run _ (x_field (j := 0) _ _ rfl rfl Try.underlying53 rfl (by rfl) rfl) rfl ?_
          refine p_run _ (x_load (.int .i64 x.1) rfl rfl (bkCell (HS.get (.head _)) 0 _ rfl) (by rfl)) rfl ?_
          refine p_run _ (x_conv (k := .i64) (m := x.1) .u64 ((uv (UInt64.ofNat x.1.toNat))) rfl (by rw [Try.underlying3]; rfl) Try.underlying27 rfl (u32_conv (by omega) (by omega))) rfl ?_
          refine p_run (l' := (mgV m (some ad) c B d :: .pointer (some ⟨g5, 0, none⟩) :: .slice none 0 0 :: .int .i64 0 :: .pointer (some ⟨g19, 0, none⟩) :: undef :: .pointer (some ⟨g114, 0, none⟩) :: .int .u64 1 :: undef :: undef :: mgV m (some ad) c B d :: .bool true :: .bool false :: .pointer (some ⟨g5, 0, none⟩) :: .int .i64 m.k :: .int .u64 (uv (UInt64.ofNat m.k.toNat)) :: V8.l qz70 (V8.l qz71 (V8.l qz72 (V8.l qz91 (.slice (some ad) m.its.length c :: .int .i64 (m.its.length : Int) :: .int .u64 (uv (UInt64.ofNat (m.its.length : Int).toNat)) :: .slice (some ⟨g86, 0, none⟩) 1 1 :: .tuple [].toArray :: .pointer (some ⟨g5, 10, none⟩) :: .slice (some ad) m.its.length c :: .int .i64 (m.its.length : Int) :: .int .i64 (j : Int) :: .bool (decide ((j : Int) < (m.its.length : Int))) :: .pointer (some ((ad).add (j * 18))) :: .agg (Value.int .i64 x.1 :: Value.bool true :: (nums .u8 (x.2.2.map bv))).toArray :: .pointer (some ⟨g114, 1, none⟩) :: .bool true :: .pointer (some ⟨g114, 0, none⟩) :: .int .i64 x.1 :: .int .u64 (uv (UInt64.ofNat x.1.toNat)) :: .int .u64 1 :: u66 :: u67 :: u68 :: u69 :: u70 :: u71 :: u72 :: U16f4 (U8f4 (undef :: undef :: undef :: [])))))))) _ (x_move (.int .u64 1) rfl rfl) rfl ?_
          refine St.wLit HS (cs := [.int .u64 (uv (UInt64.ofNat x.1.toNat)), .int .u64 1]) 1 (.int .u64 0) Try.underlying86 (by kernel_rfl) (by decide) (by kernel_rfl) ?_
          clear HS
          intro g900413 w900414 hg900415 HS
          refine w_call [.pointer (some ⟨g19, 0, none⟩), .int .i64 1, .slice (some ⟨g900413, 0, none⟩) 2 2] Try.func19 (by kernel_rfl) (by rfl) rfl ?_
          replace HS := ((HS.front 3 rfl).front 3 rfl)
          refine (oput_any (m := 1) HS (by decide) (l := [UInt64.ofNat x.1.toNat, UInt64.ofNat (1 : Int).toNat]) (ru_lit (l := [UInt64.ofNat x.1.toNat, UInt64.ofNat (1 : Int).toNat]) (HS.get (.tail _ (.tail _ (.head _)))) rfl (by simp)) (by rw [List.all_cons, List.all_cons, fit1 (x := x.1) (by omega) (by omega) (by omega), fit1 (x := (1 : Int)) (by omega) (by omega) (by omega)]; rfl) (by simp only [List.length_cons, List.length_nil]; have := h8_len hw j; omega)).mono ?_
          clear HS
          rintro e w900417 ⟨v900416, rfl, HS⟩
          rw [pk_cons 1 (x := x.1) (by omega) (by omega), pk_cons 1 (x := (1 : Int)) (by omega) (by omega), pk_nil] at HS
          refine ⟨_, rfl, ?_⟩
          refine wpList_nil ?_
          refine hK900410 _ _ ?_
          refine free_frame (n := 5) (T := _) [0, 0, 2, 7, 15] [(0, 68), (1, 69), (2, 70), (3, 71)] (fun bq_ vq_ w_ => qv ((fun i_ => match i_ with | 0 => some (v900416) | 1 => some (.pointer (some ⟨g114, 2, none⟩)) | 2 => some (.slice (some ⟨g114, 2, none⟩) 16 16) | _ => none) : Nat → Option Value) bq_ vq_ ∧ cond (bq_ 4) (∃ (v900420 : Value), vq_ 3 = v900420 ∧ St w (fun _ => False) w_ ([blk g19 [v900420] 47, row kByte rfl 5 v900420 ((h8 m j ++ (nB 1 x.1 ++ (nB 1 (1 : Int) ++ []))) ++ x.2.2), blk g900413 [.int .u64 (uv (UInt64.ofNat x.1.toNat)), .int .u64 1] 27, blk g114 (Value.int .i64 x.1 :: Value.bool true :: (nums .u8 (x.2.2.map bv))) 53, blk g5 [.int .i64 m.k, .int .u32 m.e, .int .u64 m.s, .int .u32 m.te, .int .u32 m.ts, .int .u32 m.be, .int .u32 m.bs, .int .i64 m.ix, .int .i64 m.tt, .int .u32 m.tk, .slice (some ad) m.its.length c, .slice B m.hvs.length d] 33])) (cond (bq_ 3) (∃ (v900420 : Value), vq_ 3 = v900420 ∧ St w (fun _ => False) w_ ([row kByte rfl 5 v900420 ((h8 m j ++ (nB 1 x.1 ++ (nB 1 (1 : Int) ++ []))) ++ x.2.2), blk g19 [v900416] 47, blk g900413 [.int .u64 (uv (UInt64.ofNat x.1.toNat)), .int .u64 1] 27, blk g114 (Value.int .i64 x.1 :: Value.bool true :: (nums .u8 (x.2.2.map bv))) 53, blk g5 [.int .i64 m.k, .int .u32 m.e, .int .u64 m.s, .int .u32 m.te, .int .u32 m.ts, .int .u32 m.be, .int .u32 m.bs, .int .i64 m.ix, .int .i64 m.tt, .int .u32 m.tk, .slice (some ad) m.its.length c, .slice B m.hvs.length d] 33])) ((St w (fun _ => False) w_ ([blk g19 [v900416] 47, row kByte rfl 5 v900416 (h8 m j ++ (nB 1 x.1 ++ (nB 1 (1 : Int) ++ []))), blk g900413 [.int .u64 (uv (UInt64.ofNat x.1.toNat)), .int .u64 1] 27, blk g114 (Value.int .i64 x.1 :: Value.bool true :: (nums .u8 (x.2.2.map bv))) 53, blk g5 [.int .i64 m.k, .int .u32 m.e, .int .u64 m.s, .int .u32 m.te, .int .u32 m.ts, .int .u32 m.be, .int .u32 m.bs, .int .i64 m.ix, .int .i64 m.tt, .int .u32 m.tk, .slice (some ad) m.its.length c, .slice B m.hvs.length d] 33]))))) (by kernel_rfl) rfl rfl (by kernel_rfl) (by kernel_rfl) rfl (by kernel_rfl) (by kernel_rfl) ⟨qv_none, HS.draw⟩ ?_ ?_
          · clear HS
            intro i_ hi_ bq_ vq_ a_ w_ hG hb_ hon hoff hfr hel hval
            obtain ⟨hV, hE⟩ := hG
            have hi_ := List.mem_range.1 hi_
            obtain ⟨l_, rfl⟩ := hfr
            have hv_ := fun (j t : Nat) (v : Value) (h1 : (j, t) ∈ [(0, 68), (1, 69), (2, 70), (3, 71)]) h2 h3 => (hval (j, t) h1 h3).trans (congrArg some (hV j v h2 h3))
            have hcs : i_ = 0 ∨ i_ = 1 ∨ i_ = 2 ∨ i_ = 3 ∨ i_ = 4 := by omega
            rcases hcs with rfl | rfl | rfl | rfl | rfl
            · have hE0 := hE
              rw [show bq_ 4 = false from (hoff 4 (by decide))] at hE0
              rw [show bq_ 3 = false from (hoff 3 (by decide))] at hE0
              simp only [cond_true, cond_false] at hE0
              have HS := hE0
              have e4 : evl l_ (.tmp 4) = .pointer (some ⟨g19, 0, none⟩) := evl_of ((hel 4 (by decide)).trans rfl)
              exact ⟨_, rfl, fun K_ hK_ => q_op _ (x_load (v900416) rfl e4 (bkCell (HS.get (.head _)) 0 _ rfl) (by rfl)) (hK_ _ _ ⟨qv_up hV (fun _ h => Option.some.inj h), hE⟩)⟩
            · have e6 : evl l_ (.tmp 6) = .pointer (some ⟨g114, 0, none⟩) := evl_of ((hel 6 (by decide)).trans rfl)
              exact ⟨_, rfl, fun K_ hK_ => q_op _ (x_field (j := 2) _ _ rfl e6 Try.underlying53 rfl (by rfl) rfl) (hK_ _ _ ⟨qv_up hV (fun _ h => Option.some.inj h), hE⟩)⟩
            · have e69 : evl l_ (.tmp 69) = .pointer (some ⟨g114, 2, none⟩) := evl_of (hv_ 1 69 _ (by decide) rfl (hon 1 (by decide)))
              exact ⟨_, rfl, fun K_ hK_ => q_op (.slice (some ⟨g114, 2, none⟩) 16 16) ((x_sliceArr (sz := 1) (L := none) (H := none) (lo := 0) (hi := 16) ⟨g114, 2, none⟩ rfl e69 Try.underlying51 (by kernel_rfl) rfl rfl (by omega) (by omega) (by first | rfl | (rw [if_neg (by omega), add_mk]; rfl))).trans rfl) (hK_ _ _ ⟨qv_up hV (fun _ h => Option.some.inj h), hE⟩)⟩
            · have h68 : (fr l_).tmps[68]? = some (v900416) := hv_ 0 68 _ (by decide) rfl (hon 0 (by decide))
              have h70 : (fr l_).tmps[70]? = some (.slice (some ⟨g114, 2, none⟩) 16 16) := hv_ 2 70 _ (by decide) rfl (hon 2 (by decide))
              have hE0 := hE
              rw [show bq_ 4 = false from (hoff 4 (by decide))] at hE0
              rw [show bq_ 3 = false from hb_] at hE0
              simp only [cond_true, cond_false] at hE0
              have HS := hE0
              have e68 : evl l_ (.tmp 68) = v900416 := evl_of h68
              have e70 : evl l_ (.tmp 70) = .slice (some ⟨g114, 2, none⟩) 16 16 := evl_of h70
              refine ⟨_, rfl, fun K_ hK_ => wp_of_list rfl ?_⟩
              intro ops_
              replace HS := (HS.front 1 rfl)
              refine wp_app2 (by kernel_rfl) Try.underlying22 Try.underlying47 ?_
              refine St.wAppend HS (.int .u8 0) 1 Try.underlying47 (by kernel_rfl) rfl (by decide) (by decide) x.2.2 _ _ _ e68 e70 (hx16 ▸ rd_sub (HS.get (.tail _ (.tail _ (.tail _ (.head _))))) 2 (by show (nums .u8 (x.2.2.map bv)).take x.2.2.length = _; exact List.take_of_length_le (by rw [nums_length, List.length_map]; exact Nat.le_refl _)) (by omega)) (fun _ _ h => h) (by have := h8_len hw j; simp only [List.length_append, nB_len, List.length_nil]; omega) ?_
              clear HS
              intro v900301 w900302 HS
              refine wpList_nil ?_
              refine norm_put (hK_ (v900301) _ ⟨qv_up hV (by intro _ h; cases h), ?_⟩)
              show cond (bq_ 4) _ _
              rw [show bq_ 4 = false from hoff 4 (by decide), cond_false]
              show cond true _ _
              rw [cond_true]
              exact ⟨v900301, rfl, (((((HS.front 4 rfl).front 4 rfl).front 4 rfl).front 4 rfl).front 4 rfl)⟩
            · have h4 : (fr l_).tmps[4]? = some (.pointer (some ⟨g19, 0, none⟩)) := (hel 4 (by decide)).trans rfl
              have h71 := hval (3, 71) (by decide) (hon 3 (by decide))
              have hE0 := hE
              rw [show bq_ 4 = false from hb_] at hE0
              rw [show bq_ 3 = true from (hon 3 (by decide))] at hE0
              simp only [cond_true, cond_false] at hE0
              obtain ⟨v900420, hv3, HS⟩ := hE0
              rw [hv3] at h71
              have e4 : evl l_ (.tmp 4) = .pointer (some ⟨g19, 0, none⟩) := evl_of h4
              have e71 : evl l_ (.tmp 71) = v900420 := evl_of h71
              refine ⟨_, rfl, fun K_ hK_ => wp_of_list rfl ?_⟩
              intro ops_
              refine St.store (cs' := [v900420]) (HS.front 1 rfl) (v900420) e4 e71 (row_one (HS.get (.head _))) (by kernel_rfl) (by rfl) rfl ?_
              clear HS
              intro w900401 HS
              refine wpList_nil ?_
              refine norm_none (hK_ undef _ ⟨qv_up hV (by intro _ h; cases h), ?_⟩)
              show cond true _ _
              rw [cond_true]
              exact ⟨v900420, hv3, (((((HS.front 4 rfl).front 4 rfl).front 4 rfl).front 4 rfl).front 4 rfl)⟩
          intro bq_ vq_ w_ hall hG
          obtain ⟨hV, hE⟩ := hG
          clear HS
          rw [show bq_ 4 = true from hall 4 (by decide)] at hE
          simp only [cond_true] at hE
          obtain ⟨v900420, hv3, HS⟩ := hE
          have hv0 := hV 0 _ rfl (hall 0 (by decide))
          have hv1 := hV 1 _ rfl (hall 1 (by decide))
          have hv2 := hV 2 _ rfl (hall 2 (by decide))
          clear hV hall
          rw [putSel_fr]
          simp only [tells, List.map_cons, List.map_nil, setAll, List.set_cons_succ, List.set_cons_zero, hv0, hv1, hv2, hv3]
          clear hv0 hv1 hv2 hv3
          generalize w_ = w900402 at HS ⊢
          refine fr_at (l' := (mgV m (some ad) c B d :: .pointer (some ⟨g5, 0, none⟩) :: .slice none 0 0 :: .int .i64 0 :: .pointer (some ⟨g19, 0, none⟩) :: undef :: .pointer (some ⟨g114, 0, none⟩) :: .int .u64 1 :: undef :: undef :: mgV m (some ad) c B d :: .bool true :: .bool false :: .pointer (some ⟨g5, 0, none⟩) :: .int .i64 m.k :: .int .u64 (uv (UInt64.ofNat m.k.toNat)) :: V8.l qz70 (V8.l qz71 (V8.l qz72 (V8.l qz91 (.slice (some ad) m.its.length c :: .int .i64 (m.its.length : Int) :: .int .u64 (uv (UInt64.ofNat (m.its.length : Int).toNat)) :: .slice (some ⟨g86, 0, none⟩) 1 1 :: .tuple [].toArray :: .pointer (some ⟨g5, 10, none⟩) :: .slice (some ad) m.its.length c :: .int .i64 (m.its.length : Int) :: .int .i64 (j : Int) :: .bool (decide ((j : Int) < (m.its.length : Int))) :: .pointer (some ((ad).add (j * 18))) :: .agg (Value.int .i64 x.1 :: Value.bool true :: (nums .u8 (x.2.2.map bv))).toArray :: .pointer (some ⟨g114, 1, none⟩) :: .bool true :: .pointer (some ⟨g114, 0, none⟩) :: .int .i64 x.1 :: .int .u64 (uv (UInt64.ofNat x.1.toNat)) :: .int .u64 1 :: .slice (some ⟨g900413, 0, none⟩) 2 2 :: .tuple [].toArray :: v900416 :: .pointer (some ⟨g114, 2, none⟩) :: .slice (some ⟨g114, 2, none⟩) 16 16 :: v900420 :: u72 :: U16f4 (U8f4 (undef :: undef :: undef :: [])))))))) rfl ?_
          refine hK109 _ _ ?_
          refine c_region (fun ops900404 hops900403 => ?_)
          clear hops900403
          refine p_run _ (x_arith (k := .i64) (m := (j : Int)) (n := 1) .add (((j + 1 : Nat) : Int)) rfl rfl rfl (show IntKind.i64.wrap ((j : Int) + 1) = ((j + 1 : Nat) : Int) from ((wr64' (by omega)).trans (by omega))) rfl) rfl ?_
          refine p_run _ (x_move (.int .i64 ((j + 1 : Nat) : Int)) rfl rfl) rfl ?_
          refine wpList_nil ?_
          refine fr_at (l' := (mgV m (some ad) c B d :: .pointer (some ⟨g5, 0, none⟩) :: .slice none 0 0 :: .int .i64 0 :: .pointer (some ⟨g19, 0, none⟩) :: undef :: .pointer (some ⟨g114, 0, none⟩) :: .int .u64 1 :: undef :: undef :: mgV m (some ad) c B d :: .bool true :: .bool false :: .pointer (some ⟨g5, 0, none⟩) :: .int .i64 m.k :: .int .u64 (uv (UInt64.ofNat m.k.toNat)) :: V8.l qz70 (V8.l qz71 (V8.l qz72 (V8.l qz91 (.slice (some ad) m.its.length c :: .int .i64 (m.its.length : Int) :: .int .u64 (uv (UInt64.ofNat (m.its.length : Int).toNat)) :: .slice (some ⟨g86, 0, none⟩) 1 1 :: .tuple [].toArray :: .pointer (some ⟨g5, 10, none⟩) :: .slice (some ad) m.its.length c :: .int .i64 (m.its.length : Int) :: .int .i64 ((j + 1 : Nat) : Int) :: .bool (decide ((j : Int) < (m.its.length : Int))) :: .pointer (some ((ad).add (j * 18))) :: .agg (Value.int .i64 x.1 :: Value.bool true :: (nums .u8 (x.2.2.map bv))).toArray :: .pointer (some ⟨g114, 1, none⟩) :: .bool true :: .pointer (some ⟨g114, 0, none⟩) :: .int .i64 x.1 :: .int .u64 (uv (UInt64.ofNat x.1.toNat)) :: .int .u64 1 :: .slice (some ⟨g900413, 0, none⟩) 2 2 :: .tuple [].toArray :: v900416 :: .pointer (some ⟨g114, 2, none⟩) :: .slice (some ⟨g114, 2, none⟩) 16 16 :: v900420 :: .int .i64 ((j + 1 : Nat) : Int) :: U16f4 (U8f4 (undef :: undef :: undef :: [])))))))) rfl ?_
          rw [show (1 : Int) = (if x.2.1 then 1 else 0) from by rw [hxb]; rfl, h8_step hx] at HS
          refine hJ99 (j + 1, v900420) _ _ ?_ ?_
          · show m.its.length - (j + 1) < m.its.length - j; omega
          · exact ⟨_, _, _, _, _, _, _, _, _, _, _, _, _, _, _, _, _, _, rfl, (((((HS.front 2 rfl).drop.front 2 rfl).drop.front 2 rfl).front 2 rfl).front 2 rfl), (by omega)⟩
      · have hlt : j = m.its.length := by have := of_decide_eq_false hc107; omega
        subst hlt
        refine wp_exit ?_
        refine hK93 _ _ ?_
        refine wp_seq_k (fun K900405 hK900406 => ?_)
        refine c_region (fun ops900408 hops900407 => ?_)
        clear hops900407
        refine p_run _ (x_field (j := 11) _ _ rfl rfl Try.underlying33 rfl (by rfl) rfl) rfl ?_
        refine p_run _ (x_load (.slice B m.hvs.length d) rfl rfl (bkCell (HS.get (.tail _ (.tail _ (.head _)))) 11 _ rfl) (by rfl)) rfl ?_
        refine p_run _ (x_len rfl rfl Try.underlying31) rfl ?_
        refine p_run _ (x_conv (k := .i64) (m := (m.hvs.length : Int)) .u64 ((uv (UInt64.ofNat (m.hvs.length : Int).toNat))) rfl (by rw [Try.underlying3]; rfl) Try.underlying27 rfl (u32_conv (by omega) (by omega))) rfl ?_
        refine St.wLit1 HS [.int .u64 (uv (UInt64.ofNat (m.hvs.length : Int).toNat))] 1 (.int .u64 0) (.int .u64 (uv (UInt64.ofNat (m.hvs.length : Int).toNat))) Try.underlying86 (by kernel_rfl) (by decide) rfl rfl rfl ?_
        clear HS
        intro g900409 w900410 hg900411 HS
        refine w_call [.pointer (some ⟨g19, 0, none⟩), .int .i64 1, .slice (some ⟨g900409, 0, none⟩) 1 1] Try.func19 (by kernel_rfl) (by rfl) rfl ?_
        replace HS := ((HS.front 2 rfl).front 2 rfl)
        refine (oput_any (m := 1) HS (by decide) (l := [UInt64.ofNat (m.hvs.length : Int).toNat]) (ru_lit (l := [UInt64.ofNat (m.hvs.length : Int).toNat]) (HS.get (.tail _ (.tail _ (.head _)))) rfl (by simp)) (by rw [List.all_cons, fit1 (x := (m.hvs.length : Int)) (by omega) (by omega) (by omega)]; rfl) (by simp only [List.length_cons, List.length_nil]; have := h8_len hw m.its.length; omega)).mono ?_
        clear HS
        rintro e w900413 ⟨v900412, rfl, HS⟩
        rw [pk_cons 1 (x := (m.hvs.length : Int)) (by omega) (by omega), pk_nil, List.append_nil] at HS
        replace HS : St _ _ _ (blk _ _ _ :: row kByte rfl _ _ (h9 m) :: _) := HS
        refine ⟨_, rfl, ?_⟩
        refine wpList_nil ?_
        obtain ⟨qz900414, hqz900414⟩ : ∃ q_ : V8, q_ = ⟨.slice A m.its.length c, .int .i64 (m.its.length : Int), .int .u64 (uv (UInt64.ofNat (m.its.length : Int).toNat)), .slice (some ⟨g86, 0, none⟩) 1 1, .tuple [].toArray, .pointer (some ⟨g5, 10, none⟩), .slice A m.its.length c, .int .i64 (m.its.length : Int)⟩ := ⟨_, rfl⟩
        obtain ⟨qz900415, hqz900415⟩ : ∃ q_ : V8, q_ = ⟨.int .i64 (m.its.length : Int), .bool (decide ((m.its.length : Int) < (m.its.length : Int))), u58, u59, u60, u61, u62, u63⟩ := ⟨_, rfl⟩
        obtain ⟨qz900416, hqz900416⟩ : ∃ q_ : V8, q_ = ⟨u64, u65, u66, u67, u68, u69, u70, u71⟩ := ⟨_, rfl⟩
        refine fr_at (l' := (mgV m A c B d :: .pointer (some ⟨g5, 0, none⟩) :: .slice none 0 0 :: .int .i64 0 :: .pointer (some ⟨g19, 0, none⟩) :: undef :: u6 :: u7 :: undef :: undef :: mgV m A c B d :: .bool true :: .bool false :: .pointer (some ⟨g5, 0, none⟩) :: .int .i64 m.k :: .int .u64 (uv (UInt64.ofNat m.k.toNat)) :: V8.l qz70 (V8.l qz71 (V8.l qz72 (V8.l qz91 (V8.l qz900414 (V8.l qz900415 (V8.l qz900416 (u72 :: .pointer (some ⟨g5, 11, none⟩) :: .slice B m.hvs.length d :: .int .i64 (m.hvs.length : Int) :: .int .u64 (uv (UInt64.ofNat (m.hvs.length : Int).toNat)) :: .slice (some ⟨g900409, 0, none⟩) 1 1 :: .tuple [].toArray :: U16f4 (U4f4 (undef :: []))))))))))) (by subst hqz900414 hqz900415 hqz900416; rfl) ?_
        refine hK900406 _ _ ?_
        refine wp_seq_k (fun K900417 hK900418 => ?_)
        refine wp_seq_k (fun K900419 hK900420 => ?_)
        refine c_region (fun ops900422 hops900421 => ?_)
        clear hops900421
        refine p_run _ (x_field (j := 11) _ _ rfl rfl Try.underlying33 rfl (by rfl) rfl) rfl ?_
        refine p_run _ (x_load (.slice B m.hvs.length d) rfl rfl (bkCell (HS.get (.tail _ (.tail _ (.tail _ (.head _))))) 11 _ rfl) (by rfl)) rfl ?_
        refine p_run _ (x_len rfl rfl Try.underlying31) rfl ?_
        refine p_run _ (x_move (.int .i64 0) rfl rfl) rfl ?_
        refine wpList_nil ?_
        obtain ⟨qz900423, hqz900423⟩ : ∃ q_ : V8, q_ = ⟨u72, .pointer (some ⟨g5, 11, none⟩), .slice B m.hvs.length d, .int .i64 (m.hvs.length : Int), .int .u64 (uv (UInt64.ofNat (m.hvs.length : Int).toNat)), .slice (some ⟨g900409, 0, none⟩) 1 1, .tuple [].toArray, .pointer (some ⟨g5, 11, none⟩)⟩ := ⟨_, rfl⟩
        refine fr_at (l' := (mgV m A c B d :: .pointer (some ⟨g5, 0, none⟩) :: .slice none 0 0 :: .int .i64 0 :: .pointer (some ⟨g19, 0, none⟩) :: undef :: u6 :: u7 :: undef :: undef :: mgV m A c B d :: .bool true :: .bool false :: .pointer (some ⟨g5, 0, none⟩) :: .int .i64 m.k :: .int .u64 (uv (UInt64.ofNat m.k.toNat)) :: V8.l qz70 (V8.l qz71 (V8.l qz72 (V8.l qz91 (V8.l qz900414 (V8.l qz900415 (V8.l qz900416 (V8.l qz900423 (.slice B m.hvs.length d :: .int .i64 (m.hvs.length : Int) :: .int .i64 0 :: U16f4 (undef :: []))))))))))) (by subst hqz900423; rfl) ?_
        refine hK900420 _ _ ?_
        refine wp_block ?_
        refine c_loop (ι := Nat × Value) (fun i_ a_ w_ => match i_ with | (j, u4) => ∃ (u9 : Value) (u83 : Value) (u84 : Value) (u85 : Value) (u86 : Value) (u87 : Value) (u88 : Value) (u89 : Value) (u90 : Value) (u91 : Value) (u92 : Value) (u93 : Value) (u94 : Value) (u95 : Value) (u96 : Value), a_ = fr (mgV m A c B d :: .pointer (some ⟨g5, 0, none⟩) :: .slice none 0 0 :: .int .i64 0 :: .pointer (some ⟨g19, 0, none⟩) :: undef :: u6 :: u7 :: undef :: u9 :: mgV m A c B d :: .bool true :: .bool false :: .pointer (some ⟨g5, 0, none⟩) :: .int .i64 m.k :: .int .u64 (uv (UInt64.ofNat m.k.toNat)) :: V8.l qz70 (V8.l qz71 (V8.l qz72 (V8.l qz91 (V8.l qz900414 (V8.l qz900415 (V8.l qz900416 (V8.l qz900423 (.slice B m.hvs.length d :: .int .i64 (m.hvs.length : Int) :: .int .i64 (j : Int) :: u83 :: u84 :: u85 :: u86 :: u87 :: u88 :: u89 :: u90 :: u91 :: u92 :: u93 :: u94 :: u95 :: u96 :: undef :: undef :: undef :: []))))))))) ∧ St w (fun _ => False) w_ ([blk g19 [u4] 47, row kByte rfl 5 u4 (h10 m j), blk g5 [.int .i64 m.k, .int .u32 m.e, .int .u64 m.s, .int .u32 m.te, .int .u32 m.ts, .int .u32 m.be, .int .u32 m.bs, .int .i64 m.ix, .int .i64 m.tt, .int .u32 m.tk, .slice A m.its.length c, .slice B m.hvs.length d] 33]) ∧ (j ≤ m.hvs.length)) (fun i_ => match i_ with | (j, u4) => m.hvs.length - j) (0, v900412) ?_ ?_
        · exact ⟨_, _, _, _, _, _, _, _, _, _, _, _, _, _, _, rfl, (by rw [h10_zero]; exact ((((HS.front 2 rfl).drop.front 2 rfl).front 2 rfl).front 2 rfl)), Nat.zero_le _⟩
        · clear HS
          rintro ⟨j, u4⟩ a_ w900426 ⟨u9, u83, u84, u85, u86, u87, u88, u89, u90, u91, u92, u93, u94, u95, u96, rfl, HS, hI⟩ J900424 hJ900425
          have hjl := hI
          refine wp_seq_k (fun K900427 hK900428 => ?_)
          refine c_region (fun ops900430 hops900429 => ?_)
          clear hops900429
          refine p_run _ (x_cmp (k := .i64) (m := (j : Int)) (n := (m.hvs.length : Int)) .lss (decide ((j : Int) < (m.hvs.length : Int))) rfl rfl rfl rfl rfl) rfl ?_
          refine wpList_nil ?_
          refine hK900428 _ _ ?_
          refine wp_seq_k (fun K900431 hK900432 => ?_)
          refine c_cond (t := decide ((j : Int) < (m.hvs.length : Int))) rfl (fun hc900433 => ?_) (fun hc900433 => ?_)
          · have hlt : j < m.hvs.length := by have := of_decide_eq_true hc900433; omega
            obtain ⟨ad, x, rfl, hx, -⟩ := hv_get (Kd.C_below hB HS.belowOf) j hlt
            have hwx := hw.hvs x (List.mem_of_getElem? hx)
            obtain ⟨⟨y1, y2⟩, ⟨y3, y4⟩, y5, y6⟩ := hw.hvs x (List.mem_of_getElem? hx)
            refine wp_skip ?_
            refine hK900432 _ _ ?_
            refine wp_seq_k (fun K900434 hK900435 => ?_)
            refine wp_block ?_
            refine wp_seq_k (fun K900436 hK900437 => ?_)
            refine c_region (fun ops900439 hops900438 => ?_)
            clear hops900438
            refine p_run _ (x_index (A := ad) (j := j * 3) (sz := 3) rfl rfl rfl Try.underlying31 (by kernel_rfl) (by omega) rfl) rfl ?_
            refine p_run _ (x_loads [.int .u32 x.1, .int .u32 x.2.1, .int .u32 x.2.2] 3 rfl rfl (hv_cells (Kd.C_below hB HS.belowOf) hx) (by rfl) (by kernel_rfl) rfl) rfl ?_
            refine St.wAlloc HS (cs := [.int .u32 0, .int .u32 0, .int .u32 0]) (.agg [.int .u32 0, .int .u32 0, .int .u32 0].toArray) (by kernel_rfl) rfl ?_
            clear HS
            intro g900440 w900441 hg900442 HS
            refine St.stores (cs' := [.int .u32 x.1, .int .u32 x.2.1, .int .u32 x.2.2]) HS [.int .u32 x.1, .int .u32 x.2.1, .int .u32 x.2.2] 3 rfl rfl (by rfl) (by kernel_rfl) rfl (by simp) rfl ?_
            clear HS
            intro w900443 HS
            refine wpList_nil ?_
            refine hK900437 _ _ ?_
            refine wp_seq_k (fun K900444 hK900445 => ?_)
            refine c_region (fun ops900447 hops900446 => ?_)
            clear hops900446
            refine p_run _ (x_load (u4) rfl rfl (bkCell (HS.get (.tail _ (.head _))) 0 _ rfl) (by rfl)) rfl ?_
            refine p_run _ (x_field (j := 0) _ _ rfl rfl Try.underlying55 rfl (by rfl) rfl) rfl ?_
            refine p_run (l' := (mgV m A c (some ad) d :: .pointer (some ⟨g5, 0, none⟩) :: .slice none 0 0 :: .int .i64 0 :: .pointer (some ⟨g19, 0, none⟩) :: undef :: u6 :: u7 :: undef :: .pointer (some ⟨g900440, 0, none⟩) :: mgV m A c (some ad) d :: .bool true :: .bool false :: .pointer (some ⟨g5, 0, none⟩) :: .int .i64 m.k :: .int .u64 (uv (UInt64.ofNat m.k.toNat)) :: V8.l qz70 (V8.l qz71 (V8.l qz72 (V8.l qz91 (V8.l qz900414 (V8.l qz900415 (V8.l qz900416 (V8.l qz900423 (.slice (some ad) m.hvs.length d :: .int .i64 (m.hvs.length : Int) :: .int .i64 (j : Int) :: .bool (decide ((j : Int) < (m.hvs.length : Int))) :: .pointer (some ((ad).add (j * 3))) :: .agg ([.int .u32 x.1, .int .u32 x.2.1, .int .u32 x.2.2] : List Value).toArray :: u4 :: .pointer (some ⟨g900440, 0, none⟩) :: .agg ([.int .u32 x.1, .int .u32 x.2.1] : List Value).toArray :: u89 :: u90 :: u91 :: u92 :: u93 :: u94 :: u95 :: u96 :: undef :: undef :: undef :: [])))))))))) _ (x_loads [.int .u32 x.1, .int .u32 x.2.1] 2 rfl rfl (bkCells (HS.get (.head _)) 0 _ rfl) (by rfl) (by kernel_rfl) rfl) rfl ?_
            refine St.wLit1 HS [.int .u32 x.1, .int .u32 x.2.1] 2 (.agg [.int .u32 0, .int .u32 0].toArray) (.agg ([.int .u32 x.1, .int .u32 x.2.1] : List Value).toArray) Try.underlying68 (by kernel_rfl) (by decide) rfl rfl rfl ?_
            clear HS
            intro g900448 w900449 hg900450 HS
            refine w_call [u4, .slice (some ⟨g900448, 0, none⟩) 1 1] Try.func20 (by kernel_rfl) (by rfl) rfl ?_
            replace HS := ((HS.front 3 rfl).front 3 rfl)
            replace HS := (HS.front 1 rfl)
            obtain ⟨A900451, c900452, hv_, hsl_⟩ := Own.sl (row_own HS.hs.head)
            subst hv_
            refine (lput_any _ _ c900452 (h10 m j) hsl_ _ 1 [(x.1, x.2.1)] (lit_reads (HS.get (.tail _ (.tail _ (.head _)))) (lb_reps1 _ x.1 x.2.1) (by simp)) (by intro y hy; rcases List.mem_singleton.1 hy with rfl; exact ⟨hwx.1, hwx.2.1⟩) (by simp only [List.length_cons, List.length_nil]; have := h10_len hw j; omega)).mono ?_
            rintro e w900454 ⟨v900453, rfl, hk_⟩
            clear hsl_
            replace HS := HS.more hk_
            clear hk_
            refine ⟨_, rfl, ?_⟩
            refine St.store (cs' := [v900453]) (HS.front 2 rfl) (v900453) rfl rfl (row_one (HS.get (.head _))) (by kernel_rfl) (by rfl) rfl ?_
            clear HS
            intro w900455 HS
            refine wpList_nil ?_
            refine hK900445 _ _ ?_
            refine c_region (fun ops900457 hops900456 => ?_)
            clear hops900456
            refine p_run _ (x_field (j := 2) _ _ rfl rfl Try.underlying55 rfl (by rfl) rfl) rfl ?_
            refine p_run _ (x_load (.int .u32 x.2.2) rfl rfl (bkCell (HS.get (.tail _ (.tail _ (.tail _ (.tail _ (.head _)))))) 2 _ rfl) (by rfl)) rfl ?_
            refine p_run _ (x_conv (k := .u32) (m := x.2.2) .u64 ((uv (UInt64.ofNat x.2.2.toNat))) rfl (by rw [Try.underlying26]; rfl) Try.underlying27 rfl (u32_conv (by omega) (by omega))) rfl ?_
            refine St.wLit1 HS [.int .u64 (uv (UInt64.ofNat x.2.2.toNat))] 1 (.int .u64 0) (.int .u64 (uv (UInt64.ofNat x.2.2.toNat))) Try.underlying86 (by kernel_rfl) (by decide) rfl rfl rfl ?_
            clear HS
            intro g900458 w900459 hg900460 HS
            refine w_call [.pointer (some ⟨g19, 0, none⟩), .int .i64 4, .slice (some ⟨g900458, 0, none⟩) 1 1] Try.func19 (by kernel_rfl) (by rfl) rfl ?_
            replace HS := ((HS.front 2 rfl).front 2 rfl)
            refine (oput_any (m := 4) HS (by decide) (l := [UInt64.ofNat x.2.2.toNat]) (ru_lit (l := [UInt64.ofNat x.2.2.toNat]) (HS.get (.tail _ (.tail _ (.head _)))) rfl (by simp)) (by rw [List.all_cons, fit1 (x := x.2.2) (by omega) (by omega) (by omega)]; rfl) (by simp only [List.length_cons, List.length_nil]; have := h10_len hw j; simp only [List.length_append, List.flatMap_cons, List.flatMap_nil, lbB_len, List.length_nil]; omega)).mono ?_
            clear HS
            rintro e w900462 ⟨v900461, rfl, HS⟩
            rw [pk_cons 4 (x := x.2.2) (by omega) (by omega), pk_nil, List.append_nil] at HS
            rw [h10_step hx] at HS
            refine ⟨_, rfl, ?_⟩
            refine fr_to (l' := (mgV m A c (some ad) d :: .pointer (some ⟨g5, 0, none⟩) :: .slice none 0 0 :: .int .i64 0 :: .pointer (some ⟨g19, 0, none⟩) :: undef :: u6 :: u7 :: undef :: .pointer (some ⟨g900440, 0, none⟩) :: mgV m A c (some ad) d :: .bool true :: .bool false :: .pointer (some ⟨g5, 0, none⟩) :: .int .i64 m.k :: .int .u64 (uv (UInt64.ofNat m.k.toNat)) :: V8.l qz70 (V8.l qz71 (V8.l qz72 (V8.l qz91 (V8.l qz900414 (V8.l qz900415 (V8.l qz900416 (V8.l qz900423 (.slice (some ad) m.hvs.length d :: .int .i64 (m.hvs.length : Int) :: .int .i64 (j : Int) :: .bool (decide ((j : Int) < (m.hvs.length : Int))) :: .pointer (some ((ad).add (j * 3))) :: .agg ([.int .u32 x.1, .int .u32 x.2.1, .int .u32 x.2.2] : List Value).toArray :: .slice A900451 ((h10 m j).length) c900452 :: .pointer (some ⟨g900440, 0, none⟩) :: .agg ([.int .u32 x.1, .int .u32 x.2.1] : List Value).toArray :: .slice (some ⟨g900448, 0, none⟩) 1 1 :: v900453 :: .pointer (some ⟨g900440, 2, none⟩) :: .int .u32 x.2.2 :: .int .u64 (uv (UInt64.ofNat x.2.2.toNat)) :: .slice (some ⟨g900458, 0, none⟩) 1 1 :: .tuple [].toArray :: u96 :: undef :: undef :: undef :: [])))))))))) rfl ?_
            refine wpList_nil ?_
            refine hK900435 _ _ ?_
            refine c_region (fun ops900464 hops900463 => ?_)
            clear hops900463
            refine p_run _ (x_arith (k := .i64) (m := (j : Int)) (n := 1) .add (((j + 1 : Nat) : Int)) rfl rfl rfl (show IntKind.i64.wrap ((j : Int) + 1) = ((j + 1 : Nat) : Int) from ((wr64' (by omega)).trans (by omega))) rfl) rfl ?_
            refine p_run _ (x_move (.int .i64 ((j + 1 : Nat) : Int)) rfl rfl) rfl ?_
            refine wpList_nil ?_
            refine fr_at (l' := (mgV m A c (some ad) d :: .pointer (some ⟨g5, 0, none⟩) :: .slice none 0 0 :: .int .i64 0 :: .pointer (some ⟨g19, 0, none⟩) :: undef :: u6 :: u7 :: undef :: .pointer (some ⟨g900440, 0, none⟩) :: mgV m A c (some ad) d :: .bool true :: .bool false :: .pointer (some ⟨g5, 0, none⟩) :: .int .i64 m.k :: .int .u64 (uv (UInt64.ofNat m.k.toNat)) :: V8.l qz70 (V8.l qz71 (V8.l qz72 (V8.l qz91 (V8.l qz900414 (V8.l qz900415 (V8.l qz900416 (V8.l qz900423 (.slice (some ad) m.hvs.length d :: .int .i64 (m.hvs.length : Int) :: .int .i64 ((j + 1 : Nat) : Int) :: .bool (decide ((j : Int) < (m.hvs.length : Int))) :: .pointer (some ((ad).add (j * 3))) :: .agg ([.int .u32 x.1, .int .u32 x.2.1, .int .u32 x.2.2] : List Value).toArray :: .slice A900451 ((h10 m j).length) c900452 :: .pointer (some ⟨g900440, 0, none⟩) :: .agg ([.int .u32 x.1, .int .u32 x.2.1] : List Value).toArray :: .slice (some ⟨g900448, 0, none⟩) 1 1 :: v900453 :: .pointer (some ⟨g900440, 2, none⟩) :: .int .u32 x.2.2 :: .int .u64 (uv (UInt64.ofNat x.2.2.toNat)) :: .slice (some ⟨g900458, 0, none⟩) 1 1 :: .tuple [].toArray :: .int .i64 ((j + 1 : Nat) : Int) :: undef :: undef :: undef :: [])))))))))) rfl ?_
            refine hJ900425 (j + 1, v900461) _ _ ?_ ?_
            · show m.hvs.length - (j + 1) < m.hvs.length - j; omega
            · exact ⟨_, _, _, _, _, _, _, _, _, _, _, _, _, _, _, rfl, (((((((HS.front 2 rfl).drop.front 2 rfl).drop.front 2 rfl).drop.front 2 rfl).drop.front 2 rfl).front 2 rfl).front 2 rfl), (by omega)⟩
          · have hlt : j = m.hvs.length := by have := of_decide_eq_false hc900433; omega
            subst hlt
            rw [h_end] at HS
            refine wp_exit ?_
            refine hK900418 _ _ ?_
            refine wp_seq_k (fun K900465 hK900466 => ?_)
            skip
            · skip
              obtain ⟨A900467, c900468, hv900469, hcp900470, -⟩ := row_reads (HS.get (.tail _ (.head _)))
              subst hv900469
              refine c_region (fun ops900472 hops900471 => ?_)
              clear hops900471
              refine p_run _ (x_load (.slice A900467 ((mgB m).length) c900468) rfl rfl (bkCell (HS.get (.head _)) 0 _ rfl) (by rfl)) rfl ?_
              refine St.wLit1 HS [.slice A900467 ((mgB m).length) c900468] 1 (.slice none 0 0) (.slice A900467 ((mgB m).length) c900468) Try.underlying88 (by kernel_rfl) (by decide) rfl rfl rfl ?_
              clear HS
              intro g900473 w900474 hg900475 HS
              refine w_call [.slice (some ⟨g900473, 0, none⟩) 1 1] Try.func21 (by kernel_rfl) (by rfl) rfl ?_
              refine (sealR_any HS _ 1 1 (sealB (mgB m)).length [(mgB m)] rfl (rds_one (HS.get (.head _)) (row_rd (HS.get (.tail _ (.tail _ (.head _))))).1 (row_rd (HS.get (.tail _ (.tail _ (.head _))))).2.1 (row_rd (HS.get (.tail _ (.tail _ (.head _))))).2.2) (by simp) (by rw [sealB_length, mgB_len hw]; omega)).mono ?_
              clear HS
              rintro e w900478 ⟨oa900476, nc900477, rfl, HS⟩
              refine ⟨_, rfl, ?_⟩
              refine p_run _ (x_assign (.slice oa900476 ((sealB (mgB m)).length) nc900477) rfl rfl) rfl ?_
              refine p_run _ (x_assign (.int .i64 0) rfl rfl) rfl ?_
              refine wpList_nil ?_
              obtain ⟨qz900479, hqz900479⟩ : ∃ q_ : V8, q_ = ⟨undef, u9, mgV m A c B d, .bool true, .bool false, .pointer (some ⟨g5, 0, none⟩), .int .i64 m.k, .int .u64 (uv (UInt64.ofNat m.k.toNat))⟩ := ⟨_, rfl⟩
              obtain ⟨qz900480, hqz900480⟩ : ∃ q_ : V8, q_ = ⟨.slice B m.hvs.length d, .int .i64 (m.hvs.length : Int), .int .i64 (m.hvs.length : Int), .bool (decide ((m.hvs.length : Int) < (m.hvs.length : Int))), u84, u85, u86, u87⟩ := ⟨_, rfl⟩
              obtain ⟨qz900481, hqz900481⟩ : ∃ q_ : V8, q_ = ⟨u88, u89, u90, u91, u92, u93, u94, u95⟩ := ⟨_, rfl⟩
              refine fr_at (l' := (mgV m A c B d :: .pointer (some ⟨g5, 0, none⟩) :: .slice oa900476 ((sealB (mgB m)).length) nc900477 :: .int .i64 0 :: .pointer (some ⟨g19, 0, none⟩) :: undef :: u6 :: u7 :: V8.l qz900479 (V8.l qz70 (V8.l qz71 (V8.l qz72 (V8.l qz91 (V8.l qz900414 (V8.l qz900415 (V8.l qz900416 (V8.l qz900423 (V8.l qz900480 (V8.l qz900481 (u96 :: .slice A900467 ((mgB m).length) c900468 :: .slice (some ⟨g900473, 0, none⟩) 1 1 :: .slice oa900476 ((sealB (mgB m)).length) nc900477 :: []))))))))))))) (by subst hqz900479 hqz900480 hqz900481; rfl) ?_
              refine hK900466 _ _ ?_
              refine wp_ret ?_
              try simp only [Exit.inBlock, Exit.then]
              refine c_ret (.tuple [.slice oa900476 ((sealB (mgB m)).length) nc900477, .int .i64 0].toArray) (r_tmp2 rfl rfl rfl) ?_
              have e1 : fbB m = sealB (mgB m) := if_pos hok
              have e2 : fbE m = 0 := if_pos hok
              rw [e1, e2]
              rw [show [mgB m].flatten = mgB m from by simp] at HS
              exact ⟨_, _, rfl, ((((HS.front 1 rfl).drop.front 1 rfl).drop.front 1 rfl).drop.front 1 rfl).drop⟩
end Go.Proofs.Ytmachdikonelbaa
