/- NetRuns. -/
import Derived.Test.YtckfcnclekjjdaaLn5
set_option linter.unusedVariables false
set_option linter.unusedSimpArgs false
namespace Go.Proofs.Ytckfcnclekjjdaa
open Go.RowKit Go.Proofs.YtckfcnclekjjdaaW.PrintWords Go.Proofs.YtckfcnclekjjdaaW.PrintLast Crc
abbrev u_ : Value := undef
structure V8 where
  a : Value
  b : Value
  c : Value
  d : Value
  e : Value
  f : Value
  g : Value
  h : Value
/-- Not too many, not too long. -/
def RI (fs : List Fr_) : Prop := fs.length ≤ 64 ∧ ∀ f ∈ fs, f.2.2.length ≤ 300
section
variable {fs : List Fr_} {tt : Int} {fv : Value} {xs : List UInt8} {q : Nat}
theorem ri_nil : RI [] := ⟨by simp, fun f hf => by cases hf⟩
theorem ri_send (h : RI fs) (tt : Int) (fv : Value) (hx : xs.length ≤ 300) : RI (sendF fs tt fv xs) := by
  unfold sendF
  split
  · rename_i hc
    refine ⟨by rw [List.length_append]; simp; omega, fun f hf => ?_⟩
    rcases List.mem_append.1 hf with hf | hf
    · exact h.2 f hf
    · rw [List.mem_singleton.1 hf]; exact hx
  · exact h
theorem ri_erase (h : RI fs) (q : Nat) : RI (fs.eraseIdx q) := ⟨Nat.le_trans (List.length_eraseIdx_le fs q) h.1, fun f hf => h.2 f (List.mem_of_mem_eraseIdx hf)⟩
theorem ri_set (h : RI fs) (q : Nat) (tt : Int) (fv : Value) (hx : xs.length ≤ 300) : RI (fs.set q (tt, fv, xs)) := ⟨by rw [List.length_set]; exact h.1, fun f hf => by
  rcases List.mem_or_eq_of_mem_set hf with hf | hf
  · exact h.2 f hf
  · rw [hf]; exact hx⟩
theorem nth_split (fs : List Fr_) (aa : Int) : (∃ q : Nat, aa = (q : Int) ∧ ∃ (tt : Int) (fv : Value) (xs : List UInt8), fs[q]? = some (tt, fv, xs)) ∨ nTh fs aa = false := by
  by_cases h : 0 ≤ aa ∧ aa < (fs.length : Int)
  · refine .inl ⟨aa.toNat, by omega, ?_⟩
    have hl : aa.toNat < fs.length := by omega
    exact ⟨fs[aa.toNat].1, fs[aa.toNat].2.1, fs[aa.toNat].2.2, List.getElem?_eq_getElem hl⟩
  · exact .inr (decide_eq_false h)
theorem rth_in (h : fs[q]? = some (tt, fv, xs)) : rTh (toN fs) (q : Int) = true := by
  have := th_in h
  unfold nTh at this
  unfold rTh
  rw [toN_length]
  exact this
theorem rth_no {aa : Int} (h : nTh fs aa = false) : rTh (toN fs) aa = false := by
  unfold nTh at h
  unfold rTh
  rw [toN_length]
  exact h
theorem wout_in (h : fs[q]? = some (tt, fv, xs)) : nWout (toN fs) (q : Int) = toN (fs.eraseIdx q) := by
  have := rth_in h
  unfold rTh at this
  unfold nWout
  rw [if_pos (of_decide_eq_true this), toN_erase, Int.toNat_natCast]
theorem wout_no {aa : Int} (h : nTh fs aa = false) : nWout (toN fs) aa = toN fs := by
  have := rth_no h
  unfold rTh at this
  unfold nWout
  rw [if_neg (of_decide_eq_false this)]
theorem kd_split (kd : Int) : kd = 0 ∨ kd = 1 ∨ kd = 2 ∨ kd = 3 ∨ kd = 4 ∨ kd < 0 ∨ 4 < kd := by omega
end
section
variable {w0 w : World} {F : Nat → Prop} {L : List Res} {P : Program} {ops : Array Oper} {Q : Exit → Act → World → Prop} {rest : List Oper} {l : List Value} {ty t g j n c : Nat} {pos : String} {after : Array Edge} {x y : Operand} {xs : List UInt8} {hE : kByte.E = []}
theorem row_cell (h : (row kByte hE 5 (.slice (some ⟨g, 0, none⟩) n c) xs).holds w) (hj : j < xs.length) : w.cell? ⟨g, j * 1, none⟩ = some (.int .u8 (bv (xs.getD j 0))) := by
  obtain ⟨g', c', hv, -, -, -, hc, -⟩ := Own.form (row_own h) (by omega)
  injection hv with h1 h2 h3
  injection h1 with h1
  injection h1 with h1
  subst h1
  have := hc j hj
  rw [Nat.mul_one, List.getD_eq_getElem?_getD, List.getElem?_eq_getElem hj]
  exact this
theorem St.rowSet (HS : St w0 F w (row kByte hE 5 (.slice (some ⟨g, 0, none⟩) n c) xs :: L)) (z : UInt8) (hx : evl l x = .pointer (some ⟨g, j * 1, none⟩)) (hy : evl l y = .int .u8 (bv z)) (hz : (P.info? t).map (·.size) = some 1) (hj : j < xs.length)
    (h : ∀ w', St w0 F w' (row kByte hE 5 (.slice (some ⟨g, 0, none⟩) n c) (xs.set j z) :: L) → wpList P ops Q rest (fr l) w') : wpList P ops Q (⟨none, .store t x y, ty, pos, after, none⟩ :: rest) (fr l) w := by
  rw [Nat.mul_one] at hx
  have hn : n = xs.length := (row_C HS.hs.head).1
  obtain ⟨g', c', hv, -, -, hlt, hc, hfz, hst⟩ := Own.form (row_own HS.hs.head) (by omega)
  injection hv with h1 h2 h3
  injection h1 with h1
  injection h1 with h1
  subst h1 h3 hn
  refine wpList_plain rfl (fun K hK => ?_)
  unfold Oper.wp
  have hcell := hc j hj
  have hfro := hfz j
  have hadd : (⟨g, j, none⟩ : Addr).add 0 = ⟨g, j, none⟩ := by unfold Addr.add; simp
  have hs : (storeVar t ⟨g, j, none⟩ (.int .u8 (bv z))).run P w = .ok () (w.setCell ⟨g, j, none⟩ (.int .u8 (bv z))) := by
    cases hq : P.info? t with
    | none => simp [hq] at hz
    | some i =>
      have hs' : i.size = 1 := by simpa [hq] using hz
      simp [storeVar, sizeOf, typeInfo, hq, hs', value_one (u := .int .u8 (bv z)) rfl, storeCells, hadd, run_store P w _ (.int .u8 (bv z)) _ rfl, hcell, hfro]
  have hr : (execOp (fr l).eval ⟨none, .store t x y, ty, pos, after, none⟩).run P w = .ok .skip (w.setCell ⟨g, j, none⟩ (.int .u8 (bv z))) := by
    rw [evl_fun]
    simp [execOp, hx, hy, Instr.storeAt, Instr.sureAddr, Sem.run_bind, hs]
  rw [hr, Oper.upon_skip]
  refine hK _ _ (h _ (HS.turn rfl rfl rfl ((Kept.refl w _).setCell (p := ⟨g, j, none⟩) (.inl ?_) _) (rowOf_ (base := 0) (ok := fun _ => True) (hst j z)) (fun b hb => .inl hb)))
  rfl
end

set_option maxRecDepth 10000 in
set_option maxHeartbeats 20000000 in
theorem runs_law (w : World) (A0 : Option Addr) (c0 : Nat) (l0 : List nAT) (hr0 : knA.C w A0 l0.length l0) : Calls Try.prog 12 #[.slice A0 l0.length c0] w fun e w' => e = .returned (.bool true) ∧ Below w.heap.size w w' := by
  have HS := St.empty w
  · skip
    by_cases h0 : (l0.length : Int) > 150
    · skip
      have h0d := decide_eq_true h0
      refine c_enter Try.func12 rfl 178 rfl [.slice A0 l0.length c0, u_, u_, u_, u_, u_, u_, u_, u_, u_, u_, u_, u_, u_, u_, u_, u_, u_, u_, u_, u_, u_, u_, u_, u_, u_, u_, u_, u_, u_, u_, u_, u_, u_, u_, u_, u_, u_, u_, u_, u_, u_, u_, u_, u_, u_, u_, u_, u_, u_, u_, u_, u_, u_, u_, u_, u_, u_, u_, u_, u_, u_, u_, u_, u_, u_, u_, u_, u_, u_, u_, u_, u_, u_, u_, u_, u_, u_, u_, u_, u_, u_, u_, u_, u_, u_, u_, u_, u_, u_, u_, u_, u_, u_, u_, u_, u_, u_, u_, u_, u_, u_, u_, u_, u_, u_, u_, u_, u_, u_, u_, u_, u_, u_, u_, u_, u_, u_, u_, u_, u_, u_, u_, u_, u_, u_, u_, u_, u_, u_, u_, u_, u_, u_, u_, u_, u_, u_, u_, u_, u_, u_, u_, u_, u_, u_, u_, u_, u_, u_, u_, u_, u_, u_, u_, u_, u_, u_, u_, u_, u_, u_, u_, u_, u_, u_, u_, u_, u_, u_, u_, u_, u_, u_, u_, u_, u_, u_] rfl ?_
      refine wp_seq_k (fun K1 hK2 => ?_)
      refine c_region (fun ops4 hops3 => ?_)
      clear hops3
      refine p_run (l' := _) _ (x_assign (.bool false) rfl rfl) rfl ?_
      refine wpList_nil ?_
      refine hK2 _ _ ?_
      refine wp_seq_k (fun K5 hK6 => ?_)
      refine wp_seq_k (fun K7 hK8 => ?_)
      refine c_region (fun ops10 hops9 => ?_)
      clear hops9
      refine w_call [] Try.func21 (by kernel_rfl) (by rfl) rfl ?_
      refine (nAlive_any HS).mono ?_
      clear HS
      rintro e w11 ⟨rfl, HS⟩
      refine ⟨_, rfl, ?_⟩
      refine p_run (l' := _) _ (x_not true rfl rfl) rfl ?_
      refine wpList_nil ?_
      refine hK8 _ _ ?_
      refine c_false rfl ?_
      refine wp_skip ?_
      refine hK6 _ _ ?_
      refine wp_seq_k (fun K12 hK13 => ?_)
      refine wp_seq_k (fun K14 hK15 => ?_)
      refine c_region (fun ops17 hops16 => ?_)
      clear hops16
      refine p_run (l' := _) _ (x_move (.slice A0 l0.length c0) rfl rfl) rfl ?_
      refine p_run (l' := _) _ (x_len rfl rfl Try.underlying51) rfl ?_
      refine p_run (l' := _) _ (x_cmp (k := .i64) (m := (l0.length : Int)) (n := 150) .gtr true rfl rfl rfl h0d rfl) rfl ?_
      refine wpList_nil ?_
      refine hK15 _ _ ?_
      refine c_true rfl ?_
      refine wp_seq_k (fun K18 hK19 => ?_)
      refine c_region (fun ops21 hops20 => ?_)
      clear hops20
      refine p_run (l' := _) _ (x_assign (.bool true) rfl rfl) rfl ?_
      refine wpList_nil ?_
      refine fr_at (l' := [.slice A0 l0.length c0, u_, .bool true, u_, u_, u_, u_, u_, u_, u_, u_, u_, u_, .bool true, .bool false, .slice A0 l0.length c0, .int .i64 (l0.length : Int), .bool true, u_, u_, u_, u_, u_, u_, u_, u_, u_, u_, u_, u_, u_, u_, u_, u_, u_, u_, u_, u_, u_, u_, u_, u_, u_, u_, u_, u_, u_, u_, u_, u_, u_, u_, u_, u_, u_, u_, u_, u_, u_, u_, u_, u_, u_, u_, u_, u_, u_, u_, u_, u_, u_, u_, u_, u_, u_, u_, u_, u_, u_, u_, u_, u_, u_, u_, u_, u_, u_, u_, u_, u_, u_, u_, u_, u_, u_, u_, u_, u_, u_, u_, u_, u_, u_, u_, u_, u_, u_, u_, u_, u_, u_, u_, u_, u_, u_, u_, u_, u_, u_, u_, u_, u_, u_, u_, u_, u_, u_, u_, u_, u_, u_, u_, u_, u_, u_, u_, u_, u_, u_, u_, u_, u_, u_, u_, u_, u_, u_, u_, u_, u_, u_, u_, u_, u_, u_, u_, u_, u_, u_, u_, u_, u_, u_, u_, u_, u_, u_, u_, u_, u_, u_, u_, u_, u_, u_, u_, u_, u_]) rfl ?_
      refine hK19 _ _ ?_
      refine wp_ret ?_
      try simp only [Exit.inBlock, Exit.then]
      refine c_ret (.bool true) (r_tmp rfl rfl) ?_
      exact ⟨rfl, HS.belowOf⟩
    · skip
      have h0d := decide_eq_false h0
      · skip
        refine c_enter Try.func12 rfl 178 rfl [.slice A0 l0.length c0, u_, u_, u_, u_, u_, u_, u_, u_, u_, u_, u_, u_, u_, u_, u_, u_, u_, u_, u_, u_, u_, u_, u_, u_, u_, u_, u_, u_, u_, u_, u_, u_, u_, u_, u_, u_, u_, u_, u_, u_, u_, u_, u_, u_, u_, u_, u_, u_, u_, u_, u_, u_, u_, u_, u_, u_, u_, u_, u_, u_, u_, u_, u_, u_, u_, u_, u_, u_, u_, u_, u_, u_, u_, u_, u_, u_, u_, u_, u_, u_, u_, u_, u_, u_, u_, u_, u_, u_, u_, u_, u_, u_, u_, u_, u_, u_, u_, u_, u_, u_, u_, u_, u_, u_, u_, u_, u_, u_, u_, u_, u_, u_, u_, u_, u_, u_, u_, u_, u_, u_, u_, u_, u_, u_, u_, u_, u_, u_, u_, u_, u_, u_, u_, u_, u_, u_, u_, u_, u_, u_, u_, u_, u_, u_, u_, u_, u_, u_, u_, u_, u_, u_, u_, u_, u_, u_, u_, u_, u_, u_, u_, u_, u_, u_, u_, u_, u_, u_, u_, u_, u_, u_, u_, u_, u_, u_, u_] rfl ?_
        refine wp_seq_k (fun K1 hK2 => ?_)
        refine c_region (fun ops4 hops3 => ?_)
        clear hops3
        refine p_run (l' := _) _ (x_assign (.bool false) rfl rfl) rfl ?_
        refine wpList_nil ?_
        refine hK2 _ _ ?_
        refine wp_seq_k (fun K5 hK6 => ?_)
        refine wp_seq_k (fun K7 hK8 => ?_)
        refine c_region (fun ops10 hops9 => ?_)
        clear hops9
        refine w_call [] Try.func21 (by kernel_rfl) (by rfl) rfl ?_
        refine (nAlive_any HS).mono ?_
        clear HS
        rintro e w11 ⟨rfl, HS⟩
        refine ⟨_, rfl, ?_⟩
        refine p_run (l' := _) _ (x_not true rfl rfl) rfl ?_
        refine wpList_nil ?_
        refine hK8 _ _ ?_
        refine c_false rfl ?_
        refine wp_skip ?_
        refine hK6 _ _ ?_
        refine wp_seq_k (fun K12 hK13 => ?_)
        refine wp_seq_k (fun K14 hK15 => ?_)
        refine c_region (fun ops17 hops16 => ?_)
        clear hops16
        refine p_run (l' := _) _ (x_move (.slice A0 l0.length c0) rfl rfl) rfl ?_
        refine p_run (l' := _) _ (x_len rfl rfl Try.underlying51) rfl ?_
        refine p_run (l' := _) _ (x_cmp (k := .i64) (m := (l0.length : Int)) (n := 150) .gtr false rfl rfl rfl h0d rfl) rfl ?_
        refine wpList_nil ?_
        refine hK15 _ _ ?_
        refine c_false rfl ?_
        refine wp_skip ?_
        refine hK13 _ _ ?_
        refine wp_seq_k (fun K18 hK19 => ?_)
        refine c_region (fun ops21 hops20 => ?_)
        clear hops20
        refine w_call [] Try.func22 (by kernel_rfl) (by rfl) rfl ?_
        refine (nNew_any HS).mono ?_
        clear HS
        rintro e w23 ⟨G22, rfl, HS⟩
        refine ⟨_, rfl, ?_⟩
        refine p_run (l' := [.slice A0 l0.length c0, u_, .bool false, .pointer (some ⟨G22, 0, none⟩), u_, u_, u_, u_, u_, u_, u_, u_, u_, .bool true, .bool false, .slice A0 l0.length c0, .int .i64 (l0.length : Int), .bool false, .pointer (some ⟨G22, 0, none⟩), u_, u_, u_, u_, u_, u_, u_, u_, u_, u_, u_, u_, u_, u_, u_, u_, u_, u_, u_, u_, u_, u_, u_, u_, u_, u_, u_, u_, u_, u_, u_, u_, u_, u_, u_, u_, u_, u_, u_, u_, u_, u_, u_, u_, u_, u_, u_, u_, u_, u_, u_, u_, u_, u_, u_, u_, u_, u_, u_, u_, u_, u_, u_, u_, u_, u_, u_, u_, u_, u_, u_, u_, u_, u_, u_, u_, u_, u_, u_, u_, u_, u_, u_, u_, u_, u_, u_, u_, u_, u_, u_, u_, u_, u_, u_, u_, u_, u_, u_, u_, u_, u_, u_, u_, u_, u_, u_, u_, u_, u_, u_, u_, u_, u_, u_, u_, u_, u_, u_, u_, u_, u_, u_, u_, u_, u_, u_, u_, u_, u_, u_, u_, u_, u_, u_, u_, u_, u_, u_, u_, u_, u_, u_, u_, u_, u_, u_, u_, u_, u_, u_, u_, u_, u_, u_, u_, u_, u_, u_]) _ (x_assign (.pointer (some ⟨G22, 0, none⟩)) rfl rfl) rfl ?_
        refine wpList_nil ?_
        refine hK19 _ _ ?_
        refine wp_seq_k (fun K24 hK25 => ?_)
        refine c_region (fun ops27 hops26 => ?_)
        clear hops26
        refine St.wLit0 HS kPk rfl 2 (.agg [.int .i64 0, .string ByteArray.empty].toArray) Try.underlying52 (by kernel_rfl) ?_
        clear HS
        intro v28 w29 HS
        refine p_run (l' := _) _ (x_assign (v28) rfl rfl) rfl ?_
        refine wpList_nil ?_
        refine hK25 _ _ ?_
        refine wp_seq_k (fun K30 hK31 => ?_)
        refine wp_seq_k (fun K32 hK33 => ?_)
        refine c_region (fun ops35 hops34 => ?_)
        clear hops34
        refine p_run (l' := _) _ (x_move (.slice A0 l0.length c0) rfl rfl) rfl ?_
        refine p_run (l' := _) _ (x_len rfl rfl Try.underlying51) rfl ?_
        refine p_run (l' := _) _ (x_move (.int .i64 0) rfl rfl) rfl ?_
        refine wpList_nil ?_
        refine fr_at (l' := [.slice A0 l0.length c0, u_, .bool false, .pointer (some ⟨G22, 0, none⟩), v28, u_, u_, u_, u_, u_, u_, u_, u_, .bool true, .bool false, .slice A0 l0.length c0, .int .i64 (l0.length : Int), .bool false, .pointer (some ⟨G22, 0, none⟩), v28, .slice A0 l0.length c0, .int .i64 (l0.length : Int), .int .i64 0, u_, u_, u_, u_, u_, u_, u_, u_, u_, u_, u_, u_, u_, u_, u_, u_, u_, u_, u_, u_, u_, u_, u_, u_, u_, u_, u_, u_, u_, u_, u_, u_, u_, u_, u_, u_, u_, u_, u_, u_, u_, u_, u_, u_, u_, u_, u_, u_, u_, u_, u_, u_, u_, u_, u_, u_, u_, u_, u_, u_, u_, u_, u_, u_, u_, u_, u_, u_, u_, u_, u_, u_, u_, u_, u_, u_, u_, u_, u_, u_, u_, u_, u_, u_, u_, u_, u_, u_, u_, u_, u_, u_, u_, u_, u_, u_, u_, u_, u_, u_, u_, u_, u_, u_, u_, u_, u_, u_, u_, u_, u_, u_, u_, u_, u_, u_, u_, u_, u_, u_, u_, u_, u_, u_, u_, u_, u_, u_, u_, u_, u_, u_, u_, u_, u_, u_, u_, u_, u_, u_, u_, u_, u_, u_, u_, u_, u_, u_, u_, u_, u_, u_, u_, u_, u_]) rfl ?_
        refine hK33 _ _ ?_
        refine wp_block ?_
        refine c_loop (ι := Nat × Value × Value × List Fr_) (fun i_ a_ w_ => match i_ with | (i, v, v2, fs) => ∃ (q36 : V8) (q37 : V8) (q38 : V8) (q39 : V8) (q40 : V8) (q41 : V8) (q42 : V8) (q43 : V8) (q44 : V8) (q45 : V8) (q46 : V8) (q47 : V8) (q48 : V8) (q49 : V8) (q50 : V8) (q51 : V8) (q52 : V8) (q53 : V8) (q54 : V8) (q55 : V8) (q56 : V8), a_ = fr [.slice A0 l0.length c0, u_, q36.a, .pointer (some ⟨G22, 0, none⟩), v2, u_, q36.b, q36.c, q36.d, q36.e, q36.f, q36.g, q36.h, .bool true, .bool false, .slice A0 l0.length c0, .int .i64 (l0.length : Int), .bool false, .pointer (some ⟨G22, 0, none⟩), v28, .slice A0 l0.length c0, .int .i64 (l0.length : Int), .int .i64 (i : Int), q37.a, q37.b, q37.c, q37.d, q37.e, q37.f, q37.g, q37.h, q38.a, q38.b, q38.c, q38.d, q38.e, q38.f, q38.g, q38.h, q39.a, q39.b, q39.c, q39.d, q39.e, q39.f, q39.g, q39.h, q40.a, q40.b, q40.c, q40.d, q40.e, q40.f, q40.g, q40.h, q41.a, q41.b, q41.c, q41.d, q41.e, q41.f, q41.g, q41.h, q42.a, q42.b, q42.c, q42.d, q42.e, q42.f, q42.g, q42.h, q43.a, q43.b, q43.c, q43.d, q43.e, q43.f, q43.g, q43.h, q44.a, q44.b, q44.c, q44.d, q44.e, q44.f, q44.g, q44.h, q45.a, q45.b, q45.c, q45.d, q45.e, q45.f, q45.g, q45.h, q46.a, q46.b, q46.c, q46.d, q46.e, q46.f, q46.g, q46.h, q47.a, q47.b, q47.c, q47.d, q47.e, q47.f, q47.g, q47.h, q48.a, q48.b, q48.c, q48.d, q48.e, q48.f, q48.g, q48.h, q49.a, q49.b, q49.c, q49.d, q49.e, q49.f, q49.g, q49.h, q50.a, q50.b, q50.c, q50.d, q50.e, q50.f, q50.g, q50.h, q51.a, q51.b, q51.c, q51.d, q51.e, q51.f, q51.g, q51.h, q52.a, q52.b, q52.c, q52.d, q52.e, q52.f, q52.g, q52.h, q53.a, q53.b, q53.c, q53.d, q53.e, q53.f, q53.g, q53.h, q54.a, q54.b, q54.c, q54.d, q54.e, q54.f, q54.g, q54.h, q55.a, q55.b, q55.c, q55.d, q55.e, q55.f, q55.g, q55.h, q56.a, q56.b, q56.c] ∧ St w (fun _ => False) w_ ([blk G22 [v] 72, row kPk rfl 75 v (pk fs), allR (frs fs), row kPk rfl 58 v2 (rp (toN fs))]) ∧ (RI fs ∧ i ≤ l0.length)) (fun i_ => match i_ with | (i, v, v2, fs) => l0.length - i) (0, .slice none 0 0, v28, []) ?_ ?_
        · exact ⟨⟨.bool false, u_, u_, u_, u_, u_, u_, u_⟩, ⟨u_, u_, u_, u_, u_, u_, u_, u_⟩, ⟨u_, u_, u_, u_, u_, u_, u_, u_⟩, ⟨u_, u_, u_, u_, u_, u_, u_, u_⟩, ⟨u_, u_, u_, u_, u_, u_, u_, u_⟩, ⟨u_, u_, u_, u_, u_, u_, u_, u_⟩, ⟨u_, u_, u_, u_, u_, u_, u_, u_⟩, ⟨u_, u_, u_, u_, u_, u_, u_, u_⟩, ⟨u_, u_, u_, u_, u_, u_, u_, u_⟩, ⟨u_, u_, u_, u_, u_, u_, u_, u_⟩, ⟨u_, u_, u_, u_, u_, u_, u_, u_⟩, ⟨u_, u_, u_, u_, u_, u_, u_, u_⟩, ⟨u_, u_, u_, u_, u_, u_, u_, u_⟩, ⟨u_, u_, u_, u_, u_, u_, u_, u_⟩, ⟨u_, u_, u_, u_, u_, u_, u_, u_⟩, ⟨u_, u_, u_, u_, u_, u_, u_, u_⟩, ⟨u_, u_, u_, u_, u_, u_, u_, u_⟩, ⟨u_, u_, u_, u_, u_, u_, u_, u_⟩, ⟨u_, u_, u_, u_, u_, u_, u_, u_⟩, ⟨u_, u_, u_, u_, u_, u_, u_, u_⟩, ⟨u_, u_, u_, u_, u_, u_, u_, u_⟩, rfl, (((HS.front 3 rfl).front 3 rfl).front 3 rfl), ⟨ri_nil, Nat.zero_le _⟩⟩
        · clear HS
          rintro ⟨i, v, v2, fs⟩ a_ w59 ⟨q36, q37, q38, q39, q40, q41, q42, q43, q44, q45, q46, q47, q48, q49, q50, q51, q52, q53, q54, q55, q56, rfl, HS, hI⟩ J57 hJ58
          obtain ⟨hR, hil⟩ := hI
          refine wp_seq_k (fun K60 hK61 => ?_)
          refine c_region (fun ops63 hops62 => ?_)
          clear hops62
          refine p_run (l' := _) _ (x_cmp (k := .i64) (m := (i : Int)) (n := (l0.length : Int)) .lss (decide ((i : Int) < (l0.length : Int))) rfl rfl rfl rfl rfl) rfl ?_
          refine wpList_nil ?_
          refine hK61 _ _ ?_
          refine wp_seq_k (fun K64 hK65 => ?_)
          refine c_cond (t := decide ((i : Int) < (l0.length : Int))) rfl (fun hc66 => ?_) (fun hc66 => ?_)
          · have hlt : i < l0.length := by have := of_decide_eq_true hc66; omega
            obtain ⟨ad, ⟨kd, aa, bi, mk, kp⟩, A4, c4, rfl, hy, hl4, hC4, hcell0⟩ := nA_get hr0 i hlt
            have hcell := fun (j : Nat) (u : Value) (h : ([.int .i64 kd, .int .i64 aa, .int .i64 bi, .int .u8 (bv mk), .slice A4 kp.length c4] : List Value)[j]? = some u) => cell_below HS.belowOf (hcell0 j u h)
            obtain ⟨Ar, cr, hv2, hcr, -⟩ := row_reads (HS.get (.tail _ (.tail _ (.tail _ (.head _)))))
            rw [rp_length] at hv2 hcr
            subst hv2
            refine wp_skip ?_
            refine hK65 _ _ ?_
            refine wp_seq_k (fun K67 hK68 => ?_)
            refine wp_block ?_
            refine wp_seq_k (fun K69 hK70 => ?_)
            refine c_region (fun ops72 hops71 => ?_)
            clear hops71
            refine p_run (l' := _) _ (x_index (A := ad) (j := i * 5) (sz := 5) rfl rfl rfl Try.underlying51 (by kernel_rfl) (by omega) rfl) rfl ?_
            refine p_run (l' := _) _ (x_loads [.int .i64 kd, .int .i64 aa, .int .i64 bi, .int .u8 (bv mk), .slice A4 kp.length c4] 5 rfl rfl hcell (by rfl) (by kernel_rfl) rfl) rfl ?_
            refine St.wAlloc HS (cs := [.int .i64 0, .int .i64 0, .int .i64 0, .int .u8 0, .slice none 0 0]) (.agg [.int .i64 0, .int .i64 0, .int .i64 0, .int .u8 0, .slice none 0 0].toArray) (by kernel_rfl) rfl ?_
            clear HS
            intro g73 w74 hg75 HS
            refine St.stores (cs' := [.int .i64 kd, .int .i64 aa, .int .i64 bi, .int .u8 (bv mk), .slice A4 kp.length c4]) HS [.int .i64 kd, .int .i64 aa, .int .i64 bi, .int .u8 (bv mk), .slice A4 kp.length c4] 5 rfl rfl (by rfl) (by kernel_rfl) rfl (by simp) rfl ?_
            clear HS
            intro w76 HS
            refine wpList_nil ?_
            refine hK70 _ _ ?_
            refine wp_seq_k (fun K77 hK78 => ?_)
            refine wp_seq_k (fun K79 hK80 => ?_)
            refine c_region (fun ops82 hops81 => ?_)
            clear hops81
            refine p_run (l' := _) _ (x_field (j := 4) _ _ rfl rfl Try.underlying54 rfl (by rfl) rfl) rfl ?_
            refine p_run (l' := _) _ (x_load (.slice A4 kp.length c4) rfl rfl (bkCell (HS.get (.head _)) 4 _ rfl) (by rfl)) rfl ?_
            refine p_run (l' := _) _ (x_len rfl rfl Try.underlying24) rfl ?_
            refine p_run (l' := [.slice (some ad) l0.length c0, u_, q36.a, .pointer (some ⟨G22, 0, none⟩), .slice Ar ((toN fs).length) cr, u_, .pointer (some ⟨g73, 0, none⟩), q36.c, q36.d, q36.e, q36.f, q36.g, q36.h, .bool true, .bool false, .slice (some ad) l0.length c0, .int .i64 (l0.length : Int), .bool false, .pointer (some ⟨G22, 0, none⟩), v28, .slice (some ad) l0.length c0, .int .i64 (l0.length : Int), .int .i64 (i : Int), .bool (decide ((i : Int) < (l0.length : Int))), .pointer (some ((ad).add (i * 5))), .agg ([.int .i64 kd, .int .i64 aa, .int .i64 bi, .int .u8 (bv mk), .slice A4 kp.length c4] : List Value).toArray, .pointer (some ⟨g73, 4, none⟩), .slice A4 kp.length c4, .int .i64 (kp.length : Int), .bool (decide ((kp.length : Int) > 300)), q37.h, q38.a, q38.b, q38.c, q38.d, q38.e, q38.f, q38.g, q38.h, q39.a, q39.b, q39.c, q39.d, q39.e, q39.f, q39.g, q39.h, q40.a, q40.b, q40.c, q40.d, q40.e, q40.f, q40.g, q40.h, q41.a, q41.b, q41.c, q41.d, q41.e, q41.f, q41.g, q41.h, q42.a, q42.b, q42.c, q42.d, q42.e, q42.f, q42.g, q42.h, q43.a, q43.b, q43.c, q43.d, q43.e, q43.f, q43.g, q43.h, q44.a, q44.b, q44.c, q44.d, q44.e, q44.f, q44.g, q44.h, q45.a, q45.b, q45.c, q45.d, q45.e, q45.f, q45.g, q45.h, q46.a, q46.b, q46.c, q46.d, q46.e, q46.f, q46.g, q46.h, q47.a, q47.b, q47.c, q47.d, q47.e, q47.f, q47.g, q47.h, q48.a, q48.b, q48.c, q48.d, q48.e, q48.f, q48.g, q48.h, q49.a, q49.b, q49.c, q49.d, q49.e, q49.f, q49.g, q49.h, q50.a, q50.b, q50.c, q50.d, q50.e, q50.f, q50.g, q50.h, q51.a, q51.b, q51.c, q51.d, q51.e, q51.f, q51.g, q51.h, q52.a, q52.b, q52.c, q52.d, q52.e, q52.f, q52.g, q52.h, q53.a, q53.b, q53.c, q53.d, q53.e, q53.f, q53.g, q53.h, q54.a, q54.b, q54.c, q54.d, q54.e, q54.f, q54.g, q54.h, q55.a, q55.b, q55.c, q55.d, q55.e, q55.f, q55.g, q55.h, q56.a, q56.b, q56.c]) _ (x_cmp (k := .i64) (m := (kp.length : Int)) (n := 300) .gtr (decide ((kp.length : Int) > 300)) rfl rfl rfl rfl rfl) rfl ?_
            refine wpList_nil ?_
            refine hK80 _ _ ?_
            refine c_cond (t := decide ((kp.length : Int) > 300)) rfl (fun hc83 => ?_) (fun hc83 => ?_)
            · have hk3 :  kp.length > 300 := by have := of_decide_eq_true hc83; omega
              refine wp_seq_k (fun K84 hK85 => ?_)
              refine c_region (fun ops87 hops86 => ?_)
              clear hops86
              refine p_run (l' := _) _ (x_assign (.bool true) rfl rfl) rfl ?_
              refine wpList_nil ?_
              refine hK85 _ _ ?_
              refine wp_ret ?_
              try simp only [Exit.inBlock, Exit.then]
              refine c_ret (.bool true) (r_tmp rfl rfl) ?_
              exact ⟨rfl, HS.belowOf⟩
            · have hk3 : ¬ kp.length > 300 := by have := of_decide_eq_false hc83; omega
              refine wp_skip ?_
              refine hK78 _ _ ?_
              refine wp_seq_k (fun K88 hK89 => ?_)
              refine c_region (fun ops91 hops90 => ?_)
              clear hops90
              refine p_run (l' := _) _ (x_assign (.int .i64 0) rfl rfl) rfl ?_
              refine wpList_nil ?_
              refine hK89 _ _ ?_
              refine wp_seq_k (fun K92 hK93 => ?_)
              refine c_region (fun ops95 hops94 => ?_)
              clear hops94
              refine p_run (l' := _) _ (x_move (.slice Ar ((toN fs).length) cr) rfl rfl) rfl ?_
              refine p_run (l' := _) _ (x_field (j := 1) _ _ rfl rfl Try.underlying54 rfl (by rfl) rfl) rfl ?_
              refine p_run (l' := _) _ (x_load (.int .i64 aa) rfl rfl (bkCell (HS.get (.head _)) 1 _ rfl) (by rfl)) rfl ?_
              refine w_call [.slice Ar ((toN fs).length) cr, .int .i64 aa] Try.func31 (by kernel_rfl) (by rfl) rfl ?_
              replace HS := (HS.front 4 rfl)
              refine (rThere_any HS _).mono ?_
              rintro e w' ⟨rfl, rfl⟩
              refine ⟨_, rfl, ?_⟩
              refine p_run (l' := _) _ (x_assign (.bool (rTh (toN fs) aa)) rfl rfl) rfl ?_
              refine wpList_nil ?_
              refine fr_at (l' := [.slice (some ad) l0.length c0, u_, q36.a, .pointer (some ⟨G22, 0, none⟩), .slice Ar ((toN fs).length) cr, u_, .pointer (some ⟨g73, 0, none⟩), .int .i64 0, .bool (rTh (toN fs) aa), q36.e, q36.f, q36.g, q36.h, .bool true, .bool false, .slice (some ad) l0.length c0, .int .i64 (l0.length : Int), .bool false, .pointer (some ⟨G22, 0, none⟩), v28, .slice (some ad) l0.length c0, .int .i64 (l0.length : Int), .int .i64 (i : Int), .bool (decide ((i : Int) < (l0.length : Int))), .pointer (some ((ad).add (i * 5))), .agg ([.int .i64 kd, .int .i64 aa, .int .i64 bi, .int .u8 (bv mk), .slice A4 kp.length c4] : List Value).toArray, .pointer (some ⟨g73, 4, none⟩), .slice A4 kp.length c4, .int .i64 (kp.length : Int), .bool (decide ((kp.length : Int) > 300)), .slice Ar ((toN fs).length) cr, .pointer (some ⟨g73, 1, none⟩), .int .i64 aa, .bool (rTh (toN fs) aa), q38.d, q38.e, q38.f, q38.g, q38.h, q39.a, q39.b, q39.c, q39.d, q39.e, q39.f, q39.g, q39.h, q40.a, q40.b, q40.c, q40.d, q40.e, q40.f, q40.g, q40.h, q41.a, q41.b, q41.c, q41.d, q41.e, q41.f, q41.g, q41.h, q42.a, q42.b, q42.c, q42.d, q42.e, q42.f, q42.g, q42.h, q43.a, q43.b, q43.c, q43.d, q43.e, q43.f, q43.g, q43.h, q44.a, q44.b, q44.c, q44.d, q44.e, q44.f, q44.g, q44.h, q45.a, q45.b, q45.c, q45.d, q45.e, q45.f, q45.g, q45.h, q46.a, q46.b, q46.c, q46.d, q46.e, q46.f, q46.g, q46.h, q47.a, q47.b, q47.c, q47.d, q47.e, q47.f, q47.g, q47.h, q48.a, q48.b, q48.c, q48.d, q48.e, q48.f, q48.g, q48.h, q49.a, q49.b, q49.c, q49.d, q49.e, q49.f, q49.g, q49.h, q50.a, q50.b, q50.c, q50.d, q50.e, q50.f, q50.g, q50.h, q51.a, q51.b, q51.c, q51.d, q51.e, q51.f, q51.g, q51.h, q52.a, q52.b, q52.c, q52.d, q52.e, q52.f, q52.g, q52.h, q53.a, q53.b, q53.c, q53.d, q53.e, q53.f, q53.g, q53.h, q54.a, q54.b, q54.c, q54.d, q54.e, q54.f, q54.g, q54.h, q55.a, q55.b, q55.c, q55.d, q55.e, q55.f, q55.g, q55.h, q56.a, q56.b, q56.c]) rfl ?_
              refine hK93 _ _ ?_
              refine wp_seq_k (fun K96 hK97 => ?_)
              have hT98 : ∀ (v' : Value) (fs' : List Fr_) (v2' : Value) (th : Bool) (e_ : Int) (q99 : V8) (q100 : V8) (q101 : V8) (q102 : V8) (q103 : V8) (q104 : V8) (q105 : V8) (q106 : V8) (q107 : V8) (q108 : V8) (q109 : V8) (q110 : V8) (q111 : V8) (q112 : V8) (q113 : V8) (w114 : World), St w (fun _ => False) w114 ([blk G22 [v'] 72, row kPk rfl 75 v' (pk fs'), allR (frs fs'), row kPk rfl 58 v2' (rp (toN fs')), blk g73 [.int .i64 kd, .int .i64 aa, .int .i64 bi, .int .u8 (bv mk), .slice A4 kp.length c4] 54]) → (RI fs' ∧ ((kd < 1 ∧ e_ = 0) ∨ (3 < kd ∧ e_ = 0) ∨ ((1 ≤ kd ∧ kd ≤ 3) ∧ th = true ∧ e_ = 0) ∨ ((1 ≤ kd ∧ kd ≤ 3) ∧ th = false ∧ e_ = 191))) → K96 (fr [.slice (some ad) l0.length c0, u_, q99.a, .pointer (some ⟨G22, 0, none⟩), v2', u_, .pointer (some ⟨g73, 0, none⟩), .int .i64 e_, .bool th, q99.b, q99.c, q99.d, q99.e, .bool true, .bool false, .slice (some ad) l0.length c0, .int .i64 (l0.length : Int), .bool false, .pointer (some ⟨G22, 0, none⟩), v28, .slice (some ad) l0.length c0, .int .i64 (l0.length : Int), .int .i64 (i : Int), .bool (decide ((i : Int) < (l0.length : Int))), .pointer (some ((ad).add (i * 5))), .agg ([.int .i64 kd, .int .i64 aa, .int .i64 bi, .int .u8 (bv mk), .slice A4 kp.length c4] : List Value).toArray, .pointer (some ⟨g73, 4, none⟩), .slice A4 kp.length c4, .int .i64 (kp.length : Int), .bool (decide ((kp.length : Int) > 300)), .slice Ar ((toN fs).length) cr, .pointer (some ⟨g73, 1, none⟩), .int .i64 aa, .bool th, q99.f, q99.g, q99.h, q100.a, q100.b, q100.c, q100.d, q100.e, q100.f, q100.g, q100.h, q101.a, q101.b, q101.c, q101.d, q101.e, q101.f, q101.g, q101.h, q102.a, q102.b, q102.c, q102.d, q102.e, q102.f, q102.g, q102.h, q103.a, q103.b, q103.c, q103.d, q103.e, q103.f, q103.g, q103.h, q104.a, q104.b, q104.c, q104.d, q104.e, q104.f, q104.g, q104.h, q105.a, q105.b, q105.c, q105.d, q105.e, q105.f, q105.g, q105.h, q106.a, q106.b, q106.c, q106.d, q106.e, q106.f, q106.g, q106.h, q107.a, q107.b, q107.c, q107.d, q107.e, q107.f, q107.g, q107.h, q108.a, q108.b, q108.c, q108.d, q108.e, q108.f, q108.g, q108.h, q109.a, q109.b, q109.c, q109.d, q109.e, q109.f, q109.g, q109.h, q110.a, q110.b, q110.c, q110.d, q110.e, q110.f, q110.g, q110.h, q111.a, q111.b, q111.c, q111.d, q111.e, q111.f, q111.g, q111.h, q112.a, q112.b, q112.c, q112.d, q112.e, q112.f, q112.g, q112.h, q113.a, q113.b, q113.c, q113.d, q113.e, q113.f, q113.g, q52.f, q52.g, q52.h, q53.a, q53.b, q53.c, q53.d, q53.e, q53.f, q53.g, q53.h, q54.a, q54.b, q54.c, q54.d, q54.e, q54.f, q54.g, q54.h, q55.a, q55.b, q55.c, q55.d, q55.e, q55.f, q55.g, q55.h, q56.a, q56.b, q56.c]) w114 := by
                clear HS
                intro v' fs' v2' th e_ q99 q100 q101 q102 q103 q104 q105 q106 q107 q108 q109 q110 q111 q112 q113 w114 HS hJ
                refine hK97 _ _ ?_
                obtain ⟨hR2, hcase⟩ := hJ
                refine wp_seq_k (fun K115 hK116 => ?_)
                rcases hcase with ⟨hk, rfl⟩ | ⟨hk, rfl⟩ | ⟨hk, rfl, rfl⟩ | ⟨hk, rfl, rfl⟩
                · skip
                  refine c_region (fun ops118 hops117 => ?_)
                  refine p_run (l' := _) _ (x_field (j := 0) _ _ rfl rfl Try.underlying54 rfl (by rfl) rfl) rfl ?_
                  refine p_run (l' := _) _ (x_load (.int .i64 kd) rfl rfl (bkCell (HS.get (.tail _ (.tail _ (.tail _ (.tail _ (.head _)))))) 0 _ rfl) (by rfl)) rfl ?_
                  refine p_run (l' := _) _ (x_cmp (k := .i64) (m := kd) (n := 1) .geq false rfl rfl rfl (decide_eq_false (by omega)) rfl) rfl ?_
                  refine p_run (l' := _) _ (x_move (.bool false) rfl rfl) rfl ?_
                  refine p_off (l' := _) (by rw [hops117]; rfl) rfl ?_
                  refine p_off (l' := _) (by rw [hops117]; rfl) rfl ?_
                  refine p_off (l' := _) (by rw [hops117]; rfl) rfl ?_
                  refine p_run (l' := [.slice (some ad) l0.length c0, u_, q99.a, .pointer (some ⟨G22, 0, none⟩), v2', u_, .pointer (some ⟨g73, 0, none⟩), .int .i64 0, .bool th, q99.b, q99.c, q99.d, q99.e, .bool true, .bool false, .slice (some ad) l0.length c0, .int .i64 (l0.length : Int), .bool false, .pointer (some ⟨G22, 0, none⟩), v28, .slice (some ad) l0.length c0, .int .i64 (l0.length : Int), .int .i64 (i : Int), .bool (decide ((i : Int) < (l0.length : Int))), .pointer (some ((ad).add (i * 5))), .agg ([.int .i64 kd, .int .i64 aa, .int .i64 bi, .int .u8 (bv mk), .slice A4 kp.length c4] : List Value).toArray, .pointer (some ⟨g73, 4, none⟩), .slice A4 kp.length c4, .int .i64 (kp.length : Int), .bool (decide ((kp.length : Int) > 300)), .slice Ar ((toN fs).length) cr, .pointer (some ⟨g73, 1, none⟩), .int .i64 aa, .bool th, q99.f, q99.g, q99.h, q100.a, q100.b, q100.c, q100.d, q100.e, q100.f, q100.g, q100.h, q101.a, q101.b, q101.c, q101.d, q101.e, q101.f, q101.g, q101.h, q102.a, q102.b, q102.c, q102.d, q102.e, q102.f, q102.g, q102.h, q103.a, q103.b, q103.c, q103.d, q103.e, q103.f, q103.g, q103.h, q104.a, q104.b, q104.c, q104.d, q104.e, q104.f, q104.g, q104.h, q105.a, q105.b, q105.c, q105.d, q105.e, q105.f, q105.g, q105.h, q106.a, q106.b, q106.c, q106.d, q106.e, q106.f, q106.g, q106.h, q107.a, q107.b, q107.c, q107.d, q107.e, q107.f, q107.g, q107.h, q108.a, q108.b, q108.c, q108.d, q108.e, q108.f, q108.g, q108.h, q109.a, q109.b, q109.c, q109.d, q109.e, q109.f, q109.g, q109.h, q110.a, q110.b, q110.c, q110.d, q110.e, q110.f, q110.g, q110.h, q111.a, q111.b, q111.c, q111.d, q111.e, q111.f, q111.g, q111.h, q112.a, q112.b, q112.c, q112.d, q112.e, q112.f, q112.g, q112.h, q113.a, q113.b, q113.c, q113.d, q113.e, q113.f, q113.g, .pointer (some ⟨g73, 0, none⟩), .int .i64 kd, .bool false, .bool false, u_, u_, u_, .bool false, q53.f, q53.g, q53.h, q54.a, q54.b, q54.c, q54.d, q54.e, q54.f, q54.g, q54.h, q55.a, q55.b, q55.c, q55.d, q55.e, q55.f, q55.g, q55.h, q56.a, q56.b, q56.c]) _ (x_pick false (u_) (.bool false) (.bool false) rfl rfl rfl rfl rfl) rfl ?_
                  refine p_run (l' := _) _ (x_move (.bool false) rfl rfl) rfl ?_
                  refine p_off (l' := _) (by rw [hops117]; rfl) rfl ?_
                  refine p_off (l' := _) (by rw [hops117]; rfl) rfl ?_
                  refine p_run (l' := _) _ (x_pick false (u_) (.bool false) (.bool false) rfl rfl rfl rfl rfl) rfl ?_
                  refine p_run (l' := _) _ (x_move (.int .i64 0) rfl rfl) rfl ?_
                  refine p_run (l' := _) _ (x_cmp (k := .i64) (m := 0) (n := 0) .neq false rfl rfl rfl (by decide) rfl) rfl ?_
                  refine p_run (l' := _) _ (x_boolcmp .neq false false false rfl rfl rfl Try.underlying4 rfl rfl) rfl ?_
                  refine p_run (l' := [.slice (some ad) l0.length c0, u_, q99.a, .pointer (some ⟨G22, 0, none⟩), v2', u_, .pointer (some ⟨g73, 0, none⟩), .int .i64 0, .bool th, q99.b, q99.c, q99.d, q99.e, .bool true, .bool false, .slice (some ad) l0.length c0, .int .i64 (l0.length : Int), .bool false, .pointer (some ⟨G22, 0, none⟩), v28, .slice (some ad) l0.length c0, .int .i64 (l0.length : Int), .int .i64 (i : Int), .bool (decide ((i : Int) < (l0.length : Int))), .pointer (some ((ad).add (i * 5))), .agg ([.int .i64 kd, .int .i64 aa, .int .i64 bi, .int .u8 (bv mk), .slice A4 kp.length c4] : List Value).toArray, .pointer (some ⟨g73, 4, none⟩), .slice A4 kp.length c4, .int .i64 (kp.length : Int), .bool (decide ((kp.length : Int) > 300)), .slice Ar ((toN fs).length) cr, .pointer (some ⟨g73, 1, none⟩), .int .i64 aa, .bool th, q99.f, q99.g, q99.h, q100.a, q100.b, q100.c, q100.d, q100.e, q100.f, q100.g, q100.h, q101.a, q101.b, q101.c, q101.d, q101.e, q101.f, q101.g, q101.h, q102.a, q102.b, q102.c, q102.d, q102.e, q102.f, q102.g, q102.h, q103.a, q103.b, q103.c, q103.d, q103.e, q103.f, q103.g, q103.h, q104.a, q104.b, q104.c, q104.d, q104.e, q104.f, q104.g, q104.h, q105.a, q105.b, q105.c, q105.d, q105.e, q105.f, q105.g, q105.h, q106.a, q106.b, q106.c, q106.d, q106.e, q106.f, q106.g, q106.h, q107.a, q107.b, q107.c, q107.d, q107.e, q107.f, q107.g, q107.h, q108.a, q108.b, q108.c, q108.d, q108.e, q108.f, q108.g, q108.h, q109.a, q109.b, q109.c, q109.d, q109.e, q109.f, q109.g, q109.h, q110.a, q110.b, q110.c, q110.d, q110.e, q110.f, q110.g, q110.h, q111.a, q111.b, q111.c, q111.d, q111.e, q111.f, q111.g, q111.h, q112.a, q112.b, q112.c, q112.d, q112.e, q112.f, q112.g, q112.h, q113.a, q113.b, q113.c, q113.d, q113.e, q113.f, q113.g, .pointer (some ⟨g73, 0, none⟩), .int .i64 kd, .bool false, .bool false, u_, u_, u_, .bool false, .bool false, u_, u_, .bool false, .int .i64 0, .bool false, .bool false, .bool false, q54.f, q54.g, q54.h, q55.a, q55.b, q55.c, q55.d, q55.e, q55.f, q55.g, q55.h, q56.a, q56.b, q56.c]) _ (x_move (.bool false) rfl rfl) rfl ?_
                  refine p_on rfl (by rw [hops117]; rfl) ?_
                  refine p_run (l' := _) _ (x_move (.int .i64 0) rfl rfl) rfl ?_
                  refine p_on rfl (by rw [hops117]; rfl) ?_
                  refine p_run (l' := _) _ (x_cmp (k := .i64) (m := 0) (n := 0) .neq false rfl rfl rfl (by decide) rfl) rfl ?_
                  refine p_on rfl (by rw [hops117]; rfl) ?_
                  refine p_run (l' := _) _ (x_move (.bool false) rfl rfl) rfl ?_
                  refine p_off (l' := _) (by rw [hops117]; rfl) rfl ?_
                  refine p_off (l' := _) (by rw [hops117]; rfl) rfl ?_
                  refine p_on rfl (by rw [hops117]; rfl) ?_
                  refine p_run (l' := _) _ (x_pick false (u_) (.bool false) (.bool false) rfl rfl rfl rfl rfl) rfl ?_
                  refine p_run (l' := _) _ (x_pick false (.bool true) (.bool false) (.bool false) rfl rfl rfl rfl rfl) rfl ?_
                  refine p_run (l' := [.slice (some ad) l0.length c0, u_, q99.a, .pointer (some ⟨G22, 0, none⟩), v2', u_, .pointer (some ⟨g73, 0, none⟩), .int .i64 0, .bool th, q99.b, q99.c, q99.d, q99.e, .bool true, .bool false, .slice (some ad) l0.length c0, .int .i64 (l0.length : Int), .bool false, .pointer (some ⟨G22, 0, none⟩), v28, .slice (some ad) l0.length c0, .int .i64 (l0.length : Int), .int .i64 (i : Int), .bool (decide ((i : Int) < (l0.length : Int))), .pointer (some ((ad).add (i * 5))), .agg ([.int .i64 kd, .int .i64 aa, .int .i64 bi, .int .u8 (bv mk), .slice A4 kp.length c4] : List Value).toArray, .pointer (some ⟨g73, 4, none⟩), .slice A4 kp.length c4, .int .i64 (kp.length : Int), .bool (decide ((kp.length : Int) > 300)), .slice Ar ((toN fs).length) cr, .pointer (some ⟨g73, 1, none⟩), .int .i64 aa, .bool th, q99.f, q99.g, q99.h, q100.a, q100.b, q100.c, q100.d, q100.e, q100.f, q100.g, q100.h, q101.a, q101.b, q101.c, q101.d, q101.e, q101.f, q101.g, q101.h, q102.a, q102.b, q102.c, q102.d, q102.e, q102.f, q102.g, q102.h, q103.a, q103.b, q103.c, q103.d, q103.e, q103.f, q103.g, q103.h, q104.a, q104.b, q104.c, q104.d, q104.e, q104.f, q104.g, q104.h, q105.a, q105.b, q105.c, q105.d, q105.e, q105.f, q105.g, q105.h, q106.a, q106.b, q106.c, q106.d, q106.e, q106.f, q106.g, q106.h, q107.a, q107.b, q107.c, q107.d, q107.e, q107.f, q107.g, q107.h, q108.a, q108.b, q108.c, q108.d, q108.e, q108.f, q108.g, q108.h, q109.a, q109.b, q109.c, q109.d, q109.e, q109.f, q109.g, q109.h, q110.a, q110.b, q110.c, q110.d, q110.e, q110.f, q110.g, q110.h, q111.a, q111.b, q111.c, q111.d, q111.e, q111.f, q111.g, q111.h, q112.a, q112.b, q112.c, q112.d, q112.e, q112.f, q112.g, q112.h, q113.a, q113.b, q113.c, q113.d, q113.e, q113.f, q113.g, .pointer (some ⟨g73, 0, none⟩), .int .i64 kd, .bool false, .bool false, u_, u_, u_, .bool false, .bool false, u_, u_, .bool false, .int .i64 0, .bool false, .bool false, .bool false, .int .i64 0, .bool false, .bool false, u_, u_, .bool false, .bool false, .bool false, q55.f, q55.g, q55.h, q56.a, q56.b, q56.c]) _ (x_move (.bool false) rfl rfl) rfl ?_
                  refine p_on rfl (by rw [hops117]; rfl) ?_
                  refine p_run (l' := _) _ (x_move (.pointer (some ⟨G22, 0, none⟩)) rfl rfl) rfl ?_
                  refine p_on rfl (by rw [hops117]; rfl) ?_
                  refine p_run (l' := _) _ (x_move (v2') rfl rfl) rfl ?_
                  refine p_on rfl (by rw [hops117]; rfl) ?_
                  refine w_call [.pointer (some ⟨G22, 0, none⟩), v2'] Try.func35 (by kernel_rfl) (by rfl) rfl ?_
                  replace HS := (((HS.front 2 rfl).front 2 rfl).front 2 rfl)
                  replace HS := ((((HS.front 3 rfl).front 3 rfl).front 3 rfl).front 3 rfl)
                  have hR2 : RI fs' := hR2
                  refine (same_any HS (by have := hR2.1; omega) (fun f hf => by have := hR2.2 f hf; omega)).mono ?_
                  clear HS
                  rintro e w119 ⟨rfl, HS⟩
                  refine ⟨_, rfl, ?_⟩
                  refine p_on rfl (by rw [hops117]; rfl) ?_
                  refine p_run (l' := _) _ (x_not true rfl rfl) rfl ?_
                  refine p_run (l' := _) _ (x_pick false (.bool true) (.bool false) (.bool false) rfl rfl rfl rfl rfl) rfl ?_
                  clear hops117
                  refine wpList_nil ?_
                  refine hK116 _ _ ?_
                  refine c_false rfl ?_
                  refine wp_skip ?_
                  refine hK68 _ _ ?_
                  refine c_region (fun ops121 hops120 => ?_)
                  clear hops120
                  refine p_run (l' := _) _ (x_arith (k := .i64) (m := (i : Int)) (n := 1) .add (((i + 1 : Nat) : Int)) rfl rfl rfl (show IntKind.i64.wrap ((i : Int) + 1) = ((i + 1 : Nat) : Int) from ((wr64 (by omega)).trans (by omega))) rfl) rfl ?_
                  refine p_run (l' := _) _ (x_move (.int .i64 ((i + 1 : Nat) : Int)) rfl rfl) rfl ?_
                  refine wpList_nil ?_
                  refine fr_at (l' := [.slice (some ad) l0.length c0, u_, q99.a, .pointer (some ⟨G22, 0, none⟩), v2', u_, .pointer (some ⟨g73, 0, none⟩), .int .i64 0, .bool th, q99.b, q99.c, q99.d, q99.e, .bool true, .bool false, .slice (some ad) l0.length c0, .int .i64 (l0.length : Int), .bool false, .pointer (some ⟨G22, 0, none⟩), v28, .slice (some ad) l0.length c0, .int .i64 (l0.length : Int), .int .i64 ((i + 1 : Nat) : Int), .bool (decide ((i : Int) < (l0.length : Int))), .pointer (some ((ad).add (i * 5))), .agg ([.int .i64 kd, .int .i64 aa, .int .i64 bi, .int .u8 (bv mk), .slice A4 kp.length c4] : List Value).toArray, .pointer (some ⟨g73, 4, none⟩), .slice A4 kp.length c4, .int .i64 (kp.length : Int), .bool (decide ((kp.length : Int) > 300)), .slice Ar ((toN fs).length) cr, .pointer (some ⟨g73, 1, none⟩), .int .i64 aa, .bool th, q99.f, q99.g, q99.h, q100.a, q100.b, q100.c, q100.d, q100.e, q100.f, q100.g, q100.h, q101.a, q101.b, q101.c, q101.d, q101.e, q101.f, q101.g, q101.h, q102.a, q102.b, q102.c, q102.d, q102.e, q102.f, q102.g, q102.h, q103.a, q103.b, q103.c, q103.d, q103.e, q103.f, q103.g, q103.h, q104.a, q104.b, q104.c, q104.d, q104.e, q104.f, q104.g, q104.h, q105.a, q105.b, q105.c, q105.d, q105.e, q105.f, q105.g, q105.h, q106.a, q106.b, q106.c, q106.d, q106.e, q106.f, q106.g, q106.h, q107.a, q107.b, q107.c, q107.d, q107.e, q107.f, q107.g, q107.h, q108.a, q108.b, q108.c, q108.d, q108.e, q108.f, q108.g, q108.h, q109.a, q109.b, q109.c, q109.d, q109.e, q109.f, q109.g, q109.h, q110.a, q110.b, q110.c, q110.d, q110.e, q110.f, q110.g, q110.h, q111.a, q111.b, q111.c, q111.d, q111.e, q111.f, q111.g, q111.h, q112.a, q112.b, q112.c, q112.d, q112.e, q112.f, q112.g, q112.h, q113.a, q113.b, q113.c, q113.d, q113.e, q113.f, q113.g, .pointer (some ⟨g73, 0, none⟩), .int .i64 kd, .bool false, .bool false, u_, u_, u_, .bool false, .bool false, u_, u_, .bool false, .int .i64 0, .bool false, .bool false, .bool false, .int .i64 0, .bool false, .bool false, u_, u_, .bool false, .bool false, .bool false, .pointer (some ⟨G22, 0, none⟩), v2', .bool true, .bool false, .bool false, .int .i64 ((i + 1 : Nat) : Int)]) rfl ?_
                  refine hJ58 (i + 1, v', v2', fs') _ _ ?_ ?_
                  · show l0.length - (i + 1) < l0.length - i; omega
                  · exact ⟨⟨q99.a, .pointer (some ⟨g73, 0, none⟩), .int .i64 0, .bool th, q99.b, q99.c, q99.d, q99.e⟩, ⟨.bool (decide ((i : Int) < (l0.length : Int))), .pointer (some ((ad).add (i * 5))), .agg ([.int .i64 kd, .int .i64 aa, .int .i64 bi, .int .u8 (bv mk), .slice A4 kp.length c4] : List Value).toArray, .pointer (some ⟨g73, 4, none⟩), .slice A4 kp.length c4, .int .i64 (kp.length : Int), .bool (decide ((kp.length : Int) > 300)), .slice Ar ((toN fs).length) cr⟩, ⟨.pointer (some ⟨g73, 1, none⟩), .int .i64 aa, .bool th, q99.f, q99.g, q99.h, q100.a, q100.b⟩, ⟨q100.c, q100.d, q100.e, q100.f, q100.g, q100.h, q101.a, q101.b⟩, ⟨q101.c, q101.d, q101.e, q101.f, q101.g, q101.h, q102.a, q102.b⟩, ⟨q102.c, q102.d, q102.e, q102.f, q102.g, q102.h, q103.a, q103.b⟩, ⟨q103.c, q103.d, q103.e, q103.f, q103.g, q103.h, q104.a, q104.b⟩, ⟨q104.c, q104.d, q104.e, q104.f, q104.g, q104.h, q105.a, q105.b⟩, ⟨q105.c, q105.d, q105.e, q105.f, q105.g, q105.h, q106.a, q106.b⟩, ⟨q106.c, q106.d, q106.e, q106.f, q106.g, q106.h, q107.a, q107.b⟩, ⟨q107.c, q107.d, q107.e, q107.f, q107.g, q107.h, q108.a, q108.b⟩, ⟨q108.c, q108.d, q108.e, q108.f, q108.g, q108.h, q109.a, q109.b⟩, ⟨q109.c, q109.d, q109.e, q109.f, q109.g, q109.h, q110.a, q110.b⟩, ⟨q110.c, q110.d, q110.e, q110.f, q110.g, q110.h, q111.a, q111.b⟩, ⟨q111.c, q111.d, q111.e, q111.f, q111.g, q111.h, q112.a, q112.b⟩, ⟨q112.c, q112.d, q112.e, q112.f, q112.g, q112.h, q113.a, q113.b⟩, ⟨q113.c, q113.d, q113.e, q113.f, q113.g, .pointer (some ⟨g73, 0, none⟩), .int .i64 kd, .bool false⟩, ⟨.bool false, u_, u_, u_, .bool false, .bool false, u_, u_⟩, ⟨.bool false, .int .i64 0, .bool false, .bool false, .bool false, .int .i64 0, .bool false, .bool false⟩, ⟨u_, u_, .bool false, .bool false, .bool false, .pointer (some ⟨G22, 0, none⟩), v2', .bool true⟩, ⟨.bool false, .bool false, .int .i64 ((i + 1 : Nat) : Int), u_, u_, u_, u_, u_⟩, rfl, (((((HS.front 4 rfl).drop.front 3 rfl).front 3 rfl).front 3 rfl).front 3 rfl), ⟨hR2, by omega⟩⟩
                · skip
                  refine c_region (fun ops123 hops122 => ?_)
                  refine p_run (l' := _) _ (x_field (j := 0) _ _ rfl rfl Try.underlying54 rfl (by rfl) rfl) rfl ?_
                  refine p_run (l' := _) _ (x_load (.int .i64 kd) rfl rfl (bkCell (HS.get (.tail _ (.tail _ (.tail _ (.tail _ (.head _)))))) 0 _ rfl) (by rfl)) rfl ?_
                  refine p_run (l' := _) _ (x_cmp (k := .i64) (m := kd) (n := 1) .geq true rfl rfl rfl (decide_eq_true (by omega)) rfl) rfl ?_
                  refine p_run (l' := _) _ (x_move (.bool true) rfl rfl) rfl ?_
                  refine p_on rfl (by rw [hops122]; rfl) ?_
                  refine p_run (l' := _) _ (x_field (j := 0) _ _ rfl rfl Try.underlying54 rfl (by rfl) rfl) rfl ?_
                  refine p_on rfl (by rw [hops122]; rfl) ?_
                  refine p_run (l' := _) _ (x_load (.int .i64 kd) rfl rfl (bkCell (HS.get (.tail _ (.tail _ (.tail _ (.tail _ (.head _)))))) 0 _ rfl) (by rfl)) rfl ?_
                  refine p_on rfl (by rw [hops122]; rfl) ?_
                  refine p_run (l' := _) _ (x_cmp (k := .i64) (m := kd) (n := 3) .leq false rfl rfl rfl (decide_eq_false (by omega)) rfl) rfl ?_
                  refine p_run (l' := [.slice (some ad) l0.length c0, u_, q99.a, .pointer (some ⟨G22, 0, none⟩), v2', u_, .pointer (some ⟨g73, 0, none⟩), .int .i64 0, .bool th, q99.b, q99.c, q99.d, q99.e, .bool true, .bool false, .slice (some ad) l0.length c0, .int .i64 (l0.length : Int), .bool false, .pointer (some ⟨G22, 0, none⟩), v28, .slice (some ad) l0.length c0, .int .i64 (l0.length : Int), .int .i64 (i : Int), .bool (decide ((i : Int) < (l0.length : Int))), .pointer (some ((ad).add (i * 5))), .agg ([.int .i64 kd, .int .i64 aa, .int .i64 bi, .int .u8 (bv mk), .slice A4 kp.length c4] : List Value).toArray, .pointer (some ⟨g73, 4, none⟩), .slice A4 kp.length c4, .int .i64 (kp.length : Int), .bool (decide ((kp.length : Int) > 300)), .slice Ar ((toN fs).length) cr, .pointer (some ⟨g73, 1, none⟩), .int .i64 aa, .bool th, q99.f, q99.g, q99.h, q100.a, q100.b, q100.c, q100.d, q100.e, q100.f, q100.g, q100.h, q101.a, q101.b, q101.c, q101.d, q101.e, q101.f, q101.g, q101.h, q102.a, q102.b, q102.c, q102.d, q102.e, q102.f, q102.g, q102.h, q103.a, q103.b, q103.c, q103.d, q103.e, q103.f, q103.g, q103.h, q104.a, q104.b, q104.c, q104.d, q104.e, q104.f, q104.g, q104.h, q105.a, q105.b, q105.c, q105.d, q105.e, q105.f, q105.g, q105.h, q106.a, q106.b, q106.c, q106.d, q106.e, q106.f, q106.g, q106.h, q107.a, q107.b, q107.c, q107.d, q107.e, q107.f, q107.g, q107.h, q108.a, q108.b, q108.c, q108.d, q108.e, q108.f, q108.g, q108.h, q109.a, q109.b, q109.c, q109.d, q109.e, q109.f, q109.g, q109.h, q110.a, q110.b, q110.c, q110.d, q110.e, q110.f, q110.g, q110.h, q111.a, q111.b, q111.c, q111.d, q111.e, q111.f, q111.g, q111.h, q112.a, q112.b, q112.c, q112.d, q112.e, q112.f, q112.g, q112.h, q113.a, q113.b, q113.c, q113.d, q113.e, q113.f, q113.g, .pointer (some ⟨g73, 0, none⟩), .int .i64 kd, .bool true, .bool true, .pointer (some ⟨g73, 0, none⟩), .int .i64 kd, .bool false, .bool false, q53.f, q53.g, q53.h, q54.a, q54.b, q54.c, q54.d, q54.e, q54.f, q54.g, q54.h, q55.a, q55.b, q55.c, q55.d, q55.e, q55.f, q55.g, q55.h, q56.a, q56.b, q56.c]) _ (x_pick true (.bool false) (.bool false) (.bool false) rfl rfl rfl rfl rfl) rfl ?_
                  refine p_run (l' := _) _ (x_move (.bool false) rfl rfl) rfl ?_
                  refine p_off (l' := _) (by rw [hops122]; rfl) rfl ?_
                  refine p_off (l' := _) (by rw [hops122]; rfl) rfl ?_
                  refine p_run (l' := _) _ (x_pick false (u_) (.bool false) (.bool false) rfl rfl rfl rfl rfl) rfl ?_
                  refine p_run (l' := _) _ (x_move (.int .i64 0) rfl rfl) rfl ?_
                  refine p_run (l' := _) _ (x_cmp (k := .i64) (m := 0) (n := 0) .neq false rfl rfl rfl (by decide) rfl) rfl ?_
                  refine p_run (l' := _) _ (x_boolcmp .neq false false false rfl rfl rfl Try.underlying4 rfl rfl) rfl ?_
                  refine p_run (l' := [.slice (some ad) l0.length c0, u_, q99.a, .pointer (some ⟨G22, 0, none⟩), v2', u_, .pointer (some ⟨g73, 0, none⟩), .int .i64 0, .bool th, q99.b, q99.c, q99.d, q99.e, .bool true, .bool false, .slice (some ad) l0.length c0, .int .i64 (l0.length : Int), .bool false, .pointer (some ⟨G22, 0, none⟩), v28, .slice (some ad) l0.length c0, .int .i64 (l0.length : Int), .int .i64 (i : Int), .bool (decide ((i : Int) < (l0.length : Int))), .pointer (some ((ad).add (i * 5))), .agg ([.int .i64 kd, .int .i64 aa, .int .i64 bi, .int .u8 (bv mk), .slice A4 kp.length c4] : List Value).toArray, .pointer (some ⟨g73, 4, none⟩), .slice A4 kp.length c4, .int .i64 (kp.length : Int), .bool (decide ((kp.length : Int) > 300)), .slice Ar ((toN fs).length) cr, .pointer (some ⟨g73, 1, none⟩), .int .i64 aa, .bool th, q99.f, q99.g, q99.h, q100.a, q100.b, q100.c, q100.d, q100.e, q100.f, q100.g, q100.h, q101.a, q101.b, q101.c, q101.d, q101.e, q101.f, q101.g, q101.h, q102.a, q102.b, q102.c, q102.d, q102.e, q102.f, q102.g, q102.h, q103.a, q103.b, q103.c, q103.d, q103.e, q103.f, q103.g, q103.h, q104.a, q104.b, q104.c, q104.d, q104.e, q104.f, q104.g, q104.h, q105.a, q105.b, q105.c, q105.d, q105.e, q105.f, q105.g, q105.h, q106.a, q106.b, q106.c, q106.d, q106.e, q106.f, q106.g, q106.h, q107.a, q107.b, q107.c, q107.d, q107.e, q107.f, q107.g, q107.h, q108.a, q108.b, q108.c, q108.d, q108.e, q108.f, q108.g, q108.h, q109.a, q109.b, q109.c, q109.d, q109.e, q109.f, q109.g, q109.h, q110.a, q110.b, q110.c, q110.d, q110.e, q110.f, q110.g, q110.h, q111.a, q111.b, q111.c, q111.d, q111.e, q111.f, q111.g, q111.h, q112.a, q112.b, q112.c, q112.d, q112.e, q112.f, q112.g, q112.h, q113.a, q113.b, q113.c, q113.d, q113.e, q113.f, q113.g, .pointer (some ⟨g73, 0, none⟩), .int .i64 kd, .bool true, .bool true, .pointer (some ⟨g73, 0, none⟩), .int .i64 kd, .bool false, .bool false, .bool false, u_, u_, .bool false, .int .i64 0, .bool false, .bool false, .bool false, q54.f, q54.g, q54.h, q55.a, q55.b, q55.c, q55.d, q55.e, q55.f, q55.g, q55.h, q56.a, q56.b, q56.c]) _ (x_move (.bool false) rfl rfl) rfl ?_
                  refine p_on rfl (by rw [hops122]; rfl) ?_
                  refine p_run (l' := _) _ (x_move (.int .i64 0) rfl rfl) rfl ?_
                  refine p_on rfl (by rw [hops122]; rfl) ?_
                  refine p_run (l' := _) _ (x_cmp (k := .i64) (m := 0) (n := 0) .neq false rfl rfl rfl (by decide) rfl) rfl ?_
                  refine p_on rfl (by rw [hops122]; rfl) ?_
                  refine p_run (l' := _) _ (x_move (.bool false) rfl rfl) rfl ?_
                  refine p_off (l' := _) (by rw [hops122]; rfl) rfl ?_
                  refine p_off (l' := _) (by rw [hops122]; rfl) rfl ?_
                  refine p_on rfl (by rw [hops122]; rfl) ?_
                  refine p_run (l' := _) _ (x_pick false (u_) (.bool false) (.bool false) rfl rfl rfl rfl rfl) rfl ?_
                  refine p_run (l' := _) _ (x_pick false (.bool true) (.bool false) (.bool false) rfl rfl rfl rfl rfl) rfl ?_
                  refine p_run (l' := [.slice (some ad) l0.length c0, u_, q99.a, .pointer (some ⟨G22, 0, none⟩), v2', u_, .pointer (some ⟨g73, 0, none⟩), .int .i64 0, .bool th, q99.b, q99.c, q99.d, q99.e, .bool true, .bool false, .slice (some ad) l0.length c0, .int .i64 (l0.length : Int), .bool false, .pointer (some ⟨G22, 0, none⟩), v28, .slice (some ad) l0.length c0, .int .i64 (l0.length : Int), .int .i64 (i : Int), .bool (decide ((i : Int) < (l0.length : Int))), .pointer (some ((ad).add (i * 5))), .agg ([.int .i64 kd, .int .i64 aa, .int .i64 bi, .int .u8 (bv mk), .slice A4 kp.length c4] : List Value).toArray, .pointer (some ⟨g73, 4, none⟩), .slice A4 kp.length c4, .int .i64 (kp.length : Int), .bool (decide ((kp.length : Int) > 300)), .slice Ar ((toN fs).length) cr, .pointer (some ⟨g73, 1, none⟩), .int .i64 aa, .bool th, q99.f, q99.g, q99.h, q100.a, q100.b, q100.c, q100.d, q100.e, q100.f, q100.g, q100.h, q101.a, q101.b, q101.c, q101.d, q101.e, q101.f, q101.g, q101.h, q102.a, q102.b, q102.c, q102.d, q102.e, q102.f, q102.g, q102.h, q103.a, q103.b, q103.c, q103.d, q103.e, q103.f, q103.g, q103.h, q104.a, q104.b, q104.c, q104.d, q104.e, q104.f, q104.g, q104.h, q105.a, q105.b, q105.c, q105.d, q105.e, q105.f, q105.g, q105.h, q106.a, q106.b, q106.c, q106.d, q106.e, q106.f, q106.g, q106.h, q107.a, q107.b, q107.c, q107.d, q107.e, q107.f, q107.g, q107.h, q108.a, q108.b, q108.c, q108.d, q108.e, q108.f, q108.g, q108.h, q109.a, q109.b, q109.c, q109.d, q109.e, q109.f, q109.g, q109.h, q110.a, q110.b, q110.c, q110.d, q110.e, q110.f, q110.g, q110.h, q111.a, q111.b, q111.c, q111.d, q111.e, q111.f, q111.g, q111.h, q112.a, q112.b, q112.c, q112.d, q112.e, q112.f, q112.g, q112.h, q113.a, q113.b, q113.c, q113.d, q113.e, q113.f, q113.g, .pointer (some ⟨g73, 0, none⟩), .int .i64 kd, .bool true, .bool true, .pointer (some ⟨g73, 0, none⟩), .int .i64 kd, .bool false, .bool false, .bool false, u_, u_, .bool false, .int .i64 0, .bool false, .bool false, .bool false, .int .i64 0, .bool false, .bool false, u_, u_, .bool false, .bool false, .bool false, q55.f, q55.g, q55.h, q56.a, q56.b, q56.c]) _ (x_move (.bool false) rfl rfl) rfl ?_
                  refine p_on rfl (by rw [hops122]; rfl) ?_
                  refine p_run (l' := _) _ (x_move (.pointer (some ⟨G22, 0, none⟩)) rfl rfl) rfl ?_
                  refine p_on rfl (by rw [hops122]; rfl) ?_
                  refine p_run (l' := _) _ (x_move (v2') rfl rfl) rfl ?_
                  refine p_on rfl (by rw [hops122]; rfl) ?_
                  refine w_call [.pointer (some ⟨G22, 0, none⟩), v2'] Try.func35 (by kernel_rfl) (by rfl) rfl ?_
                  replace HS := (((HS.front 2 rfl).front 2 rfl).front 2 rfl)
                  replace HS := ((((HS.front 3 rfl).front 3 rfl).front 3 rfl).front 3 rfl)
                  have hR2 : RI fs' := hR2
                  refine (same_any HS (by have := hR2.1; omega) (fun f hf => by have := hR2.2 f hf; omega)).mono ?_
                  clear HS
                  rintro e w124 ⟨rfl, HS⟩
                  refine ⟨_, rfl, ?_⟩
                  refine p_on rfl (by rw [hops122]; rfl) ?_
                  refine p_run (l' := _) _ (x_not true rfl rfl) rfl ?_
                  refine p_run (l' := _) _ (x_pick false (.bool true) (.bool false) (.bool false) rfl rfl rfl rfl rfl) rfl ?_
                  clear hops122
                  refine wpList_nil ?_
                  refine hK116 _ _ ?_
                  refine c_false rfl ?_
                  refine wp_skip ?_
                  refine hK68 _ _ ?_
                  refine c_region (fun ops126 hops125 => ?_)
                  clear hops125
                  refine p_run (l' := _) _ (x_arith (k := .i64) (m := (i : Int)) (n := 1) .add (((i + 1 : Nat) : Int)) rfl rfl rfl (show IntKind.i64.wrap ((i : Int) + 1) = ((i + 1 : Nat) : Int) from ((wr64 (by omega)).trans (by omega))) rfl) rfl ?_
                  refine p_run (l' := _) _ (x_move (.int .i64 ((i + 1 : Nat) : Int)) rfl rfl) rfl ?_
                  refine wpList_nil ?_
                  refine fr_at (l' := [.slice (some ad) l0.length c0, u_, q99.a, .pointer (some ⟨G22, 0, none⟩), v2', u_, .pointer (some ⟨g73, 0, none⟩), .int .i64 0, .bool th, q99.b, q99.c, q99.d, q99.e, .bool true, .bool false, .slice (some ad) l0.length c0, .int .i64 (l0.length : Int), .bool false, .pointer (some ⟨G22, 0, none⟩), v28, .slice (some ad) l0.length c0, .int .i64 (l0.length : Int), .int .i64 ((i + 1 : Nat) : Int), .bool (decide ((i : Int) < (l0.length : Int))), .pointer (some ((ad).add (i * 5))), .agg ([.int .i64 kd, .int .i64 aa, .int .i64 bi, .int .u8 (bv mk), .slice A4 kp.length c4] : List Value).toArray, .pointer (some ⟨g73, 4, none⟩), .slice A4 kp.length c4, .int .i64 (kp.length : Int), .bool (decide ((kp.length : Int) > 300)), .slice Ar ((toN fs).length) cr, .pointer (some ⟨g73, 1, none⟩), .int .i64 aa, .bool th, q99.f, q99.g, q99.h, q100.a, q100.b, q100.c, q100.d, q100.e, q100.f, q100.g, q100.h, q101.a, q101.b, q101.c, q101.d, q101.e, q101.f, q101.g, q101.h, q102.a, q102.b, q102.c, q102.d, q102.e, q102.f, q102.g, q102.h, q103.a, q103.b, q103.c, q103.d, q103.e, q103.f, q103.g, q103.h, q104.a, q104.b, q104.c, q104.d, q104.e, q104.f, q104.g, q104.h, q105.a, q105.b, q105.c, q105.d, q105.e, q105.f, q105.g, q105.h, q106.a, q106.b, q106.c, q106.d, q106.e, q106.f, q106.g, q106.h, q107.a, q107.b, q107.c, q107.d, q107.e, q107.f, q107.g, q107.h, q108.a, q108.b, q108.c, q108.d, q108.e, q108.f, q108.g, q108.h, q109.a, q109.b, q109.c, q109.d, q109.e, q109.f, q109.g, q109.h, q110.a, q110.b, q110.c, q110.d, q110.e, q110.f, q110.g, q110.h, q111.a, q111.b, q111.c, q111.d, q111.e, q111.f, q111.g, q111.h, q112.a, q112.b, q112.c, q112.d, q112.e, q112.f, q112.g, q112.h, q113.a, q113.b, q113.c, q113.d, q113.e, q113.f, q113.g, .pointer (some ⟨g73, 0, none⟩), .int .i64 kd, .bool true, .bool true, .pointer (some ⟨g73, 0, none⟩), .int .i64 kd, .bool false, .bool false, .bool false, u_, u_, .bool false, .int .i64 0, .bool false, .bool false, .bool false, .int .i64 0, .bool false, .bool false, u_, u_, .bool false, .bool false, .bool false, .pointer (some ⟨G22, 0, none⟩), v2', .bool true, .bool false, .bool false, .int .i64 ((i + 1 : Nat) : Int)]) rfl ?_
                  refine hJ58 (i + 1, v', v2', fs') _ _ ?_ ?_
                  · show l0.length - (i + 1) < l0.length - i; omega
                  · exact ⟨⟨q99.a, .pointer (some ⟨g73, 0, none⟩), .int .i64 0, .bool th, q99.b, q99.c, q99.d, q99.e⟩, ⟨.bool (decide ((i : Int) < (l0.length : Int))), .pointer (some ((ad).add (i * 5))), .agg ([.int .i64 kd, .int .i64 aa, .int .i64 bi, .int .u8 (bv mk), .slice A4 kp.length c4] : List Value).toArray, .pointer (some ⟨g73, 4, none⟩), .slice A4 kp.length c4, .int .i64 (kp.length : Int), .bool (decide ((kp.length : Int) > 300)), .slice Ar ((toN fs).length) cr⟩, ⟨.pointer (some ⟨g73, 1, none⟩), .int .i64 aa, .bool th, q99.f, q99.g, q99.h, q100.a, q100.b⟩, ⟨q100.c, q100.d, q100.e, q100.f, q100.g, q100.h, q101.a, q101.b⟩, ⟨q101.c, q101.d, q101.e, q101.f, q101.g, q101.h, q102.a, q102.b⟩, ⟨q102.c, q102.d, q102.e, q102.f, q102.g, q102.h, q103.a, q103.b⟩, ⟨q103.c, q103.d, q103.e, q103.f, q103.g, q103.h, q104.a, q104.b⟩, ⟨q104.c, q104.d, q104.e, q104.f, q104.g, q104.h, q105.a, q105.b⟩, ⟨q105.c, q105.d, q105.e, q105.f, q105.g, q105.h, q106.a, q106.b⟩, ⟨q106.c, q106.d, q106.e, q106.f, q106.g, q106.h, q107.a, q107.b⟩, ⟨q107.c, q107.d, q107.e, q107.f, q107.g, q107.h, q108.a, q108.b⟩, ⟨q108.c, q108.d, q108.e, q108.f, q108.g, q108.h, q109.a, q109.b⟩, ⟨q109.c, q109.d, q109.e, q109.f, q109.g, q109.h, q110.a, q110.b⟩, ⟨q110.c, q110.d, q110.e, q110.f, q110.g, q110.h, q111.a, q111.b⟩, ⟨q111.c, q111.d, q111.e, q111.f, q111.g, q111.h, q112.a, q112.b⟩, ⟨q112.c, q112.d, q112.e, q112.f, q112.g, q112.h, q113.a, q113.b⟩, ⟨q113.c, q113.d, q113.e, q113.f, q113.g, .pointer (some ⟨g73, 0, none⟩), .int .i64 kd, .bool true⟩, ⟨.bool true, .pointer (some ⟨g73, 0, none⟩), .int .i64 kd, .bool false, .bool false, .bool false, u_, u_⟩, ⟨.bool false, .int .i64 0, .bool false, .bool false, .bool false, .int .i64 0, .bool false, .bool false⟩, ⟨u_, u_, .bool false, .bool false, .bool false, .pointer (some ⟨G22, 0, none⟩), v2', .bool true⟩, ⟨.bool false, .bool false, .int .i64 ((i + 1 : Nat) : Int), u_, u_, u_, u_, u_⟩, rfl, (((((HS.front 4 rfl).drop.front 3 rfl).front 3 rfl).front 3 rfl).front 3 rfl), ⟨hR2, by omega⟩⟩
                · skip
                  refine c_region (fun ops128 hops127 => ?_)
                  refine p_run (l' := _) _ (x_field (j := 0) _ _ rfl rfl Try.underlying54 rfl (by rfl) rfl) rfl ?_
                  refine p_run (l' := _) _ (x_load (.int .i64 kd) rfl rfl (bkCell (HS.get (.tail _ (.tail _ (.tail _ (.tail _ (.head _)))))) 0 _ rfl) (by rfl)) rfl ?_
                  refine p_run (l' := _) _ (x_cmp (k := .i64) (m := kd) (n := 1) .geq true rfl rfl rfl (decide_eq_true (by omega)) rfl) rfl ?_
                  refine p_run (l' := _) _ (x_move (.bool true) rfl rfl) rfl ?_
                  refine p_on rfl (by rw [hops127]; rfl) ?_
                  refine p_run (l' := _) _ (x_field (j := 0) _ _ rfl rfl Try.underlying54 rfl (by rfl) rfl) rfl ?_
                  refine p_on rfl (by rw [hops127]; rfl) ?_
                  refine p_run (l' := _) _ (x_load (.int .i64 kd) rfl rfl (bkCell (HS.get (.tail _ (.tail _ (.tail _ (.tail _ (.head _)))))) 0 _ rfl) (by rfl)) rfl ?_
                  refine p_on rfl (by rw [hops127]; rfl) ?_
                  refine p_run (l' := _) _ (x_cmp (k := .i64) (m := kd) (n := 3) .leq true rfl rfl rfl (decide_eq_true (by omega)) rfl) rfl ?_
                  refine p_run (l' := [.slice (some ad) l0.length c0, u_, q99.a, .pointer (some ⟨G22, 0, none⟩), v2', u_, .pointer (some ⟨g73, 0, none⟩), .int .i64 0, .bool true, q99.b, q99.c, q99.d, q99.e, .bool true, .bool false, .slice (some ad) l0.length c0, .int .i64 (l0.length : Int), .bool false, .pointer (some ⟨G22, 0, none⟩), v28, .slice (some ad) l0.length c0, .int .i64 (l0.length : Int), .int .i64 (i : Int), .bool (decide ((i : Int) < (l0.length : Int))), .pointer (some ((ad).add (i * 5))), .agg ([.int .i64 kd, .int .i64 aa, .int .i64 bi, .int .u8 (bv mk), .slice A4 kp.length c4] : List Value).toArray, .pointer (some ⟨g73, 4, none⟩), .slice A4 kp.length c4, .int .i64 (kp.length : Int), .bool (decide ((kp.length : Int) > 300)), .slice Ar ((toN fs).length) cr, .pointer (some ⟨g73, 1, none⟩), .int .i64 aa, .bool true, q99.f, q99.g, q99.h, q100.a, q100.b, q100.c, q100.d, q100.e, q100.f, q100.g, q100.h, q101.a, q101.b, q101.c, q101.d, q101.e, q101.f, q101.g, q101.h, q102.a, q102.b, q102.c, q102.d, q102.e, q102.f, q102.g, q102.h, q103.a, q103.b, q103.c, q103.d, q103.e, q103.f, q103.g, q103.h, q104.a, q104.b, q104.c, q104.d, q104.e, q104.f, q104.g, q104.h, q105.a, q105.b, q105.c, q105.d, q105.e, q105.f, q105.g, q105.h, q106.a, q106.b, q106.c, q106.d, q106.e, q106.f, q106.g, q106.h, q107.a, q107.b, q107.c, q107.d, q107.e, q107.f, q107.g, q107.h, q108.a, q108.b, q108.c, q108.d, q108.e, q108.f, q108.g, q108.h, q109.a, q109.b, q109.c, q109.d, q109.e, q109.f, q109.g, q109.h, q110.a, q110.b, q110.c, q110.d, q110.e, q110.f, q110.g, q110.h, q111.a, q111.b, q111.c, q111.d, q111.e, q111.f, q111.g, q111.h, q112.a, q112.b, q112.c, q112.d, q112.e, q112.f, q112.g, q112.h, q113.a, q113.b, q113.c, q113.d, q113.e, q113.f, q113.g, .pointer (some ⟨g73, 0, none⟩), .int .i64 kd, .bool true, .bool true, .pointer (some ⟨g73, 0, none⟩), .int .i64 kd, .bool true, .bool true, q53.f, q53.g, q53.h, q54.a, q54.b, q54.c, q54.d, q54.e, q54.f, q54.g, q54.h, q55.a, q55.b, q55.c, q55.d, q55.e, q55.f, q55.g, q55.h, q56.a, q56.b, q56.c]) _ (x_pick true (.bool true) (.bool false) (.bool true) rfl rfl rfl rfl rfl) rfl ?_
                  refine p_run (l' := _) _ (x_move (.bool true) rfl rfl) rfl ?_
                  refine p_on rfl (by rw [hops127]; rfl) ?_
                  refine p_run (l' := _) _ (x_move (.bool true) rfl rfl) rfl ?_
                  refine p_on rfl (by rw [hops127]; rfl) ?_
                  refine p_run (l' := _) _ (x_not true rfl rfl) rfl ?_
                  refine p_run (l' := _) _ (x_pick true (.bool false) (.bool false) (.bool false) rfl rfl rfl rfl rfl) rfl ?_
                  refine p_run (l' := _) _ (x_move (.int .i64 0) rfl rfl) rfl ?_
                  refine p_run (l' := _) _ (x_cmp (k := .i64) (m := 0) (n := 0) .neq false rfl rfl rfl (by decide) rfl) rfl ?_
                  refine p_run (l' := _) _ (x_boolcmp .neq false false false rfl rfl rfl Try.underlying4 rfl rfl) rfl ?_
                  refine p_run (l' := [.slice (some ad) l0.length c0, u_, q99.a, .pointer (some ⟨G22, 0, none⟩), v2', u_, .pointer (some ⟨g73, 0, none⟩), .int .i64 0, .bool true, q99.b, q99.c, q99.d, q99.e, .bool true, .bool false, .slice (some ad) l0.length c0, .int .i64 (l0.length : Int), .bool false, .pointer (some ⟨G22, 0, none⟩), v28, .slice (some ad) l0.length c0, .int .i64 (l0.length : Int), .int .i64 (i : Int), .bool (decide ((i : Int) < (l0.length : Int))), .pointer (some ((ad).add (i * 5))), .agg ([.int .i64 kd, .int .i64 aa, .int .i64 bi, .int .u8 (bv mk), .slice A4 kp.length c4] : List Value).toArray, .pointer (some ⟨g73, 4, none⟩), .slice A4 kp.length c4, .int .i64 (kp.length : Int), .bool (decide ((kp.length : Int) > 300)), .slice Ar ((toN fs).length) cr, .pointer (some ⟨g73, 1, none⟩), .int .i64 aa, .bool true, q99.f, q99.g, q99.h, q100.a, q100.b, q100.c, q100.d, q100.e, q100.f, q100.g, q100.h, q101.a, q101.b, q101.c, q101.d, q101.e, q101.f, q101.g, q101.h, q102.a, q102.b, q102.c, q102.d, q102.e, q102.f, q102.g, q102.h, q103.a, q103.b, q103.c, q103.d, q103.e, q103.f, q103.g, q103.h, q104.a, q104.b, q104.c, q104.d, q104.e, q104.f, q104.g, q104.h, q105.a, q105.b, q105.c, q105.d, q105.e, q105.f, q105.g, q105.h, q106.a, q106.b, q106.c, q106.d, q106.e, q106.f, q106.g, q106.h, q107.a, q107.b, q107.c, q107.d, q107.e, q107.f, q107.g, q107.h, q108.a, q108.b, q108.c, q108.d, q108.e, q108.f, q108.g, q108.h, q109.a, q109.b, q109.c, q109.d, q109.e, q109.f, q109.g, q109.h, q110.a, q110.b, q110.c, q110.d, q110.e, q110.f, q110.g, q110.h, q111.a, q111.b, q111.c, q111.d, q111.e, q111.f, q111.g, q111.h, q112.a, q112.b, q112.c, q112.d, q112.e, q112.f, q112.g, q112.h, q113.a, q113.b, q113.c, q113.d, q113.e, q113.f, q113.g, .pointer (some ⟨g73, 0, none⟩), .int .i64 kd, .bool true, .bool true, .pointer (some ⟨g73, 0, none⟩), .int .i64 kd, .bool true, .bool true, .bool true, .bool true, .bool false, .bool false, .int .i64 0, .bool false, .bool false, .bool false, q54.f, q54.g, q54.h, q55.a, q55.b, q55.c, q55.d, q55.e, q55.f, q55.g, q55.h, q56.a, q56.b, q56.c]) _ (x_move (.bool false) rfl rfl) rfl ?_
                  refine p_on rfl (by rw [hops127]; rfl) ?_
                  refine p_run (l' := _) _ (x_move (.int .i64 0) rfl rfl) rfl ?_
                  refine p_on rfl (by rw [hops127]; rfl) ?_
                  refine p_run (l' := _) _ (x_cmp (k := .i64) (m := 0) (n := 0) .neq false rfl rfl rfl (by decide) rfl) rfl ?_
                  refine p_on rfl (by rw [hops127]; rfl) ?_
                  refine p_run (l' := _) _ (x_move (.bool false) rfl rfl) rfl ?_
                  refine p_off (l' := _) (by rw [hops127]; rfl) rfl ?_
                  refine p_off (l' := _) (by rw [hops127]; rfl) rfl ?_
                  refine p_on rfl (by rw [hops127]; rfl) ?_
                  refine p_run (l' := _) _ (x_pick false (u_) (.bool false) (.bool false) rfl rfl rfl rfl rfl) rfl ?_
                  refine p_run (l' := _) _ (x_pick false (.bool true) (.bool false) (.bool false) rfl rfl rfl rfl rfl) rfl ?_
                  refine p_run (l' := [.slice (some ad) l0.length c0, u_, q99.a, .pointer (some ⟨G22, 0, none⟩), v2', u_, .pointer (some ⟨g73, 0, none⟩), .int .i64 0, .bool true, q99.b, q99.c, q99.d, q99.e, .bool true, .bool false, .slice (some ad) l0.length c0, .int .i64 (l0.length : Int), .bool false, .pointer (some ⟨G22, 0, none⟩), v28, .slice (some ad) l0.length c0, .int .i64 (l0.length : Int), .int .i64 (i : Int), .bool (decide ((i : Int) < (l0.length : Int))), .pointer (some ((ad).add (i * 5))), .agg ([.int .i64 kd, .int .i64 aa, .int .i64 bi, .int .u8 (bv mk), .slice A4 kp.length c4] : List Value).toArray, .pointer (some ⟨g73, 4, none⟩), .slice A4 kp.length c4, .int .i64 (kp.length : Int), .bool (decide ((kp.length : Int) > 300)), .slice Ar ((toN fs).length) cr, .pointer (some ⟨g73, 1, none⟩), .int .i64 aa, .bool true, q99.f, q99.g, q99.h, q100.a, q100.b, q100.c, q100.d, q100.e, q100.f, q100.g, q100.h, q101.a, q101.b, q101.c, q101.d, q101.e, q101.f, q101.g, q101.h, q102.a, q102.b, q102.c, q102.d, q102.e, q102.f, q102.g, q102.h, q103.a, q103.b, q103.c, q103.d, q103.e, q103.f, q103.g, q103.h, q104.a, q104.b, q104.c, q104.d, q104.e, q104.f, q104.g, q104.h, q105.a, q105.b, q105.c, q105.d, q105.e, q105.f, q105.g, q105.h, q106.a, q106.b, q106.c, q106.d, q106.e, q106.f, q106.g, q106.h, q107.a, q107.b, q107.c, q107.d, q107.e, q107.f, q107.g, q107.h, q108.a, q108.b, q108.c, q108.d, q108.e, q108.f, q108.g, q108.h, q109.a, q109.b, q109.c, q109.d, q109.e, q109.f, q109.g, q109.h, q110.a, q110.b, q110.c, q110.d, q110.e, q110.f, q110.g, q110.h, q111.a, q111.b, q111.c, q111.d, q111.e, q111.f, q111.g, q111.h, q112.a, q112.b, q112.c, q112.d, q112.e, q112.f, q112.g, q112.h, q113.a, q113.b, q113.c, q113.d, q113.e, q113.f, q113.g, .pointer (some ⟨g73, 0, none⟩), .int .i64 kd, .bool true, .bool true, .pointer (some ⟨g73, 0, none⟩), .int .i64 kd, .bool true, .bool true, .bool true, .bool true, .bool false, .bool false, .int .i64 0, .bool false, .bool false, .bool false, .int .i64 0, .bool false, .bool false, u_, u_, .bool false, .bool false, .bool false, q55.f, q55.g, q55.h, q56.a, q56.b, q56.c]) _ (x_move (.bool false) rfl rfl) rfl ?_
                  refine p_on rfl (by rw [hops127]; rfl) ?_
                  refine p_run (l' := _) _ (x_move (.pointer (some ⟨G22, 0, none⟩)) rfl rfl) rfl ?_
                  refine p_on rfl (by rw [hops127]; rfl) ?_
                  refine p_run (l' := _) _ (x_move (v2') rfl rfl) rfl ?_
                  refine p_on rfl (by rw [hops127]; rfl) ?_
                  refine w_call [.pointer (some ⟨G22, 0, none⟩), v2'] Try.func35 (by kernel_rfl) (by rfl) rfl ?_
                  replace HS := (((HS.front 2 rfl).front 2 rfl).front 2 rfl)
                  replace HS := ((((HS.front 3 rfl).front 3 rfl).front 3 rfl).front 3 rfl)
                  have hR2 : RI fs' := hR2
                  refine (same_any HS (by have := hR2.1; omega) (fun f hf => by have := hR2.2 f hf; omega)).mono ?_
                  clear HS
                  rintro e w129 ⟨rfl, HS⟩
                  refine ⟨_, rfl, ?_⟩
                  refine p_on rfl (by rw [hops127]; rfl) ?_
                  refine p_run (l' := _) _ (x_not true rfl rfl) rfl ?_
                  refine p_run (l' := _) _ (x_pick false (.bool true) (.bool false) (.bool false) rfl rfl rfl rfl rfl) rfl ?_
                  clear hops127
                  refine wpList_nil ?_
                  refine hK116 _ _ ?_
                  refine c_false rfl ?_
                  refine wp_skip ?_
                  refine hK68 _ _ ?_
                  refine c_region (fun ops131 hops130 => ?_)
                  clear hops130
                  refine p_run (l' := _) _ (x_arith (k := .i64) (m := (i : Int)) (n := 1) .add (((i + 1 : Nat) : Int)) rfl rfl rfl (show IntKind.i64.wrap ((i : Int) + 1) = ((i + 1 : Nat) : Int) from ((wr64 (by omega)).trans (by omega))) rfl) rfl ?_
                  refine p_run (l' := _) _ (x_move (.int .i64 ((i + 1 : Nat) : Int)) rfl rfl) rfl ?_
                  refine wpList_nil ?_
                  refine fr_at (l' := [.slice (some ad) l0.length c0, u_, q99.a, .pointer (some ⟨G22, 0, none⟩), v2', u_, .pointer (some ⟨g73, 0, none⟩), .int .i64 0, .bool true, q99.b, q99.c, q99.d, q99.e, .bool true, .bool false, .slice (some ad) l0.length c0, .int .i64 (l0.length : Int), .bool false, .pointer (some ⟨G22, 0, none⟩), v28, .slice (some ad) l0.length c0, .int .i64 (l0.length : Int), .int .i64 ((i + 1 : Nat) : Int), .bool (decide ((i : Int) < (l0.length : Int))), .pointer (some ((ad).add (i * 5))), .agg ([.int .i64 kd, .int .i64 aa, .int .i64 bi, .int .u8 (bv mk), .slice A4 kp.length c4] : List Value).toArray, .pointer (some ⟨g73, 4, none⟩), .slice A4 kp.length c4, .int .i64 (kp.length : Int), .bool (decide ((kp.length : Int) > 300)), .slice Ar ((toN fs).length) cr, .pointer (some ⟨g73, 1, none⟩), .int .i64 aa, .bool true, q99.f, q99.g, q99.h, q100.a, q100.b, q100.c, q100.d, q100.e, q100.f, q100.g, q100.h, q101.a, q101.b, q101.c, q101.d, q101.e, q101.f, q101.g, q101.h, q102.a, q102.b, q102.c, q102.d, q102.e, q102.f, q102.g, q102.h, q103.a, q103.b, q103.c, q103.d, q103.e, q103.f, q103.g, q103.h, q104.a, q104.b, q104.c, q104.d, q104.e, q104.f, q104.g, q104.h, q105.a, q105.b, q105.c, q105.d, q105.e, q105.f, q105.g, q105.h, q106.a, q106.b, q106.c, q106.d, q106.e, q106.f, q106.g, q106.h, q107.a, q107.b, q107.c, q107.d, q107.e, q107.f, q107.g, q107.h, q108.a, q108.b, q108.c, q108.d, q108.e, q108.f, q108.g, q108.h, q109.a, q109.b, q109.c, q109.d, q109.e, q109.f, q109.g, q109.h, q110.a, q110.b, q110.c, q110.d, q110.e, q110.f, q110.g, q110.h, q111.a, q111.b, q111.c, q111.d, q111.e, q111.f, q111.g, q111.h, q112.a, q112.b, q112.c, q112.d, q112.e, q112.f, q112.g, q112.h, q113.a, q113.b, q113.c, q113.d, q113.e, q113.f, q113.g, .pointer (some ⟨g73, 0, none⟩), .int .i64 kd, .bool true, .bool true, .pointer (some ⟨g73, 0, none⟩), .int .i64 kd, .bool true, .bool true, .bool true, .bool true, .bool false, .bool false, .int .i64 0, .bool false, .bool false, .bool false, .int .i64 0, .bool false, .bool false, u_, u_, .bool false, .bool false, .bool false, .pointer (some ⟨G22, 0, none⟩), v2', .bool true, .bool false, .bool false, .int .i64 ((i + 1 : Nat) : Int)]) rfl ?_
                  refine hJ58 (i + 1, v', v2', fs') _ _ ?_ ?_
                  · show l0.length - (i + 1) < l0.length - i; omega
                  · exact ⟨⟨q99.a, .pointer (some ⟨g73, 0, none⟩), .int .i64 0, .bool true, q99.b, q99.c, q99.d, q99.e⟩, ⟨.bool (decide ((i : Int) < (l0.length : Int))), .pointer (some ((ad).add (i * 5))), .agg ([.int .i64 kd, .int .i64 aa, .int .i64 bi, .int .u8 (bv mk), .slice A4 kp.length c4] : List Value).toArray, .pointer (some ⟨g73, 4, none⟩), .slice A4 kp.length c4, .int .i64 (kp.length : Int), .bool (decide ((kp.length : Int) > 300)), .slice Ar ((toN fs).length) cr⟩, ⟨.pointer (some ⟨g73, 1, none⟩), .int .i64 aa, .bool true, q99.f, q99.g, q99.h, q100.a, q100.b⟩, ⟨q100.c, q100.d, q100.e, q100.f, q100.g, q100.h, q101.a, q101.b⟩, ⟨q101.c, q101.d, q101.e, q101.f, q101.g, q101.h, q102.a, q102.b⟩, ⟨q102.c, q102.d, q102.e, q102.f, q102.g, q102.h, q103.a, q103.b⟩, ⟨q103.c, q103.d, q103.e, q103.f, q103.g, q103.h, q104.a, q104.b⟩, ⟨q104.c, q104.d, q104.e, q104.f, q104.g, q104.h, q105.a, q105.b⟩, ⟨q105.c, q105.d, q105.e, q105.f, q105.g, q105.h, q106.a, q106.b⟩, ⟨q106.c, q106.d, q106.e, q106.f, q106.g, q106.h, q107.a, q107.b⟩, ⟨q107.c, q107.d, q107.e, q107.f, q107.g, q107.h, q108.a, q108.b⟩, ⟨q108.c, q108.d, q108.e, q108.f, q108.g, q108.h, q109.a, q109.b⟩, ⟨q109.c, q109.d, q109.e, q109.f, q109.g, q109.h, q110.a, q110.b⟩, ⟨q110.c, q110.d, q110.e, q110.f, q110.g, q110.h, q111.a, q111.b⟩, ⟨q111.c, q111.d, q111.e, q111.f, q111.g, q111.h, q112.a, q112.b⟩, ⟨q112.c, q112.d, q112.e, q112.f, q112.g, q112.h, q113.a, q113.b⟩, ⟨q113.c, q113.d, q113.e, q113.f, q113.g, .pointer (some ⟨g73, 0, none⟩), .int .i64 kd, .bool true⟩, ⟨.bool true, .pointer (some ⟨g73, 0, none⟩), .int .i64 kd, .bool true, .bool true, .bool true, .bool true, .bool false⟩, ⟨.bool false, .int .i64 0, .bool false, .bool false, .bool false, .int .i64 0, .bool false, .bool false⟩, ⟨u_, u_, .bool false, .bool false, .bool false, .pointer (some ⟨G22, 0, none⟩), v2', .bool true⟩, ⟨.bool false, .bool false, .int .i64 ((i + 1 : Nat) : Int), u_, u_, u_, u_, u_⟩, rfl, (((((HS.front 4 rfl).drop.front 3 rfl).front 3 rfl).front 3 rfl).front 3 rfl), ⟨hR2, by omega⟩⟩
                · skip
                  refine c_region (fun ops133 hops132 => ?_)
                  refine p_run (l' := _) _ (x_field (j := 0) _ _ rfl rfl Try.underlying54 rfl (by rfl) rfl) rfl ?_
                  refine p_run (l' := _) _ (x_load (.int .i64 kd) rfl rfl (bkCell (HS.get (.tail _ (.tail _ (.tail _ (.tail _ (.head _)))))) 0 _ rfl) (by rfl)) rfl ?_
                  refine p_run (l' := _) _ (x_cmp (k := .i64) (m := kd) (n := 1) .geq true rfl rfl rfl (decide_eq_true (by omega)) rfl) rfl ?_
                  refine p_run (l' := _) _ (x_move (.bool true) rfl rfl) rfl ?_
                  refine p_on rfl (by rw [hops132]; rfl) ?_
                  refine p_run (l' := _) _ (x_field (j := 0) _ _ rfl rfl Try.underlying54 rfl (by rfl) rfl) rfl ?_
                  refine p_on rfl (by rw [hops132]; rfl) ?_
                  refine p_run (l' := _) _ (x_load (.int .i64 kd) rfl rfl (bkCell (HS.get (.tail _ (.tail _ (.tail _ (.tail _ (.head _)))))) 0 _ rfl) (by rfl)) rfl ?_
                  refine p_on rfl (by rw [hops132]; rfl) ?_
                  refine p_run (l' := _) _ (x_cmp (k := .i64) (m := kd) (n := 3) .leq true rfl rfl rfl (decide_eq_true (by omega)) rfl) rfl ?_
                  refine p_run (l' := [.slice (some ad) l0.length c0, u_, q99.a, .pointer (some ⟨G22, 0, none⟩), v2', u_, .pointer (some ⟨g73, 0, none⟩), .int .i64 191, .bool false, q99.b, q99.c, q99.d, q99.e, .bool true, .bool false, .slice (some ad) l0.length c0, .int .i64 (l0.length : Int), .bool false, .pointer (some ⟨G22, 0, none⟩), v28, .slice (some ad) l0.length c0, .int .i64 (l0.length : Int), .int .i64 (i : Int), .bool (decide ((i : Int) < (l0.length : Int))), .pointer (some ((ad).add (i * 5))), .agg ([.int .i64 kd, .int .i64 aa, .int .i64 bi, .int .u8 (bv mk), .slice A4 kp.length c4] : List Value).toArray, .pointer (some ⟨g73, 4, none⟩), .slice A4 kp.length c4, .int .i64 (kp.length : Int), .bool (decide ((kp.length : Int) > 300)), .slice Ar ((toN fs).length) cr, .pointer (some ⟨g73, 1, none⟩), .int .i64 aa, .bool false, q99.f, q99.g, q99.h, q100.a, q100.b, q100.c, q100.d, q100.e, q100.f, q100.g, q100.h, q101.a, q101.b, q101.c, q101.d, q101.e, q101.f, q101.g, q101.h, q102.a, q102.b, q102.c, q102.d, q102.e, q102.f, q102.g, q102.h, q103.a, q103.b, q103.c, q103.d, q103.e, q103.f, q103.g, q103.h, q104.a, q104.b, q104.c, q104.d, q104.e, q104.f, q104.g, q104.h, q105.a, q105.b, q105.c, q105.d, q105.e, q105.f, q105.g, q105.h, q106.a, q106.b, q106.c, q106.d, q106.e, q106.f, q106.g, q106.h, q107.a, q107.b, q107.c, q107.d, q107.e, q107.f, q107.g, q107.h, q108.a, q108.b, q108.c, q108.d, q108.e, q108.f, q108.g, q108.h, q109.a, q109.b, q109.c, q109.d, q109.e, q109.f, q109.g, q109.h, q110.a, q110.b, q110.c, q110.d, q110.e, q110.f, q110.g, q110.h, q111.a, q111.b, q111.c, q111.d, q111.e, q111.f, q111.g, q111.h, q112.a, q112.b, q112.c, q112.d, q112.e, q112.f, q112.g, q112.h, q113.a, q113.b, q113.c, q113.d, q113.e, q113.f, q113.g, .pointer (some ⟨g73, 0, none⟩), .int .i64 kd, .bool true, .bool true, .pointer (some ⟨g73, 0, none⟩), .int .i64 kd, .bool true, .bool true, q53.f, q53.g, q53.h, q54.a, q54.b, q54.c, q54.d, q54.e, q54.f, q54.g, q54.h, q55.a, q55.b, q55.c, q55.d, q55.e, q55.f, q55.g, q55.h, q56.a, q56.b, q56.c]) _ (x_pick true (.bool true) (.bool false) (.bool true) rfl rfl rfl rfl rfl) rfl ?_
                  refine p_run (l' := _) _ (x_move (.bool true) rfl rfl) rfl ?_
                  refine p_on rfl (by rw [hops132]; rfl) ?_
                  refine p_run (l' := _) _ (x_move (.bool false) rfl rfl) rfl ?_
                  refine p_on rfl (by rw [hops132]; rfl) ?_
                  refine p_run (l' := _) _ (x_not false rfl rfl) rfl ?_
                  refine p_run (l' := _) _ (x_pick true (.bool true) (.bool false) (.bool true) rfl rfl rfl rfl rfl) rfl ?_
                  refine p_run (l' := _) _ (x_move (.int .i64 191) rfl rfl) rfl ?_
                  refine p_run (l' := _) _ (x_cmp (k := .i64) (m := 191) (n := 0) .neq true rfl rfl rfl (by decide) rfl) rfl ?_
                  refine p_run (l' := _) _ (x_boolcmp .neq true true false rfl rfl rfl Try.underlying4 rfl rfl) rfl ?_
                  refine p_run (l' := [.slice (some ad) l0.length c0, u_, q99.a, .pointer (some ⟨G22, 0, none⟩), v2', u_, .pointer (some ⟨g73, 0, none⟩), .int .i64 191, .bool false, q99.b, q99.c, q99.d, q99.e, .bool true, .bool false, .slice (some ad) l0.length c0, .int .i64 (l0.length : Int), .bool false, .pointer (some ⟨G22, 0, none⟩), v28, .slice (some ad) l0.length c0, .int .i64 (l0.length : Int), .int .i64 (i : Int), .bool (decide ((i : Int) < (l0.length : Int))), .pointer (some ((ad).add (i * 5))), .agg ([.int .i64 kd, .int .i64 aa, .int .i64 bi, .int .u8 (bv mk), .slice A4 kp.length c4] : List Value).toArray, .pointer (some ⟨g73, 4, none⟩), .slice A4 kp.length c4, .int .i64 (kp.length : Int), .bool (decide ((kp.length : Int) > 300)), .slice Ar ((toN fs).length) cr, .pointer (some ⟨g73, 1, none⟩), .int .i64 aa, .bool false, q99.f, q99.g, q99.h, q100.a, q100.b, q100.c, q100.d, q100.e, q100.f, q100.g, q100.h, q101.a, q101.b, q101.c, q101.d, q101.e, q101.f, q101.g, q101.h, q102.a, q102.b, q102.c, q102.d, q102.e, q102.f, q102.g, q102.h, q103.a, q103.b, q103.c, q103.d, q103.e, q103.f, q103.g, q103.h, q104.a, q104.b, q104.c, q104.d, q104.e, q104.f, q104.g, q104.h, q105.a, q105.b, q105.c, q105.d, q105.e, q105.f, q105.g, q105.h, q106.a, q106.b, q106.c, q106.d, q106.e, q106.f, q106.g, q106.h, q107.a, q107.b, q107.c, q107.d, q107.e, q107.f, q107.g, q107.h, q108.a, q108.b, q108.c, q108.d, q108.e, q108.f, q108.g, q108.h, q109.a, q109.b, q109.c, q109.d, q109.e, q109.f, q109.g, q109.h, q110.a, q110.b, q110.c, q110.d, q110.e, q110.f, q110.g, q110.h, q111.a, q111.b, q111.c, q111.d, q111.e, q111.f, q111.g, q111.h, q112.a, q112.b, q112.c, q112.d, q112.e, q112.f, q112.g, q112.h, q113.a, q113.b, q113.c, q113.d, q113.e, q113.f, q113.g, .pointer (some ⟨g73, 0, none⟩), .int .i64 kd, .bool true, .bool true, .pointer (some ⟨g73, 0, none⟩), .int .i64 kd, .bool true, .bool true, .bool true, .bool false, .bool true, .bool true, .int .i64 191, .bool true, .bool false, .bool false, q54.f, q54.g, q54.h, q55.a, q55.b, q55.c, q55.d, q55.e, q55.f, q55.g, q55.h, q56.a, q56.b, q56.c]) _ (x_move (.bool false) rfl rfl) rfl ?_
                  refine p_on rfl (by rw [hops132]; rfl) ?_
                  refine p_run (l' := _) _ (x_move (.int .i64 191) rfl rfl) rfl ?_
                  refine p_on rfl (by rw [hops132]; rfl) ?_
                  refine p_run (l' := _) _ (x_cmp (k := .i64) (m := 191) (n := 0) .neq true rfl rfl rfl (by decide) rfl) rfl ?_
                  refine p_on rfl (by rw [hops132]; rfl) ?_
                  refine p_run (l' := _) _ (x_move (.bool true) rfl rfl) rfl ?_
                  refine p_on rfl (by rw [hops132]; rfl) ?_
                  refine p_run (l' := _) _ (x_move (.int .i64 191) rfl rfl) rfl ?_
                  refine p_on rfl (by rw [hops132]; rfl) ?_
                  refine p_run (l' := _) _ (x_cmp (k := .i64) (m := 191) (n := 191) .neq false rfl rfl rfl (by decide) rfl) rfl ?_
                  refine p_on rfl (by rw [hops132]; rfl) ?_
                  refine p_run (l' := _) _ (x_pick true (.bool false) (.bool false) (.bool false) rfl rfl rfl rfl rfl) rfl ?_
                  refine p_run (l' := _) _ (x_pick false (.bool true) (.bool false) (.bool false) rfl rfl rfl rfl rfl) rfl ?_
                  refine p_run (l' := [.slice (some ad) l0.length c0, u_, q99.a, .pointer (some ⟨G22, 0, none⟩), v2', u_, .pointer (some ⟨g73, 0, none⟩), .int .i64 191, .bool false, q99.b, q99.c, q99.d, q99.e, .bool true, .bool false, .slice (some ad) l0.length c0, .int .i64 (l0.length : Int), .bool false, .pointer (some ⟨G22, 0, none⟩), v28, .slice (some ad) l0.length c0, .int .i64 (l0.length : Int), .int .i64 (i : Int), .bool (decide ((i : Int) < (l0.length : Int))), .pointer (some ((ad).add (i * 5))), .agg ([.int .i64 kd, .int .i64 aa, .int .i64 bi, .int .u8 (bv mk), .slice A4 kp.length c4] : List Value).toArray, .pointer (some ⟨g73, 4, none⟩), .slice A4 kp.length c4, .int .i64 (kp.length : Int), .bool (decide ((kp.length : Int) > 300)), .slice Ar ((toN fs).length) cr, .pointer (some ⟨g73, 1, none⟩), .int .i64 aa, .bool false, q99.f, q99.g, q99.h, q100.a, q100.b, q100.c, q100.d, q100.e, q100.f, q100.g, q100.h, q101.a, q101.b, q101.c, q101.d, q101.e, q101.f, q101.g, q101.h, q102.a, q102.b, q102.c, q102.d, q102.e, q102.f, q102.g, q102.h, q103.a, q103.b, q103.c, q103.d, q103.e, q103.f, q103.g, q103.h, q104.a, q104.b, q104.c, q104.d, q104.e, q104.f, q104.g, q104.h, q105.a, q105.b, q105.c, q105.d, q105.e, q105.f, q105.g, q105.h, q106.a, q106.b, q106.c, q106.d, q106.e, q106.f, q106.g, q106.h, q107.a, q107.b, q107.c, q107.d, q107.e, q107.f, q107.g, q107.h, q108.a, q108.b, q108.c, q108.d, q108.e, q108.f, q108.g, q108.h, q109.a, q109.b, q109.c, q109.d, q109.e, q109.f, q109.g, q109.h, q110.a, q110.b, q110.c, q110.d, q110.e, q110.f, q110.g, q110.h, q111.a, q111.b, q111.c, q111.d, q111.e, q111.f, q111.g, q111.h, q112.a, q112.b, q112.c, q112.d, q112.e, q112.f, q112.g, q112.h, q113.a, q113.b, q113.c, q113.d, q113.e, q113.f, q113.g, .pointer (some ⟨g73, 0, none⟩), .int .i64 kd, .bool true, .bool true, .pointer (some ⟨g73, 0, none⟩), .int .i64 kd, .bool true, .bool true, .bool true, .bool false, .bool true, .bool true, .int .i64 191, .bool true, .bool false, .bool false, .int .i64 191, .bool true, .bool true, .int .i64 191, .bool false, .bool false, .bool false, .bool false, q55.f, q55.g, q55.h, q56.a, q56.b, q56.c]) _ (x_move (.bool false) rfl rfl) rfl ?_
                  refine p_on rfl (by rw [hops132]; rfl) ?_
                  refine p_run (l' := _) _ (x_move (.pointer (some ⟨G22, 0, none⟩)) rfl rfl) rfl ?_
                  refine p_on rfl (by rw [hops132]; rfl) ?_
                  refine p_run (l' := _) _ (x_move (v2') rfl rfl) rfl ?_
                  refine p_on rfl (by rw [hops132]; rfl) ?_
                  refine w_call [.pointer (some ⟨G22, 0, none⟩), v2'] Try.func35 (by kernel_rfl) (by rfl) rfl ?_
                  replace HS := (((HS.front 2 rfl).front 2 rfl).front 2 rfl)
                  replace HS := ((((HS.front 3 rfl).front 3 rfl).front 3 rfl).front 3 rfl)
                  have hR2 : RI fs' := hR2
                  refine (same_any HS (by have := hR2.1; omega) (fun f hf => by have := hR2.2 f hf; omega)).mono ?_
                  clear HS
                  rintro e w134 ⟨rfl, HS⟩
                  refine ⟨_, rfl, ?_⟩
                  refine p_on rfl (by rw [hops132]; rfl) ?_
                  refine p_run (l' := _) _ (x_not true rfl rfl) rfl ?_
                  refine p_run (l' := _) _ (x_pick false (.bool true) (.bool false) (.bool false) rfl rfl rfl rfl rfl) rfl ?_
                  clear hops132
                  refine wpList_nil ?_
                  refine hK116 _ _ ?_
                  refine c_false rfl ?_
                  refine wp_skip ?_
                  refine hK68 _ _ ?_
                  refine c_region (fun ops136 hops135 => ?_)
                  clear hops135
                  refine p_run (l' := _) _ (x_arith (k := .i64) (m := (i : Int)) (n := 1) .add (((i + 1 : Nat) : Int)) rfl rfl rfl (show IntKind.i64.wrap ((i : Int) + 1) = ((i + 1 : Nat) : Int) from ((wr64 (by omega)).trans (by omega))) rfl) rfl ?_
                  refine p_run (l' := _) _ (x_move (.int .i64 ((i + 1 : Nat) : Int)) rfl rfl) rfl ?_
                  refine wpList_nil ?_
                  refine fr_at (l' := [.slice (some ad) l0.length c0, u_, q99.a, .pointer (some ⟨G22, 0, none⟩), v2', u_, .pointer (some ⟨g73, 0, none⟩), .int .i64 191, .bool false, q99.b, q99.c, q99.d, q99.e, .bool true, .bool false, .slice (some ad) l0.length c0, .int .i64 (l0.length : Int), .bool false, .pointer (some ⟨G22, 0, none⟩), v28, .slice (some ad) l0.length c0, .int .i64 (l0.length : Int), .int .i64 ((i + 1 : Nat) : Int), .bool (decide ((i : Int) < (l0.length : Int))), .pointer (some ((ad).add (i * 5))), .agg ([.int .i64 kd, .int .i64 aa, .int .i64 bi, .int .u8 (bv mk), .slice A4 kp.length c4] : List Value).toArray, .pointer (some ⟨g73, 4, none⟩), .slice A4 kp.length c4, .int .i64 (kp.length : Int), .bool (decide ((kp.length : Int) > 300)), .slice Ar ((toN fs).length) cr, .pointer (some ⟨g73, 1, none⟩), .int .i64 aa, .bool false, q99.f, q99.g, q99.h, q100.a, q100.b, q100.c, q100.d, q100.e, q100.f, q100.g, q100.h, q101.a, q101.b, q101.c, q101.d, q101.e, q101.f, q101.g, q101.h, q102.a, q102.b, q102.c, q102.d, q102.e, q102.f, q102.g, q102.h, q103.a, q103.b, q103.c, q103.d, q103.e, q103.f, q103.g, q103.h, q104.a, q104.b, q104.c, q104.d, q104.e, q104.f, q104.g, q104.h, q105.a, q105.b, q105.c, q105.d, q105.e, q105.f, q105.g, q105.h, q106.a, q106.b, q106.c, q106.d, q106.e, q106.f, q106.g, q106.h, q107.a, q107.b, q107.c, q107.d, q107.e, q107.f, q107.g, q107.h, q108.a, q108.b, q108.c, q108.d, q108.e, q108.f, q108.g, q108.h, q109.a, q109.b, q109.c, q109.d, q109.e, q109.f, q109.g, q109.h, q110.a, q110.b, q110.c, q110.d, q110.e, q110.f, q110.g, q110.h, q111.a, q111.b, q111.c, q111.d, q111.e, q111.f, q111.g, q111.h, q112.a, q112.b, q112.c, q112.d, q112.e, q112.f, q112.g, q112.h, q113.a, q113.b, q113.c, q113.d, q113.e, q113.f, q113.g, .pointer (some ⟨g73, 0, none⟩), .int .i64 kd, .bool true, .bool true, .pointer (some ⟨g73, 0, none⟩), .int .i64 kd, .bool true, .bool true, .bool true, .bool false, .bool true, .bool true, .int .i64 191, .bool true, .bool false, .bool false, .int .i64 191, .bool true, .bool true, .int .i64 191, .bool false, .bool false, .bool false, .bool false, .pointer (some ⟨G22, 0, none⟩), v2', .bool true, .bool false, .bool false, .int .i64 ((i + 1 : Nat) : Int)]) rfl ?_
                  refine hJ58 (i + 1, v', v2', fs') _ _ ?_ ?_
                  · show l0.length - (i + 1) < l0.length - i; omega
                  · exact ⟨⟨q99.a, .pointer (some ⟨g73, 0, none⟩), .int .i64 191, .bool false, q99.b, q99.c, q99.d, q99.e⟩, ⟨.bool (decide ((i : Int) < (l0.length : Int))), .pointer (some ((ad).add (i * 5))), .agg ([.int .i64 kd, .int .i64 aa, .int .i64 bi, .int .u8 (bv mk), .slice A4 kp.length c4] : List Value).toArray, .pointer (some ⟨g73, 4, none⟩), .slice A4 kp.length c4, .int .i64 (kp.length : Int), .bool (decide ((kp.length : Int) > 300)), .slice Ar ((toN fs).length) cr⟩, ⟨.pointer (some ⟨g73, 1, none⟩), .int .i64 aa, .bool false, q99.f, q99.g, q99.h, q100.a, q100.b⟩, ⟨q100.c, q100.d, q100.e, q100.f, q100.g, q100.h, q101.a, q101.b⟩, ⟨q101.c, q101.d, q101.e, q101.f, q101.g, q101.h, q102.a, q102.b⟩, ⟨q102.c, q102.d, q102.e, q102.f, q102.g, q102.h, q103.a, q103.b⟩, ⟨q103.c, q103.d, q103.e, q103.f, q103.g, q103.h, q104.a, q104.b⟩, ⟨q104.c, q104.d, q104.e, q104.f, q104.g, q104.h, q105.a, q105.b⟩, ⟨q105.c, q105.d, q105.e, q105.f, q105.g, q105.h, q106.a, q106.b⟩, ⟨q106.c, q106.d, q106.e, q106.f, q106.g, q106.h, q107.a, q107.b⟩, ⟨q107.c, q107.d, q107.e, q107.f, q107.g, q107.h, q108.a, q108.b⟩, ⟨q108.c, q108.d, q108.e, q108.f, q108.g, q108.h, q109.a, q109.b⟩, ⟨q109.c, q109.d, q109.e, q109.f, q109.g, q109.h, q110.a, q110.b⟩, ⟨q110.c, q110.d, q110.e, q110.f, q110.g, q110.h, q111.a, q111.b⟩, ⟨q111.c, q111.d, q111.e, q111.f, q111.g, q111.h, q112.a, q112.b⟩, ⟨q112.c, q112.d, q112.e, q112.f, q112.g, q112.h, q113.a, q113.b⟩, ⟨q113.c, q113.d, q113.e, q113.f, q113.g, .pointer (some ⟨g73, 0, none⟩), .int .i64 kd, .bool true⟩, ⟨.bool true, .pointer (some ⟨g73, 0, none⟩), .int .i64 kd, .bool true, .bool true, .bool true, .bool false, .bool true⟩, ⟨.bool true, .int .i64 191, .bool true, .bool false, .bool false, .int .i64 191, .bool true, .bool true⟩, ⟨.int .i64 191, .bool false, .bool false, .bool false, .bool false, .pointer (some ⟨G22, 0, none⟩), v2', .bool true⟩, ⟨.bool false, .bool false, .int .i64 ((i + 1 : Nat) : Int), u_, u_, u_, u_, u_⟩, rfl, (((((HS.front 4 rfl).drop.front 3 rfl).front 3 rfl).front 3 rfl).front 3 rfl), ⟨hR2, by omega⟩⟩
              clear hK97
              refine wp_seq_k (fun K137 hK138 => ?_)
              refine c_region (fun ops140 hops139 => ?_)
              clear hops139
              refine p_run (l' := _) _ (x_field (j := 0) _ _ rfl rfl Try.underlying54 rfl (by rfl) rfl) rfl ?_
              refine p_run (l' := _) _ (x_load (.int .i64 kd) rfl rfl (bkCell (HS.get (.tail _ (.head _))) 0 _ rfl) (by rfl)) rfl ?_
              refine wpList_nil ?_
              refine hK138 _ _ ?_
              refine wp_block ?_
              refine wp_seq_k (fun K141 hK142 => ?_)
              rcases kd_split kd with rfl | rfl | rfl | rfl | rfl | hk | hk
              · skip
                refine c_region (fun ops144 hops143 => ?_)
                clear hops143
                refine p_run (l' := _) _ (x_cmp (k := .i64) (m := 0) (n := 0) .eql true rfl rfl rfl (by decide) rfl) rfl ?_
                refine p_run (l' := _) _ (x_assign (.bool true) rfl rfl) rfl ?_
                refine wpList_nil ?_
                refine hK142 _ _ ?_
                refine c_true rfl ?_
                refine wp_seq_k (fun K145 hK146 => ?_)
                refine c_region (fun ops148 hops147 => ?_)
                clear hops147
                refine St.wLit0 HS kByte rfl 1 (.int .u8 0) Try.underlying24 (by kernel_rfl) ?_
                clear HS
                intro v149 w150 HS
                refine p_run (l' := _) _ (x_field (j := 4) _ _ rfl rfl Try.underlying54 rfl (by rfl) rfl) rfl ?_
                refine p_run (l' := _) _ (x_load (.slice A4 kp.length c4) rfl rfl (bkCell (HS.get (.tail _ (.tail _ (.head _)))) 4 _ rfl) (by rfl)) rfl ?_
                refine St.wAppend HS (.int .u8 0) 1 Try.underlying24 (by kernel_rfl) rfl (by decide) (by decide) kp _ _ _ rfl rfl (Rd.below hC4 HS.belowOf) (fun _ _ h => h) (by simp; omega) ?_
                clear HS
                intro v151 w152 HS
                refine fr_to (l' := [.slice (some ad) l0.length c0, u_, q36.a, .pointer (some ⟨G22, 0, none⟩), .slice Ar ((toN fs).length) cr, u_, .pointer (some ⟨g73, 0, none⟩), .int .i64 0, .bool (rTh (toN fs) aa), q36.e, q36.f, q36.g, q36.h, .bool true, .bool false, .slice (some ad) l0.length c0, .int .i64 (l0.length : Int), .bool false, .pointer (some ⟨G22, 0, none⟩), v28, .slice (some ad) l0.length c0, .int .i64 (l0.length : Int), .int .i64 (i : Int), .bool (decide ((i : Int) < (l0.length : Int))), .pointer (some ((ad).add (i * 5))), .agg ([.int .i64 0, .int .i64 aa, .int .i64 bi, .int .u8 (bv mk), .slice A4 kp.length c4] : List Value).toArray, .pointer (some ⟨g73, 4, none⟩), .slice A4 kp.length c4, .int .i64 (kp.length : Int), .bool (decide ((kp.length : Int) > 300)), .slice Ar ((toN fs).length) cr, .pointer (some ⟨g73, 1, none⟩), .int .i64 aa, .bool (rTh (toN fs) aa), .pointer (some ⟨g73, 0, none⟩), .int .i64 0, .bool true, .bool true, v149, .pointer (some ⟨g73, 4, none⟩), .slice A4 kp.length c4, v151, q39.d, q39.e, q39.f, q39.g, q39.h, q40.a, q40.b, q40.c, q40.d, q40.e, q40.f, q40.g, q40.h, q41.a, q41.b, q41.c, q41.d, q41.e, q41.f, q41.g, q41.h, q42.a, q42.b, q42.c, q42.d, q42.e, q42.f, q42.g, q42.h, q43.a, q43.b, q43.c, q43.d, q43.e, q43.f, q43.g, q43.h, q44.a, q44.b, q44.c, q44.d, q44.e, q44.f, q44.g, q44.h, q45.a, q45.b, q45.c, q45.d, q45.e, q45.f, q45.g, q45.h, q46.a, q46.b, q46.c, q46.d, q46.e, q46.f, q46.g, q46.h, q47.a, q47.b, q47.c, q47.d, q47.e, q47.f, q47.g, q47.h, q48.a, q48.b, q48.c, q48.d, q48.e, q48.f, q48.g, q48.h, q49.a, q49.b, q49.c, q49.d, q49.e, q49.f, q49.g, q49.h, q50.a, q50.b, q50.c, q50.d, q50.e, q50.f, q50.g, q50.h, q51.a, q51.b, q51.c, q51.d, q51.e, q51.f, q51.g, q51.h, q52.a, q52.b, q52.c, q52.d, q52.e, q52.f, q52.g, q52.h, q53.a, q53.b, q53.c, q53.d, q53.e, q53.f, q53.g, q53.h, q54.a, q54.b, q54.c, q54.d, q54.e, q54.f, q54.g, q54.h, q55.a, q55.b, q55.c, q55.d, q55.e, q55.f, q55.g, q55.h, q56.a, q56.b, q56.c]) rfl ?_
                refine p_run (l' := _) _ (x_assign (v151) rfl rfl) rfl ?_
                refine wpList_nil ?_
                refine hK146 _ _ ?_
                refine wp_seq_k (fun K153 hK154 => ?_)
                refine c_region (fun ops156 hops155 => ?_)
                clear hops155
                refine p_run (l' := _) _ (x_move (.pointer (some ⟨G22, 0, none⟩)) rfl rfl) rfl ?_
                refine p_run (l' := _) _ (x_field (j := 1) _ _ rfl rfl Try.underlying54 rfl (by rfl) rfl) rfl ?_
                refine p_run (l' := _) _ (x_load (.int .i64 aa) rfl rfl (bkCell (HS.get (.tail _ (.tail _ (.head _)))) 1 _ rfl) (by rfl)) rfl ?_
                refine p_run (l' := _) _ (x_move (v151) rfl rfl) rfl ?_
                refine w_call [.pointer (some ⟨G22, 0, none⟩), .int .i64 aa, v151] Try.func23 (by kernel_rfl) (by rfl) rfl ?_
                rw [List.nil_append] at HS
                obtain ⟨A157, c158, hv159, hcp160, -⟩ := row_reads (HS.get (.head _))
                subst hv159
                replace HS := (((HS.front 5 rfl).front 5 rfl).front 5 rfl)
                refine (nSend_any HS aa (xs := kp) (fun w hw => row_sl (hw.get (.tail _ (.tail _ (.tail _ (.head _)))))) (by omega) (by have := hR.1; omega)).mono ?_
                clear HS
                rintro e w163 ⟨v161, v162, rfl, HS⟩
                refine ⟨_, rfl, ?_⟩
                refine wpList_nil ?_
                refine hK154 _ _ ?_
                refine wp_seq_k (fun K164 hK165 => ?_)
                refine c_region (fun ops167 hops166 => ?_)
                clear hops166
                refine p_run (l' := _) _ (x_move (.slice Ar ((toN fs).length) cr) rfl rfl) rfl ?_
                refine p_run (l' := [.slice (some ad) l0.length c0, u_, q36.a, .pointer (some ⟨G22, 0, none⟩), .slice Ar ((toN fs).length) cr, u_, .pointer (some ⟨g73, 0, none⟩), .int .i64 0, .bool (rTh (toN fs) aa), .slice A157 kp.length c158, q36.f, q36.g, q36.h, .bool true, .bool false, .slice (some ad) l0.length c0, .int .i64 (l0.length : Int), .bool false, .pointer (some ⟨G22, 0, none⟩), v28, .slice (some ad) l0.length c0, .int .i64 (l0.length : Int), .int .i64 (i : Int), .bool (decide ((i : Int) < (l0.length : Int))), .pointer (some ((ad).add (i * 5))), .agg ([.int .i64 0, .int .i64 aa, .int .i64 bi, .int .u8 (bv mk), .slice A4 kp.length c4] : List Value).toArray, .pointer (some ⟨g73, 4, none⟩), .slice A4 kp.length c4, .int .i64 (kp.length : Int), .bool (decide ((kp.length : Int) > 300)), .slice Ar ((toN fs).length) cr, .pointer (some ⟨g73, 1, none⟩), .int .i64 aa, .bool (rTh (toN fs) aa), .pointer (some ⟨g73, 0, none⟩), .int .i64 0, .bool true, .bool true, v149, .pointer (some ⟨g73, 4, none⟩), .slice A4 kp.length c4, .slice A157 kp.length c158, .pointer (some ⟨G22, 0, none⟩), .pointer (some ⟨g73, 1, none⟩), .int .i64 aa, .slice A157 kp.length c158, .tuple [].toArray, .slice Ar ((toN fs).length) cr, .pointer (some ⟨g73, 1, none⟩), q40.c, q40.d, q40.e, q40.f, q40.g, q40.h, q41.a, q41.b, q41.c, q41.d, q41.e, q41.f, q41.g, q41.h, q42.a, q42.b, q42.c, q42.d, q42.e, q42.f, q42.g, q42.h, q43.a, q43.b, q43.c, q43.d, q43.e, q43.f, q43.g, q43.h, q44.a, q44.b, q44.c, q44.d, q44.e, q44.f, q44.g, q44.h, q45.a, q45.b, q45.c, q45.d, q45.e, q45.f, q45.g, q45.h, q46.a, q46.b, q46.c, q46.d, q46.e, q46.f, q46.g, q46.h, q47.a, q47.b, q47.c, q47.d, q47.e, q47.f, q47.g, q47.h, q48.a, q48.b, q48.c, q48.d, q48.e, q48.f, q48.g, q48.h, q49.a, q49.b, q49.c, q49.d, q49.e, q49.f, q49.g, q49.h, q50.a, q50.b, q50.c, q50.d, q50.e, q50.f, q50.g, q50.h, q51.a, q51.b, q51.c, q51.d, q51.e, q51.f, q51.g, q51.h, q52.a, q52.b, q52.c, q52.d, q52.e, q52.f, q52.g, q52.h, q53.a, q53.b, q53.c, q53.d, q53.e, q53.f, q53.g, q53.h, q54.a, q54.b, q54.c, q54.d, q54.e, q54.f, q54.g, q54.h, q55.a, q55.b, q55.c, q55.d, q55.e, q55.f, q55.g, q55.h, q56.a, q56.b, q56.c]) _ (x_field (j := 1) _ _ rfl rfl Try.underlying54 rfl (by rfl) rfl) rfl ?_
                refine p_run (l' := _) _ (x_load (.int .i64 aa) rfl rfl (bkCell (HS.get (.tail _ (.tail _ (.tail _ (.tail _ (.tail _ (.head _))))))) 1 _ rfl) (by rfl)) rfl ?_
                refine p_run (l' := _) _ (x_field (j := 4) _ _ rfl rfl Try.underlying54 rfl (by rfl) rfl) rfl ?_
                refine p_run (l' := _) _ (x_load (.slice A4 kp.length c4) rfl rfl (bkCell (HS.get (.tail _ (.tail _ (.tail _ (.tail _ (.tail _ (.head _))))))) 4 _ rfl) (by rfl)) rfl ?_
                refine p_run (l' := _) _ (x_str (xs := kp) (Rd.below hC4 HS.belowOf) (by first | rfl | simp) rfl rfl) rfl ?_
                refine w_call [.slice Ar ((toN fs).length) cr, .int .i64 aa, .string (strB kp)] Try.func32 (by kernel_rfl) (by rfl) rfl ?_
                replace HS := (HS.front 4 rfl)
                refine (rSend_any HS aa kp (by rw [toN_length]; have := hR.1; omega)).mono ?_
                clear HS
                rintro e w169 ⟨v168, rfl, HS⟩
                rw [← toN_send fs aa v162 kp] at HS
                refine ⟨_, rfl, ?_⟩
                refine p_run (l' := _) _ (x_assign (v168) rfl rfl) rfl ?_
                refine wpList_nil ?_
                refine hK165 _ _ ?_
                refine wp_seq_k (fun K170 hK171 => ?_)
                refine c_region (fun ops173 hops172 => ?_)
                clear hops172
                refine p_run (l' := _) _ (x_move (.slice A157 kp.length c158) rfl rfl) rfl ?_
                refine p_run (l' := [.slice (some ad) l0.length c0, u_, q36.a, .pointer (some ⟨G22, 0, none⟩), v168, u_, .pointer (some ⟨g73, 0, none⟩), .int .i64 0, .bool (rTh (toN fs) aa), .slice A157 kp.length c158, q36.f, q36.g, q36.h, .bool true, .bool false, .slice (some ad) l0.length c0, .int .i64 (l0.length : Int), .bool false, .pointer (some ⟨G22, 0, none⟩), v28, .slice (some ad) l0.length c0, .int .i64 (l0.length : Int), .int .i64 (i : Int), .bool (decide ((i : Int) < (l0.length : Int))), .pointer (some ((ad).add (i * 5))), .agg ([.int .i64 0, .int .i64 aa, .int .i64 bi, .int .u8 (bv mk), .slice A4 kp.length c4] : List Value).toArray, .pointer (some ⟨g73, 4, none⟩), .slice A4 kp.length c4, .int .i64 (kp.length : Int), .bool (decide ((kp.length : Int) > 300)), .slice Ar ((toN fs).length) cr, .pointer (some ⟨g73, 1, none⟩), .int .i64 aa, .bool (rTh (toN fs) aa), .pointer (some ⟨g73, 0, none⟩), .int .i64 0, .bool true, .bool true, v149, .pointer (some ⟨g73, 4, none⟩), .slice A4 kp.length c4, .slice A157 kp.length c158, .pointer (some ⟨G22, 0, none⟩), .pointer (some ⟨g73, 1, none⟩), .int .i64 aa, .slice A157 kp.length c158, .tuple [].toArray, .slice Ar ((toN fs).length) cr, .pointer (some ⟨g73, 1, none⟩), .int .i64 aa, .pointer (some ⟨g73, 4, none⟩), .slice A4 kp.length c4, .string (strB kp), v168, .slice A157 kp.length c158, .int .i64 (kp.length : Int), q41.b, q41.c, q41.d, q41.e, q41.f, q41.g, q41.h, q42.a, q42.b, q42.c, q42.d, q42.e, q42.f, q42.g, q42.h, q43.a, q43.b, q43.c, q43.d, q43.e, q43.f, q43.g, q43.h, q44.a, q44.b, q44.c, q44.d, q44.e, q44.f, q44.g, q44.h, q45.a, q45.b, q45.c, q45.d, q45.e, q45.f, q45.g, q45.h, q46.a, q46.b, q46.c, q46.d, q46.e, q46.f, q46.g, q46.h, q47.a, q47.b, q47.c, q47.d, q47.e, q47.f, q47.g, q47.h, q48.a, q48.b, q48.c, q48.d, q48.e, q48.f, q48.g, q48.h, q49.a, q49.b, q49.c, q49.d, q49.e, q49.f, q49.g, q49.h, q50.a, q50.b, q50.c, q50.d, q50.e, q50.f, q50.g, q50.h, q51.a, q51.b, q51.c, q51.d, q51.e, q51.f, q51.g, q51.h, q52.a, q52.b, q52.c, q52.d, q52.e, q52.f, q52.g, q52.h, q53.a, q53.b, q53.c, q53.d, q53.e, q53.f, q53.g, q53.h, q54.a, q54.b, q54.c, q54.d, q54.e, q54.f, q54.g, q54.h, q55.a, q55.b, q55.c, q55.d, q55.e, q55.f, q55.g, q55.h, q56.a, q56.b, q56.c]) _ (x_len rfl rfl Try.underlying24) rfl ?_
                refine p_run (l' := _) _ (x_move (.int .i64 0) rfl rfl) rfl ?_
                refine wpList_nil ?_
                refine fr_at (l' := [.slice (some ad) l0.length c0, u_, q36.a, .pointer (some ⟨G22, 0, none⟩), v168, u_, .pointer (some ⟨g73, 0, none⟩), .int .i64 0, .bool (rTh (toN fs) aa), .slice A157 kp.length c158, q36.f, q36.g, q36.h, .bool true, .bool false, .slice (some ad) l0.length c0, .int .i64 (l0.length : Int), .bool false, .pointer (some ⟨G22, 0, none⟩), v28, .slice (some ad) l0.length c0, .int .i64 (l0.length : Int), .int .i64 (i : Int), .bool (decide ((i : Int) < (l0.length : Int))), .pointer (some ((ad).add (i * 5))), .agg ([.int .i64 0, .int .i64 aa, .int .i64 bi, .int .u8 (bv mk), .slice A4 kp.length c4] : List Value).toArray, .pointer (some ⟨g73, 4, none⟩), .slice A4 kp.length c4, .int .i64 (kp.length : Int), .bool (decide ((kp.length : Int) > 300)), .slice Ar ((toN fs).length) cr, .pointer (some ⟨g73, 1, none⟩), .int .i64 aa, .bool (rTh (toN fs) aa), .pointer (some ⟨g73, 0, none⟩), .int .i64 0, .bool true, .bool true, v149, .pointer (some ⟨g73, 4, none⟩), .slice A4 kp.length c4, .slice A157 kp.length c158, .pointer (some ⟨G22, 0, none⟩), .pointer (some ⟨g73, 1, none⟩), .int .i64 aa, .slice A157 kp.length c158, .tuple [].toArray, .slice Ar ((toN fs).length) cr, .pointer (some ⟨g73, 1, none⟩), .int .i64 aa, .pointer (some ⟨g73, 4, none⟩), .slice A4 kp.length c4, .string (strB kp), v168, .slice A157 kp.length c158, .int .i64 (kp.length : Int), .int .i64 0, q41.c, q41.d, q41.e, q41.f, q41.g, q41.h, q42.a, q42.b, q42.c, q42.d, q42.e, q42.f, q42.g, q42.h, q43.a, q43.b, q43.c, q43.d, q43.e, q43.f, q43.g, q43.h, q44.a, q44.b, q44.c, q44.d, q44.e, q44.f, q44.g, q44.h, q45.a, q45.b, q45.c, q45.d, q45.e, q45.f, q45.g, q45.h, q46.a, q46.b, q46.c, q46.d, q46.e, q46.f, q46.g, q46.h, q47.a, q47.b, q47.c, q47.d, q47.e, q47.f, q47.g, q47.h, q48.a, q48.b, q48.c, q48.d, q48.e, q48.f, q48.g, q48.h, q49.a, q49.b, q49.c, q49.d, q49.e, q49.f, q49.g, q49.h, q50.a, q50.b, q50.c, q50.d, q50.e, q50.f, q50.g, q50.h, q51.a, q51.b, q51.c, q51.d, q51.e, q51.f, q51.g, q51.h, q52.a, q52.b, q52.c, q52.d, q52.e, q52.f, q52.g, q52.h, q53.a, q53.b, q53.c, q53.d, q53.e, q53.f, q53.g, q53.h, q54.a, q54.b, q54.c, q54.d, q54.e, q54.f, q54.g, q54.h, q55.a, q55.b, q55.c, q55.d, q55.e, q55.f, q55.g, q55.h, q56.a, q56.b, q56.c]) rfl ?_
                refine hK171 _ _ ?_
                refine wp_block ?_
                refine c_loop (ι := Nat × List UInt8) (fun i_ a_ w_ => match i_ with | (j, ys) => ∃ (u10 : Value) (u57 : Value) (u58 : Value) (u59 : Value) (u60 : Value) (u61 : Value) (u62 : Value) (u63 : Value) (u64 : Value) (u65 : Value), a_ = fr [.slice (some ad) l0.length c0, u_, q36.a, .pointer (some ⟨G22, 0, none⟩), v168, u_, .pointer (some ⟨g73, 0, none⟩), .int .i64 0, .bool (rTh (toN fs) aa), .slice A157 kp.length c158, u10, q36.g, q36.h, .bool true, .bool false, .slice (some ad) l0.length c0, .int .i64 (l0.length : Int), .bool false, .pointer (some ⟨G22, 0, none⟩), v28, .slice (some ad) l0.length c0, .int .i64 (l0.length : Int), .int .i64 (i : Int), .bool (decide ((i : Int) < (l0.length : Int))), .pointer (some ((ad).add (i * 5))), .agg ([.int .i64 0, .int .i64 aa, .int .i64 bi, .int .u8 (bv mk), .slice A4 kp.length c4] : List Value).toArray, .pointer (some ⟨g73, 4, none⟩), .slice A4 kp.length c4, .int .i64 (kp.length : Int), .bool (decide ((kp.length : Int) > 300)), .slice Ar ((toN fs).length) cr, .pointer (some ⟨g73, 1, none⟩), .int .i64 aa, .bool (rTh (toN fs) aa), .pointer (some ⟨g73, 0, none⟩), .int .i64 0, .bool true, .bool true, v149, .pointer (some ⟨g73, 4, none⟩), .slice A4 kp.length c4, .slice A157 kp.length c158, .pointer (some ⟨G22, 0, none⟩), .pointer (some ⟨g73, 1, none⟩), .int .i64 aa, .slice A157 kp.length c158, .tuple [].toArray, .slice Ar ((toN fs).length) cr, .pointer (some ⟨g73, 1, none⟩), .int .i64 aa, .pointer (some ⟨g73, 4, none⟩), .slice A4 kp.length c4, .string (strB kp), v168, .slice A157 kp.length c158, .int .i64 (kp.length : Int), .int .i64 (j : Int), u57, u58, u59, u60, u61, u62, u63, u64, u65, q42.d, q42.e, q42.f, q42.g, q42.h, q43.a, q43.b, q43.c, q43.d, q43.e, q43.f, q43.g, q43.h, q44.a, q44.b, q44.c, q44.d, q44.e, q44.f, q44.g, q44.h, q45.a, q45.b, q45.c, q45.d, q45.e, q45.f, q45.g, q45.h, q46.a, q46.b, q46.c, q46.d, q46.e, q46.f, q46.g, q46.h, q47.a, q47.b, q47.c, q47.d, q47.e, q47.f, q47.g, q47.h, q48.a, q48.b, q48.c, q48.d, q48.e, q48.f, q48.g, q48.h, q49.a, q49.b, q49.c, q49.d, q49.e, q49.f, q49.g, q49.h, q50.a, q50.b, q50.c, q50.d, q50.e, q50.f, q50.g, q50.h, q51.a, q51.b, q51.c, q51.d, q51.e, q51.f, q51.g, q51.h, q52.a, q52.b, q52.c, q52.d, q52.e, q52.f, q52.g, q52.h, q53.a, q53.b, q53.c, q53.d, q53.e, q53.f, q53.g, q53.h, q54.a, q54.b, q54.c, q54.d, q54.e, q54.f, q54.g, q54.h, q55.a, q55.b, q55.c, q55.d, q55.e, q55.f, q55.g, q55.h, q56.a, q56.b, q56.c] ∧ St w (fun _ => False) w_ ([row kPk rfl 58 v168 (rp (toN (sendF fs aa v162 kp))), blk G22 [v161] 72, row kPk rfl 75 v161 (pk (sendF fs aa v162 kp)), allR (frs (sendF fs aa v162 kp)), row kByte rfl 5 (.slice A157 kp.length c158) ys, blk g73 [.int .i64 0, .int .i64 aa, .int .i64 bi, .int .u8 (bv mk), .slice A4 kp.length c4] 54]) ∧ (ys.length = kp.length)) (fun i_ => match i_ with | (j, ys) => kp.length - j) (0, kp) ?_ ?_
                · exact ⟨_, _, _, _, _, _, _, _, _, _, rfl, ((((((HS.front 5 rfl).front 5 rfl).front 5 rfl).front 5 rfl).front 5 rfl).front 5 rfl), rfl⟩
                · clear HS
                  rintro ⟨j, ys⟩ a_ w176 ⟨u10, u57, u58, u59, u60, u61, u62, u63, u64, u65, rfl, HS, hI⟩ J174 hJ175
                  have hys := hI
                  refine wp_seq_k (fun K177 hK178 => ?_)
                  refine c_region (fun ops180 hops179 => ?_)
                  clear hops179
                  refine p_run (l' := _) _ (x_cmp (k := .i64) (m := (j : Int)) (n := (kp.length : Int)) .lss (decide ((j : Int) < (kp.length : Int))) rfl rfl rfl rfl rfl) rfl ?_
                  refine wpList_nil ?_
                  refine hK178 _ _ ?_
                  refine wp_seq_k (fun K181 hK182 => ?_)
                  refine c_cond (t := decide ((j : Int) < (kp.length : Int))) rfl (fun hc183 => ?_) (fun hc183 => ?_)
                  · have hlj : j < kp.length := by have := of_decide_eq_true hc183; omega
                    obtain ⟨go, co, spo, hvo, -⟩ := row_bytes (HS.get (.tail _ (.tail _ (.tail _ (.tail _ (.head _)))))) (fun e => by rw [e] at hys; simp at hys; omega)
                    injection hvo with hvo
                    subst hvo
                    refine wp_skip ?_
                    refine hK182 _ _ ?_
                    refine wp_seq_k (fun K184 hK185 => ?_)
                    refine wp_block ?_
                    refine wp_seq_k (fun K186 hK187 => ?_)
                    refine c_region (fun ops189 hops188 => ?_)
                    clear hops188
                    refine p_run (l' := _) _ (x_move (.int .i64 (j : Int)) rfl rfl) rfl ?_
                    refine p_run (l' := _) _ (x_assign (.int .i64 (j : Int)) rfl rfl) rfl ?_
                    refine wpList_nil ?_
                    refine hK187 _ _ ?_
                    refine c_region (fun ops191 hops190 => ?_)
                    clear hops190
                    refine p_run (l' := _) _ (x_move (.slice (some ⟨go, 0, none⟩) kp.length c158) rfl rfl) rfl ?_
                    refine p_run (l' := _) _ (x_move (.int .i64 (j : Int)) rfl rfl) rfl ?_
                    refine p_run (l' := _) (.pointer (some ⟨go, j * 1, none⟩)) ((x_index (A := ⟨go, 0, none⟩) (j := j * 1) (sz := 1) rfl rfl rfl Try.underlying24 (by kernel_rfl) (by omega) rfl).trans (by rw [add_mk, Nat.zero_add])) rfl ?_
                    refine p_run (l' := _) _ (x_load (.int .u8 (bv (ys.getD j 0))) rfl rfl (row_cell (HS.get (.tail _ (.tail _ (.tail _ (.tail _ (.head _)))))) (by omega)) (by rfl)) rfl ?_
                    refine p_run (l' := [.slice (some ad) l0.length c0, u_, q36.a, .pointer (some ⟨G22, 0, none⟩), v168, u_, .pointer (some ⟨g73, 0, none⟩), .int .i64 0, .bool (rTh (toN fs) aa), .slice (some ⟨go, 0, none⟩) kp.length c158, .int .i64 (j : Int), q36.g, q36.h, .bool true, .bool false, .slice (some ad) l0.length c0, .int .i64 (l0.length : Int), .bool false, .pointer (some ⟨G22, 0, none⟩), v28, .slice (some ad) l0.length c0, .int .i64 (l0.length : Int), .int .i64 (i : Int), .bool (decide ((i : Int) < (l0.length : Int))), .pointer (some ((ad).add (i * 5))), .agg ([.int .i64 0, .int .i64 aa, .int .i64 bi, .int .u8 (bv mk), .slice A4 kp.length c4] : List Value).toArray, .pointer (some ⟨g73, 4, none⟩), .slice A4 kp.length c4, .int .i64 (kp.length : Int), .bool (decide ((kp.length : Int) > 300)), .slice Ar ((toN fs).length) cr, .pointer (some ⟨g73, 1, none⟩), .int .i64 aa, .bool (rTh (toN fs) aa), .pointer (some ⟨g73, 0, none⟩), .int .i64 0, .bool true, .bool true, v149, .pointer (some ⟨g73, 4, none⟩), .slice A4 kp.length c4, .slice (some ⟨go, 0, none⟩) kp.length c158, .pointer (some ⟨G22, 0, none⟩), .pointer (some ⟨g73, 1, none⟩), .int .i64 aa, .slice (some ⟨go, 0, none⟩) kp.length c158, .tuple [].toArray, .slice Ar ((toN fs).length) cr, .pointer (some ⟨g73, 1, none⟩), .int .i64 aa, .pointer (some ⟨g73, 4, none⟩), .slice A4 kp.length c4, .string (strB kp), v168, .slice (some ⟨go, 0, none⟩) kp.length c158, .int .i64 (kp.length : Int), .int .i64 (j : Int), .bool (decide ((j : Int) < (kp.length : Int))), .int .i64 (j : Int), .slice (some ⟨go, 0, none⟩) kp.length c158, .int .i64 (j : Int), .pointer (some ⟨go, j * 1, none⟩), .int .u8 (bv (ys.getD j 0)), .int .u8 (bv (byt (bv (ys.getD j 0) + 1))), u64, u65, q42.d, q42.e, q42.f, q42.g, q42.h, q43.a, q43.b, q43.c, q43.d, q43.e, q43.f, q43.g, q43.h, q44.a, q44.b, q44.c, q44.d, q44.e, q44.f, q44.g, q44.h, q45.a, q45.b, q45.c, q45.d, q45.e, q45.f, q45.g, q45.h, q46.a, q46.b, q46.c, q46.d, q46.e, q46.f, q46.g, q46.h, q47.a, q47.b, q47.c, q47.d, q47.e, q47.f, q47.g, q47.h, q48.a, q48.b, q48.c, q48.d, q48.e, q48.f, q48.g, q48.h, q49.a, q49.b, q49.c, q49.d, q49.e, q49.f, q49.g, q49.h, q50.a, q50.b, q50.c, q50.d, q50.e, q50.f, q50.g, q50.h, q51.a, q51.b, q51.c, q51.d, q51.e, q51.f, q51.g, q51.h, q52.a, q52.b, q52.c, q52.d, q52.e, q52.f, q52.g, q52.h, q53.a, q53.b, q53.c, q53.d, q53.e, q53.f, q53.g, q53.h, q54.a, q54.b, q54.c, q54.d, q54.e, q54.f, q54.g, q54.h, q55.a, q55.b, q55.c, q55.d, q55.e, q55.f, q55.g, q55.h, q56.a, q56.b, q56.c]) _ (x_arith (k := .u8) (m := (bv (ys.getD j 0))) (n := 1) .add ((bv (byt (bv (ys.getD j 0) + 1)))) rfl rfl rfl (show IntKind.u8.wrap ((bv (ys.getD j 0)) + 1) = (bv (byt (bv (ys.getD j 0) + 1))) from (conv_byt _)) rfl) rfl ?_
                    refine p_run (l' := _) (.pointer (some ⟨go, j * 1, none⟩)) ((x_index (A := ⟨go, 0, none⟩) (j := j * 1) (sz := 1) rfl rfl rfl Try.underlying24 (by kernel_rfl) (by omega) rfl).trans (by rw [add_mk, Nat.zero_add])) rfl ?_
                    replace HS := (HS.front 4 rfl)
                    refine St.rowSet HS (byt (bv (ys.getD j 0) + 1)) rfl rfl (by kernel_rfl) (by omega) ?_
                    clear HS
                    intro w192 HS
                    refine wpList_nil ?_
                    refine hK185 _ _ ?_
                    refine c_region (fun ops194 hops193 => ?_)
                    clear hops193
                    refine p_run (l' := _) _ (x_arith (k := .i64) (m := (j : Int)) (n := 1) .add (((j + 1 : Nat) : Int)) rfl rfl rfl (show IntKind.i64.wrap ((j : Int) + 1) = ((j + 1 : Nat) : Int) from ((wr64 (by omega)).trans (by omega))) rfl) rfl ?_
                    refine p_run (l' := _) _ (x_move (.int .i64 ((j + 1 : Nat) : Int)) rfl rfl) rfl ?_
                    refine wpList_nil ?_
                    refine fr_at (l' := [.slice (some ad) l0.length c0, u_, q36.a, .pointer (some ⟨G22, 0, none⟩), v168, u_, .pointer (some ⟨g73, 0, none⟩), .int .i64 0, .bool (rTh (toN fs) aa), .slice (some ⟨go, 0, none⟩) kp.length c158, .int .i64 (j : Int), q36.g, q36.h, .bool true, .bool false, .slice (some ad) l0.length c0, .int .i64 (l0.length : Int), .bool false, .pointer (some ⟨G22, 0, none⟩), v28, .slice (some ad) l0.length c0, .int .i64 (l0.length : Int), .int .i64 (i : Int), .bool (decide ((i : Int) < (l0.length : Int))), .pointer (some ((ad).add (i * 5))), .agg ([.int .i64 0, .int .i64 aa, .int .i64 bi, .int .u8 (bv mk), .slice A4 kp.length c4] : List Value).toArray, .pointer (some ⟨g73, 4, none⟩), .slice A4 kp.length c4, .int .i64 (kp.length : Int), .bool (decide ((kp.length : Int) > 300)), .slice Ar ((toN fs).length) cr, .pointer (some ⟨g73, 1, none⟩), .int .i64 aa, .bool (rTh (toN fs) aa), .pointer (some ⟨g73, 0, none⟩), .int .i64 0, .bool true, .bool true, v149, .pointer (some ⟨g73, 4, none⟩), .slice A4 kp.length c4, .slice (some ⟨go, 0, none⟩) kp.length c158, .pointer (some ⟨G22, 0, none⟩), .pointer (some ⟨g73, 1, none⟩), .int .i64 aa, .slice (some ⟨go, 0, none⟩) kp.length c158, .tuple [].toArray, .slice Ar ((toN fs).length) cr, .pointer (some ⟨g73, 1, none⟩), .int .i64 aa, .pointer (some ⟨g73, 4, none⟩), .slice A4 kp.length c4, .string (strB kp), v168, .slice (some ⟨go, 0, none⟩) kp.length c158, .int .i64 (kp.length : Int), .int .i64 ((j + 1 : Nat) : Int), .bool (decide ((j : Int) < (kp.length : Int))), .int .i64 (j : Int), .slice (some ⟨go, 0, none⟩) kp.length c158, .int .i64 (j : Int), .pointer (some ⟨go, j * 1, none⟩), .int .u8 (bv (ys.getD j 0)), .int .u8 (bv (byt (bv (ys.getD j 0) + 1))), .pointer (some ⟨go, j * 1, none⟩), .int .i64 ((j + 1 : Nat) : Int), q42.d, q42.e, q42.f, q42.g, q42.h, q43.a, q43.b, q43.c, q43.d, q43.e, q43.f, q43.g, q43.h, q44.a, q44.b, q44.c, q44.d, q44.e, q44.f, q44.g, q44.h, q45.a, q45.b, q45.c, q45.d, q45.e, q45.f, q45.g, q45.h, q46.a, q46.b, q46.c, q46.d, q46.e, q46.f, q46.g, q46.h, q47.a, q47.b, q47.c, q47.d, q47.e, q47.f, q47.g, q47.h, q48.a, q48.b, q48.c, q48.d, q48.e, q48.f, q48.g, q48.h, q49.a, q49.b, q49.c, q49.d, q49.e, q49.f, q49.g, q49.h, q50.a, q50.b, q50.c, q50.d, q50.e, q50.f, q50.g, q50.h, q51.a, q51.b, q51.c, q51.d, q51.e, q51.f, q51.g, q51.h, q52.a, q52.b, q52.c, q52.d, q52.e, q52.f, q52.g, q52.h, q53.a, q53.b, q53.c, q53.d, q53.e, q53.f, q53.g, q53.h, q54.a, q54.b, q54.c, q54.d, q54.e, q54.f, q54.g, q54.h, q55.a, q55.b, q55.c, q55.d, q55.e, q55.f, q55.g, q55.h, q56.a, q56.b, q56.c]) rfl ?_
                    refine hJ175 (j + 1, (ys.set j (byt (bv (ys.getD j 0) + 1)))) _ _ ?_ ?_
                    · show kp.length - (j + 1) < kp.length - j; omega
                    · exact ⟨_, _, _, _, _, _, _, _, _, _, rfl, ((((((HS.front 5 rfl).front 1 rfl).front 5 rfl).front 5 rfl).front 5 rfl).front 5 rfl), (by rw [List.length_set]; exact hys)⟩
                  · refine wp_exit ?_
                    exact hT98 v161 (sendF fs aa v162 kp) v168 (rTh (toN fs) aa) 0 ⟨q36.a, .slice A157 kp.length c158, u10, q36.g, q36.h, .pointer (some ⟨g73, 0, none⟩), .int .i64 0, .bool true⟩ ⟨.bool true, v149, .pointer (some ⟨g73, 4, none⟩), .slice A4 kp.length c4, .slice A157 kp.length c158, .pointer (some ⟨G22, 0, none⟩), .pointer (some ⟨g73, 1, none⟩), .int .i64 aa⟩ ⟨.slice A157 kp.length c158, .tuple [].toArray, .slice Ar ((toN fs).length) cr, .pointer (some ⟨g73, 1, none⟩), .int .i64 aa, .pointer (some ⟨g73, 4, none⟩), .slice A4 kp.length c4, .string (strB kp)⟩ ⟨v168, .slice A157 kp.length c158, .int .i64 (kp.length : Int), .int .i64 (j : Int), .bool (decide ((j : Int) < (kp.length : Int))), u58, u59, u60⟩ ⟨u61, u62, u63, u64, u65, q42.d, q42.e, q42.f⟩ ⟨q42.g, q42.h, q43.a, q43.b, q43.c, q43.d, q43.e, q43.f⟩ ⟨q43.g, q43.h, q44.a, q44.b, q44.c, q44.d, q44.e, q44.f⟩ ⟨q44.g, q44.h, q45.a, q45.b, q45.c, q45.d, q45.e, q45.f⟩ ⟨q45.g, q45.h, q46.a, q46.b, q46.c, q46.d, q46.e, q46.f⟩ ⟨q46.g, q46.h, q47.a, q47.b, q47.c, q47.d, q47.e, q47.f⟩ ⟨q47.g, q47.h, q48.a, q48.b, q48.c, q48.d, q48.e, q48.f⟩ ⟨q48.g, q48.h, q49.a, q49.b, q49.c, q49.d, q49.e, q49.f⟩ ⟨q49.g, q49.h, q50.a, q50.b, q50.c, q50.d, q50.e, q50.f⟩ ⟨q50.g, q50.h, q51.a, q51.b, q51.c, q51.d, q51.e, q51.f⟩ ⟨q51.g, q51.h, q52.a, q52.b, q52.c, q52.d, q52.e, u_⟩ _ ((((((HS.front 4 rfl).drop.front 4 rfl).front 1 rfl).front 4 rfl).front 4 rfl).front 4 rfl) ⟨ri_send hR _ _ (by omega), .inl ⟨by omega, rfl⟩⟩
              · skip
                rcases nth_split fs aa with ⟨q, rfl, tt, fv, xs, hf⟩ | hno
                · skip
                  rw [rth_in hf]
                  have hx := toN_get hf
                  have hxl := hR.2 _ (List.mem_of_getElem? hf)
                  dsimp only at hxl
                  obtain ⟨ad2, rfl⟩ := pk_some (HS.get (.head _)) (rp_get hx)
                  refine c_region (fun ops196 hops195 => ?_)
                  clear hops195
                  refine p_run (l' := _) _ (x_cmp (k := .i64) (m := 1) (n := 0) .eql false rfl rfl rfl (by decide) rfl) rfl ?_
                  refine p_run (l' := _) _ (x_assign (.bool false) rfl rfl) rfl ?_
                  refine wpList_nil ?_
                  refine hK142 _ _ ?_
                  refine c_false rfl ?_
                  refine wp_seq_k (fun K197 hK198 => ?_)
                  refine c_region (fun ops200 hops199 => ?_)
                  clear hops199
                  refine p_run (l' := _) _ (x_cmp (k := .i64) (m := 1) (n := 1) .eql true rfl rfl rfl (by decide) rfl) rfl ?_
                  refine p_run (l' := _) _ (x_assign (.bool true) rfl rfl) rfl ?_
                  refine wpList_nil ?_
                  refine hK198 _ _ ?_
                  refine c_true rfl ?_
                  refine wp_seq_k (fun K201 hK202 => ?_)
                  refine c_region (fun ops204 hops203 => ?_)
                  clear hops203
                  refine p_run (l' := _) _ (x_move (.pointer (some ⟨G22, 0, none⟩)) rfl rfl) rfl ?_
                  refine p_run (l' := _) _ (x_field (j := 1) _ _ rfl rfl Try.underlying54 rfl (by rfl) rfl) rfl ?_
                  refine p_run (l' := _) _ (x_load (.int .i64 (q : Int)) rfl rfl (bkCell (HS.get (.tail _ (.head _))) 1 _ rfl) (by rfl)) rfl ?_
                  refine w_call [.pointer (some ⟨G22, 0, none⟩), .int .i64 (q : Int)] Try.func24 (by kernel_rfl) (by rfl) rfl ?_
                  replace HS := (((HS.front 4 rfl).front 4 rfl).front 4 rfl)
                  refine (nTake_yes (i := q) HS hf (by have := hR.1; omega)).mono ?_
                  clear HS
                  rintro e w206 ⟨v205, rfl, HS⟩
                  obtain ⟨A207, c208, hv209, hcp210, -⟩ := row_reads (HS.get (.head _))
                  subst hv209
                  refine ⟨_, rfl, ?_⟩
                  refine fr_to (l' := [.slice (some ad) l0.length c0, u_, q36.a, .pointer (some ⟨G22, 0, none⟩), .slice (some ad2) ((toN fs).length) cr, u_, .pointer (some ⟨g73, 0, none⟩), .int .i64 0, .bool true, q36.e, q36.f, q36.g, q36.h, .bool true, .bool false, .slice (some ad) l0.length c0, .int .i64 (l0.length : Int), .bool false, .pointer (some ⟨G22, 0, none⟩), v28, .slice (some ad) l0.length c0, .int .i64 (l0.length : Int), .int .i64 (i : Int), .bool (decide ((i : Int) < (l0.length : Int))), .pointer (some ((ad).add (i * 5))), .agg ([.int .i64 1, .int .i64 (q : Int), .int .i64 bi, .int .u8 (bv mk), .slice A4 kp.length c4] : List Value).toArray, .pointer (some ⟨g73, 4, none⟩), .slice A4 kp.length c4, .int .i64 (kp.length : Int), .bool (decide ((kp.length : Int) > 300)), .slice (some ad2) ((toN fs).length) cr, .pointer (some ⟨g73, 1, none⟩), .int .i64 (q : Int), .bool true, .pointer (some ⟨g73, 0, none⟩), .int .i64 1, .bool false, .bool false, q38.h, q39.a, q39.b, q39.c, q39.d, q39.e, q39.f, q39.g, q39.h, q40.a, q40.b, q40.c, q40.d, q40.e, q40.f, q40.g, q40.h, q41.a, q41.b, q41.c, q41.d, q41.e, q41.f, q41.g, q41.h, q42.a, q42.b, q42.c, .bool true, .bool true, q42.f, .pointer (some ⟨G22, 0, none⟩), .pointer (some ⟨g73, 1, none⟩), .int .i64 (q : Int), .tuple [.slice A207 xs.length c208, .int .i64 0].toArray, q43.c, q43.d, q43.e, q43.f, q43.g, q43.h, q44.a, q44.b, q44.c, q44.d, q44.e, q44.f, q44.g, q44.h, q45.a, q45.b, q45.c, q45.d, q45.e, q45.f, q45.g, q45.h, q46.a, q46.b, q46.c, q46.d, q46.e, q46.f, q46.g, q46.h, q47.a, q47.b, q47.c, q47.d, q47.e, q47.f, q47.g, q47.h, q48.a, q48.b, q48.c, q48.d, q48.e, q48.f, q48.g, q48.h, q49.a, q49.b, q49.c, q49.d, q49.e, q49.f, q49.g, q49.h, q50.a, q50.b, q50.c, q50.d, q50.e, q50.f, q50.g, q50.h, q51.a, q51.b, q51.c, q51.d, q51.e, q51.f, q51.g, q51.h, q52.a, q52.b, q52.c, q52.d, q52.e, q52.f, q52.g, q52.h, q53.a, q53.b, q53.c, q53.d, q53.e, q53.f, q53.g, q53.h, q54.a, q54.b, q54.c, q54.d, q54.e, q54.f, q54.g, q54.h, q55.a, q55.b, q55.c, q55.d, q55.e, q55.f, q55.g, q55.h, q56.a, q56.b, q56.c]) rfl ?_
                  refine p_run (l' := _) _ (x_move (.tuple [.slice A207 xs.length c208, .int .i64 0].toArray) rfl rfl) rfl ?_
                  refine p_run (l' := _) _ (x_extract (vs := [.slice A207 xs.length c208, .int .i64 0]) 0 (.slice A207 xs.length c208) rfl rfl rfl) rfl ?_
                  refine p_run (l' := _) _ (x_extract (vs := [.slice A207 xs.length c208, .int .i64 0]) 1 (.int .i64 0) rfl rfl rfl) rfl ?_
                  refine p_run (l' := _) _ (x_assign (.slice A207 xs.length c208) rfl rfl) rfl ?_
                  refine p_run (l' := _) _ (x_assign (.int .i64 0) rfl rfl) rfl ?_
                  refine wpList_nil ?_
                  refine hK202 _ _ ?_
                  refine wp_seq_k (fun K211 hK212 => ?_)
                  refine c_region (fun ops214 hops213 => ?_)
                  clear hops213
                  refine p_run (l' := _) _ (x_move (.int .i64 0) rfl rfl) rfl ?_
                  refine p_run (l' := _) _ (x_assign (.int .i64 0) rfl rfl) rfl ?_
                  refine wpList_nil ?_
                  refine fr_at (l' := [.slice (some ad) l0.length c0, u_, q36.a, .pointer (some ⟨G22, 0, none⟩), .slice (some ad2) ((toN fs).length) cr, u_, .pointer (some ⟨g73, 0, none⟩), .int .i64 0, .bool true, q36.e, q36.f, .slice A207 xs.length c208, .int .i64 0, .bool true, .bool false, .slice (some ad) l0.length c0, .int .i64 (l0.length : Int), .bool false, .pointer (some ⟨G22, 0, none⟩), v28, .slice (some ad) l0.length c0, .int .i64 (l0.length : Int), .int .i64 (i : Int), .bool (decide ((i : Int) < (l0.length : Int))), .pointer (some ((ad).add (i * 5))), .agg ([.int .i64 1, .int .i64 (q : Int), .int .i64 bi, .int .u8 (bv mk), .slice A4 kp.length c4] : List Value).toArray, .pointer (some ⟨g73, 4, none⟩), .slice A4 kp.length c4, .int .i64 (kp.length : Int), .bool (decide ((kp.length : Int) > 300)), .slice (some ad2) ((toN fs).length) cr, .pointer (some ⟨g73, 1, none⟩), .int .i64 (q : Int), .bool true, .pointer (some ⟨g73, 0, none⟩), .int .i64 1, .bool false, .bool false, q38.h, q39.a, q39.b, q39.c, q39.d, q39.e, q39.f, q39.g, q39.h, q40.a, q40.b, q40.c, q40.d, q40.e, q40.f, q40.g, q40.h, q41.a, q41.b, q41.c, q41.d, q41.e, q41.f, q41.g, q41.h, q42.a, q42.b, q42.c, .bool true, .bool true, .tuple [.slice A207 xs.length c208, .int .i64 0].toArray, .pointer (some ⟨G22, 0, none⟩), .pointer (some ⟨g73, 1, none⟩), .int .i64 (q : Int), .tuple [.slice A207 xs.length c208, .int .i64 0].toArray, .slice A207 xs.length c208, .int .i64 0, .int .i64 0, q43.f, q43.g, q43.h, q44.a, q44.b, q44.c, q44.d, q44.e, q44.f, q44.g, q44.h, q45.a, q45.b, q45.c, q45.d, q45.e, q45.f, q45.g, q45.h, q46.a, q46.b, q46.c, q46.d, q46.e, q46.f, q46.g, q46.h, q47.a, q47.b, q47.c, q47.d, q47.e, q47.f, q47.g, q47.h, q48.a, q48.b, q48.c, q48.d, q48.e, q48.f, q48.g, q48.h, q49.a, q49.b, q49.c, q49.d, q49.e, q49.f, q49.g, q49.h, q50.a, q50.b, q50.c, q50.d, q50.e, q50.f, q50.g, q50.h, q51.a, q51.b, q51.c, q51.d, q51.e, q51.f, q51.g, q51.h, q52.a, q52.b, q52.c, q52.d, q52.e, q52.f, q52.g, q52.h, q53.a, q53.b, q53.c, q53.d, q53.e, q53.f, q53.g, q53.h, q54.a, q54.b, q54.c, q54.d, q54.e, q54.f, q54.g, q54.h, q55.a, q55.b, q55.c, q55.d, q55.e, q55.f, q55.g, q55.h, q56.a, q56.b, q56.c]) rfl ?_
                  refine hK212 _ _ ?_
                  refine wp_seq_k (fun K215 hK216 => ?_)
                  refine wp_seq_k (fun K217 hK218 => ?_)
                  refine free_frame (n := 21) (T := _) [0, 1, 3, 7, 3, 3, 35, 115, 243, 499, 1023, 2047, 4095, 8191, 16383, 32767, 65535, 131071, 262143, 524287, 1048575] [(0, 76), (1, 77), (2, 78), (3, 79), (4, 80), (5, 81), (6, 82), (7, 83), (8, 84), (9, 85), (10, 86), (11, 87), (12, 88), (13, 89), (14, 90), (15, 91), (16, 92), (17, 93), (18, 94), (19, 95), (20, 96)] (fun bq_ vq_ w_ => qv ((fun i_ => match i_ with | 0 => some (.bool true) | 1 => some (.bool true) | 2 => some (.slice A207 xs.length c208) | 3 => some (.string (strB xs)) | 4 => some (.slice (some ad2) ((toN fs).length) cr) | 5 => some (.pointer (some ⟨g73, 1, none⟩)) | 6 => some (.int .i64 (q : Int)) | 7 => some (.pointer (some ((ad2).add (q * 2)))) | 8 => some (.pointer (some (((ad2).add (q * 2)).add 1))) | 9 => some (.string (strB xs)) | 10 => some (.bool false) | 11 => some (.bool false) | 12 => some (.bool false) | 13 => some (.bool true) | 14 => some (.bool false) | 15 => some (.bool false) | 16 => some (u_) | 17 => some (u_) | 18 => some (u_) | 19 => some (.bool false) | 20 => some (.bool false) | _ => none) : Nat → Option Value) bq_ vq_ ∧ (St w (fun _ => False) w_ ([row kByte rfl 5 (.slice A207 xs.length c208) xs, blk G22 [v205] 72, row kPk rfl 75 v205 (pk (fs.eraseIdx q)), allR (frs (fs.eraseIdx q)), row kPk rfl 58 (.slice (some ad2) ((toN fs).length) cr) (rp (toN fs)), blk g73 [.int .i64 1, .int .i64 (q : Int), .int .i64 bi, .int .u8 (bv mk), .slice A4 kp.length c4] 54]))) (by kernel_rfl) rfl rfl (by kernel_rfl) (by kernel_rfl) rfl (by kernel_rfl) (by kernel_rfl) ⟨qv_none, HS.draw⟩ ?_ ?_
                  · clear HS
                    intro i_ hi_ bq_ vq_ a_ w_ hG hb_ hon hoff hfr hel hval
                    obtain ⟨hV, hE⟩ := hG
                    have hi_ := List.mem_range.1 hi_
                    obtain ⟨l_, rfl⟩ := hfr
                    have hv_ := fun (j t : Nat) (v : Value) (h1 : (j, t) ∈ [(0, 76), (1, 77), (2, 78), (3, 79), (4, 80), (5, 81), (6, 82), (7, 83), (8, 84), (9, 85), (10, 86), (11, 87), (12, 88), (13, 89), (14, 90), (15, 91), (16, 92), (17, 93), (18, 94), (19, 95), (20, 96)]) h2 h3 => (hval (j, t) h1 h3).trans (congrArg some (hV j v h2 h3))
                    have hcs : i_ = 0 ∨ i_ = 1 ∨ i_ = 2 ∨ i_ = 3 ∨ i_ = 4 ∨ i_ = 5 ∨ i_ = 6 ∨ i_ = 7 ∨ i_ = 8 ∨ i_ = 9 ∨ i_ = 10 ∨ i_ = 11 ∨ i_ = 12 ∨ i_ = 13 ∨ i_ = 14 ∨ i_ = 15 ∨ i_ = 16 ∨ i_ = 17 ∨ i_ = 18 ∨ i_ = 19 ∨ i_ = 20 := by omega
                    rcases hcs with rfl | rfl | rfl | rfl | rfl | rfl | rfl | rfl | rfl | rfl | rfl | rfl | rfl | rfl | rfl | rfl | rfl | rfl | rfl | rfl | rfl
                    · have e8 : evl l_ (.tmp 8) = .bool true := evl_of ((hel 8 (by decide)).trans rfl)
                      exact ⟨_, rfl, fun K_ hK_ => q_op _ (x_move (.bool true) rfl e8) (hK_ _ _ ⟨qv_up hV (fun _ h => Option.some.inj h), hE⟩)⟩
                    · have e76 : evl l_ (.tmp 76) = .bool true := evl_of (hv_ 0 76 _ (by decide) rfl (hon 0 (by decide)))
                      exact ⟨_, rfl, fun K_ hK_ => q_op _ (x_move (.bool true) rfl e76) (hK_ _ _ ⟨qv_up hV (fun _ h => Option.some.inj h), hE⟩)⟩
                    · have h77 : (fr l_).tmps[77]? = some (.bool true) := hv_ 1 77 _ (by decide) rfl (hon 1 (by decide))
                      have e11 : evl l_ (.tmp 11) = .slice A207 xs.length c208 := evl_of ((hel 11 (by decide)).trans rfl)
                      have e77 : evl l_ (.tmp 77) = .bool true := evl_of h77
                      exact ⟨_, rfl, fun K_ hK_ => q_opG (wanted_on (t := 77) rfl rfl rfl h77) _ (x_move (.slice A207 xs.length c208) rfl e11) (hK_ _ _ ⟨qv_up hV (fun _ h => Option.some.inj h), hE⟩)⟩
                    · have h77 : (fr l_).tmps[77]? = some (.bool true) := hv_ 1 77 _ (by decide) rfl (hon 1 (by decide))
                      have hE0 := hE
                      have HS := hE0
                      have e77 : evl l_ (.tmp 77) = .bool true := evl_of h77
                      have e78 : evl l_ (.tmp 78) = .slice A207 xs.length c208 := evl_of (hv_ 2 78 _ (by decide) rfl (hon 2 (by decide)))
                      exact ⟨_, rfl, fun K_ hK_ => q_opG (wanted_on (t := 77) rfl rfl rfl h77) _ (x_str (xs := xs) (row_rd (HS.get (.head _))).2.2 (by first | rfl | simp) rfl e78) (hK_ _ _ ⟨qv_up hV (fun _ h => Option.some.inj h), hE⟩)⟩
                    · have h77 : (fr l_).tmps[77]? = some (.bool true) := hv_ 1 77 _ (by decide) rfl (hon 1 (by decide))
                      have e4 : evl l_ (.tmp 4) = .slice (some ad2) ((toN fs).length) cr := evl_of ((hel 4 (by decide)).trans rfl)
                      have e77 : evl l_ (.tmp 77) = .bool true := evl_of h77
                      exact ⟨_, rfl, fun K_ hK_ => q_opG (wanted_on (t := 77) rfl rfl rfl h77) _ (x_move (.slice (some ad2) ((toN fs).length) cr) rfl e4) (hK_ _ _ ⟨qv_up hV (fun _ h => Option.some.inj h), hE⟩)⟩
                    · have h77 : (fr l_).tmps[77]? = some (.bool true) := hv_ 1 77 _ (by decide) rfl (hon 1 (by decide))
                      have e6 : evl l_ (.tmp 6) = .pointer (some ⟨g73, 0, none⟩) := evl_of ((hel 6 (by decide)).trans rfl)
                      have e77 : evl l_ (.tmp 77) = .bool true := evl_of h77
                      exact ⟨_, rfl, fun K_ hK_ => q_opG (wanted_on (t := 77) rfl rfl rfl h77) _ (x_field (j := 1) _ _ rfl e6 Try.underlying54 rfl (by rfl) rfl) (hK_ _ _ ⟨qv_up hV (fun _ h => Option.some.inj h), hE⟩)⟩
                    · have h77 : (fr l_).tmps[77]? = some (.bool true) := hv_ 1 77 _ (by decide) rfl (hon 1 (by decide))
                      have hE0 := hE
                      have HS := hE0
                      have e77 : evl l_ (.tmp 77) = .bool true := evl_of h77
                      have e81 : evl l_ (.tmp 81) = .pointer (some ⟨g73, 1, none⟩) := evl_of (hv_ 5 81 _ (by decide) rfl (hon 5 (by decide)))
                      exact ⟨_, rfl, fun K_ hK_ => q_opG (wanted_on (t := 77) rfl rfl rfl h77) _ (x_load (.int .i64 (q : Int)) rfl e81 (bkCell (HS.get (.tail _ (.tail _ (.tail _ (.tail _ (.tail _ (.head _))))))) 1 _ rfl) (by rfl)) (hK_ _ _ ⟨qv_up hV (fun _ h => Option.some.inj h), hE⟩)⟩
                    · have h77 : (fr l_).tmps[77]? = some (.bool true) := hv_ 1 77 _ (by decide) rfl (hon 1 (by decide))
                      have e77 : evl l_ (.tmp 77) = .bool true := evl_of h77
                      have e80 : evl l_ (.tmp 80) = .slice (some ad2) ((toN fs).length) cr := evl_of (hv_ 4 80 _ (by decide) rfl (hon 4 (by decide)))
                      have e82 : evl l_ (.tmp 82) = .int .i64 (q : Int) := evl_of (hv_ 6 82 _ (by decide) rfl (hon 6 (by decide)))
                      exact ⟨_, rfl, fun K_ hK_ => q_opG (wanted_on (t := 77) rfl rfl rfl h77) _ (x_index (A := ad2) (j := q * 2) (sz := 2) rfl e80 e82 Try.underlying52 (by kernel_rfl) (by have := (List.getElem?_eq_some_iff.1 hx).1; omega) rfl) (hK_ _ _ ⟨qv_up hV (fun _ h => Option.some.inj h), hE⟩)⟩
                    · have h77 : (fr l_).tmps[77]? = some (.bool true) := hv_ 1 77 _ (by decide) rfl (hon 1 (by decide))
                      have e77 : evl l_ (.tmp 77) = .bool true := evl_of h77
                      have e83 : evl l_ (.tmp 83) = .pointer (some ((ad2).add (q * 2))) := evl_of (hv_ 7 83 _ (by decide) rfl (hon 7 (by decide)))
                      exact ⟨_, rfl, fun K_ hK_ => q_opG (wanted_on (t := 77) rfl rfl rfl h77) _ (x_fieldA _ _ rfl e83 Try.underlying58 rfl (by rfl)) (hK_ _ _ ⟨qv_up hV (fun _ h => Option.some.inj h), hE⟩)⟩
                    · have h77 : (fr l_).tmps[77]? = some (.bool true) := hv_ 1 77 _ (by decide) rfl (hon 1 (by decide))
                      have hE0 := hE
                      have HS := hE0
                      have e77 : evl l_ (.tmp 77) = .bool true := evl_of h77
                      have e84 : evl l_ (.tmp 84) = .pointer (some (((ad2).add (q * 2)).add 1)) := evl_of (hv_ 8 84 _ (by decide) rfl (hon 8 (by decide)))
                      exact ⟨_, rfl, fun K_ hK_ => q_opG (wanted_on (t := 77) rfl rfl rfl h77) _ (x_load (.string (strB xs)) rfl e84 (pk_c1 (HS.get (.tail _ (.tail _ (.tail _ (.tail _ (.head _)))))) (rp_get hx)) (by rfl)) (hK_ _ _ ⟨qv_up hV (fun _ h => Option.some.inj h), hE⟩)⟩
                    · have h77 : (fr l_).tmps[77]? = some (.bool true) := hv_ 1 77 _ (by decide) rfl (hon 1 (by decide))
                      have e77 : evl l_ (.tmp 77) = .bool true := evl_of h77
                      have e79 : evl l_ (.tmp 79) = .string (strB xs) := evl_of (hv_ 3 79 _ (by decide) rfl (hon 3 (by decide)))
                      have e85 : evl l_ (.tmp 85) = .string (strB xs) := evl_of (hv_ 9 85 _ (by decide) rfl (hon 9 (by decide)))
                      exact ⟨_, rfl, fun K_ hK_ => q_opG (wanted_on (t := 77) rfl rfl rfl h77) _ (x_streq .neq (strB xs) (strB xs) false rfl e79 e85 (str_no rfl) rfl) (hK_ _ _ ⟨qv_up hV (fun _ h => Option.some.inj h), hE⟩)⟩
                    · have e77 : evl l_ (.tmp 77) = .bool true := evl_of (hv_ 1 77 _ (by decide) rfl (hon 1 (by decide)))
                      have e86 : evl l_ (.tmp 86) = .bool false := evl_of (hv_ 10 86 _ (by decide) rfl (hon 10 (by decide)))
                      exact ⟨_, rfl, fun K_ hK_ => q_op _ (x_pick true (.bool false) (.bool false) (.bool false) rfl e77 e86 rfl rfl) (hK_ _ _ ⟨qv_up hV (fun _ h => Option.some.inj h), hE⟩)⟩
                    · have e87 : evl l_ (.tmp 87) = .bool false := evl_of (hv_ 11 87 _ (by decide) rfl (hon 11 (by decide)))
                      exact ⟨_, rfl, fun K_ hK_ => q_op _ (x_move (.bool false) rfl e87) (hK_ _ _ ⟨qv_up hV (fun _ h => Option.some.inj h), hE⟩)⟩
                    · have h88 : (fr l_).tmps[88]? = some (.bool false) := hv_ 12 88 _ (by decide) rfl (hon 12 (by decide))
                      have e8 : evl l_ (.tmp 8) = .bool true := evl_of ((hel 8 (by decide)).trans rfl)
                      have e88 : evl l_ (.tmp 88) = .bool false := evl_of h88
                      exact ⟨_, rfl, fun K_ hK_ => q_opG (wanted_on (t := 88) rfl rfl rfl h88) _ (x_move (.bool true) rfl e8) (hK_ _ _ ⟨qv_up hV (fun _ h => Option.some.inj h), hE⟩)⟩
                    · have h88 : (fr l_).tmps[88]? = some (.bool false) := hv_ 12 88 _ (by decide) rfl (hon 12 (by decide))
                      have e88 : evl l_ (.tmp 88) = .bool false := evl_of h88
                      have e89 : evl l_ (.tmp 89) = .bool true := evl_of (hv_ 13 89 _ (by decide) rfl (hon 13 (by decide)))
                      exact ⟨_, rfl, fun K_ hK_ => q_opG (wanted_on (t := 88) rfl rfl rfl h88) _ (x_not true rfl e89) (hK_ _ _ ⟨qv_up hV (fun _ h => Option.some.inj h), hE⟩)⟩
                    · have h88 : (fr l_).tmps[88]? = some (.bool false) := hv_ 12 88 _ (by decide) rfl (hon 12 (by decide))
                      have e88 : evl l_ (.tmp 88) = .bool false := evl_of h88
                      have e90 : evl l_ (.tmp 90) = .bool false := evl_of (hv_ 14 90 _ (by decide) rfl (hon 14 (by decide)))
                      exact ⟨_, rfl, fun K_ hK_ => q_opG (wanted_on (t := 88) rfl rfl rfl h88) _ (x_move (.bool false) rfl e90) (hK_ _ _ ⟨qv_up hV (fun _ h => Option.some.inj h), hE⟩)⟩
                    · have h91 : (fr l_).tmps[91]? = some (.bool false) := hv_ 15 91 _ (by decide) rfl (hon 15 (by decide))
                      exact ⟨_, rfl, fun K_ hK_ => wp_offG (wanted_off (t := 91) rfl rfl rfl h91) (hK_ undef _ ⟨qv_up hV (fun _ h => Option.some.inj h), hE⟩)⟩
                    · have h91 : (fr l_).tmps[91]? = some (.bool false) := hv_ 15 91 _ (by decide) rfl (hon 15 (by decide))
                      exact ⟨_, rfl, fun K_ hK_ => wp_offG (wanted_off (t := 91) rfl rfl rfl h91) (hK_ undef _ ⟨qv_up hV (fun _ h => Option.some.inj h), hE⟩)⟩
                    · have h91 : (fr l_).tmps[91]? = some (.bool false) := hv_ 15 91 _ (by decide) rfl (hon 15 (by decide))
                      exact ⟨_, rfl, fun K_ hK_ => wp_offG (wanted_off (t := 91) rfl rfl rfl h91) (hK_ undef _ ⟨qv_up hV (fun _ h => Option.some.inj h), hE⟩)⟩
                    · have h88 : (fr l_).tmps[88]? = some (.bool false) := hv_ 12 88 _ (by decide) rfl (hon 12 (by decide))
                      have e88 : evl l_ (.tmp 88) = .bool false := evl_of h88
                      have e91 : evl l_ (.tmp 91) = .bool false := evl_of (hv_ 15 91 _ (by decide) rfl (hon 15 (by decide)))
                      have e94 : evl l_ (.tmp 94) = u_ := evl_of (hv_ 18 94 _ (by decide) rfl (hon 18 (by decide)))
                      exact ⟨_, rfl, fun K_ hK_ => q_opG (wanted_on (t := 88) rfl rfl rfl h88) _ (x_pick false (u_) (.bool false) (.bool false) rfl e91 e94 rfl rfl) (hK_ _ _ ⟨qv_up hV (fun _ h => Option.some.inj h), hE⟩)⟩
                    · have e88 : evl l_ (.tmp 88) = .bool false := evl_of (hv_ 12 88 _ (by decide) rfl (hon 12 (by decide)))
                      have e95 : evl l_ (.tmp 95) = .bool false := evl_of (hv_ 19 95 _ (by decide) rfl (hon 19 (by decide)))
                      exact ⟨_, rfl, fun K_ hK_ => q_op _ (x_pick false (.bool true) (.bool false) (.bool false) rfl e88 rfl e95 rfl) (hK_ _ _ ⟨qv_up hV (fun _ h => Option.some.inj h), hE⟩)⟩
                  intro bq_ vq_ w_ hall hG
                  obtain ⟨hV, hE⟩ := hG
                  clear HS
                  have HS := hE
                  have hv0 := hV 0 _ rfl (hall 0 (by decide))
                  have hv1 := hV 1 _ rfl (hall 1 (by decide))
                  have hv2 := hV 2 _ rfl (hall 2 (by decide))
                  have hv3 := hV 3 _ rfl (hall 3 (by decide))
                  have hv4 := hV 4 _ rfl (hall 4 (by decide))
                  have hv5 := hV 5 _ rfl (hall 5 (by decide))
                  have hv6 := hV 6 _ rfl (hall 6 (by decide))
                  have hv7 := hV 7 _ rfl (hall 7 (by decide))
                  have hv8 := hV 8 _ rfl (hall 8 (by decide))
                  have hv9 := hV 9 _ rfl (hall 9 (by decide))
                  have hv10 := hV 10 _ rfl (hall 10 (by decide))
                  have hv11 := hV 11 _ rfl (hall 11 (by decide))
                  have hv12 := hV 12 _ rfl (hall 12 (by decide))
                  have hv13 := hV 13 _ rfl (hall 13 (by decide))
                  have hv14 := hV 14 _ rfl (hall 14 (by decide))
                  have hv15 := hV 15 _ rfl (hall 15 (by decide))
                  have hv16 := hV 16 _ rfl (hall 16 (by decide))
                  have hv17 := hV 17 _ rfl (hall 17 (by decide))
                  have hv18 := hV 18 _ rfl (hall 18 (by decide))
                  have hv19 := hV 19 _ rfl (hall 19 (by decide))
                  have hv20 := hV 20 _ rfl (hall 20 (by decide))
                  clear hV hall
                  rw [putSel_fr]
                  simp only [tells, List.map_cons, List.map_nil, setAll, List.set_cons_succ, List.set_cons_zero, hv0, hv1, hv2, hv3, hv4, hv5, hv6, hv7, hv8, hv9, hv10, hv11, hv12, hv13, hv14, hv15, hv16, hv17, hv18, hv19, hv20]
                  clear hv0 hv1 hv2 hv3 hv4 hv5 hv6 hv7 hv8 hv9 hv10 hv11 hv12 hv13 hv14 hv15 hv16 hv17 hv18 hv19 hv20
                  generalize w_ = w900901 at HS ⊢
                  refine fr_at (l' := [.slice (some ad) l0.length c0, u_, q36.a, .pointer (some ⟨G22, 0, none⟩), .slice (some ad2) ((toN fs).length) cr, u_, .pointer (some ⟨g73, 0, none⟩), .int .i64 0, .bool true, q36.e, q36.f, .slice A207 xs.length c208, .int .i64 0, .bool true, .bool false, .slice (some ad) l0.length c0, .int .i64 (l0.length : Int), .bool false, .pointer (some ⟨G22, 0, none⟩), v28, .slice (some ad) l0.length c0, .int .i64 (l0.length : Int), .int .i64 (i : Int), .bool (decide ((i : Int) < (l0.length : Int))), .pointer (some ((ad).add (i * 5))), .agg ([.int .i64 1, .int .i64 (q : Int), .int .i64 bi, .int .u8 (bv mk), .slice A4 kp.length c4] : List Value).toArray, .pointer (some ⟨g73, 4, none⟩), .slice A4 kp.length c4, .int .i64 (kp.length : Int), .bool (decide ((kp.length : Int) > 300)), .slice (some ad2) ((toN fs).length) cr, .pointer (some ⟨g73, 1, none⟩), .int .i64 (q : Int), .bool true, .pointer (some ⟨g73, 0, none⟩), .int .i64 1, .bool false, .bool false, q38.h, q39.a, q39.b, q39.c, q39.d, q39.e, q39.f, q39.g, q39.h, q40.a, q40.b, q40.c, q40.d, q40.e, q40.f, q40.g, q40.h, q41.a, q41.b, q41.c, q41.d, q41.e, q41.f, q41.g, q41.h, q42.a, q42.b, q42.c, .bool true, .bool true, .tuple [.slice A207 xs.length c208, .int .i64 0].toArray, .pointer (some ⟨G22, 0, none⟩), .pointer (some ⟨g73, 1, none⟩), .int .i64 (q : Int), .tuple [.slice A207 xs.length c208, .int .i64 0].toArray, .slice A207 xs.length c208, .int .i64 0, .int .i64 0, .bool true, .bool true, .slice A207 xs.length c208, .string (strB xs), .slice (some ad2) ((toN fs).length) cr, .pointer (some ⟨g73, 1, none⟩), .int .i64 (q : Int), .pointer (some ((ad2).add (q * 2))), .pointer (some (((ad2).add (q * 2)).add 1)), .string (strB xs), .bool false, .bool false, .bool false, .bool true, .bool false, .bool false, u_, u_, u_, .bool false, .bool false, q46.c, q46.d, q46.e, q46.f, q46.g, q46.h, q47.a, q47.b, q47.c, q47.d, q47.e, q47.f, q47.g, q47.h, q48.a, q48.b, q48.c, q48.d, q48.e, q48.f, q48.g, q48.h, q49.a, q49.b, q49.c, q49.d, q49.e, q49.f, q49.g, q49.h, q50.a, q50.b, q50.c, q50.d, q50.e, q50.f, q50.g, q50.h, q51.a, q51.b, q51.c, q51.d, q51.e, q51.f, q51.g, q51.h, q52.a, q52.b, q52.c, q52.d, q52.e, q52.f, q52.g, q52.h, q53.a, q53.b, q53.c, q53.d, q53.e, q53.f, q53.g, q53.h, q54.a, q54.b, q54.c, q54.d, q54.e, q54.f, q54.g, q54.h, q55.a, q55.b, q55.c, q55.d, q55.e, q55.f, q55.g, q55.h, q56.a, q56.b, q56.c]) rfl ?_
                  refine hK218 _ _ ?_
                  refine c_false rfl ?_
                  refine wp_skip ?_
                  refine hK216 _ _ ?_
                  refine c_region (fun ops900903 hops900902 => ?_)
                  clear hops900902
                  refine p_run (l' := _) _ (x_move (.slice (some ad2) ((toN fs).length) cr) rfl rfl) rfl ?_
                  refine p_run (l' := _) _ (x_field (j := 1) _ _ rfl rfl Try.underlying54 rfl (by rfl) rfl) rfl ?_
                  refine p_run (l' := _) _ (x_load (.int .i64 (q : Int)) rfl rfl (bkCell (HS.get (.tail _ (.tail _ (.tail _ (.tail _ (.tail _ (.head _))))))) 1 _ rfl) (by rfl)) rfl ?_
                  refine w_call [.slice (some ad2) ((toN fs).length) cr, .int .i64 (q : Int)] Try.func33 (by kernel_rfl) (by rfl) rfl ?_
                  replace HS := (HS.front 4 rfl)
                  refine (rWout_any HS (q : Int) (by rw [toN_length]; have := hR.1; omega)).mono ?_
                  clear HS
                  rintro e w900905 ⟨v900904, rfl, HS⟩
                  rw [wout_in hf] at HS
                  refine ⟨_, rfl, ?_⟩
                  refine p_run (l' := _) _ (x_assign (v900904) rfl rfl) rfl ?_
                  refine wpList_nil ?_
                  refine fr_at (l' := [.slice (some ad) l0.length c0, u_, q36.a, .pointer (some ⟨G22, 0, none⟩), v900904, u_, .pointer (some ⟨g73, 0, none⟩), .int .i64 0, .bool true, q36.e, q36.f, .slice A207 xs.length c208, .int .i64 0, .bool true, .bool false, .slice (some ad) l0.length c0, .int .i64 (l0.length : Int), .bool false, .pointer (some ⟨G22, 0, none⟩), v28, .slice (some ad) l0.length c0, .int .i64 (l0.length : Int), .int .i64 (i : Int), .bool (decide ((i : Int) < (l0.length : Int))), .pointer (some ((ad).add (i * 5))), .agg ([.int .i64 1, .int .i64 (q : Int), .int .i64 bi, .int .u8 (bv mk), .slice A4 kp.length c4] : List Value).toArray, .pointer (some ⟨g73, 4, none⟩), .slice A4 kp.length c4, .int .i64 (kp.length : Int), .bool (decide ((kp.length : Int) > 300)), .slice (some ad2) ((toN fs).length) cr, .pointer (some ⟨g73, 1, none⟩), .int .i64 (q : Int), .bool true, .pointer (some ⟨g73, 0, none⟩), .int .i64 1, .bool false, .bool false, q38.h, q39.a, q39.b, q39.c, q39.d, q39.e, q39.f, q39.g, q39.h, q40.a, q40.b, q40.c, q40.d, q40.e, q40.f, q40.g, q40.h, q41.a, q41.b, q41.c, q41.d, q41.e, q41.f, q41.g, q41.h, q42.a, q42.b, q42.c, .bool true, .bool true, .tuple [.slice A207 xs.length c208, .int .i64 0].toArray, .pointer (some ⟨G22, 0, none⟩), .pointer (some ⟨g73, 1, none⟩), .int .i64 (q : Int), .tuple [.slice A207 xs.length c208, .int .i64 0].toArray, .slice A207 xs.length c208, .int .i64 0, .int .i64 0, .bool true, .bool true, .slice A207 xs.length c208, .string (strB xs), .slice (some ad2) ((toN fs).length) cr, .pointer (some ⟨g73, 1, none⟩), .int .i64 (q : Int), .pointer (some ((ad2).add (q * 2))), .pointer (some (((ad2).add (q * 2)).add 1)), .string (strB xs), .bool false, .bool false, .bool false, .bool true, .bool false, .bool false, u_, u_, u_, .bool false, .bool false, .slice (some ad2) ((toN fs).length) cr, .pointer (some ⟨g73, 1, none⟩), .int .i64 (q : Int), v900904, q46.g, q46.h, q47.a, q47.b, q47.c, q47.d, q47.e, q47.f, q47.g, q47.h, q48.a, q48.b, q48.c, q48.d, q48.e, q48.f, q48.g, q48.h, q49.a, q49.b, q49.c, q49.d, q49.e, q49.f, q49.g, q49.h, q50.a, q50.b, q50.c, q50.d, q50.e, q50.f, q50.g, q50.h, q51.a, q51.b, q51.c, q51.d, q51.e, q51.f, q51.g, q51.h, q52.a, q52.b, q52.c, q52.d, q52.e, q52.f, q52.g, q52.h, q53.a, q53.b, q53.c, q53.d, q53.e, q53.f, q53.g, q53.h, q54.a, q54.b, q54.c, q54.d, q54.e, q54.f, q54.g, q54.h, q55.a, q55.b, q55.c, q55.d, q55.e, q55.f, q55.g, q55.h, q56.a, q56.b, q56.c]) rfl ?_
                  exact hT98 v205 (fs.eraseIdx q) v900904 true 0 ⟨q36.a, q36.e, q36.f, .slice A207 xs.length c208, .int .i64 0, .pointer (some ⟨g73, 0, none⟩), .int .i64 1, .bool false⟩ ⟨.bool false, q38.h, q39.a, q39.b, q39.c, q39.d, q39.e, q39.f⟩ ⟨q39.g, q39.h, q40.a, q40.b, q40.c, q40.d, q40.e, q40.f⟩ ⟨q40.g, q40.h, q41.a, q41.b, q41.c, q41.d, q41.e, q41.f⟩ ⟨q41.g, q41.h, q42.a, q42.b, q42.c, .bool true, .bool true, .tuple [.slice A207 xs.length c208, .int .i64 0].toArray⟩ ⟨.pointer (some ⟨G22, 0, none⟩), .pointer (some ⟨g73, 1, none⟩), .int .i64 (q : Int), .tuple [.slice A207 xs.length c208, .int .i64 0].toArray, .slice A207 xs.length c208, .int .i64 0, .int .i64 0, .bool true⟩ ⟨.bool true, .slice A207 xs.length c208, .string (strB xs), .slice (some ad2) ((toN fs).length) cr, .pointer (some ⟨g73, 1, none⟩), .int .i64 (q : Int), .pointer (some ((ad2).add (q * 2))), .pointer (some (((ad2).add (q * 2)).add 1))⟩ ⟨.string (strB xs), .bool false, .bool false, .bool false, .bool true, .bool false, .bool false, u_⟩ ⟨u_, u_, .bool false, .bool false, .slice (some ad2) ((toN fs).length) cr, .pointer (some ⟨g73, 1, none⟩), .int .i64 (q : Int), v900904⟩ ⟨q46.g, q46.h, q47.a, q47.b, q47.c, q47.d, q47.e, q47.f⟩ ⟨q47.g, q47.h, q48.a, q48.b, q48.c, q48.d, q48.e, q48.f⟩ ⟨q48.g, q48.h, q49.a, q49.b, q49.c, q49.d, q49.e, q49.f⟩ ⟨q49.g, q49.h, q50.a, q50.b, q50.c, q50.d, q50.e, q50.f⟩ ⟨q50.g, q50.h, q51.a, q51.b, q51.c, q51.d, q51.e, q51.f⟩ ⟨q51.g, q51.h, q52.a, q52.b, q52.c, q52.d, q52.e, u_⟩ _ ((((((HS.front 1 rfl).drop.front 4 rfl).front 1 rfl).front 4 rfl).front 4 rfl).front 4 rfl) ⟨ri_erase hR _, .inr (.inr (.inl ⟨by omega, rfl, rfl⟩))⟩
                · skip
                  rw [rth_no hno]
                  refine c_region (fun ops900907 hops900906 => ?_)
                  clear hops900906
                  refine p_run (l' := _) _ (x_cmp (k := .i64) (m := 1) (n := 0) .eql false rfl rfl rfl (by decide) rfl) rfl ?_
                  refine p_run (l' := _) _ (x_assign (.bool false) rfl rfl) rfl ?_
                  refine wpList_nil ?_
                  refine hK142 _ _ ?_
                  refine c_false rfl ?_
                  refine wp_seq_k (fun K900908 hK900909 => ?_)
                  refine c_region (fun ops900911 hops900910 => ?_)
                  clear hops900910
                  refine p_run (l' := _) _ (x_cmp (k := .i64) (m := 1) (n := 1) .eql true rfl rfl rfl (by decide) rfl) rfl ?_
                  refine p_run (l' := _) _ (x_assign (.bool true) rfl rfl) rfl ?_
                  refine wpList_nil ?_
                  refine hK900909 _ _ ?_
                  refine c_true rfl ?_
                  refine wp_seq_k (fun K900912 hK900913 => ?_)
                  refine c_region (fun ops900915 hops900914 => ?_)
                  clear hops900914
                  refine p_run (l' := _) _ (x_move (.pointer (some ⟨G22, 0, none⟩)) rfl rfl) rfl ?_
                  refine p_run (l' := _) _ (x_field (j := 1) _ _ rfl rfl Try.underlying54 rfl (by rfl) rfl) rfl ?_
                  refine p_run (l' := _) _ (x_load (.int .i64 aa) rfl rfl (bkCell (HS.get (.tail _ (.head _))) 1 _ rfl) (by rfl)) rfl ?_
                  refine w_call [.pointer (some ⟨G22, 0, none⟩), .int .i64 aa] Try.func24 (by kernel_rfl) (by rfl) rfl ?_
                  replace HS := (((HS.front 4 rfl).front 4 rfl).front 4 rfl)
                  refine (nTake_no HS aa hno).mono ?_
                  rintro e w' ⟨rfl, rfl⟩
                  refine ⟨_, rfl, ?_⟩
                  refine fr_to (l' := [.slice (some ad) l0.length c0, u_, q36.a, .pointer (some ⟨G22, 0, none⟩), .slice Ar ((toN fs).length) cr, u_, .pointer (some ⟨g73, 0, none⟩), .int .i64 0, .bool false, q36.e, q36.f, q36.g, q36.h, .bool true, .bool false, .slice (some ad) l0.length c0, .int .i64 (l0.length : Int), .bool false, .pointer (some ⟨G22, 0, none⟩), v28, .slice (some ad) l0.length c0, .int .i64 (l0.length : Int), .int .i64 (i : Int), .bool (decide ((i : Int) < (l0.length : Int))), .pointer (some ((ad).add (i * 5))), .agg ([.int .i64 1, .int .i64 aa, .int .i64 bi, .int .u8 (bv mk), .slice A4 kp.length c4] : List Value).toArray, .pointer (some ⟨g73, 4, none⟩), .slice A4 kp.length c4, .int .i64 (kp.length : Int), .bool (decide ((kp.length : Int) > 300)), .slice Ar ((toN fs).length) cr, .pointer (some ⟨g73, 1, none⟩), .int .i64 aa, .bool false, .pointer (some ⟨g73, 0, none⟩), .int .i64 1, .bool false, .bool false, q38.h, q39.a, q39.b, q39.c, q39.d, q39.e, q39.f, q39.g, q39.h, q40.a, q40.b, q40.c, q40.d, q40.e, q40.f, q40.g, q40.h, q41.a, q41.b, q41.c, q41.d, q41.e, q41.f, q41.g, q41.h, q42.a, q42.b, q42.c, .bool true, .bool true, q42.f, .pointer (some ⟨G22, 0, none⟩), .pointer (some ⟨g73, 1, none⟩), .int .i64 aa, .tuple [.slice none 0 0, .int .i64 191].toArray, q43.c, q43.d, q43.e, q43.f, q43.g, q43.h, q44.a, q44.b, q44.c, q44.d, q44.e, q44.f, q44.g, q44.h, q45.a, q45.b, q45.c, q45.d, q45.e, q45.f, q45.g, q45.h, q46.a, q46.b, q46.c, q46.d, q46.e, q46.f, q46.g, q46.h, q47.a, q47.b, q47.c, q47.d, q47.e, q47.f, q47.g, q47.h, q48.a, q48.b, q48.c, q48.d, q48.e, q48.f, q48.g, q48.h, q49.a, q49.b, q49.c, q49.d, q49.e, q49.f, q49.g, q49.h, q50.a, q50.b, q50.c, q50.d, q50.e, q50.f, q50.g, q50.h, q51.a, q51.b, q51.c, q51.d, q51.e, q51.f, q51.g, q51.h, q52.a, q52.b, q52.c, q52.d, q52.e, q52.f, q52.g, q52.h, q53.a, q53.b, q53.c, q53.d, q53.e, q53.f, q53.g, q53.h, q54.a, q54.b, q54.c, q54.d, q54.e, q54.f, q54.g, q54.h, q55.a, q55.b, q55.c, q55.d, q55.e, q55.f, q55.g, q55.h, q56.a, q56.b, q56.c]) rfl ?_
                  refine p_run (l' := _) _ (x_move (.tuple [.slice none 0 0, .int .i64 191].toArray) rfl rfl) rfl ?_
                  refine p_run (l' := _) _ (x_extract (vs := [.slice none 0 0, .int .i64 191]) 0 (.slice none 0 0) rfl rfl rfl) rfl ?_
                  refine p_run (l' := _) _ (x_extract (vs := [.slice none 0 0, .int .i64 191]) 1 (.int .i64 191) rfl rfl rfl) rfl ?_
                  refine p_run (l' := _) _ (x_assign (.slice none 0 0) rfl rfl) rfl ?_
                  refine p_run (l' := _) _ (x_assign (.int .i64 191) rfl rfl) rfl ?_
                  refine wpList_nil ?_
                  refine hK900913 _ _ ?_
                  refine wp_seq_k (fun K900916 hK900917 => ?_)
                  refine c_region (fun ops900919 hops900918 => ?_)
                  clear hops900918
                  refine p_run (l' := _) _ (x_move (.int .i64 191) rfl rfl) rfl ?_
                  refine p_run (l' := _) _ (x_assign (.int .i64 191) rfl rfl) rfl ?_
                  refine wpList_nil ?_
                  refine fr_at (l' := [.slice (some ad) l0.length c0, u_, q36.a, .pointer (some ⟨G22, 0, none⟩), .slice Ar ((toN fs).length) cr, u_, .pointer (some ⟨g73, 0, none⟩), .int .i64 191, .bool false, q36.e, q36.f, .slice none 0 0, .int .i64 191, .bool true, .bool false, .slice (some ad) l0.length c0, .int .i64 (l0.length : Int), .bool false, .pointer (some ⟨G22, 0, none⟩), v28, .slice (some ad) l0.length c0, .int .i64 (l0.length : Int), .int .i64 (i : Int), .bool (decide ((i : Int) < (l0.length : Int))), .pointer (some ((ad).add (i * 5))), .agg ([.int .i64 1, .int .i64 aa, .int .i64 bi, .int .u8 (bv mk), .slice A4 kp.length c4] : List Value).toArray, .pointer (some ⟨g73, 4, none⟩), .slice A4 kp.length c4, .int .i64 (kp.length : Int), .bool (decide ((kp.length : Int) > 300)), .slice Ar ((toN fs).length) cr, .pointer (some ⟨g73, 1, none⟩), .int .i64 aa, .bool false, .pointer (some ⟨g73, 0, none⟩), .int .i64 1, .bool false, .bool false, q38.h, q39.a, q39.b, q39.c, q39.d, q39.e, q39.f, q39.g, q39.h, q40.a, q40.b, q40.c, q40.d, q40.e, q40.f, q40.g, q40.h, q41.a, q41.b, q41.c, q41.d, q41.e, q41.f, q41.g, q41.h, q42.a, q42.b, q42.c, .bool true, .bool true, .tuple [.slice none 0 0, .int .i64 191].toArray, .pointer (some ⟨G22, 0, none⟩), .pointer (some ⟨g73, 1, none⟩), .int .i64 aa, .tuple [.slice none 0 0, .int .i64 191].toArray, .slice none 0 0, .int .i64 191, .int .i64 191, q43.f, q43.g, q43.h, q44.a, q44.b, q44.c, q44.d, q44.e, q44.f, q44.g, q44.h, q45.a, q45.b, q45.c, q45.d, q45.e, q45.f, q45.g, q45.h, q46.a, q46.b, q46.c, q46.d, q46.e, q46.f, q46.g, q46.h, q47.a, q47.b, q47.c, q47.d, q47.e, q47.f, q47.g, q47.h, q48.a, q48.b, q48.c, q48.d, q48.e, q48.f, q48.g, q48.h, q49.a, q49.b, q49.c, q49.d, q49.e, q49.f, q49.g, q49.h, q50.a, q50.b, q50.c, q50.d, q50.e, q50.f, q50.g, q50.h, q51.a, q51.b, q51.c, q51.d, q51.e, q51.f, q51.g, q51.h, q52.a, q52.b, q52.c, q52.d, q52.e, q52.f, q52.g, q52.h, q53.a, q53.b, q53.c, q53.d, q53.e, q53.f, q53.g, q53.h, q54.a, q54.b, q54.c, q54.d, q54.e, q54.f, q54.g, q54.h, q55.a, q55.b, q55.c, q55.d, q55.e, q55.f, q55.g, q55.h, q56.a, q56.b, q56.c]) rfl ?_
                  refine hK900917 _ _ ?_
                  refine wp_seq_k (fun K900920 hK900921 => ?_)
                  refine wp_seq_k (fun K900922 hK900923 => ?_)
                  refine free_frame (n := 21) (T := _) [0, 1, 3, 7, 3, 3, 35, 115, 243, 499, 1023, 2047, 4095, 8191, 16383, 32767, 65535, 131071, 262143, 524287, 1048575] [(0, 76), (1, 77), (2, 78), (3, 79), (4, 80), (5, 81), (6, 82), (7, 83), (8, 84), (9, 85), (10, 86), (11, 87), (12, 88), (13, 89), (14, 90), (15, 91), (16, 92), (17, 93), (18, 94), (19, 95), (20, 96)] (fun bq_ vq_ w_ => qv ((fun i_ => match i_ with | 0 => some (.bool false) | 1 => some (.bool false) | 2 => some (u_) | 3 => some (u_) | 4 => some (u_) | 5 => some (u_) | 6 => some (u_) | 7 => some (u_) | 8 => some (u_) | 9 => some (u_) | 10 => some (u_) | 11 => some (.bool false) | 12 => some (.bool false) | 13 => some (.bool false) | 14 => some (.bool true) | 15 => some (.bool true) | 16 => some (.slice none 0 0) | 17 => some (.int .i64 0) | 18 => some (.bool false) | 19 => some (.bool false) | 20 => some (.bool false) | _ => none) : Nat → Option Value) bq_ vq_ ∧ (St w (fun _ => False) w_ ([blk G22 [v] 72, row kPk rfl 75 v (pk fs), allR (frs fs), row kPk rfl 58 (.slice Ar ((toN fs).length) cr) (rp (toN fs)), blk g73 [.int .i64 1, .int .i64 aa, .int .i64 bi, .int .u8 (bv mk), .slice A4 kp.length c4] 54]))) (by kernel_rfl) rfl rfl (by kernel_rfl) (by kernel_rfl) rfl (by kernel_rfl) (by kernel_rfl) ⟨qv_none, HS.draw⟩ ?_ ?_
                  · clear HS
                    intro i_ hi_ bq_ vq_ a_ w_ hG hb_ hon hoff hfr hel hval
                    obtain ⟨hV, hE⟩ := hG
                    have hi_ := List.mem_range.1 hi_
                    obtain ⟨l_, rfl⟩ := hfr
                    have hv_ := fun (j t : Nat) (v : Value) (h1 : (j, t) ∈ [(0, 76), (1, 77), (2, 78), (3, 79), (4, 80), (5, 81), (6, 82), (7, 83), (8, 84), (9, 85), (10, 86), (11, 87), (12, 88), (13, 89), (14, 90), (15, 91), (16, 92), (17, 93), (18, 94), (19, 95), (20, 96)]) h2 h3 => (hval (j, t) h1 h3).trans (congrArg some (hV j v h2 h3))
                    have hcs : i_ = 0 ∨ i_ = 1 ∨ i_ = 2 ∨ i_ = 3 ∨ i_ = 4 ∨ i_ = 5 ∨ i_ = 6 ∨ i_ = 7 ∨ i_ = 8 ∨ i_ = 9 ∨ i_ = 10 ∨ i_ = 11 ∨ i_ = 12 ∨ i_ = 13 ∨ i_ = 14 ∨ i_ = 15 ∨ i_ = 16 ∨ i_ = 17 ∨ i_ = 18 ∨ i_ = 19 ∨ i_ = 20 := by omega
                    rcases hcs with rfl | rfl | rfl | rfl | rfl | rfl | rfl | rfl | rfl | rfl | rfl | rfl | rfl | rfl | rfl | rfl | rfl | rfl | rfl | rfl | rfl
                    · have e8 : evl l_ (.tmp 8) = .bool false := evl_of ((hel 8 (by decide)).trans rfl)
                      exact ⟨_, rfl, fun K_ hK_ => q_op _ (x_move (.bool false) rfl e8) (hK_ _ _ ⟨qv_up hV (fun _ h => Option.some.inj h), hE⟩)⟩
                    · have e76 : evl l_ (.tmp 76) = .bool false := evl_of (hv_ 0 76 _ (by decide) rfl (hon 0 (by decide)))
                      exact ⟨_, rfl, fun K_ hK_ => q_op _ (x_move (.bool false) rfl e76) (hK_ _ _ ⟨qv_up hV (fun _ h => Option.some.inj h), hE⟩)⟩
                    · have h77 : (fr l_).tmps[77]? = some (.bool false) := hv_ 1 77 _ (by decide) rfl (hon 1 (by decide))
                      exact ⟨_, rfl, fun K_ hK_ => wp_offG (wanted_off (t := 77) rfl rfl rfl h77) (hK_ undef _ ⟨qv_up hV (fun _ h => Option.some.inj h), hE⟩)⟩
                    · have h77 : (fr l_).tmps[77]? = some (.bool false) := hv_ 1 77 _ (by decide) rfl (hon 1 (by decide))
                      exact ⟨_, rfl, fun K_ hK_ => wp_offG (wanted_off (t := 77) rfl rfl rfl h77) (hK_ undef _ ⟨qv_up hV (fun _ h => Option.some.inj h), hE⟩)⟩
                    · have h77 : (fr l_).tmps[77]? = some (.bool false) := hv_ 1 77 _ (by decide) rfl (hon 1 (by decide))
                      exact ⟨_, rfl, fun K_ hK_ => wp_offG (wanted_off (t := 77) rfl rfl rfl h77) (hK_ undef _ ⟨qv_up hV (fun _ h => Option.some.inj h), hE⟩)⟩
                    · have h77 : (fr l_).tmps[77]? = some (.bool false) := hv_ 1 77 _ (by decide) rfl (hon 1 (by decide))
                      exact ⟨_, rfl, fun K_ hK_ => wp_offG (wanted_off (t := 77) rfl rfl rfl h77) (hK_ undef _ ⟨qv_up hV (fun _ h => Option.some.inj h), hE⟩)⟩
                    · have h77 : (fr l_).tmps[77]? = some (.bool false) := hv_ 1 77 _ (by decide) rfl (hon 1 (by decide))
                      exact ⟨_, rfl, fun K_ hK_ => wp_offG (wanted_off (t := 77) rfl rfl rfl h77) (hK_ undef _ ⟨qv_up hV (fun _ h => Option.some.inj h), hE⟩)⟩
                    · have h77 : (fr l_).tmps[77]? = some (.bool false) := hv_ 1 77 _ (by decide) rfl (hon 1 (by decide))
                      exact ⟨_, rfl, fun K_ hK_ => wp_offG (wanted_off (t := 77) rfl rfl rfl h77) (hK_ undef _ ⟨qv_up hV (fun _ h => Option.some.inj h), hE⟩)⟩
                    · have h77 : (fr l_).tmps[77]? = some (.bool false) := hv_ 1 77 _ (by decide) rfl (hon 1 (by decide))
                      exact ⟨_, rfl, fun K_ hK_ => wp_offG (wanted_off (t := 77) rfl rfl rfl h77) (hK_ undef _ ⟨qv_up hV (fun _ h => Option.some.inj h), hE⟩)⟩
                    · have h77 : (fr l_).tmps[77]? = some (.bool false) := hv_ 1 77 _ (by decide) rfl (hon 1 (by decide))
                      exact ⟨_, rfl, fun K_ hK_ => wp_offG (wanted_off (t := 77) rfl rfl rfl h77) (hK_ undef _ ⟨qv_up hV (fun _ h => Option.some.inj h), hE⟩)⟩
                    · have h77 : (fr l_).tmps[77]? = some (.bool false) := hv_ 1 77 _ (by decide) rfl (hon 1 (by decide))
                      exact ⟨_, rfl, fun K_ hK_ => wp_offG (wanted_off (t := 77) rfl rfl rfl h77) (hK_ undef _ ⟨qv_up hV (fun _ h => Option.some.inj h), hE⟩)⟩
                    · have e77 : evl l_ (.tmp 77) = .bool false := evl_of (hv_ 1 77 _ (by decide) rfl (hon 1 (by decide)))
                      have e86 : evl l_ (.tmp 86) = u_ := evl_of (hv_ 10 86 _ (by decide) rfl (hon 10 (by decide)))
                      exact ⟨_, rfl, fun K_ hK_ => q_op _ (x_pick false (u_) (.bool false) (.bool false) rfl e77 e86 rfl rfl) (hK_ _ _ ⟨qv_up hV (fun _ h => Option.some.inj h), hE⟩)⟩
                    · have e87 : evl l_ (.tmp 87) = .bool false := evl_of (hv_ 11 87 _ (by decide) rfl (hon 11 (by decide)))
                      exact ⟨_, rfl, fun K_ hK_ => q_op _ (x_move (.bool false) rfl e87) (hK_ _ _ ⟨qv_up hV (fun _ h => Option.some.inj h), hE⟩)⟩
                    · have h88 : (fr l_).tmps[88]? = some (.bool false) := hv_ 12 88 _ (by decide) rfl (hon 12 (by decide))
                      have e8 : evl l_ (.tmp 8) = .bool false := evl_of ((hel 8 (by decide)).trans rfl)
                      have e88 : evl l_ (.tmp 88) = .bool false := evl_of h88
                      exact ⟨_, rfl, fun K_ hK_ => q_opG (wanted_on (t := 88) rfl rfl rfl h88) _ (x_move (.bool false) rfl e8) (hK_ _ _ ⟨qv_up hV (fun _ h => Option.some.inj h), hE⟩)⟩
                    · have h88 : (fr l_).tmps[88]? = some (.bool false) := hv_ 12 88 _ (by decide) rfl (hon 12 (by decide))
                      have e88 : evl l_ (.tmp 88) = .bool false := evl_of h88
                      have e89 : evl l_ (.tmp 89) = .bool false := evl_of (hv_ 13 89 _ (by decide) rfl (hon 13 (by decide)))
                      exact ⟨_, rfl, fun K_ hK_ => q_opG (wanted_on (t := 88) rfl rfl rfl h88) _ (x_not false rfl e89) (hK_ _ _ ⟨qv_up hV (fun _ h => Option.some.inj h), hE⟩)⟩
                    · have h88 : (fr l_).tmps[88]? = some (.bool false) := hv_ 12 88 _ (by decide) rfl (hon 12 (by decide))
                      have e88 : evl l_ (.tmp 88) = .bool false := evl_of h88
                      have e90 : evl l_ (.tmp 90) = .bool true := evl_of (hv_ 14 90 _ (by decide) rfl (hon 14 (by decide)))
                      exact ⟨_, rfl, fun K_ hK_ => q_opG (wanted_on (t := 88) rfl rfl rfl h88) _ (x_move (.bool true) rfl e90) (hK_ _ _ ⟨qv_up hV (fun _ h => Option.some.inj h), hE⟩)⟩
                    · have h91 : (fr l_).tmps[91]? = some (.bool true) := hv_ 15 91 _ (by decide) rfl (hon 15 (by decide))
                      have e11 : evl l_ (.tmp 11) = .slice none 0 0 := evl_of ((hel 11 (by decide)).trans rfl)
                      have e91 : evl l_ (.tmp 91) = .bool true := evl_of h91
                      exact ⟨_, rfl, fun K_ hK_ => q_opG (wanted_on (t := 91) rfl rfl rfl h91) _ (x_move (.slice none 0 0) rfl e11) (hK_ _ _ ⟨qv_up hV (fun _ h => Option.some.inj h), hE⟩)⟩
                    · have h91 : (fr l_).tmps[91]? = some (.bool true) := hv_ 15 91 _ (by decide) rfl (hon 15 (by decide))
                      have hE0 := hE
                      have HS := hE0
                      have e91 : evl l_ (.tmp 91) = .bool true := evl_of h91
                      have e92 : evl l_ (.tmp 92) = .slice none 0 0 := evl_of (hv_ 16 92 _ (by decide) rfl (hon 16 (by decide)))
                      exact ⟨_, rfl, fun K_ hK_ => q_opG (wanted_on (t := 91) rfl rfl rfl h91) _ (x_len rfl e92 Try.underlying24) (hK_ _ _ ⟨qv_up hV (fun _ h => Option.some.inj h), hE⟩)⟩
                    · have h91 : (fr l_).tmps[91]? = some (.bool true) := hv_ 15 91 _ (by decide) rfl (hon 15 (by decide))
                      have e91 : evl l_ (.tmp 91) = .bool true := evl_of h91
                      have e93 : evl l_ (.tmp 93) = .int .i64 0 := evl_of (hv_ 17 93 _ (by decide) rfl (hon 17 (by decide)))
                      exact ⟨_, rfl, fun K_ hK_ => q_opG (wanted_on (t := 91) rfl rfl rfl h91) _ (x_cmp (k := .i64) (m := 0) (n := 0) .neq false rfl e93 rfl (by decide) rfl) (hK_ _ _ ⟨qv_up hV (fun _ h => Option.some.inj h), hE⟩)⟩
                    · have h88 : (fr l_).tmps[88]? = some (.bool false) := hv_ 12 88 _ (by decide) rfl (hon 12 (by decide))
                      have e88 : evl l_ (.tmp 88) = .bool false := evl_of h88
                      have e91 : evl l_ (.tmp 91) = .bool true := evl_of (hv_ 15 91 _ (by decide) rfl (hon 15 (by decide)))
                      have e94 : evl l_ (.tmp 94) = .bool false := evl_of (hv_ 18 94 _ (by decide) rfl (hon 18 (by decide)))
                      exact ⟨_, rfl, fun K_ hK_ => q_opG (wanted_on (t := 88) rfl rfl rfl h88) _ (x_pick true (.bool false) (.bool false) (.bool false) rfl e91 e94 rfl rfl) (hK_ _ _ ⟨qv_up hV (fun _ h => Option.some.inj h), hE⟩)⟩
                    · have e88 : evl l_ (.tmp 88) = .bool false := evl_of (hv_ 12 88 _ (by decide) rfl (hon 12 (by decide)))
                      have e95 : evl l_ (.tmp 95) = .bool false := evl_of (hv_ 19 95 _ (by decide) rfl (hon 19 (by decide)))
                      exact ⟨_, rfl, fun K_ hK_ => q_op _ (x_pick false (.bool true) (.bool false) (.bool false) rfl e88 rfl e95 rfl) (hK_ _ _ ⟨qv_up hV (fun _ h => Option.some.inj h), hE⟩)⟩
                  intro bq_ vq_ w_ hall hG
                  obtain ⟨hV, hE⟩ := hG
                  clear HS
                  have HS := hE
                  have hv0 := hV 0 _ rfl (hall 0 (by decide))
                  have hv1 := hV 1 _ rfl (hall 1 (by decide))
                  have hv2 := hV 2 _ rfl (hall 2 (by decide))
                  have hv3 := hV 3 _ rfl (hall 3 (by decide))
                  have hv4 := hV 4 _ rfl (hall 4 (by decide))
                  have hv5 := hV 5 _ rfl (hall 5 (by decide))
                  have hv6 := hV 6 _ rfl (hall 6 (by decide))
                  have hv7 := hV 7 _ rfl (hall 7 (by decide))
                  have hv8 := hV 8 _ rfl (hall 8 (by decide))
                  have hv9 := hV 9 _ rfl (hall 9 (by decide))
                  have hv10 := hV 10 _ rfl (hall 10 (by decide))
                  have hv11 := hV 11 _ rfl (hall 11 (by decide))
                  have hv12 := hV 12 _ rfl (hall 12 (by decide))
                  have hv13 := hV 13 _ rfl (hall 13 (by decide))
                  have hv14 := hV 14 _ rfl (hall 14 (by decide))
                  have hv15 := hV 15 _ rfl (hall 15 (by decide))
                  have hv16 := hV 16 _ rfl (hall 16 (by decide))
                  have hv17 := hV 17 _ rfl (hall 17 (by decide))
                  have hv18 := hV 18 _ rfl (hall 18 (by decide))
                  have hv19 := hV 19 _ rfl (hall 19 (by decide))
                  have hv20 := hV 20 _ rfl (hall 20 (by decide))
                  clear hV hall
                  rw [putSel_fr]
                  simp only [tells, List.map_cons, List.map_nil, setAll, List.set_cons_succ, List.set_cons_zero, hv0, hv1, hv2, hv3, hv4, hv5, hv6, hv7, hv8, hv9, hv10, hv11, hv12, hv13, hv14, hv15, hv16, hv17, hv18, hv19, hv20]
                  clear hv0 hv1 hv2 hv3 hv4 hv5 hv6 hv7 hv8 hv9 hv10 hv11 hv12 hv13 hv14 hv15 hv16 hv17 hv18 hv19 hv20
                  generalize w_ = w901701 at HS ⊢
                  refine fr_at (l' := [.slice (some ad) l0.length c0, u_, q36.a, .pointer (some ⟨G22, 0, none⟩), .slice Ar ((toN fs).length) cr, u_, .pointer (some ⟨g73, 0, none⟩), .int .i64 191, .bool false, q36.e, q36.f, .slice none 0 0, .int .i64 191, .bool true, .bool false, .slice (some ad) l0.length c0, .int .i64 (l0.length : Int), .bool false, .pointer (some ⟨G22, 0, none⟩), v28, .slice (some ad) l0.length c0, .int .i64 (l0.length : Int), .int .i64 (i : Int), .bool (decide ((i : Int) < (l0.length : Int))), .pointer (some ((ad).add (i * 5))), .agg ([.int .i64 1, .int .i64 aa, .int .i64 bi, .int .u8 (bv mk), .slice A4 kp.length c4] : List Value).toArray, .pointer (some ⟨g73, 4, none⟩), .slice A4 kp.length c4, .int .i64 (kp.length : Int), .bool (decide ((kp.length : Int) > 300)), .slice Ar ((toN fs).length) cr, .pointer (some ⟨g73, 1, none⟩), .int .i64 aa, .bool false, .pointer (some ⟨g73, 0, none⟩), .int .i64 1, .bool false, .bool false, q38.h, q39.a, q39.b, q39.c, q39.d, q39.e, q39.f, q39.g, q39.h, q40.a, q40.b, q40.c, q40.d, q40.e, q40.f, q40.g, q40.h, q41.a, q41.b, q41.c, q41.d, q41.e, q41.f, q41.g, q41.h, q42.a, q42.b, q42.c, .bool true, .bool true, .tuple [.slice none 0 0, .int .i64 191].toArray, .pointer (some ⟨G22, 0, none⟩), .pointer (some ⟨g73, 1, none⟩), .int .i64 aa, .tuple [.slice none 0 0, .int .i64 191].toArray, .slice none 0 0, .int .i64 191, .int .i64 191, .bool false, .bool false, u_, u_, u_, u_, u_, u_, u_, u_, u_, .bool false, .bool false, .bool false, .bool true, .bool true, .slice none 0 0, .int .i64 0, .bool false, .bool false, .bool false, q46.c, q46.d, q46.e, q46.f, q46.g, q46.h, q47.a, q47.b, q47.c, q47.d, q47.e, q47.f, q47.g, q47.h, q48.a, q48.b, q48.c, q48.d, q48.e, q48.f, q48.g, q48.h, q49.a, q49.b, q49.c, q49.d, q49.e, q49.f, q49.g, q49.h, q50.a, q50.b, q50.c, q50.d, q50.e, q50.f, q50.g, q50.h, q51.a, q51.b, q51.c, q51.d, q51.e, q51.f, q51.g, q51.h, q52.a, q52.b, q52.c, q52.d, q52.e, q52.f, q52.g, q52.h, q53.a, q53.b, q53.c, q53.d, q53.e, q53.f, q53.g, q53.h, q54.a, q54.b, q54.c, q54.d, q54.e, q54.f, q54.g, q54.h, q55.a, q55.b, q55.c, q55.d, q55.e, q55.f, q55.g, q55.h, q56.a, q56.b, q56.c]) rfl ?_
                  refine hK900923 _ _ ?_
                  refine c_false rfl ?_
                  refine wp_skip ?_
                  refine hK900921 _ _ ?_
                  refine c_region (fun ops901703 hops901702 => ?_)
                  clear hops901702
                  refine p_run (l' := _) _ (x_move (.slice Ar ((toN fs).length) cr) rfl rfl) rfl ?_
                  refine p_run (l' := _) _ (x_field (j := 1) _ _ rfl rfl Try.underlying54 rfl (by rfl) rfl) rfl ?_
                  refine p_run (l' := _) _ (x_load (.int .i64 aa) rfl rfl (bkCell (HS.get (.tail _ (.tail _ (.tail _ (.tail _ (.head _)))))) 1 _ rfl) (by rfl)) rfl ?_
                  refine w_call [.slice Ar ((toN fs).length) cr, .int .i64 aa] Try.func33 (by kernel_rfl) (by rfl) rfl ?_
                  replace HS := (HS.front 3 rfl)
                  refine (rWout_any HS aa (by rw [toN_length]; have := hR.1; omega)).mono ?_
                  clear HS
                  rintro e w901705 ⟨v901704, rfl, HS⟩
                  rw [wout_no hno] at HS
                  refine ⟨_, rfl, ?_⟩
                  refine p_run (l' := _) _ (x_assign (v901704) rfl rfl) rfl ?_
                  refine wpList_nil ?_
                  refine fr_at (l' := [.slice (some ad) l0.length c0, u_, q36.a, .pointer (some ⟨G22, 0, none⟩), v901704, u_, .pointer (some ⟨g73, 0, none⟩), .int .i64 191, .bool false, q36.e, q36.f, .slice none 0 0, .int .i64 191, .bool true, .bool false, .slice (some ad) l0.length c0, .int .i64 (l0.length : Int), .bool false, .pointer (some ⟨G22, 0, none⟩), v28, .slice (some ad) l0.length c0, .int .i64 (l0.length : Int), .int .i64 (i : Int), .bool (decide ((i : Int) < (l0.length : Int))), .pointer (some ((ad).add (i * 5))), .agg ([.int .i64 1, .int .i64 aa, .int .i64 bi, .int .u8 (bv mk), .slice A4 kp.length c4] : List Value).toArray, .pointer (some ⟨g73, 4, none⟩), .slice A4 kp.length c4, .int .i64 (kp.length : Int), .bool (decide ((kp.length : Int) > 300)), .slice Ar ((toN fs).length) cr, .pointer (some ⟨g73, 1, none⟩), .int .i64 aa, .bool false, .pointer (some ⟨g73, 0, none⟩), .int .i64 1, .bool false, .bool false, q38.h, q39.a, q39.b, q39.c, q39.d, q39.e, q39.f, q39.g, q39.h, q40.a, q40.b, q40.c, q40.d, q40.e, q40.f, q40.g, q40.h, q41.a, q41.b, q41.c, q41.d, q41.e, q41.f, q41.g, q41.h, q42.a, q42.b, q42.c, .bool true, .bool true, .tuple [.slice none 0 0, .int .i64 191].toArray, .pointer (some ⟨G22, 0, none⟩), .pointer (some ⟨g73, 1, none⟩), .int .i64 aa, .tuple [.slice none 0 0, .int .i64 191].toArray, .slice none 0 0, .int .i64 191, .int .i64 191, .bool false, .bool false, u_, u_, u_, u_, u_, u_, u_, u_, u_, .bool false, .bool false, .bool false, .bool true, .bool true, .slice none 0 0, .int .i64 0, .bool false, .bool false, .bool false, .slice Ar ((toN fs).length) cr, .pointer (some ⟨g73, 1, none⟩), .int .i64 aa, v901704, q46.g, q46.h, q47.a, q47.b, q47.c, q47.d, q47.e, q47.f, q47.g, q47.h, q48.a, q48.b, q48.c, q48.d, q48.e, q48.f, q48.g, q48.h, q49.a, q49.b, q49.c, q49.d, q49.e, q49.f, q49.g, q49.h, q50.a, q50.b, q50.c, q50.d, q50.e, q50.f, q50.g, q50.h, q51.a, q51.b, q51.c, q51.d, q51.e, q51.f, q51.g, q51.h, q52.a, q52.b, q52.c, q52.d, q52.e, q52.f, q52.g, q52.h, q53.a, q53.b, q53.c, q53.d, q53.e, q53.f, q53.g, q53.h, q54.a, q54.b, q54.c, q54.d, q54.e, q54.f, q54.g, q54.h, q55.a, q55.b, q55.c, q55.d, q55.e, q55.f, q55.g, q55.h, q56.a, q56.b, q56.c]) rfl ?_
                  exact hT98 v fs v901704 false 191 ⟨q36.a, q36.e, q36.f, .slice none 0 0, .int .i64 191, .pointer (some ⟨g73, 0, none⟩), .int .i64 1, .bool false⟩ ⟨.bool false, q38.h, q39.a, q39.b, q39.c, q39.d, q39.e, q39.f⟩ ⟨q39.g, q39.h, q40.a, q40.b, q40.c, q40.d, q40.e, q40.f⟩ ⟨q40.g, q40.h, q41.a, q41.b, q41.c, q41.d, q41.e, q41.f⟩ ⟨q41.g, q41.h, q42.a, q42.b, q42.c, .bool true, .bool true, .tuple [.slice none 0 0, .int .i64 191].toArray⟩ ⟨.pointer (some ⟨G22, 0, none⟩), .pointer (some ⟨g73, 1, none⟩), .int .i64 aa, .tuple [.slice none 0 0, .int .i64 191].toArray, .slice none 0 0, .int .i64 191, .int .i64 191, .bool false⟩ ⟨.bool false, u_, u_, u_, u_, u_, u_, u_⟩ ⟨u_, u_, .bool false, .bool false, .bool false, .bool true, .bool true, .slice none 0 0⟩ ⟨.int .i64 0, .bool false, .bool false, .bool false, .slice Ar ((toN fs).length) cr, .pointer (some ⟨g73, 1, none⟩), .int .i64 aa, v901704⟩ ⟨q46.g, q46.h, q47.a, q47.b, q47.c, q47.d, q47.e, q47.f⟩ ⟨q47.g, q47.h, q48.a, q48.b, q48.c, q48.d, q48.e, q48.f⟩ ⟨q48.g, q48.h, q49.a, q49.b, q49.c, q49.d, q49.e, q49.f⟩ ⟨q49.g, q49.h, q50.a, q50.b, q50.c, q50.d, q50.e, q50.f⟩ ⟨q50.g, q50.h, q51.a, q51.b, q51.c, q51.d, q51.e, q51.f⟩ ⟨q51.g, q51.h, q52.a, q52.b, q52.c, q52.d, q52.e, u_⟩ _ (((((HS.front 4 rfl).front 1 rfl).front 4 rfl).front 4 rfl).front 4 rfl) ⟨hR, .inr (.inr (.inr ⟨by omega, rfl, rfl⟩))⟩
              · skip
                rcases nth_split fs aa with ⟨q, rfl, tt, fv, xs, hf⟩ | hno
                · skip
                  rw [rth_in hf]
                  have hx := toN_get hf
                  have hxl := hR.2 _ (List.mem_of_getElem? hf)
                  dsimp only at hxl
                  obtain ⟨ad2, rfl⟩ := pk_some (HS.get (.head _)) (rp_get hx)
                  refine c_region (fun ops901707 hops901706 => ?_)
                  clear hops901706
                  refine p_run (l' := _) _ (x_cmp (k := .i64) (m := 2) (n := 0) .eql false rfl rfl rfl (by decide) rfl) rfl ?_
                  refine p_run (l' := _) _ (x_assign (.bool false) rfl rfl) rfl ?_
                  refine wpList_nil ?_
                  refine hK142 _ _ ?_
                  refine c_false rfl ?_
                  refine wp_seq_k (fun K901708 hK901709 => ?_)
                  refine c_region (fun ops901711 hops901710 => ?_)
                  clear hops901710
                  refine p_run (l' := _) _ (x_cmp (k := .i64) (m := 2) (n := 1) .eql false rfl rfl rfl (by decide) rfl) rfl ?_
                  refine p_run (l' := _) _ (x_assign (.bool false) rfl rfl) rfl ?_
                  refine wpList_nil ?_
                  refine hK901709 _ _ ?_
                  refine c_false rfl ?_
                  refine wp_seq_k (fun K901712 hK901713 => ?_)
                  refine c_region (fun ops901715 hops901714 => ?_)
                  clear hops901714
                  refine p_run (l' := _) _ (x_cmp (k := .i64) (m := 2) (n := 2) .eql true rfl rfl rfl (by decide) rfl) rfl ?_
                  refine p_run (l' := _) _ (x_assign (.bool true) rfl rfl) rfl ?_
                  refine wpList_nil ?_
                  refine hK901713 _ _ ?_
                  refine c_true rfl ?_
                  refine wp_seq_k (fun K901716 hK901717 => ?_)
                  refine c_region (fun ops901719 hops901718 => ?_)
                  clear hops901718
                  refine p_run (l' := _) _ (x_move (.pointer (some ⟨G22, 0, none⟩)) rfl rfl) rfl ?_
                  refine p_run (l' := [.slice (some ad) l0.length c0, u_, q36.a, .pointer (some ⟨G22, 0, none⟩), .slice (some ad2) ((toN fs).length) cr, u_, .pointer (some ⟨g73, 0, none⟩), .int .i64 0, .bool true, q36.e, q36.f, q36.g, q36.h, .bool true, .bool false, .slice (some ad) l0.length c0, .int .i64 (l0.length : Int), .bool false, .pointer (some ⟨G22, 0, none⟩), v28, .slice (some ad) l0.length c0, .int .i64 (l0.length : Int), .int .i64 (i : Int), .bool (decide ((i : Int) < (l0.length : Int))), .pointer (some ((ad).add (i * 5))), .agg ([.int .i64 2, .int .i64 (q : Int), .int .i64 bi, .int .u8 (bv mk), .slice A4 kp.length c4] : List Value).toArray, .pointer (some ⟨g73, 4, none⟩), .slice A4 kp.length c4, .int .i64 (kp.length : Int), .bool (decide ((kp.length : Int) > 300)), .slice (some ad2) ((toN fs).length) cr, .pointer (some ⟨g73, 1, none⟩), .int .i64 (q : Int), .bool true, .pointer (some ⟨g73, 0, none⟩), .int .i64 2, .bool false, .bool false, q38.h, q39.a, q39.b, q39.c, q39.d, q39.e, q39.f, q39.g, q39.h, q40.a, q40.b, q40.c, q40.d, q40.e, q40.f, q40.g, q40.h, q41.a, q41.b, q41.c, q41.d, q41.e, q41.f, q41.g, q41.h, q42.a, q42.b, q42.c, .bool false, .bool false, q42.f, q42.g, q42.h, q43.a, q43.b, q43.c, q43.d, q43.e, q43.f, q43.g, q43.h, q44.a, q44.b, q44.c, q44.d, q44.e, q44.f, q44.g, q44.h, q45.a, q45.b, q45.c, q45.d, q45.e, q45.f, q45.g, q45.h, q46.a, q46.b, q46.c, q46.d, q46.e, q46.f, .bool true, .bool true, .pointer (some ⟨G22, 0, none⟩), .pointer (some ⟨g73, 1, none⟩), q47.c, q47.d, q47.e, q47.f, q47.g, q47.h, q48.a, q48.b, q48.c, q48.d, q48.e, q48.f, q48.g, q48.h, q49.a, q49.b, q49.c, q49.d, q49.e, q49.f, q49.g, q49.h, q50.a, q50.b, q50.c, q50.d, q50.e, q50.f, q50.g, q50.h, q51.a, q51.b, q51.c, q51.d, q51.e, q51.f, q51.g, q51.h, q52.a, q52.b, q52.c, q52.d, q52.e, q52.f, q52.g, q52.h, q53.a, q53.b, q53.c, q53.d, q53.e, q53.f, q53.g, q53.h, q54.a, q54.b, q54.c, q54.d, q54.e, q54.f, q54.g, q54.h, q55.a, q55.b, q55.c, q55.d, q55.e, q55.f, q55.g, q55.h, q56.a, q56.b, q56.c]) _ (x_field (j := 1) _ _ rfl rfl Try.underlying54 rfl (by rfl) rfl) rfl ?_
                  refine p_run (l' := _) _ (x_load (.int .i64 (q : Int)) rfl rfl (bkCell (HS.get (.tail _ (.head _))) 1 _ rfl) (by rfl)) rfl ?_
                  refine w_call [.pointer (some ⟨G22, 0, none⟩), .int .i64 (q : Int)] Try.func27 (by kernel_rfl) (by rfl) rfl ?_
                  replace HS := (((HS.front 4 rfl).front 4 rfl).front 4 rfl)
                  refine (nTwice_yes (i := q) HS hf (by have := hR.1; omega) (by omega)).mono ?_
                  clear HS
                  rintro e w901722 ⟨v901720, v901721, rfl, HS⟩
                  refine ⟨_, rfl, ?_⟩
                  refine p_run (l' := _) _ (x_assign (.int .i64 0) rfl rfl) rfl ?_
                  refine wpList_nil ?_
                  refine hK901717 _ _ ?_
                  refine wp_seq_k (fun K901723 hK901724 => ?_)
                  refine c_region (fun ops901726 hops901725 => ?_)
                  clear hops901725
                  refine p_run (l' := _) _ (x_move (.bool true) rfl rfl) rfl ?_
                  refine wpList_nil ?_
                  refine hK901724 _ _ ?_
                  refine c_true rfl ?_
                  refine free_frame2 (n := 15) (T := _) [0, 0, 0, 4, 14, 30, 62, 0, 0, 256, 896, 1920, 3968, 8191, 16383] [(0, 108), (1, 109), (2, 110), (3, 111), (4, 112), (5, 113), (6, 114), (7, 115), (8, 116), (9, 117), (10, 118), (11, 119), (12, 120), (13, 121), (14, 4)] (fun bq_ vq_ w_ => qv ((fun i_ => match i_ with | 0 => some (.slice (some ad2) ((toN fs).length) cr) | 1 => some (.slice (some ad2) ((toN fs).length) cr) | 2 => some (.pointer (some ⟨g73, 1, none⟩)) | 3 => some (.int .i64 (q : Int)) | 4 => some (.pointer (some ((ad2).add (q * 2)))) | 5 => some (.pointer (some (((ad2).add (q * 2)).add 0))) | 6 => some (.int .i64 tt) | 7 => some (.slice (some ad2) ((toN fs).length) cr) | 8 => some (.pointer (some ⟨g73, 1, none⟩)) | 9 => some (.int .i64 (q : Int)) | 10 => some (.pointer (some ((ad2).add (q * 2)))) | 11 => some (.pointer (some (((ad2).add (q * 2)).add 1))) | 12 => some (.string (strB xs)) | _ => none) : Nat → Option Value) bq_ vq_ ∧ cond (bq_ 14) (∃ (v901729 : Value), vq_ 13 = v901729 ∧ vq_ 14 = v901729 ∧ St w (fun _ => False) w_ ([row kPk rfl 58 v901729 (rp (toN (sendF fs tt v901721 xs))), blk G22 [v901720] 72, row kPk rfl 75 v901720 (pk (sendF fs tt v901721 xs)), allR (frs (sendF fs tt v901721 xs)), blk g73 [.int .i64 2, .int .i64 (q : Int), .int .i64 bi, .int .u8 (bv mk), .slice A4 kp.length c4] 54])) (cond (bq_ 13) (∃ (v901729 : Value), vq_ 13 = v901729 ∧ St w (fun _ => False) w_ ([row kPk rfl 58 v901729 (rp (toN (sendF fs tt v901721 xs))), blk G22 [v901720] 72, row kPk rfl 75 v901720 (pk (sendF fs tt v901721 xs)), allR (frs (sendF fs tt v901721 xs)), blk g73 [.int .i64 2, .int .i64 (q : Int), .int .i64 bi, .int .u8 (bv mk), .slice A4 kp.length c4] 54])) ((St w (fun _ => False) w_ ([blk G22 [v901720] 72, row kPk rfl 75 v901720 (pk (sendF fs tt v901721 xs)), allR (frs (sendF fs tt v901721 xs)), row kPk rfl 58 (.slice (some ad2) ((toN fs).length) cr) (rp (toN fs)), blk g73 [.int .i64 2, .int .i64 (q : Int), .int .i64 bi, .int .u8 (bv mk), .slice A4 kp.length c4] 54]))))) (by kernel_rfl) rfl rfl (by kernel_rfl) (by kernel_rfl) rfl (by kernel_rfl) (by kernel_rfl) ⟨qv_none, HS.draw⟩ ?_ ?_
                  · clear HS
                    intro i_ hi_ bq_ vq_ a_ w_ hG hb_ hon hoff hfr hel hval hno
                    obtain ⟨hV, hE⟩ := hG
                    have hi_ := List.mem_range.1 hi_
                    obtain ⟨l_, rfl⟩ := hfr
                    have hv_ := fun (j t : Nat) (v : Value) (h1 : (j, t) ∈ [(0, 108), (1, 109), (2, 110), (3, 111), (4, 112), (5, 113), (6, 114), (7, 115), (8, 116), (9, 117), (10, 118), (11, 119), (12, 120), (13, 121), (14, 4)]) h2 h3 => (hval (j, t) h1 h3).trans (congrArg some (hV j v h2 h3))
                    have hcs : i_ = 0 ∨ i_ = 1 ∨ i_ = 2 ∨ i_ = 3 ∨ i_ = 4 ∨ i_ = 5 ∨ i_ = 6 ∨ i_ = 7 ∨ i_ = 8 ∨ i_ = 9 ∨ i_ = 10 ∨ i_ = 11 ∨ i_ = 12 ∨ i_ = 13 ∨ i_ = 14 := by omega
                    rcases hcs with rfl | rfl | rfl | rfl | rfl | rfl | rfl | rfl | rfl | rfl | rfl | rfl | rfl | rfl | rfl
                    · have e4 : evl l_ (.tmp 4) = .slice (some ad2) ((toN fs).length) cr := evl_of ((hno 14 4 (hoff 14 (by decide)) (by decide)).trans rfl)
                      exact ⟨_, rfl, fun K_ hK_ => q_op _ (x_move (.slice (some ad2) ((toN fs).length) cr) rfl e4) (hK_ _ _ ⟨qv_up hV (fun _ h => Option.some.inj h), hE⟩)⟩
                    · have e4 : evl l_ (.tmp 4) = .slice (some ad2) ((toN fs).length) cr := evl_of ((hno 14 4 (hoff 14 (by decide)) (by decide)).trans rfl)
                      exact ⟨_, rfl, fun K_ hK_ => q_op _ (x_move (.slice (some ad2) ((toN fs).length) cr) rfl e4) (hK_ _ _ ⟨qv_up hV (fun _ h => Option.some.inj h), hE⟩)⟩
                    · have e6 : evl l_ (.tmp 6) = .pointer (some ⟨g73, 0, none⟩) := evl_of ((hel 6 (by decide)).trans rfl)
                      exact ⟨_, rfl, fun K_ hK_ => q_op _ (x_field (j := 1) _ _ rfl e6 Try.underlying54 rfl (by rfl) rfl) (hK_ _ _ ⟨qv_up hV (fun _ h => Option.some.inj h), hE⟩)⟩
                    · have hE0 := hE
                      rw [show bq_ 14 = false from (hoff 14 (by decide))] at hE0
                      rw [show bq_ 13 = false from (hoff 13 (by decide))] at hE0
                      simp only [cond_true, cond_false] at hE0
                      have HS := hE0
                      have e110 : evl l_ (.tmp 110) = .pointer (some ⟨g73, 1, none⟩) := evl_of (hv_ 2 110 _ (by decide) rfl (hon 2 (by decide)))
                      exact ⟨_, rfl, fun K_ hK_ => q_op _ (x_load (.int .i64 (q : Int)) rfl e110 (bkCell (HS.get (.tail _ (.tail _ (.tail _ (.tail _ (.head _)))))) 1 _ rfl) (by rfl)) (hK_ _ _ ⟨qv_up hV (fun _ h => Option.some.inj h), hE⟩)⟩
                    · have e109 : evl l_ (.tmp 109) = .slice (some ad2) ((toN fs).length) cr := evl_of (hv_ 1 109 _ (by decide) rfl (hon 1 (by decide)))
                      have e111 : evl l_ (.tmp 111) = .int .i64 (q : Int) := evl_of (hv_ 3 111 _ (by decide) rfl (hon 3 (by decide)))
                      exact ⟨_, rfl, fun K_ hK_ => q_op _ (x_index (A := ad2) (j := q * 2) (sz := 2) rfl e109 e111 Try.underlying52 (by kernel_rfl) (by have := (List.getElem?_eq_some_iff.1 hx).1; omega) rfl) (hK_ _ _ ⟨qv_up hV (fun _ h => Option.some.inj h), hE⟩)⟩
                    · have e112 : evl l_ (.tmp 112) = .pointer (some ((ad2).add (q * 2))) := evl_of (hv_ 4 112 _ (by decide) rfl (hon 4 (by decide)))
                      exact ⟨_, rfl, fun K_ hK_ => q_op _ (x_fieldA _ _ rfl e112 Try.underlying58 rfl (by rfl)) (hK_ _ _ ⟨qv_up hV (fun _ h => Option.some.inj h), hE⟩)⟩
                    · have hE0 := hE
                      rw [show bq_ 14 = false from (hoff 14 (by decide))] at hE0
                      rw [show bq_ 13 = false from (hoff 13 (by decide))] at hE0
                      simp only [cond_true, cond_false] at hE0
                      have HS := hE0
                      have e113 : evl l_ (.tmp 113) = .pointer (some (((ad2).add (q * 2)).add 0)) := evl_of (hv_ 5 113 _ (by decide) rfl (hon 5 (by decide)))
                      exact ⟨_, rfl, fun K_ hK_ => q_op _ (x_load (.int .i64 tt) rfl e113 (pk_c0 (HS.get (.tail _ (.tail _ (.tail _ (.head _))))) (rp_get hx)) (by rfl)) (hK_ _ _ ⟨qv_up hV (fun _ h => Option.some.inj h), hE⟩)⟩
                    · have e4 : evl l_ (.tmp 4) = .slice (some ad2) ((toN fs).length) cr := evl_of ((hno 14 4 (hoff 14 (by decide)) (by decide)).trans rfl)
                      exact ⟨_, rfl, fun K_ hK_ => q_op _ (x_move (.slice (some ad2) ((toN fs).length) cr) rfl e4) (hK_ _ _ ⟨qv_up hV (fun _ h => Option.some.inj h), hE⟩)⟩
                    · have e6 : evl l_ (.tmp 6) = .pointer (some ⟨g73, 0, none⟩) := evl_of ((hel 6 (by decide)).trans rfl)
                      exact ⟨_, rfl, fun K_ hK_ => q_op _ (x_field (j := 1) _ _ rfl e6 Try.underlying54 rfl (by rfl) rfl) (hK_ _ _ ⟨qv_up hV (fun _ h => Option.some.inj h), hE⟩)⟩
                    · have hE0 := hE
                      rw [show bq_ 14 = false from (hoff 14 (by decide))] at hE0
                      rw [show bq_ 13 = false from (hoff 13 (by decide))] at hE0
                      simp only [cond_true, cond_false] at hE0
                      have HS := hE0
                      have e116 : evl l_ (.tmp 116) = .pointer (some ⟨g73, 1, none⟩) := evl_of (hv_ 8 116 _ (by decide) rfl (hon 8 (by decide)))
                      exact ⟨_, rfl, fun K_ hK_ => q_op _ (x_load (.int .i64 (q : Int)) rfl e116 (bkCell (HS.get (.tail _ (.tail _ (.tail _ (.tail _ (.head _)))))) 1 _ rfl) (by rfl)) (hK_ _ _ ⟨qv_up hV (fun _ h => Option.some.inj h), hE⟩)⟩
                    · have e115 : evl l_ (.tmp 115) = .slice (some ad2) ((toN fs).length) cr := evl_of (hv_ 7 115 _ (by decide) rfl (hon 7 (by decide)))
                      have e117 : evl l_ (.tmp 117) = .int .i64 (q : Int) := evl_of (hv_ 9 117 _ (by decide) rfl (hon 9 (by decide)))
                      exact ⟨_, rfl, fun K_ hK_ => q_op _ (x_index (A := ad2) (j := q * 2) (sz := 2) rfl e115 e117 Try.underlying52 (by kernel_rfl) (by have := (List.getElem?_eq_some_iff.1 hx).1; omega) rfl) (hK_ _ _ ⟨qv_up hV (fun _ h => Option.some.inj h), hE⟩)⟩
                    · have e118 : evl l_ (.tmp 118) = .pointer (some ((ad2).add (q * 2))) := evl_of (hv_ 10 118 _ (by decide) rfl (hon 10 (by decide)))
                      exact ⟨_, rfl, fun K_ hK_ => q_op _ (x_fieldA _ _ rfl e118 Try.underlying58 rfl (by rfl)) (hK_ _ _ ⟨qv_up hV (fun _ h => Option.some.inj h), hE⟩)⟩
                    · have hE0 := hE
                      rw [show bq_ 14 = false from (hoff 14 (by decide))] at hE0
                      rw [show bq_ 13 = false from (hoff 13 (by decide))] at hE0
                      simp only [cond_true, cond_false] at hE0
                      have HS := hE0
                      have e119 : evl l_ (.tmp 119) = .pointer (some (((ad2).add (q * 2)).add 1)) := evl_of (hv_ 11 119 _ (by decide) rfl (hon 11 (by decide)))
                      exact ⟨_, rfl, fun K_ hK_ => q_op _ (x_load (.string (strB xs)) rfl e119 (pk_c1 (HS.get (.tail _ (.tail _ (.tail _ (.head _))))) (rp_get hx)) (by rfl)) (hK_ _ _ ⟨qv_up hV (fun _ h => Option.some.inj h), hE⟩)⟩
                    · have h108 : (fr l_).tmps[108]? = some (.slice (some ad2) ((toN fs).length) cr) := hv_ 0 108 _ (by decide) rfl (hon 0 (by decide))
                      have h114 : (fr l_).tmps[114]? = some (.int .i64 tt) := hv_ 6 114 _ (by decide) rfl (hon 6 (by decide))
                      have h120 : (fr l_).tmps[120]? = some (.string (strB xs)) := hv_ 12 120 _ (by decide) rfl (hon 12 (by decide))
                      have hE0 := hE
                      rw [show bq_ 14 = false from (hoff 14 (by decide))] at hE0
                      rw [show bq_ 13 = false from hb_] at hE0
                      simp only [cond_true, cond_false] at hE0
                      have HS := hE0
                      have e108 : evl l_ (.tmp 108) = .slice (some ad2) ((toN fs).length) cr := evl_of h108
                      have e114 : evl l_ (.tmp 114) = .int .i64 tt := evl_of h114
                      have e120 : evl l_ (.tmp 120) = .string (strB xs) := evl_of h120
                      refine ⟨_, rfl, fun K_ hK_ => wp_of_list rfl ?_⟩
                      intro ops_
                      refine w_call [.slice (some ad2) ((toN fs).length) cr, .int .i64 tt, .string (strB xs)] Try.func32 (by kernel_rfl) (by rfl) (by simp only [List.map_cons, List.map_nil, e108, e114, e120] <;> rfl) ?_
                      replace HS := (HS.front 3 rfl)
                      refine (rSend_any HS tt xs (by rw [toN_length]; have := hR.1; omega)).mono ?_
                      clear HS
                      rintro e w901302 ⟨v901301, rfl, HS⟩
                      rw [← toN_send fs tt v901721 xs] at HS
                      refine ⟨_, rfl, ?_⟩
                      refine wpList_nil ?_
                      refine norm_put (hK_ (v901301) _ ⟨qv_up hV (by intro _ h; cases h), ?_⟩)
                      show cond (bq_ 14) _ _
                      rw [show bq_ 14 = false from hoff 14 (by decide), cond_false]
                      show cond true _ _
                      rw [cond_true]
                      exact ⟨v901301, rfl, (((((HS.front 4 rfl).front 4 rfl).front 4 rfl).front 4 rfl).front 4 rfl)⟩
                    · have h121 := hval (13, 121) (by decide) (hon 13 (by decide))
                      have hE0 := hE
                      rw [show bq_ 14 = false from hb_] at hE0
                      rw [show bq_ 13 = true from (hon 13 (by decide))] at hE0
                      simp only [cond_true, cond_false] at hE0
                      obtain ⟨v901729, hv13, HS⟩ := hE0
                      rw [hv13] at h121
                      have e121 : evl l_ (.tmp 121) = v901729 := evl_of h121
                      refine ⟨_, rfl, fun K_ hK_ => wp_of_list rfl ?_⟩
                      intro ops_
                      refine p_run (l' := _) _ (x_assign (v901729) rfl e121) rfl ?_
                      refine wpList_nil ?_
                      refine norm_put (hK_ (v901729) _ ⟨qv_up hV (by intro _ h; cases h), ?_⟩)
                      show cond true _ _
                      rw [cond_true]
                      exact ⟨v901729, hv13, rfl, (((((HS.front 4 rfl).front 4 rfl).front 4 rfl).front 4 rfl).front 4 rfl)⟩
                  intro bq_ vq_ w_ hall hG
                  obtain ⟨hV, hE⟩ := hG
                  clear HS
                  rw [show bq_ 14 = true from hall 14 (by decide)] at hE
                  simp only [cond_true] at hE
                  obtain ⟨v901729, hv13, hv14, HS⟩ := hE
                  have hv0 := hV 0 _ rfl (hall 0 (by decide))
                  have hv1 := hV 1 _ rfl (hall 1 (by decide))
                  have hv2 := hV 2 _ rfl (hall 2 (by decide))
                  have hv3 := hV 3 _ rfl (hall 3 (by decide))
                  have hv4 := hV 4 _ rfl (hall 4 (by decide))
                  have hv5 := hV 5 _ rfl (hall 5 (by decide))
                  have hv6 := hV 6 _ rfl (hall 6 (by decide))
                  have hv7 := hV 7 _ rfl (hall 7 (by decide))
                  have hv8 := hV 8 _ rfl (hall 8 (by decide))
                  have hv9 := hV 9 _ rfl (hall 9 (by decide))
                  have hv10 := hV 10 _ rfl (hall 10 (by decide))
                  have hv11 := hV 11 _ rfl (hall 11 (by decide))
                  have hv12 := hV 12 _ rfl (hall 12 (by decide))
                  clear hV hall
                  rw [putSel_fr]
                  simp only [tells, List.map_cons, List.map_nil, setAll, List.set_cons_succ, List.set_cons_zero, hv0, hv1, hv2, hv3, hv4, hv5, hv6, hv7, hv8, hv9, hv10, hv11, hv12, hv13, hv14]
                  clear hv0 hv1 hv2 hv3 hv4 hv5 hv6 hv7 hv8 hv9 hv10 hv11 hv12 hv13 hv14
                  generalize w_ = w901401 at HS ⊢
                  refine fr_at (l' := [.slice (some ad) l0.length c0, u_, q36.a, .pointer (some ⟨G22, 0, none⟩), v901729, u_, .pointer (some ⟨g73, 0, none⟩), .int .i64 0, .bool true, q36.e, q36.f, q36.g, q36.h, .bool true, .bool false, .slice (some ad) l0.length c0, .int .i64 (l0.length : Int), .bool false, .pointer (some ⟨G22, 0, none⟩), v28, .slice (some ad) l0.length c0, .int .i64 (l0.length : Int), .int .i64 (i : Int), .bool (decide ((i : Int) < (l0.length : Int))), .pointer (some ((ad).add (i * 5))), .agg ([.int .i64 2, .int .i64 (q : Int), .int .i64 bi, .int .u8 (bv mk), .slice A4 kp.length c4] : List Value).toArray, .pointer (some ⟨g73, 4, none⟩), .slice A4 kp.length c4, .int .i64 (kp.length : Int), .bool (decide ((kp.length : Int) > 300)), .slice (some ad2) ((toN fs).length) cr, .pointer (some ⟨g73, 1, none⟩), .int .i64 (q : Int), .bool true, .pointer (some ⟨g73, 0, none⟩), .int .i64 2, .bool false, .bool false, q38.h, q39.a, q39.b, q39.c, q39.d, q39.e, q39.f, q39.g, q39.h, q40.a, q40.b, q40.c, q40.d, q40.e, q40.f, q40.g, q40.h, q41.a, q41.b, q41.c, q41.d, q41.e, q41.f, q41.g, q41.h, q42.a, q42.b, q42.c, .bool false, .bool false, q42.f, q42.g, q42.h, q43.a, q43.b, q43.c, q43.d, q43.e, q43.f, q43.g, q43.h, q44.a, q44.b, q44.c, q44.d, q44.e, q44.f, q44.g, q44.h, q45.a, q45.b, q45.c, q45.d, q45.e, q45.f, q45.g, q45.h, q46.a, q46.b, q46.c, q46.d, q46.e, q46.f, .bool true, .bool true, .pointer (some ⟨G22, 0, none⟩), .pointer (some ⟨g73, 1, none⟩), .int .i64 (q : Int), .int .i64 0, .bool true, .slice (some ad2) ((toN fs).length) cr, .slice (some ad2) ((toN fs).length) cr, .pointer (some ⟨g73, 1, none⟩), .int .i64 (q : Int), .pointer (some ((ad2).add (q * 2))), .pointer (some (((ad2).add (q * 2)).add 0)), .int .i64 tt, .slice (some ad2) ((toN fs).length) cr, .pointer (some ⟨g73, 1, none⟩), .int .i64 (q : Int), .pointer (some ((ad2).add (q * 2))), .pointer (some (((ad2).add (q * 2)).add 1)), .string (strB xs), v901729, q49.d, q49.e, q49.f, q49.g, q49.h, q50.a, q50.b, q50.c, q50.d, q50.e, q50.f, q50.g, q50.h, q51.a, q51.b, q51.c, q51.d, q51.e, q51.f, q51.g, q51.h, q52.a, q52.b, q52.c, q52.d, q52.e, q52.f, q52.g, q52.h, q53.a, q53.b, q53.c, q53.d, q53.e, q53.f, q53.g, q53.h, q54.a, q54.b, q54.c, q54.d, q54.e, q54.f, q54.g, q54.h, q55.a, q55.b, q55.c, q55.d, q55.e, q55.f, q55.g, q55.h, q56.a, q56.b, q56.c]) rfl ?_
                  exact hT98 v901720 (sendF fs tt v901721 xs) v901729 true 0 ⟨q36.a, q36.e, q36.f, q36.g, q36.h, .pointer (some ⟨g73, 0, none⟩), .int .i64 2, .bool false⟩ ⟨.bool false, q38.h, q39.a, q39.b, q39.c, q39.d, q39.e, q39.f⟩ ⟨q39.g, q39.h, q40.a, q40.b, q40.c, q40.d, q40.e, q40.f⟩ ⟨q40.g, q40.h, q41.a, q41.b, q41.c, q41.d, q41.e, q41.f⟩ ⟨q41.g, q41.h, q42.a, q42.b, q42.c, .bool false, .bool false, q42.f⟩ ⟨q42.g, q42.h, q43.a, q43.b, q43.c, q43.d, q43.e, q43.f⟩ ⟨q43.g, q43.h, q44.a, q44.b, q44.c, q44.d, q44.e, q44.f⟩ ⟨q44.g, q44.h, q45.a, q45.b, q45.c, q45.d, q45.e, q45.f⟩ ⟨q45.g, q45.h, q46.a, q46.b, q46.c, q46.d, q46.e, q46.f⟩ ⟨.bool true, .bool true, .pointer (some ⟨G22, 0, none⟩), .pointer (some ⟨g73, 1, none⟩), .int .i64 (q : Int), .int .i64 0, .bool true, .slice (some ad2) ((toN fs).length) cr⟩ ⟨.slice (some ad2) ((toN fs).length) cr, .pointer (some ⟨g73, 1, none⟩), .int .i64 (q : Int), .pointer (some ((ad2).add (q * 2))), .pointer (some (((ad2).add (q * 2)).add 0)), .int .i64 tt, .slice (some ad2) ((toN fs).length) cr, .pointer (some ⟨g73, 1, none⟩)⟩ ⟨.int .i64 (q : Int), .pointer (some ((ad2).add (q * 2))), .pointer (some (((ad2).add (q * 2)).add 1)), .string (strB xs), v901729, q49.d, q49.e, q49.f⟩ ⟨q49.g, q49.h, q50.a, q50.b, q50.c, q50.d, q50.e, q50.f⟩ ⟨q50.g, q50.h, q51.a, q51.b, q51.c, q51.d, q51.e, q51.f⟩ ⟨q51.g, q51.h, q52.a, q52.b, q52.c, q52.d, q52.e, u_⟩ _ (((((HS.front 4 rfl).front 1 rfl).front 4 rfl).front 4 rfl).front 4 rfl) ⟨ri_send hR _ _ (by omega), .inr (.inr (.inl ⟨by omega, rfl, rfl⟩))⟩
                · skip
                  rw [rth_no hno]
                  refine c_region (fun ops901403 hops901402 => ?_)
                  clear hops901402
                  refine p_run (l' := _) _ (x_cmp (k := .i64) (m := 2) (n := 0) .eql false rfl rfl rfl (by decide) rfl) rfl ?_
                  refine p_run (l' := _) _ (x_assign (.bool false) rfl rfl) rfl ?_
                  refine wpList_nil ?_
                  refine hK142 _ _ ?_
                  refine c_false rfl ?_
                  refine wp_seq_k (fun K901404 hK901405 => ?_)
                  refine c_region (fun ops901407 hops901406 => ?_)
                  clear hops901406
                  refine p_run (l' := _) _ (x_cmp (k := .i64) (m := 2) (n := 1) .eql false rfl rfl rfl (by decide) rfl) rfl ?_
                  refine p_run (l' := _) _ (x_assign (.bool false) rfl rfl) rfl ?_
                  refine wpList_nil ?_
                  refine hK901405 _ _ ?_
                  refine c_false rfl ?_
                  refine wp_seq_k (fun K901408 hK901409 => ?_)
                  refine c_region (fun ops901411 hops901410 => ?_)
                  clear hops901410
                  refine p_run (l' := _) _ (x_cmp (k := .i64) (m := 2) (n := 2) .eql true rfl rfl rfl (by decide) rfl) rfl ?_
                  refine p_run (l' := _) _ (x_assign (.bool true) rfl rfl) rfl ?_
                  refine wpList_nil ?_
                  refine hK901409 _ _ ?_
                  refine c_true rfl ?_
                  refine wp_seq_k (fun K901412 hK901413 => ?_)
                  refine c_region (fun ops901415 hops901414 => ?_)
                  clear hops901414
                  refine p_run (l' := _) _ (x_move (.pointer (some ⟨G22, 0, none⟩)) rfl rfl) rfl ?_
                  refine p_run (l' := [.slice (some ad) l0.length c0, u_, q36.a, .pointer (some ⟨G22, 0, none⟩), .slice Ar ((toN fs).length) cr, u_, .pointer (some ⟨g73, 0, none⟩), .int .i64 0, .bool false, q36.e, q36.f, q36.g, q36.h, .bool true, .bool false, .slice (some ad) l0.length c0, .int .i64 (l0.length : Int), .bool false, .pointer (some ⟨G22, 0, none⟩), v28, .slice (some ad) l0.length c0, .int .i64 (l0.length : Int), .int .i64 (i : Int), .bool (decide ((i : Int) < (l0.length : Int))), .pointer (some ((ad).add (i * 5))), .agg ([.int .i64 2, .int .i64 aa, .int .i64 bi, .int .u8 (bv mk), .slice A4 kp.length c4] : List Value).toArray, .pointer (some ⟨g73, 4, none⟩), .slice A4 kp.length c4, .int .i64 (kp.length : Int), .bool (decide ((kp.length : Int) > 300)), .slice Ar ((toN fs).length) cr, .pointer (some ⟨g73, 1, none⟩), .int .i64 aa, .bool false, .pointer (some ⟨g73, 0, none⟩), .int .i64 2, .bool false, .bool false, q38.h, q39.a, q39.b, q39.c, q39.d, q39.e, q39.f, q39.g, q39.h, q40.a, q40.b, q40.c, q40.d, q40.e, q40.f, q40.g, q40.h, q41.a, q41.b, q41.c, q41.d, q41.e, q41.f, q41.g, q41.h, q42.a, q42.b, q42.c, .bool false, .bool false, q42.f, q42.g, q42.h, q43.a, q43.b, q43.c, q43.d, q43.e, q43.f, q43.g, q43.h, q44.a, q44.b, q44.c, q44.d, q44.e, q44.f, q44.g, q44.h, q45.a, q45.b, q45.c, q45.d, q45.e, q45.f, q45.g, q45.h, q46.a, q46.b, q46.c, q46.d, q46.e, q46.f, .bool true, .bool true, .pointer (some ⟨G22, 0, none⟩), .pointer (some ⟨g73, 1, none⟩), q47.c, q47.d, q47.e, q47.f, q47.g, q47.h, q48.a, q48.b, q48.c, q48.d, q48.e, q48.f, q48.g, q48.h, q49.a, q49.b, q49.c, q49.d, q49.e, q49.f, q49.g, q49.h, q50.a, q50.b, q50.c, q50.d, q50.e, q50.f, q50.g, q50.h, q51.a, q51.b, q51.c, q51.d, q51.e, q51.f, q51.g, q51.h, q52.a, q52.b, q52.c, q52.d, q52.e, q52.f, q52.g, q52.h, q53.a, q53.b, q53.c, q53.d, q53.e, q53.f, q53.g, q53.h, q54.a, q54.b, q54.c, q54.d, q54.e, q54.f, q54.g, q54.h, q55.a, q55.b, q55.c, q55.d, q55.e, q55.f, q55.g, q55.h, q56.a, q56.b, q56.c]) _ (x_field (j := 1) _ _ rfl rfl Try.underlying54 rfl (by rfl) rfl) rfl ?_
                  refine p_run (l' := _) _ (x_load (.int .i64 aa) rfl rfl (bkCell (HS.get (.tail _ (.head _))) 1 _ rfl) (by rfl)) rfl ?_
                  refine w_call [.pointer (some ⟨G22, 0, none⟩), .int .i64 aa] Try.func27 (by kernel_rfl) (by rfl) rfl ?_
                  replace HS := (((HS.front 4 rfl).front 4 rfl).front 4 rfl)
                  refine (nTwice_no HS aa hno).mono ?_
                  rintro e w' ⟨rfl, rfl⟩
                  refine ⟨_, rfl, ?_⟩
                  refine p_run (l' := _) _ (x_assign (.int .i64 191) rfl rfl) rfl ?_
                  refine wpList_nil ?_
                  refine hK901413 _ _ ?_
                  refine wp_seq_k (fun K901416 hK901417 => ?_)
                  refine c_region (fun ops901419 hops901418 => ?_)
                  clear hops901418
                  refine p_run (l' := _) _ (x_move (.bool false) rfl rfl) rfl ?_
                  refine wpList_nil ?_
                  refine hK901417 _ _ ?_
                  refine c_false rfl ?_
                  refine wp_skip ?_
                  exact hT98 v fs (.slice Ar ((toN fs).length) cr) false 191 ⟨q36.a, q36.e, q36.f, q36.g, q36.h, .pointer (some ⟨g73, 0, none⟩), .int .i64 2, .bool false⟩ ⟨.bool false, q38.h, q39.a, q39.b, q39.c, q39.d, q39.e, q39.f⟩ ⟨q39.g, q39.h, q40.a, q40.b, q40.c, q40.d, q40.e, q40.f⟩ ⟨q40.g, q40.h, q41.a, q41.b, q41.c, q41.d, q41.e, q41.f⟩ ⟨q41.g, q41.h, q42.a, q42.b, q42.c, .bool false, .bool false, q42.f⟩ ⟨q42.g, q42.h, q43.a, q43.b, q43.c, q43.d, q43.e, q43.f⟩ ⟨q43.g, q43.h, q44.a, q44.b, q44.c, q44.d, q44.e, q44.f⟩ ⟨q44.g, q44.h, q45.a, q45.b, q45.c, q45.d, q45.e, q45.f⟩ ⟨q45.g, q45.h, q46.a, q46.b, q46.c, q46.d, q46.e, q46.f⟩ ⟨.bool true, .bool true, .pointer (some ⟨G22, 0, none⟩), .pointer (some ⟨g73, 1, none⟩), .int .i64 aa, .int .i64 191, .bool false, q47.f⟩ ⟨q47.g, q47.h, q48.a, q48.b, q48.c, q48.d, q48.e, q48.f⟩ ⟨q48.g, q48.h, q49.a, q49.b, q49.c, q49.d, q49.e, q49.f⟩ ⟨q49.g, q49.h, q50.a, q50.b, q50.c, q50.d, q50.e, q50.f⟩ ⟨q50.g, q50.h, q51.a, q51.b, q51.c, q51.d, q51.e, q51.f⟩ ⟨q51.g, q51.h, q52.a, q52.b, q52.c, q52.d, q52.e, u_⟩ _ (((((HS.front 4 rfl).front 4 rfl).front 4 rfl).front 4 rfl).front 4 rfl) ⟨hR, .inr (.inr (.inr ⟨by omega, rfl, rfl⟩))⟩
              · skip
                rcases nth_split fs aa with ⟨q, rfl, tt, fv, xs, hf⟩ | hno
                · skip
                  rw [rth_in hf]
                  have hx := toN_get hf
                  have hxl := hR.2 _ (List.mem_of_getElem? hf)
                  dsimp only at hxl
                  obtain ⟨ad2, rfl⟩ := pk_some (HS.get (.head _)) (rp_get hx)
                  refine c_region (fun ops901421 hops901420 => ?_)
                  clear hops901420
                  refine p_run (l' := _) _ (x_cmp (k := .i64) (m := 3) (n := 0) .eql false rfl rfl rfl (by decide) rfl) rfl ?_
                  refine p_run (l' := _) _ (x_assign (.bool false) rfl rfl) rfl ?_
                  refine wpList_nil ?_
                  refine hK142 _ _ ?_
                  refine c_false rfl ?_
                  refine wp_seq_k (fun K901422 hK901423 => ?_)
                  refine c_region (fun ops901425 hops901424 => ?_)
                  clear hops901424
                  refine p_run (l' := _) _ (x_cmp (k := .i64) (m := 3) (n := 1) .eql false rfl rfl rfl (by decide) rfl) rfl ?_
                  refine p_run (l' := [.slice (some ad) l0.length c0, u_, q36.a, .pointer (some ⟨G22, 0, none⟩), .slice (some ad2) ((toN fs).length) cr, u_, .pointer (some ⟨g73, 0, none⟩), .int .i64 0, .bool true, q36.e, q36.f, q36.g, q36.h, .bool true, .bool false, .slice (some ad) l0.length c0, .int .i64 (l0.length : Int), .bool false, .pointer (some ⟨G22, 0, none⟩), v28, .slice (some ad) l0.length c0, .int .i64 (l0.length : Int), .int .i64 (i : Int), .bool (decide ((i : Int) < (l0.length : Int))), .pointer (some ((ad).add (i * 5))), .agg ([.int .i64 3, .int .i64 (q : Int), .int .i64 bi, .int .u8 (bv mk), .slice A4 kp.length c4] : List Value).toArray, .pointer (some ⟨g73, 4, none⟩), .slice A4 kp.length c4, .int .i64 (kp.length : Int), .bool (decide ((kp.length : Int) > 300)), .slice (some ad2) ((toN fs).length) cr, .pointer (some ⟨g73, 1, none⟩), .int .i64 (q : Int), .bool true, .pointer (some ⟨g73, 0, none⟩), .int .i64 3, .bool false, .bool false, q38.h, q39.a, q39.b, q39.c, q39.d, q39.e, q39.f, q39.g, q39.h, q40.a, q40.b, q40.c, q40.d, q40.e, q40.f, q40.g, q40.h, q41.a, q41.b, q41.c, q41.d, q41.e, q41.f, q41.g, q41.h, q42.a, q42.b, q42.c, .bool false, .bool false, q42.f, q42.g, q42.h, q43.a, q43.b, q43.c, q43.d, q43.e, q43.f, q43.g, q43.h, q44.a, q44.b, q44.c, q44.d, q44.e, q44.f, q44.g, q44.h, q45.a, q45.b, q45.c, q45.d, q45.e, q45.f, q45.g, q45.h, q46.a, q46.b, q46.c, q46.d, q46.e, q46.f, q46.g, q46.h, q47.a, q47.b, q47.c, q47.d, q47.e, q47.f, q47.g, q47.h, q48.a, q48.b, q48.c, q48.d, q48.e, q48.f, q48.g, q48.h, q49.a, q49.b, q49.c, q49.d, q49.e, q49.f, q49.g, q49.h, q50.a, q50.b, q50.c, q50.d, q50.e, q50.f, q50.g, q50.h, q51.a, q51.b, q51.c, q51.d, q51.e, q51.f, q51.g, q51.h, q52.a, q52.b, q52.c, q52.d, q52.e, q52.f, q52.g, q52.h, q53.a, q53.b, q53.c, q53.d, q53.e, q53.f, q53.g, q53.h, q54.a, q54.b, q54.c, q54.d, q54.e, q54.f, q54.g, q54.h, q55.a, q55.b, q55.c, q55.d, q55.e, q55.f, q55.g, q55.h, q56.a, q56.b, q56.c]) _ (x_assign (.bool false) rfl rfl) rfl ?_
                  refine wpList_nil ?_
                  refine hK901423 _ _ ?_
                  refine c_false rfl ?_
                  refine wp_seq_k (fun K901426 hK901427 => ?_)
                  refine c_region (fun ops901429 hops901428 => ?_)
                  clear hops901428
                  refine p_run (l' := _) _ (x_cmp (k := .i64) (m := 3) (n := 2) .eql false rfl rfl rfl (by decide) rfl) rfl ?_
                  refine p_run (l' := _) _ (x_assign (.bool false) rfl rfl) rfl ?_
                  refine wpList_nil ?_
                  refine hK901427 _ _ ?_
                  refine c_false rfl ?_
                  refine wp_seq_k (fun K901430 hK901431 => ?_)
                  refine c_region (fun ops901433 hops901432 => ?_)
                  clear hops901432
                  refine p_run (l' := _) _ (x_cmp (k := .i64) (m := 3) (n := 3) .eql true rfl rfl rfl (by decide) rfl) rfl ?_
                  refine p_run (l' := _) _ (x_assign (.bool true) rfl rfl) rfl ?_
                  refine wpList_nil ?_
                  refine hK901431 _ _ ?_
                  refine c_true rfl ?_
                  refine wp_seq_k (fun K901434 hK901435 => ?_)
                  refine c_region (fun ops901437 hops901436 => ?_)
                  clear hops901436
                  refine p_run (l' := _) _ (x_move (.pointer (some ⟨G22, 0, none⟩)) rfl rfl) rfl ?_
                  refine p_run (l' := _) _ (x_field (j := 1) _ _ rfl rfl Try.underlying54 rfl (by rfl) rfl) rfl ?_
                  refine p_run (l' := _) _ (x_load (.int .i64 (q : Int)) rfl rfl (bkCell (HS.get (.tail _ (.head _))) 1 _ rfl) (by rfl)) rfl ?_
                  refine p_run (l' := [.slice (some ad) l0.length c0, u_, q36.a, .pointer (some ⟨G22, 0, none⟩), .slice (some ad2) ((toN fs).length) cr, u_, .pointer (some ⟨g73, 0, none⟩), .int .i64 0, .bool true, q36.e, q36.f, q36.g, q36.h, .bool true, .bool false, .slice (some ad) l0.length c0, .int .i64 (l0.length : Int), .bool false, .pointer (some ⟨G22, 0, none⟩), v28, .slice (some ad) l0.length c0, .int .i64 (l0.length : Int), .int .i64 (i : Int), .bool (decide ((i : Int) < (l0.length : Int))), .pointer (some ((ad).add (i * 5))), .agg ([.int .i64 3, .int .i64 (q : Int), .int .i64 bi, .int .u8 (bv mk), .slice A4 kp.length c4] : List Value).toArray, .pointer (some ⟨g73, 4, none⟩), .slice A4 kp.length c4, .int .i64 (kp.length : Int), .bool (decide ((kp.length : Int) > 300)), .slice (some ad2) ((toN fs).length) cr, .pointer (some ⟨g73, 1, none⟩), .int .i64 (q : Int), .bool true, .pointer (some ⟨g73, 0, none⟩), .int .i64 3, .bool false, .bool false, q38.h, q39.a, q39.b, q39.c, q39.d, q39.e, q39.f, q39.g, q39.h, q40.a, q40.b, q40.c, q40.d, q40.e, q40.f, q40.g, q40.h, q41.a, q41.b, q41.c, q41.d, q41.e, q41.f, q41.g, q41.h, q42.a, q42.b, q42.c, .bool false, .bool false, q42.f, q42.g, q42.h, q43.a, q43.b, q43.c, q43.d, q43.e, q43.f, q43.g, q43.h, q44.a, q44.b, q44.c, q44.d, q44.e, q44.f, q44.g, q44.h, q45.a, q45.b, q45.c, q45.d, q45.e, q45.f, q45.g, q45.h, q46.a, q46.b, q46.c, q46.d, q46.e, q46.f, .bool false, .bool false, q47.a, q47.b, q47.c, q47.d, q47.e, q47.f, q47.g, q47.h, q48.a, q48.b, q48.c, q48.d, q48.e, q48.f, q48.g, q48.h, q49.a, q49.b, q49.c, .bool true, .bool true, .pointer (some ⟨G22, 0, none⟩), .pointer (some ⟨g73, 1, none⟩), .int .i64 (q : Int), .pointer (some ⟨g73, 2, none⟩), q50.b, q50.c, q50.d, q50.e, q50.f, q50.g, q50.h, q51.a, q51.b, q51.c, q51.d, q51.e, q51.f, q51.g, q51.h, q52.a, q52.b, q52.c, q52.d, q52.e, q52.f, q52.g, q52.h, q53.a, q53.b, q53.c, q53.d, q53.e, q53.f, q53.g, q53.h, q54.a, q54.b, q54.c, q54.d, q54.e, q54.f, q54.g, q54.h, q55.a, q55.b, q55.c, q55.d, q55.e, q55.f, q55.g, q55.h, q56.a, q56.b, q56.c]) _ (x_field (j := 2) _ _ rfl rfl Try.underlying54 rfl (by rfl) rfl) rfl ?_
                  refine p_run (l' := _) _ (x_load (.int .i64 bi) rfl rfl (bkCell (HS.get (.tail _ (.head _))) 2 _ rfl) (by rfl)) rfl ?_
                  refine p_run (l' := _) _ (x_field (j := 3) _ _ rfl rfl Try.underlying54 rfl (by rfl) rfl) rfl ?_
                  refine p_run (l' := _) _ (x_load (.int .u8 (bv mk)) rfl rfl (bkCell (HS.get (.tail _ (.head _))) 3 _ rfl) (by rfl)) rfl ?_
                  refine w_call [.pointer (some ⟨G22, 0, none⟩), .int .i64 (q : Int), .int .i64 bi, .int .u8 (bv mk)] Try.func29 (by kernel_rfl) (by rfl) rfl ?_
                  replace HS := (((HS.front 4 rfl).front 4 rfl).front 4 rfl)
                  refine (nTurn_yes (i := q) HS hf (by have := hR.1; omega) (by omega) bi mk).mono ?_
                  clear HS
                  rintro e w901440 ⟨v901438, v901439, rfl, HS⟩
                  refine ⟨_, rfl, ?_⟩
                  refine p_run (l' := _) _ (x_assign (.int .i64 0) rfl rfl) rfl ?_
                  refine wpList_nil ?_
                  refine hK901435 _ _ ?_
                  refine wp_seq_k (fun K901441 hK901442 => ?_)
                  refine c_region (fun ops901444 hops901443 => ?_)
                  clear hops901443
                  refine p_run (l' := _) _ (x_move (.bool true) rfl rfl) rfl ?_
                  refine wpList_nil ?_
                  refine hK901442 _ _ ?_
                  refine c_true rfl ?_
                  refine c_region (fun ops901446 hops901445 => ?_)
                  clear hops901445
                  refine p_run (l' := _) _ (x_move (.slice (some ad2) ((toN fs).length) cr) rfl rfl) rfl ?_
                  refine p_run (l' := [.slice (some ad) l0.length c0, u_, q36.a, .pointer (some ⟨G22, 0, none⟩), .slice (some ad2) ((toN fs).length) cr, u_, .pointer (some ⟨g73, 0, none⟩), .int .i64 0, .bool true, q36.e, q36.f, q36.g, q36.h, .bool true, .bool false, .slice (some ad) l0.length c0, .int .i64 (l0.length : Int), .bool false, .pointer (some ⟨G22, 0, none⟩), v28, .slice (some ad) l0.length c0, .int .i64 (l0.length : Int), .int .i64 (i : Int), .bool (decide ((i : Int) < (l0.length : Int))), .pointer (some ((ad).add (i * 5))), .agg ([.int .i64 3, .int .i64 (q : Int), .int .i64 bi, .int .u8 (bv mk), .slice A4 kp.length c4] : List Value).toArray, .pointer (some ⟨g73, 4, none⟩), .slice A4 kp.length c4, .int .i64 (kp.length : Int), .bool (decide ((kp.length : Int) > 300)), .slice (some ad2) ((toN fs).length) cr, .pointer (some ⟨g73, 1, none⟩), .int .i64 (q : Int), .bool true, .pointer (some ⟨g73, 0, none⟩), .int .i64 3, .bool false, .bool false, q38.h, q39.a, q39.b, q39.c, q39.d, q39.e, q39.f, q39.g, q39.h, q40.a, q40.b, q40.c, q40.d, q40.e, q40.f, q40.g, q40.h, q41.a, q41.b, q41.c, q41.d, q41.e, q41.f, q41.g, q41.h, q42.a, q42.b, q42.c, .bool false, .bool false, q42.f, q42.g, q42.h, q43.a, q43.b, q43.c, q43.d, q43.e, q43.f, q43.g, q43.h, q44.a, q44.b, q44.c, q44.d, q44.e, q44.f, q44.g, q44.h, q45.a, q45.b, q45.c, q45.d, q45.e, q45.f, q45.g, q45.h, q46.a, q46.b, q46.c, q46.d, q46.e, q46.f, .bool false, .bool false, q47.a, q47.b, q47.c, q47.d, q47.e, q47.f, q47.g, q47.h, q48.a, q48.b, q48.c, q48.d, q48.e, q48.f, q48.g, q48.h, q49.a, q49.b, q49.c, .bool true, .bool true, .pointer (some ⟨G22, 0, none⟩), .pointer (some ⟨g73, 1, none⟩), .int .i64 (q : Int), .pointer (some ⟨g73, 2, none⟩), .int .i64 bi, .pointer (some ⟨g73, 3, none⟩), .int .u8 (bv mk), .int .i64 0, .bool true, .slice (some ad2) ((toN fs).length) cr, .pointer (some ⟨g73, 1, none⟩), q51.a, q51.b, q51.c, q51.d, q51.e, q51.f, q51.g, q51.h, q52.a, q52.b, q52.c, q52.d, q52.e, q52.f, q52.g, q52.h, q53.a, q53.b, q53.c, q53.d, q53.e, q53.f, q53.g, q53.h, q54.a, q54.b, q54.c, q54.d, q54.e, q54.f, q54.g, q54.h, q55.a, q55.b, q55.c, q55.d, q55.e, q55.f, q55.g, q55.h, q56.a, q56.b, q56.c]) _ (x_field (j := 1) _ _ rfl rfl Try.underlying54 rfl (by rfl) rfl) rfl ?_
                  refine p_run (l' := _) _ (x_load (.int .i64 (q : Int)) rfl rfl (bkCell (HS.get (.tail _ (.tail _ (.tail _ (.tail _ (.head _)))))) 1 _ rfl) (by rfl)) rfl ?_
                  refine p_run (l' := _) _ (x_field (j := 2) _ _ rfl rfl Try.underlying54 rfl (by rfl) rfl) rfl ?_
                  refine p_run (l' := _) _ (x_load (.int .i64 bi) rfl rfl (bkCell (HS.get (.tail _ (.tail _ (.tail _ (.tail _ (.head _)))))) 2 _ rfl) (by rfl)) rfl ?_
                  refine p_run (l' := _) _ (x_field (j := 3) _ _ rfl rfl Try.underlying54 rfl (by rfl) rfl) rfl ?_
                  refine p_run (l' := _) _ (x_load (.int .u8 (bv mk)) rfl rfl (bkCell (HS.get (.tail _ (.tail _ (.tail _ (.tail _ (.head _)))))) 3 _ rfl) (by rfl)) rfl ?_
                  refine w_call [.slice (some ad2) ((toN fs).length) cr, .int .i64 (q : Int), .int .i64 bi, .int .u8 (bv mk)] Try.func34 (by kernel_rfl) (by rfl) rfl ?_
                  replace HS := (HS.front 3 rfl)
                  refine (rTurn_any HS (i := q) hx (by dsimp only; omega) bi mk (by rw [toN_length]; have := hR.1; omega)).mono ?_
                  clear HS
                  rintro e w901448 ⟨v901447, rfl, HS⟩
                  rw [show (toN fs).set q (tt, turnB xs bi mk) = toN (fs.set q (tt, v901439, turnB xs bi mk)) from (toN_set q (tt, v901439, turnB xs bi mk)).symm] at HS
                  refine ⟨_, rfl, ?_⟩
                  refine p_run (l' := _) _ (x_assign (v901447) rfl rfl) rfl ?_
                  refine wpList_nil ?_
                  refine fr_at (l' := [.slice (some ad) l0.length c0, u_, q36.a, .pointer (some ⟨G22, 0, none⟩), v901447, u_, .pointer (some ⟨g73, 0, none⟩), .int .i64 0, .bool true, q36.e, q36.f, q36.g, q36.h, .bool true, .bool false, .slice (some ad) l0.length c0, .int .i64 (l0.length : Int), .bool false, .pointer (some ⟨G22, 0, none⟩), v28, .slice (some ad) l0.length c0, .int .i64 (l0.length : Int), .int .i64 (i : Int), .bool (decide ((i : Int) < (l0.length : Int))), .pointer (some ((ad).add (i * 5))), .agg ([.int .i64 3, .int .i64 (q : Int), .int .i64 bi, .int .u8 (bv mk), .slice A4 kp.length c4] : List Value).toArray, .pointer (some ⟨g73, 4, none⟩), .slice A4 kp.length c4, .int .i64 (kp.length : Int), .bool (decide ((kp.length : Int) > 300)), .slice (some ad2) ((toN fs).length) cr, .pointer (some ⟨g73, 1, none⟩), .int .i64 (q : Int), .bool true, .pointer (some ⟨g73, 0, none⟩), .int .i64 3, .bool false, .bool false, q38.h, q39.a, q39.b, q39.c, q39.d, q39.e, q39.f, q39.g, q39.h, q40.a, q40.b, q40.c, q40.d, q40.e, q40.f, q40.g, q40.h, q41.a, q41.b, q41.c, q41.d, q41.e, q41.f, q41.g, q41.h, q42.a, q42.b, q42.c, .bool false, .bool false, q42.f, q42.g, q42.h, q43.a, q43.b, q43.c, q43.d, q43.e, q43.f, q43.g, q43.h, q44.a, q44.b, q44.c, q44.d, q44.e, q44.f, q44.g, q44.h, q45.a, q45.b, q45.c, q45.d, q45.e, q45.f, q45.g, q45.h, q46.a, q46.b, q46.c, q46.d, q46.e, q46.f, .bool false, .bool false, q47.a, q47.b, q47.c, q47.d, q47.e, q47.f, q47.g, q47.h, q48.a, q48.b, q48.c, q48.d, q48.e, q48.f, q48.g, q48.h, q49.a, q49.b, q49.c, .bool true, .bool true, .pointer (some ⟨G22, 0, none⟩), .pointer (some ⟨g73, 1, none⟩), .int .i64 (q : Int), .pointer (some ⟨g73, 2, none⟩), .int .i64 bi, .pointer (some ⟨g73, 3, none⟩), .int .u8 (bv mk), .int .i64 0, .bool true, .slice (some ad2) ((toN fs).length) cr, .pointer (some ⟨g73, 1, none⟩), .int .i64 (q : Int), .pointer (some ⟨g73, 2, none⟩), .int .i64 bi, .pointer (some ⟨g73, 3, none⟩), .int .u8 (bv mk), v901447, q51.g, q51.h, q52.a, q52.b, q52.c, q52.d, q52.e, q52.f, q52.g, q52.h, q53.a, q53.b, q53.c, q53.d, q53.e, q53.f, q53.g, q53.h, q54.a, q54.b, q54.c, q54.d, q54.e, q54.f, q54.g, q54.h, q55.a, q55.b, q55.c, q55.d, q55.e, q55.f, q55.g, q55.h, q56.a, q56.b, q56.c]) rfl ?_
                  exact hT98 v901438 (fs.set q (tt, v901439, turnB xs bi mk)) v901447 true 0 ⟨q36.a, q36.e, q36.f, q36.g, q36.h, .pointer (some ⟨g73, 0, none⟩), .int .i64 3, .bool false⟩ ⟨.bool false, q38.h, q39.a, q39.b, q39.c, q39.d, q39.e, q39.f⟩ ⟨q39.g, q39.h, q40.a, q40.b, q40.c, q40.d, q40.e, q40.f⟩ ⟨q40.g, q40.h, q41.a, q41.b, q41.c, q41.d, q41.e, q41.f⟩ ⟨q41.g, q41.h, q42.a, q42.b, q42.c, .bool false, .bool false, q42.f⟩ ⟨q42.g, q42.h, q43.a, q43.b, q43.c, q43.d, q43.e, q43.f⟩ ⟨q43.g, q43.h, q44.a, q44.b, q44.c, q44.d, q44.e, q44.f⟩ ⟨q44.g, q44.h, q45.a, q45.b, q45.c, q45.d, q45.e, q45.f⟩ ⟨q45.g, q45.h, q46.a, q46.b, q46.c, q46.d, q46.e, q46.f⟩ ⟨.bool false, .bool false, q47.a, q47.b, q47.c, q47.d, q47.e, q47.f⟩ ⟨q47.g, q47.h, q48.a, q48.b, q48.c, q48.d, q48.e, q48.f⟩ ⟨q48.g, q48.h, q49.a, q49.b, q49.c, .bool true, .bool true, .pointer (some ⟨G22, 0, none⟩)⟩ ⟨.pointer (some ⟨g73, 1, none⟩), .int .i64 (q : Int), .pointer (some ⟨g73, 2, none⟩), .int .i64 bi, .pointer (some ⟨g73, 3, none⟩), .int .u8 (bv mk), .int .i64 0, .bool true⟩ ⟨.slice (some ad2) ((toN fs).length) cr, .pointer (some ⟨g73, 1, none⟩), .int .i64 (q : Int), .pointer (some ⟨g73, 2, none⟩), .int .i64 bi, .pointer (some ⟨g73, 3, none⟩), .int .u8 (bv mk), v901447⟩ ⟨q51.g, q51.h, q52.a, q52.b, q52.c, q52.d, q52.e, u_⟩ _ (((((HS.front 4 rfl).front 1 rfl).front 4 rfl).front 4 rfl).front 4 rfl) ⟨ri_set hR _ _ _ (by rw [turnB_length]; omega), .inr (.inr (.inl ⟨by omega, rfl, rfl⟩))⟩
                · skip
                  rw [rth_no hno]
                  refine c_region (fun ops901450 hops901449 => ?_)
                  clear hops901449
                  refine p_run (l' := _) _ (x_cmp (k := .i64) (m := 3) (n := 0) .eql false rfl rfl rfl (by decide) rfl) rfl ?_
                  refine p_run (l' := _) _ (x_assign (.bool false) rfl rfl) rfl ?_
                  refine wpList_nil ?_
                  refine hK142 _ _ ?_
                  refine c_false rfl ?_
                  refine wp_seq_k (fun K901451 hK901452 => ?_)
                  refine c_region (fun ops901454 hops901453 => ?_)
                  clear hops901453
                  refine p_run (l' := _) _ (x_cmp (k := .i64) (m := 3) (n := 1) .eql false rfl rfl rfl (by decide) rfl) rfl ?_
                  refine p_run (l' := _) _ (x_assign (.bool false) rfl rfl) rfl ?_
                  refine wpList_nil ?_
                  refine hK901452 _ _ ?_
                  refine c_false rfl ?_
                  refine wp_seq_k (fun K901455 hK901456 => ?_)
                  refine c_region (fun ops901458 hops901457 => ?_)
                  clear hops901457
                  refine p_run (l' := _) _ (x_cmp (k := .i64) (m := 3) (n := 2) .eql false rfl rfl rfl (by decide) rfl) rfl ?_
                  refine p_run (l' := _) _ (x_assign (.bool false) rfl rfl) rfl ?_
                  refine wpList_nil ?_
                  refine hK901456 _ _ ?_
                  refine c_false rfl ?_
                  refine wp_seq_k (fun K901459 hK901460 => ?_)
                  refine c_region (fun ops901462 hops901461 => ?_)
                  clear hops901461
                  refine p_run (l' := _) _ (x_cmp (k := .i64) (m := 3) (n := 3) .eql true rfl rfl rfl (by decide) rfl) rfl ?_
                  refine p_run (l' := [.slice (some ad) l0.length c0, u_, q36.a, .pointer (some ⟨G22, 0, none⟩), .slice Ar ((toN fs).length) cr, u_, .pointer (some ⟨g73, 0, none⟩), .int .i64 0, .bool false, q36.e, q36.f, q36.g, q36.h, .bool true, .bool false, .slice (some ad) l0.length c0, .int .i64 (l0.length : Int), .bool false, .pointer (some ⟨G22, 0, none⟩), v28, .slice (some ad) l0.length c0, .int .i64 (l0.length : Int), .int .i64 (i : Int), .bool (decide ((i : Int) < (l0.length : Int))), .pointer (some ((ad).add (i * 5))), .agg ([.int .i64 3, .int .i64 aa, .int .i64 bi, .int .u8 (bv mk), .slice A4 kp.length c4] : List Value).toArray, .pointer (some ⟨g73, 4, none⟩), .slice A4 kp.length c4, .int .i64 (kp.length : Int), .bool (decide ((kp.length : Int) > 300)), .slice Ar ((toN fs).length) cr, .pointer (some ⟨g73, 1, none⟩), .int .i64 aa, .bool false, .pointer (some ⟨g73, 0, none⟩), .int .i64 3, .bool false, .bool false, q38.h, q39.a, q39.b, q39.c, q39.d, q39.e, q39.f, q39.g, q39.h, q40.a, q40.b, q40.c, q40.d, q40.e, q40.f, q40.g, q40.h, q41.a, q41.b, q41.c, q41.d, q41.e, q41.f, q41.g, q41.h, q42.a, q42.b, q42.c, .bool false, .bool false, q42.f, q42.g, q42.h, q43.a, q43.b, q43.c, q43.d, q43.e, q43.f, q43.g, q43.h, q44.a, q44.b, q44.c, q44.d, q44.e, q44.f, q44.g, q44.h, q45.a, q45.b, q45.c, q45.d, q45.e, q45.f, q45.g, q45.h, q46.a, q46.b, q46.c, q46.d, q46.e, q46.f, .bool false, .bool false, q47.a, q47.b, q47.c, q47.d, q47.e, q47.f, q47.g, q47.h, q48.a, q48.b, q48.c, q48.d, q48.e, q48.f, q48.g, q48.h, q49.a, q49.b, q49.c, .bool true, .bool true, q49.f, q49.g, q49.h, q50.a, q50.b, q50.c, q50.d, q50.e, q50.f, q50.g, q50.h, q51.a, q51.b, q51.c, q51.d, q51.e, q51.f, q51.g, q51.h, q52.a, q52.b, q52.c, q52.d, q52.e, q52.f, q52.g, q52.h, q53.a, q53.b, q53.c, q53.d, q53.e, q53.f, q53.g, q53.h, q54.a, q54.b, q54.c, q54.d, q54.e, q54.f, q54.g, q54.h, q55.a, q55.b, q55.c, q55.d, q55.e, q55.f, q55.g, q55.h, q56.a, q56.b, q56.c]) _ (x_assign (.bool true) rfl rfl) rfl ?_
                  refine wpList_nil ?_
                  refine hK901460 _ _ ?_
                  refine c_true rfl ?_
                  refine wp_seq_k (fun K901463 hK901464 => ?_)
                  refine c_region (fun ops901466 hops901465 => ?_)
                  clear hops901465
                  refine p_run (l' := _) _ (x_move (.pointer (some ⟨G22, 0, none⟩)) rfl rfl) rfl ?_
                  refine p_run (l' := _) _ (x_field (j := 1) _ _ rfl rfl Try.underlying54 rfl (by rfl) rfl) rfl ?_
                  refine p_run (l' := _) _ (x_load (.int .i64 aa) rfl rfl (bkCell (HS.get (.tail _ (.head _))) 1 _ rfl) (by rfl)) rfl ?_
                  refine p_run (l' := _) _ (x_field (j := 2) _ _ rfl rfl Try.underlying54 rfl (by rfl) rfl) rfl ?_
                  refine p_run (l' := _) _ (x_load (.int .i64 bi) rfl rfl (bkCell (HS.get (.tail _ (.head _))) 2 _ rfl) (by rfl)) rfl ?_
                  refine p_run (l' := _) _ (x_field (j := 3) _ _ rfl rfl Try.underlying54 rfl (by rfl) rfl) rfl ?_
                  refine p_run (l' := _) _ (x_load (.int .u8 (bv mk)) rfl rfl (bkCell (HS.get (.tail _ (.head _))) 3 _ rfl) (by rfl)) rfl ?_
                  refine w_call [.pointer (some ⟨G22, 0, none⟩), .int .i64 aa, .int .i64 bi, .int .u8 (bv mk)] Try.func29 (by kernel_rfl) (by rfl) rfl ?_
                  replace HS := (((HS.front 4 rfl).front 4 rfl).front 4 rfl)
                  refine (nTurn_no HS aa hno bi mk).mono ?_
                  rintro e w' ⟨rfl, rfl⟩
                  refine ⟨_, rfl, ?_⟩
                  refine fr_to (l' := [.slice (some ad) l0.length c0, u_, q36.a, .pointer (some ⟨G22, 0, none⟩), .slice Ar ((toN fs).length) cr, u_, .pointer (some ⟨g73, 0, none⟩), .int .i64 0, .bool false, q36.e, q36.f, q36.g, q36.h, .bool true, .bool false, .slice (some ad) l0.length c0, .int .i64 (l0.length : Int), .bool false, .pointer (some ⟨G22, 0, none⟩), v28, .slice (some ad) l0.length c0, .int .i64 (l0.length : Int), .int .i64 (i : Int), .bool (decide ((i : Int) < (l0.length : Int))), .pointer (some ((ad).add (i * 5))), .agg ([.int .i64 3, .int .i64 aa, .int .i64 bi, .int .u8 (bv mk), .slice A4 kp.length c4] : List Value).toArray, .pointer (some ⟨g73, 4, none⟩), .slice A4 kp.length c4, .int .i64 (kp.length : Int), .bool (decide ((kp.length : Int) > 300)), .slice Ar ((toN fs).length) cr, .pointer (some ⟨g73, 1, none⟩), .int .i64 aa, .bool false, .pointer (some ⟨g73, 0, none⟩), .int .i64 3, .bool false, .bool false, q38.h, q39.a, q39.b, q39.c, q39.d, q39.e, q39.f, q39.g, q39.h, q40.a, q40.b, q40.c, q40.d, q40.e, q40.f, q40.g, q40.h, q41.a, q41.b, q41.c, q41.d, q41.e, q41.f, q41.g, q41.h, q42.a, q42.b, q42.c, .bool false, .bool false, q42.f, q42.g, q42.h, q43.a, q43.b, q43.c, q43.d, q43.e, q43.f, q43.g, q43.h, q44.a, q44.b, q44.c, q44.d, q44.e, q44.f, q44.g, q44.h, q45.a, q45.b, q45.c, q45.d, q45.e, q45.f, q45.g, q45.h, q46.a, q46.b, q46.c, q46.d, q46.e, q46.f, .bool false, .bool false, q47.a, q47.b, q47.c, q47.d, q47.e, q47.f, q47.g, q47.h, q48.a, q48.b, q48.c, q48.d, q48.e, q48.f, q48.g, q48.h, q49.a, q49.b, q49.c, .bool true, .bool true, .pointer (some ⟨G22, 0, none⟩), .pointer (some ⟨g73, 1, none⟩), .int .i64 aa, .pointer (some ⟨g73, 2, none⟩), .int .i64 bi, .pointer (some ⟨g73, 3, none⟩), .int .u8 (bv mk), .int .i64 191, q50.f, q50.g, q50.h, q51.a, q51.b, q51.c, q51.d, q51.e, q51.f, q51.g, q51.h, q52.a, q52.b, q52.c, q52.d, q52.e, q52.f, q52.g, q52.h, q53.a, q53.b, q53.c, q53.d, q53.e, q53.f, q53.g, q53.h, q54.a, q54.b, q54.c, q54.d, q54.e, q54.f, q54.g, q54.h, q55.a, q55.b, q55.c, q55.d, q55.e, q55.f, q55.g, q55.h, q56.a, q56.b, q56.c]) rfl ?_
                  refine p_run (l' := _) _ (x_assign (.int .i64 191) rfl rfl) rfl ?_
                  refine wpList_nil ?_
                  refine hK901464 _ _ ?_
                  refine wp_seq_k (fun K901467 hK901468 => ?_)
                  refine c_region (fun ops901470 hops901469 => ?_)
                  clear hops901469
                  refine p_run (l' := _) _ (x_move (.bool false) rfl rfl) rfl ?_
                  refine wpList_nil ?_
                  refine hK901468 _ _ ?_
                  refine c_false rfl ?_
                  refine wp_skip ?_
                  exact hT98 v fs (.slice Ar ((toN fs).length) cr) false 191 ⟨q36.a, q36.e, q36.f, q36.g, q36.h, .pointer (some ⟨g73, 0, none⟩), .int .i64 3, .bool false⟩ ⟨.bool false, q38.h, q39.a, q39.b, q39.c, q39.d, q39.e, q39.f⟩ ⟨q39.g, q39.h, q40.a, q40.b, q40.c, q40.d, q40.e, q40.f⟩ ⟨q40.g, q40.h, q41.a, q41.b, q41.c, q41.d, q41.e, q41.f⟩ ⟨q41.g, q41.h, q42.a, q42.b, q42.c, .bool false, .bool false, q42.f⟩ ⟨q42.g, q42.h, q43.a, q43.b, q43.c, q43.d, q43.e, q43.f⟩ ⟨q43.g, q43.h, q44.a, q44.b, q44.c, q44.d, q44.e, q44.f⟩ ⟨q44.g, q44.h, q45.a, q45.b, q45.c, q45.d, q45.e, q45.f⟩ ⟨q45.g, q45.h, q46.a, q46.b, q46.c, q46.d, q46.e, q46.f⟩ ⟨.bool false, .bool false, q47.a, q47.b, q47.c, q47.d, q47.e, q47.f⟩ ⟨q47.g, q47.h, q48.a, q48.b, q48.c, q48.d, q48.e, q48.f⟩ ⟨q48.g, q48.h, q49.a, q49.b, q49.c, .bool true, .bool true, .pointer (some ⟨G22, 0, none⟩)⟩ ⟨.pointer (some ⟨g73, 1, none⟩), .int .i64 aa, .pointer (some ⟨g73, 2, none⟩), .int .i64 bi, .pointer (some ⟨g73, 3, none⟩), .int .u8 (bv mk), .int .i64 191, .bool false⟩ ⟨q50.g, q50.h, q51.a, q51.b, q51.c, q51.d, q51.e, q51.f⟩ ⟨q51.g, q51.h, q52.a, q52.b, q52.c, q52.d, q52.e, u_⟩ _ (((((HS.front 4 rfl).front 4 rfl).front 4 rfl).front 4 rfl).front 4 rfl) ⟨hR, .inr (.inr (.inr ⟨by omega, rfl, rfl⟩))⟩
              · skip
                refine c_region (fun ops901472 hops901471 => ?_)
                clear hops901471
                refine p_run (l' := _) _ (x_cmp (k := .i64) (m := 4) (n := 0) .eql false rfl rfl rfl (by decide) rfl) rfl ?_
                refine p_run (l' := _) _ (x_assign (.bool false) rfl rfl) rfl ?_
                refine wpList_nil ?_
                refine hK142 _ _ ?_
                refine c_false rfl ?_
                refine wp_seq_k (fun K901473 hK901474 => ?_)
                refine c_region (fun ops901476 hops901475 => ?_)
                clear hops901475
                refine p_run (l' := _) _ (x_cmp (k := .i64) (m := 4) (n := 1) .eql false rfl rfl rfl (by decide) rfl) rfl ?_
                refine p_run (l' := _) _ (x_assign (.bool false) rfl rfl) rfl ?_
                refine wpList_nil ?_
                refine hK901474 _ _ ?_
                refine c_false rfl ?_
                refine wp_seq_k (fun K901477 hK901478 => ?_)
                refine c_region (fun ops901480 hops901479 => ?_)
                clear hops901479
                refine p_run (l' := _) _ (x_cmp (k := .i64) (m := 4) (n := 2) .eql false rfl rfl rfl (by decide) rfl) rfl ?_
                refine p_run (l' := [.slice (some ad) l0.length c0, u_, q36.a, .pointer (some ⟨G22, 0, none⟩), .slice Ar ((toN fs).length) cr, u_, .pointer (some ⟨g73, 0, none⟩), .int .i64 0, .bool (rTh (toN fs) aa), q36.e, q36.f, q36.g, q36.h, .bool true, .bool false, .slice (some ad) l0.length c0, .int .i64 (l0.length : Int), .bool false, .pointer (some ⟨G22, 0, none⟩), v28, .slice (some ad) l0.length c0, .int .i64 (l0.length : Int), .int .i64 (i : Int), .bool (decide ((i : Int) < (l0.length : Int))), .pointer (some ((ad).add (i * 5))), .agg ([.int .i64 4, .int .i64 aa, .int .i64 bi, .int .u8 (bv mk), .slice A4 kp.length c4] : List Value).toArray, .pointer (some ⟨g73, 4, none⟩), .slice A4 kp.length c4, .int .i64 (kp.length : Int), .bool (decide ((kp.length : Int) > 300)), .slice Ar ((toN fs).length) cr, .pointer (some ⟨g73, 1, none⟩), .int .i64 aa, .bool (rTh (toN fs) aa), .pointer (some ⟨g73, 0, none⟩), .int .i64 4, .bool false, .bool false, q38.h, q39.a, q39.b, q39.c, q39.d, q39.e, q39.f, q39.g, q39.h, q40.a, q40.b, q40.c, q40.d, q40.e, q40.f, q40.g, q40.h, q41.a, q41.b, q41.c, q41.d, q41.e, q41.f, q41.g, q41.h, q42.a, q42.b, q42.c, .bool false, .bool false, q42.f, q42.g, q42.h, q43.a, q43.b, q43.c, q43.d, q43.e, q43.f, q43.g, q43.h, q44.a, q44.b, q44.c, q44.d, q44.e, q44.f, q44.g, q44.h, q45.a, q45.b, q45.c, q45.d, q45.e, q45.f, q45.g, q45.h, q46.a, q46.b, q46.c, q46.d, q46.e, q46.f, .bool false, .bool false, q47.a, q47.b, q47.c, q47.d, q47.e, q47.f, q47.g, q47.h, q48.a, q48.b, q48.c, q48.d, q48.e, q48.f, q48.g, q48.h, q49.a, q49.b, q49.c, q49.d, q49.e, q49.f, q49.g, q49.h, q50.a, q50.b, q50.c, q50.d, q50.e, q50.f, q50.g, q50.h, q51.a, q51.b, q51.c, q51.d, q51.e, q51.f, q51.g, q51.h, q52.a, q52.b, q52.c, q52.d, q52.e, q52.f, q52.g, q52.h, q53.a, q53.b, q53.c, q53.d, q53.e, q53.f, q53.g, q53.h, q54.a, q54.b, q54.c, q54.d, q54.e, q54.f, q54.g, q54.h, q55.a, q55.b, q55.c, q55.d, q55.e, q55.f, q55.g, q55.h, q56.a, q56.b, q56.c]) _ (x_assign (.bool false) rfl rfl) rfl ?_
                refine wpList_nil ?_
                refine hK901478 _ _ ?_
                refine c_false rfl ?_
                refine wp_seq_k (fun K901481 hK901482 => ?_)
                refine c_region (fun ops901484 hops901483 => ?_)
                clear hops901483
                refine p_run (l' := _) _ (x_cmp (k := .i64) (m := 4) (n := 3) .eql false rfl rfl rfl (by decide) rfl) rfl ?_
                refine p_run (l' := _) _ (x_assign (.bool false) rfl rfl) rfl ?_
                refine wpList_nil ?_
                refine hK901482 _ _ ?_
                refine c_false rfl ?_
                refine wp_seq_k (fun K901485 hK901486 => ?_)
                refine c_region (fun ops901488 hops901487 => ?_)
                clear hops901487
                refine p_run (l' := _) _ (x_cmp (k := .i64) (m := 4) (n := 4) .eql true rfl rfl rfl (by decide) rfl) rfl ?_
                refine p_run (l' := _) _ (x_assign (.bool true) rfl rfl) rfl ?_
                refine wpList_nil ?_
                refine hK901486 _ _ ?_
                refine c_true rfl ?_
                refine wp_seq_k (fun K901489 hK901490 => ?_)
                refine wp_seq_k (fun K901491 hK901492 => ?_)
                refine c_region (fun ops901494 hops901493 => ?_)
                clear hops901493
                refine p_run (l' := _) _ (x_move (.pointer (some ⟨G22, 0, none⟩)) rfl rfl) rfl ?_
                refine w_call [.pointer (some ⟨G22, 0, none⟩)] Try.func26 (by kernel_rfl) (by rfl) rfl ?_
                replace HS := (((HS.front 4 rfl).front 4 rfl).front 4 rfl)
                refine (nClear_any HS).mono ?_
                clear HS
                rintro e w901495 ⟨rfl, HS⟩
                refine ⟨_, rfl, ?_⟩
                refine p_run (l' := _) _ (x_move (.slice Ar ((toN fs).length) cr) rfl rfl) rfl ?_
                refine p_run (l' := [.slice (some ad) l0.length c0, u_, q36.a, .pointer (some ⟨G22, 0, none⟩), .slice Ar ((toN fs).length) cr, u_, .pointer (some ⟨g73, 0, none⟩), .int .i64 0, .bool (rTh (toN fs) aa), q36.e, q36.f, q36.g, q36.h, .bool true, .bool false, .slice (some ad) l0.length c0, .int .i64 (l0.length : Int), .bool false, .pointer (some ⟨G22, 0, none⟩), v28, .slice (some ad) l0.length c0, .int .i64 (l0.length : Int), .int .i64 (i : Int), .bool (decide ((i : Int) < (l0.length : Int))), .pointer (some ((ad).add (i * 5))), .agg ([.int .i64 4, .int .i64 aa, .int .i64 bi, .int .u8 (bv mk), .slice A4 kp.length c4] : List Value).toArray, .pointer (some ⟨g73, 4, none⟩), .slice A4 kp.length c4, .int .i64 (kp.length : Int), .bool (decide ((kp.length : Int) > 300)), .slice Ar ((toN fs).length) cr, .pointer (some ⟨g73, 1, none⟩), .int .i64 aa, .bool (rTh (toN fs) aa), .pointer (some ⟨g73, 0, none⟩), .int .i64 4, .bool false, .bool false, q38.h, q39.a, q39.b, q39.c, q39.d, q39.e, q39.f, q39.g, q39.h, q40.a, q40.b, q40.c, q40.d, q40.e, q40.f, q40.g, q40.h, q41.a, q41.b, q41.c, q41.d, q41.e, q41.f, q41.g, q41.h, q42.a, q42.b, q42.c, .bool false, .bool false, q42.f, q42.g, q42.h, q43.a, q43.b, q43.c, q43.d, q43.e, q43.f, q43.g, q43.h, q44.a, q44.b, q44.c, q44.d, q44.e, q44.f, q44.g, q44.h, q45.a, q45.b, q45.c, q45.d, q45.e, q45.f, q45.g, q45.h, q46.a, q46.b, q46.c, q46.d, q46.e, q46.f, .bool false, .bool false, q47.a, q47.b, q47.c, q47.d, q47.e, q47.f, q47.g, q47.h, q48.a, q48.b, q48.c, q48.d, q48.e, q48.f, q48.g, q48.h, q49.a, q49.b, q49.c, .bool false, .bool false, q49.f, q49.g, q49.h, q50.a, q50.b, q50.c, q50.d, q50.e, q50.f, q50.g, q50.h, q51.a, q51.b, q51.c, q51.d, q51.e, q51.f, .bool true, .bool true, .pointer (some ⟨G22, 0, none⟩), .int .i64 (fs.length : Int), .slice Ar ((toN fs).length) cr, .int .i64 ((toN fs).length : Int), q52.e, q52.f, q52.g, q52.h, q53.a, q53.b, q53.c, q53.d, q53.e, q53.f, q53.g, q53.h, q54.a, q54.b, q54.c, q54.d, q54.e, q54.f, q54.g, q54.h, q55.a, q55.b, q55.c, q55.d, q55.e, q55.f, q55.g, q55.h, q56.a, q56.b, q56.c]) _ (x_len rfl rfl Try.underlying52) rfl ?_
                refine p_run (l' := _) _ (x_cmp (k := .i64) (m := (fs.length : Int)) (n := ((toN fs).length : Int)) .neq false rfl rfl rfl (by unfold cmpB; rw [toN_length]; simp) rfl) rfl ?_
                refine wpList_nil ?_
                refine hK901492 _ _ ?_
                refine c_false rfl ?_
                refine wp_skip ?_
                refine hK901490 _ _ ?_
                refine c_region (fun ops901497 hops901496 => ?_)
                clear hops901496
                refine p_run (l' := _) _ (x_assign (.slice none 0 0) rfl rfl) rfl ?_
                replace HS := HS.nil kPk rfl 58
                replace HS := (HS.front 4 rfl).drop
                refine wpList_nil ?_
                refine fr_at (l' := [.slice (some ad) l0.length c0, u_, q36.a, .pointer (some ⟨G22, 0, none⟩), .slice none 0 0, u_, .pointer (some ⟨g73, 0, none⟩), .int .i64 0, .bool (rTh (toN fs) aa), q36.e, q36.f, q36.g, q36.h, .bool true, .bool false, .slice (some ad) l0.length c0, .int .i64 (l0.length : Int), .bool false, .pointer (some ⟨G22, 0, none⟩), v28, .slice (some ad) l0.length c0, .int .i64 (l0.length : Int), .int .i64 (i : Int), .bool (decide ((i : Int) < (l0.length : Int))), .pointer (some ((ad).add (i * 5))), .agg ([.int .i64 4, .int .i64 aa, .int .i64 bi, .int .u8 (bv mk), .slice A4 kp.length c4] : List Value).toArray, .pointer (some ⟨g73, 4, none⟩), .slice A4 kp.length c4, .int .i64 (kp.length : Int), .bool (decide ((kp.length : Int) > 300)), .slice Ar ((toN fs).length) cr, .pointer (some ⟨g73, 1, none⟩), .int .i64 aa, .bool (rTh (toN fs) aa), .pointer (some ⟨g73, 0, none⟩), .int .i64 4, .bool false, .bool false, q38.h, q39.a, q39.b, q39.c, q39.d, q39.e, q39.f, q39.g, q39.h, q40.a, q40.b, q40.c, q40.d, q40.e, q40.f, q40.g, q40.h, q41.a, q41.b, q41.c, q41.d, q41.e, q41.f, q41.g, q41.h, q42.a, q42.b, q42.c, .bool false, .bool false, q42.f, q42.g, q42.h, q43.a, q43.b, q43.c, q43.d, q43.e, q43.f, q43.g, q43.h, q44.a, q44.b, q44.c, q44.d, q44.e, q44.f, q44.g, q44.h, q45.a, q45.b, q45.c, q45.d, q45.e, q45.f, q45.g, q45.h, q46.a, q46.b, q46.c, q46.d, q46.e, q46.f, .bool false, .bool false, q47.a, q47.b, q47.c, q47.d, q47.e, q47.f, q47.g, q47.h, q48.a, q48.b, q48.c, q48.d, q48.e, q48.f, q48.g, q48.h, q49.a, q49.b, q49.c, .bool false, .bool false, q49.f, q49.g, q49.h, q50.a, q50.b, q50.c, q50.d, q50.e, q50.f, q50.g, q50.h, q51.a, q51.b, q51.c, q51.d, q51.e, q51.f, .bool true, .bool true, .pointer (some ⟨G22, 0, none⟩), .int .i64 (fs.length : Int), .slice Ar ((toN fs).length) cr, .int .i64 ((toN fs).length : Int), .bool false, q52.f, q52.g, q52.h, q53.a, q53.b, q53.c, q53.d, q53.e, q53.f, q53.g, q53.h, q54.a, q54.b, q54.c, q54.d, q54.e, q54.f, q54.g, q54.h, q55.a, q55.b, q55.c, q55.d, q55.e, q55.f, q55.g, q55.h, q56.a, q56.b, q56.c]) rfl ?_
                exact hT98 (.slice none 0 0) [] (.slice none 0 0) (rTh (toN fs) aa) 0 ⟨q36.a, q36.e, q36.f, q36.g, q36.h, .pointer (some ⟨g73, 0, none⟩), .int .i64 4, .bool false⟩ ⟨.bool false, q38.h, q39.a, q39.b, q39.c, q39.d, q39.e, q39.f⟩ ⟨q39.g, q39.h, q40.a, q40.b, q40.c, q40.d, q40.e, q40.f⟩ ⟨q40.g, q40.h, q41.a, q41.b, q41.c, q41.d, q41.e, q41.f⟩ ⟨q41.g, q41.h, q42.a, q42.b, q42.c, .bool false, .bool false, q42.f⟩ ⟨q42.g, q42.h, q43.a, q43.b, q43.c, q43.d, q43.e, q43.f⟩ ⟨q43.g, q43.h, q44.a, q44.b, q44.c, q44.d, q44.e, q44.f⟩ ⟨q44.g, q44.h, q45.a, q45.b, q45.c, q45.d, q45.e, q45.f⟩ ⟨q45.g, q45.h, q46.a, q46.b, q46.c, q46.d, q46.e, q46.f⟩ ⟨.bool false, .bool false, q47.a, q47.b, q47.c, q47.d, q47.e, q47.f⟩ ⟨q47.g, q47.h, q48.a, q48.b, q48.c, q48.d, q48.e, q48.f⟩ ⟨q48.g, q48.h, q49.a, q49.b, q49.c, .bool false, .bool false, q49.f⟩ ⟨q49.g, q49.h, q50.a, q50.b, q50.c, q50.d, q50.e, q50.f⟩ ⟨q50.g, q50.h, q51.a, q51.b, q51.c, q51.d, q51.e, q51.f⟩ ⟨.bool true, .bool true, .pointer (some ⟨G22, 0, none⟩), .int .i64 (fs.length : Int), .slice Ar ((toN fs).length) cr, .int .i64 ((toN fs).length : Int), .bool false, u_⟩ _ (((((HS.front 4 rfl).front 1 rfl).front 4 rfl).front 4 rfl).front 4 rfl) ⟨ri_nil, .inr (.inl ⟨by omega, rfl⟩)⟩
              · skip
                refine c_region (fun ops901499 hops901498 => ?_)
                clear hops901498
                refine p_run (l' := _) _ (x_cmp (k := .i64) (m := kd) (n := 0) .eql false rfl rfl rfl (beq_eq_false_iff_ne.2 (by omega)) rfl) rfl ?_
                refine p_run (l' := _) _ (x_assign (.bool false) rfl rfl) rfl ?_
                refine wpList_nil ?_
                refine hK142 _ _ ?_
                refine c_false rfl ?_
                refine wp_seq_k (fun K901500 hK901501 => ?_)
                refine c_region (fun ops901503 hops901502 => ?_)
                clear hops901502
                refine p_run (l' := _) _ (x_cmp (k := .i64) (m := kd) (n := 1) .eql false rfl rfl rfl (beq_eq_false_iff_ne.2 (by omega)) rfl) rfl ?_
                refine p_run (l' := _) _ (x_assign (.bool false) rfl rfl) rfl ?_
                refine wpList_nil ?_
                refine hK901501 _ _ ?_
                refine c_false rfl ?_
                refine wp_seq_k (fun K901504 hK901505 => ?_)
                refine c_region (fun ops901507 hops901506 => ?_)
                clear hops901506
                refine p_run (l' := _) _ (x_cmp (k := .i64) (m := kd) (n := 2) .eql false rfl rfl rfl (beq_eq_false_iff_ne.2 (by omega)) rfl) rfl ?_
                refine p_run (l' := _) _ (x_assign (.bool false) rfl rfl) rfl ?_
                refine wpList_nil ?_
                refine hK901505 _ _ ?_
                refine c_false rfl ?_
                refine wp_seq_k (fun K901508 hK901509 => ?_)
                refine c_region (fun ops901511 hops901510 => ?_)
                clear hops901510
                refine p_run (l' := _) _ (x_cmp (k := .i64) (m := kd) (n := 3) .eql false rfl rfl rfl (beq_eq_false_iff_ne.2 (by omega)) rfl) rfl ?_
                refine p_run (l' := [.slice (some ad) l0.length c0, u_, q36.a, .pointer (some ⟨G22, 0, none⟩), .slice Ar ((toN fs).length) cr, u_, .pointer (some ⟨g73, 0, none⟩), .int .i64 0, .bool (rTh (toN fs) aa), q36.e, q36.f, q36.g, q36.h, .bool true, .bool false, .slice (some ad) l0.length c0, .int .i64 (l0.length : Int), .bool false, .pointer (some ⟨G22, 0, none⟩), v28, .slice (some ad) l0.length c0, .int .i64 (l0.length : Int), .int .i64 (i : Int), .bool (decide ((i : Int) < (l0.length : Int))), .pointer (some ((ad).add (i * 5))), .agg ([.int .i64 kd, .int .i64 aa, .int .i64 bi, .int .u8 (bv mk), .slice A4 kp.length c4] : List Value).toArray, .pointer (some ⟨g73, 4, none⟩), .slice A4 kp.length c4, .int .i64 (kp.length : Int), .bool (decide ((kp.length : Int) > 300)), .slice Ar ((toN fs).length) cr, .pointer (some ⟨g73, 1, none⟩), .int .i64 aa, .bool (rTh (toN fs) aa), .pointer (some ⟨g73, 0, none⟩), .int .i64 kd, .bool false, .bool false, q38.h, q39.a, q39.b, q39.c, q39.d, q39.e, q39.f, q39.g, q39.h, q40.a, q40.b, q40.c, q40.d, q40.e, q40.f, q40.g, q40.h, q41.a, q41.b, q41.c, q41.d, q41.e, q41.f, q41.g, q41.h, q42.a, q42.b, q42.c, .bool false, .bool false, q42.f, q42.g, q42.h, q43.a, q43.b, q43.c, q43.d, q43.e, q43.f, q43.g, q43.h, q44.a, q44.b, q44.c, q44.d, q44.e, q44.f, q44.g, q44.h, q45.a, q45.b, q45.c, q45.d, q45.e, q45.f, q45.g, q45.h, q46.a, q46.b, q46.c, q46.d, q46.e, q46.f, .bool false, .bool false, q47.a, q47.b, q47.c, q47.d, q47.e, q47.f, q47.g, q47.h, q48.a, q48.b, q48.c, q48.d, q48.e, q48.f, q48.g, q48.h, q49.a, q49.b, q49.c, .bool false, .bool false, q49.f, q49.g, q49.h, q50.a, q50.b, q50.c, q50.d, q50.e, q50.f, q50.g, q50.h, q51.a, q51.b, q51.c, q51.d, q51.e, q51.f, q51.g, q51.h, q52.a, q52.b, q52.c, q52.d, q52.e, q52.f, q52.g, q52.h, q53.a, q53.b, q53.c, q53.d, q53.e, q53.f, q53.g, q53.h, q54.a, q54.b, q54.c, q54.d, q54.e, q54.f, q54.g, q54.h, q55.a, q55.b, q55.c, q55.d, q55.e, q55.f, q55.g, q55.h, q56.a, q56.b, q56.c]) _ (x_assign (.bool false) rfl rfl) rfl ?_
                refine wpList_nil ?_
                refine hK901509 _ _ ?_
                refine c_false rfl ?_
                refine wp_seq_k (fun K901512 hK901513 => ?_)
                refine c_region (fun ops901515 hops901514 => ?_)
                clear hops901514
                refine p_run (l' := _) _ (x_cmp (k := .i64) (m := kd) (n := 4) .eql false rfl rfl rfl (beq_eq_false_iff_ne.2 (by omega)) rfl) rfl ?_
                refine p_run (l' := _) _ (x_assign (.bool false) rfl rfl) rfl ?_
                refine wpList_nil ?_
                refine hK901513 _ _ ?_
                refine c_false rfl ?_
                refine wp_skip ?_
                exact hT98 v fs (.slice Ar ((toN fs).length) cr) (rTh (toN fs) aa) 0 ⟨q36.a, q36.e, q36.f, q36.g, q36.h, .pointer (some ⟨g73, 0, none⟩), .int .i64 kd, .bool false⟩ ⟨.bool false, q38.h, q39.a, q39.b, q39.c, q39.d, q39.e, q39.f⟩ ⟨q39.g, q39.h, q40.a, q40.b, q40.c, q40.d, q40.e, q40.f⟩ ⟨q40.g, q40.h, q41.a, q41.b, q41.c, q41.d, q41.e, q41.f⟩ ⟨q41.g, q41.h, q42.a, q42.b, q42.c, .bool false, .bool false, q42.f⟩ ⟨q42.g, q42.h, q43.a, q43.b, q43.c, q43.d, q43.e, q43.f⟩ ⟨q43.g, q43.h, q44.a, q44.b, q44.c, q44.d, q44.e, q44.f⟩ ⟨q44.g, q44.h, q45.a, q45.b, q45.c, q45.d, q45.e, q45.f⟩ ⟨q45.g, q45.h, q46.a, q46.b, q46.c, q46.d, q46.e, q46.f⟩ ⟨.bool false, .bool false, q47.a, q47.b, q47.c, q47.d, q47.e, q47.f⟩ ⟨q47.g, q47.h, q48.a, q48.b, q48.c, q48.d, q48.e, q48.f⟩ ⟨q48.g, q48.h, q49.a, q49.b, q49.c, .bool false, .bool false, q49.f⟩ ⟨q49.g, q49.h, q50.a, q50.b, q50.c, q50.d, q50.e, q50.f⟩ ⟨q50.g, q50.h, q51.a, q51.b, q51.c, q51.d, q51.e, q51.f⟩ ⟨.bool false, .bool false, q52.a, q52.b, q52.c, q52.d, q52.e, u_⟩ _ (((((HS.front 1 rfl).front 1 rfl).front 4 rfl).front 4 rfl).front 4 rfl) ⟨hR, .inl ⟨by omega, rfl⟩⟩
              · skip
                refine c_region (fun ops901517 hops901516 => ?_)
                clear hops901516
                refine p_run (l' := _) _ (x_cmp (k := .i64) (m := kd) (n := 0) .eql false rfl rfl rfl (beq_eq_false_iff_ne.2 (by omega)) rfl) rfl ?_
                refine p_run (l' := _) _ (x_assign (.bool false) rfl rfl) rfl ?_
                refine wpList_nil ?_
                refine hK142 _ _ ?_
                refine c_false rfl ?_
                refine wp_seq_k (fun K901518 hK901519 => ?_)
                refine c_region (fun ops901521 hops901520 => ?_)
                clear hops901520
                refine p_run (l' := _) _ (x_cmp (k := .i64) (m := kd) (n := 1) .eql false rfl rfl rfl (beq_eq_false_iff_ne.2 (by omega)) rfl) rfl ?_
                refine p_run (l' := _) _ (x_assign (.bool false) rfl rfl) rfl ?_
                refine wpList_nil ?_
                refine hK901519 _ _ ?_
                refine c_false rfl ?_
                refine wp_seq_k (fun K901522 hK901523 => ?_)
                refine c_region (fun ops901525 hops901524 => ?_)
                clear hops901524
                refine p_run (l' := _) _ (x_cmp (k := .i64) (m := kd) (n := 2) .eql false rfl rfl rfl (beq_eq_false_iff_ne.2 (by omega)) rfl) rfl ?_
                refine p_run (l' := [.slice (some ad) l0.length c0, u_, q36.a, .pointer (some ⟨G22, 0, none⟩), .slice Ar ((toN fs).length) cr, u_, .pointer (some ⟨g73, 0, none⟩), .int .i64 0, .bool (rTh (toN fs) aa), q36.e, q36.f, q36.g, q36.h, .bool true, .bool false, .slice (some ad) l0.length c0, .int .i64 (l0.length : Int), .bool false, .pointer (some ⟨G22, 0, none⟩), v28, .slice (some ad) l0.length c0, .int .i64 (l0.length : Int), .int .i64 (i : Int), .bool (decide ((i : Int) < (l0.length : Int))), .pointer (some ((ad).add (i * 5))), .agg ([.int .i64 kd, .int .i64 aa, .int .i64 bi, .int .u8 (bv mk), .slice A4 kp.length c4] : List Value).toArray, .pointer (some ⟨g73, 4, none⟩), .slice A4 kp.length c4, .int .i64 (kp.length : Int), .bool (decide ((kp.length : Int) > 300)), .slice Ar ((toN fs).length) cr, .pointer (some ⟨g73, 1, none⟩), .int .i64 aa, .bool (rTh (toN fs) aa), .pointer (some ⟨g73, 0, none⟩), .int .i64 kd, .bool false, .bool false, q38.h, q39.a, q39.b, q39.c, q39.d, q39.e, q39.f, q39.g, q39.h, q40.a, q40.b, q40.c, q40.d, q40.e, q40.f, q40.g, q40.h, q41.a, q41.b, q41.c, q41.d, q41.e, q41.f, q41.g, q41.h, q42.a, q42.b, q42.c, .bool false, .bool false, q42.f, q42.g, q42.h, q43.a, q43.b, q43.c, q43.d, q43.e, q43.f, q43.g, q43.h, q44.a, q44.b, q44.c, q44.d, q44.e, q44.f, q44.g, q44.h, q45.a, q45.b, q45.c, q45.d, q45.e, q45.f, q45.g, q45.h, q46.a, q46.b, q46.c, q46.d, q46.e, q46.f, .bool false, .bool false, q47.a, q47.b, q47.c, q47.d, q47.e, q47.f, q47.g, q47.h, q48.a, q48.b, q48.c, q48.d, q48.e, q48.f, q48.g, q48.h, q49.a, q49.b, q49.c, q49.d, q49.e, q49.f, q49.g, q49.h, q50.a, q50.b, q50.c, q50.d, q50.e, q50.f, q50.g, q50.h, q51.a, q51.b, q51.c, q51.d, q51.e, q51.f, q51.g, q51.h, q52.a, q52.b, q52.c, q52.d, q52.e, q52.f, q52.g, q52.h, q53.a, q53.b, q53.c, q53.d, q53.e, q53.f, q53.g, q53.h, q54.a, q54.b, q54.c, q54.d, q54.e, q54.f, q54.g, q54.h, q55.a, q55.b, q55.c, q55.d, q55.e, q55.f, q55.g, q55.h, q56.a, q56.b, q56.c]) _ (x_assign (.bool false) rfl rfl) rfl ?_
                refine wpList_nil ?_
                refine hK901523 _ _ ?_
                refine c_false rfl ?_
                refine wp_seq_k (fun K901526 hK901527 => ?_)
                refine c_region (fun ops901529 hops901528 => ?_)
                clear hops901528
                refine p_run (l' := _) _ (x_cmp (k := .i64) (m := kd) (n := 3) .eql false rfl rfl rfl (beq_eq_false_iff_ne.2 (by omega)) rfl) rfl ?_
                refine p_run (l' := _) _ (x_assign (.bool false) rfl rfl) rfl ?_
                refine wpList_nil ?_
                refine hK901527 _ _ ?_
                refine c_false rfl ?_
                refine wp_seq_k (fun K901530 hK901531 => ?_)
                refine c_region (fun ops901533 hops901532 => ?_)
                clear hops901532
                refine p_run (l' := _) _ (x_cmp (k := .i64) (m := kd) (n := 4) .eql false rfl rfl rfl (beq_eq_false_iff_ne.2 (by omega)) rfl) rfl ?_
                refine p_run (l' := _) _ (x_assign (.bool false) rfl rfl) rfl ?_
                refine wpList_nil ?_
                refine hK901531 _ _ ?_
                refine c_false rfl ?_
                refine wp_skip ?_
                exact hT98 v fs (.slice Ar ((toN fs).length) cr) (rTh (toN fs) aa) 0 ⟨q36.a, q36.e, q36.f, q36.g, q36.h, .pointer (some ⟨g73, 0, none⟩), .int .i64 kd, .bool false⟩ ⟨.bool false, q38.h, q39.a, q39.b, q39.c, q39.d, q39.e, q39.f⟩ ⟨q39.g, q39.h, q40.a, q40.b, q40.c, q40.d, q40.e, q40.f⟩ ⟨q40.g, q40.h, q41.a, q41.b, q41.c, q41.d, q41.e, q41.f⟩ ⟨q41.g, q41.h, q42.a, q42.b, q42.c, .bool false, .bool false, q42.f⟩ ⟨q42.g, q42.h, q43.a, q43.b, q43.c, q43.d, q43.e, q43.f⟩ ⟨q43.g, q43.h, q44.a, q44.b, q44.c, q44.d, q44.e, q44.f⟩ ⟨q44.g, q44.h, q45.a, q45.b, q45.c, q45.d, q45.e, q45.f⟩ ⟨q45.g, q45.h, q46.a, q46.b, q46.c, q46.d, q46.e, q46.f⟩ ⟨.bool false, .bool false, q47.a, q47.b, q47.c, q47.d, q47.e, q47.f⟩ ⟨q47.g, q47.h, q48.a, q48.b, q48.c, q48.d, q48.e, q48.f⟩ ⟨q48.g, q48.h, q49.a, q49.b, q49.c, .bool false, .bool false, q49.f⟩ ⟨q49.g, q49.h, q50.a, q50.b, q50.c, q50.d, q50.e, q50.f⟩ ⟨q50.g, q50.h, q51.a, q51.b, q51.c, q51.d, q51.e, q51.f⟩ ⟨.bool false, .bool false, q52.a, q52.b, q52.c, q52.d, q52.e, u_⟩ _ (((((HS.front 1 rfl).front 1 rfl).front 4 rfl).front 4 rfl).front 4 rfl) ⟨hR, .inr (.inl ⟨by omega, rfl⟩)⟩
          · skip
            refine wp_exit ?_
            refine hK31 _ _ ?_
            refine wp_seq_k (fun K901534 hK901535 => ?_)
            refine c_region (fun ops901537 hops901536 => ?_)
            clear hops901536
            refine p_run (l' := _) _ (x_assign (.bool true) rfl rfl) rfl ?_
            refine wpList_nil ?_
            refine hK901535 _ _ ?_
            refine wp_ret ?_
            try simp only [Exit.inBlock, Exit.then]
            refine c_ret (.bool true) (r_tmp rfl rfl) ?_
            exact ⟨rfl, HS.belowOf⟩

theorem runs_any (A0 : Option Addr) (c0 : Nat) (l0 : List nAT) (w : World) (hr0 : knA.C w A0 l0.length l0) : Calls Try.prog 12 #[.slice A0 l0.length c0] w fun e w' => e = .returned (.bool true) ∧ Below w.heap.size w w' := runs_law w A0 c0 l0 hr0
end Go.Proofs.Ytckfcnclekjjdaa
