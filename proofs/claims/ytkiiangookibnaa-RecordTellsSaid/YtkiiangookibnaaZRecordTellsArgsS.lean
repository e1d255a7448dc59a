/- States that came in. -/
import Derived.Test.YtkiiangookibnaaZRecordTellsArgsB
import Derived.Test.YtkiiangookibnaaZRecordTellsPut
import Derived.Test.YtkiiangookibnaaZRecordTellsRk1
import Derived.ChangeSame
set_option linter.unusedVariables false
set_option linter.unusedSimpArgs false
namespace Go.Proofs.Ytkiiangookibnaa
open Go.RowKit Go.Proofs.YtkiiangookibnaaW.PrintWords
open Go.ChangeShapes Go.WideShapes
theorem b32 {a : Int} (wa : (Lit.int .u32 a).wf = true) : u32 a := by
  simp [Lit.wf, IntKind.min, IntKind.max, IntKind.signed, IntKind.bits] at wa
  exact ⟨by omega, by omega⟩
theorem b64i {a : Int} (wa : (Lit.int .i64 a).wf = true) : i64 a := by
  simp [Lit.wf, IntKind.min, IntKind.max, IntKind.signed, IntKind.bits] at wa
  exact ⟨by omega, by omega⟩
theorem b64u {a : Int} (wa : (Lit.int .u64 a).wf = true) : 0 ≤ a ∧ a < 18446744073709551616 := by
  simp [Lit.wf, IntKind.min, IntKind.max, IntKind.signed, IntKind.bits] at wa
  exact ⟨by omega, by omega⟩
section
variable {H : Type} {enc : TypeId × Value → H} {w : World} {base : Nat} {spare : Nat → Bool} {held : Bool}
theorem one_at {cs : List Value} {o n : Nat} {v : Value} (hn : n = 1) (h : (cs.drop o).take n = [v]) : cs[o]? = some v := by
  subst hn
  have h2 : ((cs.drop o).take 1)[0]? = some v := by rw [h]; rfl
  rw [List.getElem?_take, if_pos (by omega), List.getElem?_drop] at h2
  simpa using h2
theorem two_at {cs : List Value} {o n : Nat} {u v : Value} (hn : n = 2) (h : (cs.drop o).take n = [u, v]) : cs[o]? = some u ∧ cs[o + 1]? = some v := by
  subst hn
  have h1 : ((cs.drop o).take 2)[0]? = some u := by rw [h]; rfl
  have h2 : ((cs.drop o).take 2)[1]? = some v := by rw [h]; rfl
  rw [List.getElem?_take, if_pos (by omega), List.getElem?_drop] at h1 h2
  exact ⟨by simpa using h1, h2⟩
theorem many_at {cs us : List Value} {o n : Nat} (h : (cs.drop o).take n = us) : ∀ j v, us[j]? = some v → j < n → cs[o + j]? = some v := by
  intro j v hj hn
  rw [← h, List.getElem?_take, if_pos hn, List.getElem?_drop] at hj
  exact hj
set_option maxRecDepth 10000 in
theorem arg_lb {n : Nat} {cs : List Value} {x : DataW H × List MemPlace} (h : DataW.trod enc Try.prog w base spare held n 28 cs = some x) : ∃ a b : Int, cs = [.int .u32 a, .int .u32 b] ∧ u32 a ∧ u32 b := by
  obtain ⟨xs, n', _, _, hl, hlen, hf⟩ := DataW.trod_struct Try.underlying28 h
  have hl2 : cs.length = 2 := hl.trans (by kernel_rfl)
  have hx : xs.length = 2 := hlen
  have q0 := hf 0 _ rfl
  rw [List.getElem?_eq_getElem (by omega)] at q0
  have q1 := hf 1 _ rfl
  rw [List.getElem?_eq_getElem (by omega)] at q1
  have c1 : Try.prog.cellsOf 26 = 1 := by kernel_rfl
  obtain ⟨a, e0, _, w0⟩ := DataW.trod_int Try.underlying26 q0
  obtain ⟨b, e1, _, w1⟩ := DataW.trod_int Try.underlying26 q1
  have g0 : cs[0]? = some (.int .u32 a) := one_at c1 e0
  have g1 : cs[1]? = some (.int .u32 b) := one_at c1 e1
  match cs, hl2 with
  | [x0, x1], _ =>
    obtain rfl := Option.some.inj g0
    obtain rfl := Option.some.inj g1
    exact ⟨a, b, rfl, b32 w0, b32 w1⟩
set_option maxRecDepth 10000 in
theorem arg_label {m b0 : Nat} {r : Reach} {v : Value} {x : DataW H × List MemPlace} (hv : Value.okWide Try.prog w r b0 28 v) (h : DataW.trod enc Try.prog w base spare held m 28 v.cells.toList = some x) : ∃ a b : Int, v = .agg #[.int .u32 a, .int .u32 b] := by
  obtain ⟨cs, rfl, _⟩ := okWide_struct Try.underlying28 hv
  have h' : DataW.trod enc Try.prog w base spare held m 28 cs.toList = some x := h
  obtain ⟨a, b, e, -⟩ := arg_lb h'
  exact ⟨a, b, congrArg Value.agg (Array.toList_inj.1 e)⟩
set_option maxRecDepth 10000 in
theorem arg_sn {n : Nat} {cs : List Value} {x : DataW H × List MemPlace} (h : DataW.trod enc Try.prog w base spare held n 48 cs = some x) : ∃ y : Sn, kSn.K w y cs ∧ (u32 y.1 ∧ u32 y.2.1 ∧ i64 y.2.2.1 ∧ u32 y.2.2.2) := by
  obtain ⟨xs, n', _, _, hl, hlen, hf⟩ := DataW.trod_struct Try.underlying48 h
  have hl2 : cs.length = 4 := hl.trans (by kernel_rfl)
  have hx : xs.length = 3 := hlen
  have get : ∀ i (hi : i < 3), xs[i]? = some xs[i] := fun i hi => List.getElem?_eq_getElem (by omega)
  have c1 : Try.prog.cellsOf 26 = 1 := by kernel_rfl
  have c2 : Try.prog.cellsOf 28 = 2 := by kernel_rfl
  have c3 : Try.prog.cellsOf 3 = 1 := by kernel_rfl
  obtain ⟨a, b, e0, wa, wb⟩ := arg_lb ((hf 0 _ rfl).trans (get 0 (by decide)))
  obtain ⟨c, e1, _, w1⟩ := DataW.trod_int Try.underlying3 ((hf 1 _ rfl).trans (get 1 (by decide)))
  obtain ⟨d, e2, _, w2⟩ := DataW.trod_int Try.underlying26 ((hf 2 _ rfl).trans (get 2 (by decide)))
  obtain ⟨g0, g1⟩ : cs[0]? = some (.int .u32 a) ∧ cs[1]? = some (.int .u32 b) := two_at (o := 0) (u := .int .u32 a) (v := .int .u32 b) c2 e0
  have g2 : cs[2]? = some (.int .i64 c) := one_at c3 e1
  have g3 : cs[3]? = some (.int .u32 d) := one_at c1 e2
  match cs, hl2, g0, g1, g2, g3 with
  | [x0, x1, x2, x3], _, g0, g1, g2, g3 =>
    obtain rfl := Option.some.inj g0
    obtain rfl := Option.some.inj g1
    obtain rfl := Option.some.inj g2
    obtain rfl := Option.some.inj g3
    exact ⟨(a, b, c, d), rfl, wa, wb, b64i w1, b32 w2⟩
set_option maxRecDepth 10000 in
theorem arg_sns {n : Nat} {cs : List Value} {x : DataW H × List MemPlace} (h : DataW.trod enc Try.prog w base spare held n 29 cs = some x) :
    ∃ A c xs, cs = [.slice A xs.length c] ∧ kSn.C w A xs.length xs ∧ ∀ y ∈ xs, u32 y.1 ∧ u32 y.2.1 ∧ i64 y.2.2.1 ∧ u32 y.2.2.2 := by
  obtain ⟨A, c, xs, rfl, hc, _, hn, hr, hg⟩ := open_kd kSn (fun y => u32 y.1 ∧ u32 y.2.1 ∧ i64 y.2.2.1 ∧ u32 y.2.2.2) Try.underlying29 (by kernel_rfl) (by decide) (fun _ _ _ h => arg_sn h) h
  exact ⟨A, c, xs, rfl, hr, hg⟩
set_option maxRecDepth 10000 in
theorem arg_sg {n : Nat} {cs : List Value} {x : DataW H × List MemPlace} (h : DataW.trod enc Try.prog w base spare held n 32 cs = some x) : ∃ s te tq be bq nx tt rt : Int, cs = [.int .u64 s, .int .u32 te, .int .u32 tq, .int .u32 be, .int .u32 bq, .int .i64 nx, .int .i64 tt, .int .i64 rt] ∧ (0 ≤ s ∧ s < 18446744073709551616) ∧ u32 te ∧ u32 tq ∧ u32 be ∧ u32 bq ∧ i64 nx ∧ i64 tt ∧ i64 rt := by
  obtain ⟨xs, n', _, _, hl, hlen, hf⟩ := DataW.trod_struct Try.underlying32 h
  have hl2 : cs.length = 8 := hl.trans (by kernel_rfl)
  have hx : xs.length = 6 := hlen
  have get : ∀ i (hi : i < 6), xs[i]? = some xs[i] := fun i hi => List.getElem?_eq_getElem (by omega)
  have c1 : Try.prog.cellsOf 30 = 1 := by kernel_rfl
  have c2 : Try.prog.cellsOf 28 = 2 := by kernel_rfl
  have c3 : Try.prog.cellsOf 3 = 1 := by kernel_rfl
  obtain ⟨s, e0, _, w0⟩ := DataW.trod_int Try.underlying30 ((hf 0 _ rfl).trans (get 0 (by decide)))
  obtain ⟨te, tq, e1, wa, wb⟩ := arg_lb ((hf 1 _ rfl).trans (get 1 (by decide)))
  obtain ⟨be, bq, e2, wc, wd⟩ := arg_lb ((hf 2 _ rfl).trans (get 2 (by decide)))
  obtain ⟨nx, e3, _, w3⟩ := DataW.trod_int Try.underlying3 ((hf 3 _ rfl).trans (get 3 (by decide)))
  obtain ⟨tt, e4, _, w4⟩ := DataW.trod_int Try.underlying3 ((hf 4 _ rfl).trans (get 4 (by decide)))
  obtain ⟨rt, e5, _, w5⟩ := DataW.trod_int Try.underlying3 ((hf 5 _ rfl).trans (get 5 (by decide)))
  have g0 : cs[0]? = some (.int .u64 s) := one_at c1 e0
  obtain ⟨g1, g2⟩ : cs[1]? = some (.int .u32 te) ∧ cs[2]? = some (.int .u32 tq) := two_at (o := 1) (u := .int .u32 te) (v := .int .u32 tq) c2 e1
  obtain ⟨g3, g4⟩ : cs[3]? = some (.int .u32 be) ∧ cs[4]? = some (.int .u32 bq) := two_at (o := 3) (u := .int .u32 be) (v := .int .u32 bq) c2 e2
  have g5 : cs[5]? = some (.int .i64 nx) := one_at c3 e3
  have g6 : cs[6]? = some (.int .i64 tt) := one_at c3 e4
  have g7 : cs[7]? = some (.int .i64 rt) := one_at c3 e5
  match cs, hl2, g0, g1, g2, g3, g4, g5, g6, g7 with
  | [x0, x1, x2, x3, x4, x5, x6, x7], _, g0, g1, g2, g3, g4, g5, g6, g7 =>
    obtain rfl := Option.some.inj g0
    obtain rfl := Option.some.inj g1
    obtain rfl := Option.some.inj g2
    obtain rfl := Option.some.inj g3
    obtain rfl := Option.some.inj g4
    obtain rfl := Option.some.inj g5
    obtain rfl := Option.some.inj g6
    obtain rfl := Option.some.inj g7
    exact ⟨s, te, tq, be, bq, nx, tt, rt, rfl, b64u w0, wa, wb, wc, wd, b64i w3, b64i w4, b64i w5⟩
set_option maxRecDepth 20000 in
set_option maxHeartbeats 1000000 in
theorem arg_state {m b0 : Nat} {r : Reach} {v : Value} {x : DataW H × List MemPlace} (hv : Value.okWide Try.prog w r b0 34 v) (h : DataW.trod enc Try.prog w base spare held m 34 v.cells.toList = some x) :
    ∃ (m : Rc) (A : Option Addr) (c : Nat), v = rcV m A c ∧ m.wf ∧ kSn.C w A m.sn.length m.sn := by
  obtain ⟨cs, rfl, _⟩ := okWide_struct Try.underlying34 hv
  have h' : DataW.trod enc Try.prog w base spare held m 34 cs.toList = some x := h
  obtain ⟨xs, n', _, _, hl, hlen, hf⟩ := DataW.trod_struct Try.underlying34 h'
  have hl2 : cs.toList.length = 16 := hl.trans (by kernel_rfl)
  have hx : xs.length = 8 := hlen
  have get : ∀ i (hi : i < 8), xs[i]? = some xs[i] := fun i hi => List.getElem?_eq_getElem (by omega)
  have c1 : Try.prog.cellsOf 3 = 1 := by kernel_rfl
  have c2 : Try.prog.cellsOf 26 = 1 := by kernel_rfl
  have c3 : Try.prog.cellsOf 4 = 1 := by kernel_rfl
  have c4 : Try.prog.cellsOf 28 = 2 := by kernel_rfl
  have c5 : Try.prog.cellsOf 29 = 1 := by kernel_rfl
  have c6 : Try.prog.cellsOf 32 = 8 := by kernel_rfl
  obtain ⟨e, e0, _, w0⟩ := DataW.trod_int Try.underlying26 ((hf 0 _ rfl).trans (get 0 (by decide)))
  obtain ⟨p, e1, _⟩ := DataW.trod_bool Try.underlying4 ((hf 1 _ rfl).trans (get 1 (by decide)))
  obtain ⟨b, e2, _, w2⟩ := DataW.trod_int Try.underlying26 ((hf 2 _ rfl).trans (get 2 (by decide)))
  obtain ⟨q, e3, _, w3⟩ := DataW.trod_int Try.underlying26 ((hf 3 _ rfl).trans (get 3 (by decide)))
  obtain ⟨l, e4, _, w4⟩ := DataW.trod_int Try.underlying3 ((hf 4 _ rfl).trans (get 4 (by decide)))
  obtain ⟨xe, xq, e5, w5, w5'⟩ := arg_lb ((hf 5 _ rfl).trans (get 5 (by decide)))
  obtain ⟨A, c, sn, e6, hA, wA⟩ := arg_sns ((hf 6 _ rfl).trans (get 6 (by decide)))
  obtain ⟨s, te, tq, be, bq, nx, tt, rt, e7, ws, wte, wtq, wbe, wbq, wnx, wtt, wrt⟩ := arg_sg ((hf 7 _ rfl).trans (get 7 (by decide)))
  have g0 : cs.toList[0]? = some (.int .u32 e) := one_at c2 e0
  have g1 : cs.toList[1]? = some (.bool p) := one_at c3 e1
  have g2 : cs.toList[2]? = some (.int .u32 b) := one_at c2 e2
  have g3 : cs.toList[3]? = some (.int .u32 q) := one_at c2 e3
  have g4 : cs.toList[4]? = some (.int .i64 l) := one_at c1 e4
  obtain ⟨g5, g6⟩ : cs.toList[5]? = some (.int .u32 xe) ∧ cs.toList[6]? = some (.int .u32 xq) := two_at (o := 5) (u := .int .u32 xe) (v := .int .u32 xq) c4 e5
  have g7 : cs.toList[7]? = some (.slice A sn.length c) := one_at c5 e6
  have e7' : (cs.toList.drop 8).take 8 = [.int .u64 s, .int .u32 te, .int .u32 tq, .int .u32 be, .int .u32 bq, .int .i64 nx, .int .i64 tt, .int .i64 rt] := (congrArg (fun m => (cs.toList.drop 8).take m) c6).symm.trans e7
  have g8 := many_at e7'
  refine ⟨⟨e, p, b, q, l, xe, xq, sn, s, te, tq, be, bq, nx, tt, rt⟩, A, c, ?_, ⟨b32 w0, b32 w2, b32 w3, b64i w4, w5, w5', ws, wte, wtq, wbe, wbq, wnx, wtt, wrt, wA⟩, hA⟩
  show Value.agg cs = .agg #[.int .u32 e, .bool p, .int .u32 b, .int .u32 q, .int .i64 l, .int .u32 xe, .int .u32 xq, .slice A sn.length c, .int .u64 s, .int .u32 te, .int .u32 tq, .int .u32 be, .int .u32 bq, .int .i64 nx, .int .i64 tt, .int .i64 rt]
  congr 1
  apply Array.toList_inj.1
  generalize cs.toList = l at *
  match l, hl2 with
  | [x0, x1, x2, x3, x4, x5, x6, x7, x8, x9, x10, x11, x12, x13, x14, x15], _ =>
    obtain rfl := Option.some.inj g0
    obtain rfl := Option.some.inj g1
    obtain rfl := Option.some.inj g2
    obtain rfl := Option.some.inj g3
    obtain rfl := Option.some.inj g4
    obtain rfl := Option.some.inj g5
    obtain rfl := Option.some.inj g6
    obtain rfl := Option.some.inj g7
    obtain rfl := Option.some.inj (g8 0 _ rfl (by decide))
    obtain rfl := Option.some.inj (g8 1 _ rfl (by decide))
    obtain rfl := Option.some.inj (g8 2 _ rfl (by decide))
    obtain rfl := Option.some.inj (g8 3 _ rfl (by decide))
    obtain rfl := Option.some.inj (g8 4 _ rfl (by decide))
    obtain rfl := Option.some.inj (g8 5 _ rfl (by decide))
    obtain rfl := Option.some.inj (g8 6 _ rfl (by decide))
    obtain rfl := Option.some.inj (g8 7 _ rfl (by decide))
    rfl
end
end Go.Proofs.Ytkiiangookibnaa
