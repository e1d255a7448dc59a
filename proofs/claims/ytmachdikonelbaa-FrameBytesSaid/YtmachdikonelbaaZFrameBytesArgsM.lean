/- Messages that came in. -/
import Derived.Test.YtmachdikonelbaaZFrameBytesArgsB
import Derived.Test.YtmachdikonelbaaZFrameBytesStr
import Derived.Test.YtmachdikonelbaaZFrameBytesByWO
import Derived.Test.YtmachdikonelbaaZFrameBytesPut
import Derived.Test.YtmachdikonelbaaZFrameBytesFr2
import Derived.ChangeSame
set_option linter.unusedVariables false
set_option linter.unusedSimpArgs false
namespace Go.Proofs.Ytmachdikonelbaa
open Go.RowKit Go.Proofs.YtmachdikonelbaaW.PrintWords
open Go.ChangeShapes Go.WideShapes
theorem b32 {a : Int} (wa : (Lit.int .u32 a).wf = true) : u32 a := by
  simp [Lit.wf, IntKind.min, IntKind.max, IntKind.signed, IntKind.bits] at wa
  exact ⟨by omega, by omega⟩
theorem b64i {a : Int} (wa : (Lit.int .i64 a).wf = true) : i64 a := by
  simp [Lit.wf, IntKind.min, IntKind.max, IntKind.signed, IntKind.bits] at wa
  exact ⟨by omega, by omega⟩
theorem b64u {a : Int} (wa : (Lit.int .u64 a).wf = true) : 0 ≤ a ∧ a < 18446744073709551616 := by
  simp [Lit.wf, IntKind.min, IntKind.max, IntKind.signed, IntKind.bits] at wa
  exact ⟨by omega, by omega⟩
section
variable {H : Type} {enc : TypeId × Value → H} {w : World} {base : Nat} {spare : Nat → Bool} {held : Bool}
set_option maxRecDepth 10000 in
theorem arg_cells {n m t : Nat} {cs : List Value} {x : DataW H × List MemPlace} (ht : Try.prog.underlying t = some (.array n 5)) (hl : cs.length = n) (h : DataW.trod enc Try.prog w base spare held m t cs = some x) : ∃ xs : List UInt8, xs.length = n ∧ cs = nums .u8 (xs.map bv) := by
  obtain ⟨ys, q, _, _, hlen, hyl, hall⟩ := DataW.trod_array ht h
  have hc1 : Try.prog.cellsOf 5 = 1 := by kernel_rfl
  have each : ∀ i, i < n → ∃ c : UInt8, cs[i]? = some (.int .u8 (bv c)) := by
    intro i hi
    have h1 := hall i hi
    rw [hc1, Nat.mul_one] at h1
    obtain ⟨y, hy⟩ : ∃ y, ys[i]? = some y := ⟨_, List.getElem?_eq_getElem (by omega)⟩
    rw [hy] at h1
    obtain ⟨a, ha, _, wa⟩ := DataW.trod_int Try.underlying5 h1
    obtain ⟨c, rfl⟩ := byte_of wa
    refine ⟨c, ?_⟩
    have h2 : ((cs.drop i).take 1)[0]? = some (.int .u8 (bv c)) := by rw [ha]; rfl
    rw [List.getElem?_take, if_pos (by omega), List.getElem?_drop] at h2
    simpa using h2
  have hk : ∀ q, q ≤ n → ∃ xs : List UInt8, xs.length = q ∧ cs.take q = nums .u8 (xs.map bv) := by
    intro q
    induction q with
    | zero => intro _; exact ⟨[], rfl, by simp [nums]⟩
    | succ q ih =>
      intro hq
      obtain ⟨xs, hx, he⟩ := ih (by omega)
      obtain ⟨c, hc⟩ := each q (by omega)
      refine ⟨xs ++ [c], by simp [hx], ?_⟩
      have hql : q < cs.length := by omega
      rw [List.take_succ_eq_append_getElem hql, he]
      have : cs[q] = .int .u8 (bv c) := (List.getElem?_eq_some_iff.1 hc).2
      rw [this]; simp [nums]
  obtain ⟨xs, hx, he⟩ := hk n (Nat.le_refl _)
  refine ⟨xs, hx, ?_⟩
  rw [← hl, List.take_length] at he
  exact he
theorem one_at {cs : List Value} {o n : Nat} {v : Value} (hn : n = 1) (h : (cs.drop o).take n = [v]) : cs[o]? = some v := by
  subst hn
  have h2 : ((cs.drop o).take 1)[0]? = some v := by rw [h]; rfl
  rw [List.getElem?_take, if_pos (by omega), List.getElem?_drop] at h2
  simpa using h2
theorem two_at {cs : List Value} {o n : Nat} {u v : Value} (hn : n = 2) (h : (cs.drop o).take n = [u, v]) : cs[o]? = some u ∧ cs[o + 1]? = some v := by
  subst hn
  have h1 : ((cs.drop o).take 2)[0]? = some u := by rw [h]; rfl
  have h2 : ((cs.drop o).take 2)[1]? = some v := by rw [h]; rfl
  rw [List.getElem?_take, if_pos (by omega), List.getElem?_drop] at h1 h2
  exact ⟨by simpa using h1, h2⟩
set_option maxRecDepth 10000 in
theorem arg_lb {n : Nat} {cs : List Value} {x : DataW H × List MemPlace} (h : DataW.trod enc Try.prog w base spare held n 29 cs = some x) : ∃ a b : Int, cs = [.int .u32 a, .int .u32 b] ∧ u32 a ∧ u32 b := by
  obtain ⟨xs, n', _, _, hl, hlen, hf⟩ := DataW.trod_struct Try.underlying29 h
  have hl2 : cs.length = 2 := hl.trans (by kernel_rfl)
  have hx : xs.length = 2 := hlen
  have q0 := hf 0 _ rfl
  rw [List.getElem?_eq_getElem (by omega)] at q0
  have q1 := hf 1 _ rfl
  rw [List.getElem?_eq_getElem (by omega)] at q1
  have c1 : Try.prog.cellsOf 26 = 1 := by kernel_rfl
  obtain ⟨a, e0, _, w0⟩ := DataW.trod_int Try.underlying26 q0
  obtain ⟨b, e1, _, w1⟩ := DataW.trod_int Try.underlying26 q1
  have g0 : cs[0]? = some (.int .u32 a) := one_at c1 e0
  have g1 : cs[1]? = some (.int .u32 b) := one_at c1 e1
  match cs, hl2 with
  | [x0, x1], _ =>
    obtain rfl := Option.some.inj g0
    obtain rfl := Option.some.inj g1
    exact ⟨a, b, rfl, b32 w0, b32 w1⟩
set_option maxRecDepth 10000 in
theorem arg_hv {n : Nat} {cs : List Value} {x : DataW H × List MemPlace} (h : DataW.trod enc Try.prog w base spare held n 55 cs = some x) : ∃ y : Hv, kHv.K w y cs ∧ (u32 y.1 ∧ u32 y.2.1 ∧ u32 y.2.2) := by
  obtain ⟨xs, n', _, _, hl, hlen, hf⟩ := DataW.trod_struct Try.underlying55 h
  have hl2 : cs.length = 3 := hl.trans (by kernel_rfl)
  have hx : xs.length = 2 := hlen
  have q0 := hf 0 _ rfl
  rw [List.getElem?_eq_getElem (by omega)] at q0
  have q1 := hf 1 _ rfl
  rw [List.getElem?_eq_getElem (by omega)] at q1
  have c1 : Try.prog.cellsOf 26 = 1 := by kernel_rfl
  have c2 : Try.prog.cellsOf 29 = 2 := by kernel_rfl
  obtain ⟨a, b, e0, wa, wb⟩ := arg_lb q0
  obtain ⟨c, e1, _, w1⟩ := DataW.trod_int Try.underlying26 q1
  obtain ⟨g0, g1⟩ : cs[0]? = some (.int .u32 a) ∧ cs[1]? = some (.int .u32 b) := two_at (o := 0) (u := .int .u32 a) (v := .int .u32 b) c2 e0
  have g2 : cs[2]? = some (.int .u32 c) := one_at c1 e1
  match cs, hl2 with
  | [x0, x1, x2], _ =>
    obtain rfl := Option.some.inj g0
    obtain rfl := Option.some.inj g1
    obtain rfl := Option.some.inj g2
    exact ⟨(a, b, c), rfl, wa, wb, b32 w1⟩
set_option maxRecDepth 10000 in
theorem arg_it {n : Nat} {cs : List Value} {x : DataW H × List MemPlace} (h : DataW.trod enc Try.prog w base spare held n 53 cs = some x) : ∃ y : It, kIt.K w y cs ∧ (i64 y.1 ∧ y.2.2.length = 16) := by
  obtain ⟨xs, n', _, _, hl, hlen, hf⟩ := DataW.trod_struct Try.underlying53 h
  have hl2 : cs.length = 18 := hl.trans (by kernel_rfl)
  have hx : xs.length = 3 := hlen
  have q0 := hf 0 _ rfl
  rw [List.getElem?_eq_getElem (by omega)] at q0
  have q1 := hf 1 _ rfl
  rw [List.getElem?_eq_getElem (by omega)] at q1
  have q2 := hf 2 _ rfl
  rw [List.getElem?_eq_getElem (by omega)] at q2
  have c0 : Try.prog.cellsOf 3 = 1 := by kernel_rfl
  have c1 : Try.prog.cellsOf 4 = 1 := by kernel_rfl
  have c2 : Try.prog.cellsOf 51 = 16 := by kernel_rfl
  obtain ⟨k, e0, _, w0⟩ := DataW.trod_int Try.underlying3 q0
  obtain ⟨b, e1, _⟩ := DataW.trod_bool Try.underlying4 q1
  obtain ⟨ys, hy, e2⟩ := arg_cells Try.underlying51 (by
    show ((cs.drop 2).take (Try.prog.cellsOf 51)).length = 16
    rw [c2, List.length_take, List.length_drop, hl2]
    rfl) q2
  have g0 : cs[0]? = some (.int .i64 k) := one_at c0 e0
  have g1 : cs[1]? = some (.bool b) := one_at c1 e1
  have g2 : cs.drop 2 = nums .u8 (ys.map bv) := by
    have e2' : (cs.drop 2).take 16 = nums .u8 (ys.map bv) := (congrArg (fun m => (cs.drop 2).take m) c2).symm.trans e2
    rw [← e2', List.take_of_length_le (by rw [List.length_drop, hl2]; decide)]
  refine ⟨(k, b, ys), ⟨?_, hy⟩, b64i w0, hy⟩
  rw [← List.take_append_drop 2 cs, g2]
  match cs, g0, g1 with
  | x0 :: x1 :: r, g0, g1 =>
    obtain rfl := Option.some.inj g0
    obtain rfl := Option.some.inj g1
    rfl
set_option maxRecDepth 10000 in
theorem arg_its {n : Nat} {cs : List Value} {x : DataW H × List MemPlace} (h : DataW.trod enc Try.prog w base spare held n 30 cs = some x) :
    ∃ A c xs, cs = [.slice A xs.length c] ∧ kIt.C w A xs.length xs ∧ ∀ y ∈ xs, i64 y.1 ∧ y.2.2.length = 16 := by
  obtain ⟨A, c, xs, rfl, hc, _, hn, hr, hg⟩ := open_kd kIt (fun y => i64 y.1 ∧ y.2.2.length = 16) Try.underlying30 (by kernel_rfl) (by decide) (fun _ _ _ h => arg_it h) h
  exact ⟨A, c, xs, rfl, hr, hg⟩
set_option maxRecDepth 10000 in
theorem arg_hvs {n : Nat} {cs : List Value} {x : DataW H × List MemPlace} (h : DataW.trod enc Try.prog w base spare held n 31 cs = some x) :
    ∃ A c xs, cs = [.slice A xs.length c] ∧ kHv.C w A xs.length xs ∧ ∀ y ∈ xs, u32 y.1 ∧ u32 y.2.1 ∧ u32 y.2.2 := by
  obtain ⟨A, c, xs, rfl, hc, _, hn, hr, hg⟩ := open_kd kHv (fun y => u32 y.1 ∧ u32 y.2.1 ∧ u32 y.2.2) Try.underlying31 (by kernel_rfl) (by decide) (fun _ _ _ h => arg_hv h) h
  exact ⟨A, c, xs, rfl, hr, hg⟩
set_option maxRecDepth 20000 in
set_option maxHeartbeats 1000000 in
theorem arg_msg {m b0 : Nat} {r : Reach} {v : Value} {x : DataW H × List MemPlace} (hv : Value.okWide Try.prog w r b0 33 v) (h : DataW.trod enc Try.prog w base spare held m 33 v.cells.toList = some x) :
    ∃ (m : Mg) (A : Option Addr) (c : Nat) (B : Option Addr) (d : Nat), v = mgV m A c B d ∧ m.wf ∧ kIt.C w A m.its.length m.its ∧ kHv.C w B m.hvs.length m.hvs := by
  obtain ⟨cs, rfl, _⟩ := okWide_struct Try.underlying33 hv
  have h' : DataW.trod enc Try.prog w base spare held m 33 cs.toList = some x := h
  obtain ⟨xs, n', _, _, hl, hlen, hf⟩ := DataW.trod_struct Try.underlying33 h'
  have hl2 : cs.toList.length = 12 := hl.trans (by kernel_rfl)
  have hx : xs.length = 10 := hlen
  have get : ∀ i (hi : i < 10), xs[i]? = some xs[i] := fun i hi => List.getElem?_eq_getElem (by omega)
  have c1 : Try.prog.cellsOf 3 = 1 := by kernel_rfl
  have c2 : Try.prog.cellsOf 26 = 1 := by kernel_rfl
  have c3 : Try.prog.cellsOf 27 = 1 := by kernel_rfl
  have c4 : Try.prog.cellsOf 29 = 2 := by kernel_rfl
  have c5 : Try.prog.cellsOf 30 = 1 := by kernel_rfl
  have c6 : Try.prog.cellsOf 31 = 1 := by kernel_rfl
  obtain ⟨k, e0, _, w0⟩ := DataW.trod_int Try.underlying3 ((hf 0 _ rfl).trans (get 0 (by decide)))
  obtain ⟨e, e1, _, w1⟩ := DataW.trod_int Try.underlying26 ((hf 1 _ rfl).trans (get 1 (by decide)))
  obtain ⟨s, e2, _, w2⟩ := DataW.trod_int Try.underlying27 ((hf 2 _ rfl).trans (get 2 (by decide)))
  obtain ⟨te, ts, e3, w3, w3'⟩ := arg_lb ((hf 3 _ rfl).trans (get 3 (by decide)))
  obtain ⟨be, bs, e4, w4, w4'⟩ := arg_lb ((hf 4 _ rfl).trans (get 4 (by decide)))
  obtain ⟨ix, e5, _, w5⟩ := DataW.trod_int Try.underlying3 ((hf 5 _ rfl).trans (get 5 (by decide)))
  obtain ⟨tt, e6, _, w6⟩ := DataW.trod_int Try.underlying3 ((hf 6 _ rfl).trans (get 6 (by decide)))
  obtain ⟨tk, e7, _, w7⟩ := DataW.trod_int Try.underlying26 ((hf 7 _ rfl).trans (get 7 (by decide)))
  obtain ⟨A, c, its, e8, hA, wA⟩ := arg_its ((hf 8 _ rfl).trans (get 8 (by decide)))
  obtain ⟨B, d, hvs, e9, hB, wB⟩ := arg_hvs ((hf 9 _ rfl).trans (get 9 (by decide)))
  have g0 : cs.toList[0]? = some (.int .i64 k) := one_at c1 e0
  have g1 : cs.toList[1]? = some (.int .u32 e) := one_at c2 e1
  have g2 : cs.toList[2]? = some (.int .u64 s) := one_at c3 e2
  obtain ⟨g3, g4⟩ : cs.toList[3]? = some (.int .u32 te) ∧ cs.toList[4]? = some (.int .u32 ts) := two_at (o := 3) (u := .int .u32 te) (v := .int .u32 ts) c4 e3
  obtain ⟨g5, g6⟩ : cs.toList[5]? = some (.int .u32 be) ∧ cs.toList[6]? = some (.int .u32 bs) := two_at (o := 5) (u := .int .u32 be) (v := .int .u32 bs) c4 e4
  have g7 : cs.toList[7]? = some (.int .i64 ix) := one_at c1 e5
  have g8 : cs.toList[8]? = some (.int .i64 tt) := one_at c1 e6
  have g9 : cs.toList[9]? = some (.int .u32 tk) := one_at c2 e7
  have g10 : cs.toList[10]? = some (.slice A its.length c) := one_at c5 e8
  have g11 : cs.toList[11]? = some (.slice B hvs.length d) := one_at c6 e9
  refine ⟨⟨k, e, s, te, ts, be, bs, ix, tt, tk, its, hvs⟩, A, c, B, d, ?_, ⟨b64i w0, b32 w1, b64u w2, w3, w3', w4, w4', b64i w5, b64i w6, b32 w7, wA, wB⟩, hA, hB⟩
  show Value.agg cs = .agg #[.int .i64 k, .int .u32 e, .int .u64 s, .int .u32 te, .int .u32 ts, .int .u32 be, .int .u32 bs, .int .i64 ix, .int .i64 tt, .int .u32 tk, .slice A its.length c, .slice B hvs.length d]
  congr 1
  apply Array.toList_inj.1
  generalize cs.toList = l at *
  match l, hl2 with
  | [x0, x1, x2, x3, x4, x5, x6, x7, x8, x9, x10, x11], _ =>
    obtain rfl := Option.some.inj g0
    obtain rfl := Option.some.inj g1
    obtain rfl := Option.some.inj g2
    obtain rfl := Option.some.inj g3
    obtain rfl := Option.some.inj g4
    obtain rfl := Option.some.inj g5
    obtain rfl := Option.some.inj g6
    obtain rfl := Option.some.inj g7
    obtain rfl := Option.some.inj g8
    obtain rfl := Option.some.inj g9
    obtain rfl := Option.some.inj g10
    obtain rfl := Option.some.inj g11
    rfl
end
end Go.Proofs.Ytmachdikonelbaa
