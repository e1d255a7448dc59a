/- Nodes that came in. -/
import Derived.Test.YtiokdpnhaemciaaArgsA
import Derived.Test.YtiokdpnhaemciaaLeaf1
import Derived.ChangeSame
set_option linter.unusedVariables false
set_option linter.unusedSimpArgs false
namespace Go.Proofs.Ytiokdpnhaemciaa
open Go.RowKit Go.Proofs.YtiokdpnhaemciaaW.PrintWords
open Go.ChangeShapes Go.WideShapes
section
variable {H : Type} {enc : TypeId × Value → H} {w : World} {base : Nat} {spare : Nat → Bool} {held : Bool}
set_option maxRecDepth 10000 in
theorem arg_cells {n m t : Nat} {cs : List Value} {x : DataW H × List MemPlace} (ht : Try.prog.underlying t = some (.array n 5)) (hl : cs.length = n) (h : DataW.trod enc Try.prog w base spare held m t cs = some x) : ∃ xs : List UInt8, xs.length = n ∧ cs = nums .u8 (xs.map bv) := by
  obtain ⟨ys, q, _, _, hlen, hyl, hall⟩ := DataW.trod_array ht h
  have hc1 : Try.prog.cellsOf 5 = 1 := by kernel_rfl
  have each : ∀ i, i < n → ∃ c : UInt8, cs[i]? = some (.int .u8 (bv c)) := by
    intro i hi
    have h1 := hall i hi
    rw [hc1, Nat.mul_one] at h1
    obtain ⟨y, hy⟩ : ∃ y, ys[i]? = some y := ⟨_, List.getElem?_eq_getElem (by omega)⟩
    rw [hy] at h1
    obtain ⟨a, ha, _, wa⟩ := DataW.trod_int Try.underlying5 h1
    obtain ⟨c, rfl⟩ := byte_of wa
    refine ⟨c, ?_⟩
    have h2 : ((cs.drop i).take 1)[0]? = some (.int .u8 (bv c)) := by rw [ha]; rfl
    rw [List.getElem?_take, if_pos (by omega), List.getElem?_drop] at h2
    simpa using h2
  have hk : ∀ q, q ≤ n → ∃ xs : List UInt8, xs.length = q ∧ cs.take q = nums .u8 (xs.map bv) := by
    intro q
    induction q with
    | zero => intro _; exact ⟨[], rfl, by simp [nums]⟩
    | succ q ih =>
      intro hq
      obtain ⟨xs, hx, he⟩ := ih (by omega)
      obtain ⟨c, hc⟩ := each q (by omega)
      refine ⟨xs ++ [c], by simp [hx], ?_⟩
      have hql : q < cs.length := by omega
      rw [List.take_succ_eq_append_getElem hql, he]
      have : cs[q] = .int .u8 (bv c) := (List.getElem?_eq_some_iff.1 hc).2
      rw [this]; simp [nums]
  obtain ⟨xs, hx, he⟩ := hk n (Nat.le_refl _)
  refine ⟨xs, hx, ?_⟩
  rw [← hl, List.take_length] at he
  exact he
set_option maxRecDepth 10000 in
theorem arg_entry {n : Nat} {cs : List Value} {x : DataW H × List MemPlace} (h : DataW.trod enc Try.prog w base spare held n 62 cs = some x) : ∃ y : Int × Int, kEn.K w y cs ∧ True := by
  obtain ⟨y0, y1, m, _, hl, h0, h1⟩ := trod_struct2 Try.underlying62 h
  have hl2 : cs.length = 2 := hl.trans (by kernel_rfl)
  obtain ⟨a, e0, _, _⟩ := DataW.trod_int Try.underlying3 h0
  obtain ⟨b, e1, _, _⟩ := DataW.trod_int Try.underlying3 h1
  match cs, hl2 with
  | [c0, c1], _ =>
    have e0' : c0 = .int .i64 a := by
      have : [c0] = [Value.int .i64 a] := e0
      injection this
    have e1' : c1 = .int .i64 b := by
      have : [c1] = [Value.int .i64 b] := e1
      injection this
    subst e0'; subst e1'
    exact ⟨(a, b), rfl, trivial⟩
set_option maxRecDepth 10000 in
theorem arg_entries {n : Nat} {cs : List Value} {x : DataW H × List MemPlace} (h : DataW.trod enc Try.prog w base spare held n 50 cs = some x) :
    ∃ A c xs, cs = [.slice A xs.length c] ∧ xs.length ≤ c ∧ (A = none → c = 0) ∧ kEn.C w A xs.length xs := by
  obtain ⟨A, c, xs, rfl, hc, _, hn, hr, _⟩ := open_kd kEn (fun _ => True) Try.underlying50 (by kernel_rfl) (by decide) (fun _ _ _ h => arg_entry h) h
  exact ⟨A, c, xs, rfl, hc, hn, hr⟩
set_option maxRecDepth 10000 in
theorem arg_node {m b0 : Nat} {r : Reach} {v : Value} {x : DataW H × List MemPlace} (hv : Value.okWide Try.prog w r b0 52 v) (h : DataW.trod enc Try.prog w base spare held m 52 v.cells.toList = some x) :
    ∃ (k : Int) (b : List UInt8) (A : Option Addr) (c : Nat) (es : List (Int × Int)), v = .agg (Value.int .i64 k :: (nums .u8 (b.map bv) ++ [Value.slice A es.length c])).toArray ∧ b.length = 16 ∧ kEn.C w A es.length es := by
  obtain ⟨cs, rfl, _⟩ := okWide_struct Try.underlying52 hv
  have h' : DataW.trod enc Try.prog w base spare held m 52 cs.toList = some x := h
  obtain ⟨xs, n', _, _, hl, hlen, hf⟩ := DataW.trod_struct Try.underlying52 h'
  have hl2 : cs.toList.length = 18 := hl.trans (by kernel_rfl)
  have hx : xs.length = 3 := hlen
  have q0 := hf 0 _ rfl
  rw [List.getElem?_eq_getElem (by omega)] at q0
  have q1 := hf 1 _ rfl
  rw [List.getElem?_eq_getElem (by omega)] at q1
  have q2 := hf 2 _ rfl
  rw [List.getElem?_eq_getElem (by omega)] at q2
  have c0 : Try.prog.cellsOf 3 = 1 := by kernel_rfl
  have c1 : Try.prog.cellsOf 49 = 16 := by kernel_rfl
  have c2 : Try.prog.cellsOf 50 = 1 := by kernel_rfl
  obtain ⟨k, e0, _, _⟩ := DataW.trod_int Try.underlying3 q0
  have e0' : (cs.toList.drop 0).take 1 = [.int .i64 k] := (congrArg (fun m => (cs.toList.drop 0).take m) c0).symm.trans e0
  obtain ⟨b, hb, e1⟩ := arg_cells Try.underlying49 (by
    show ((cs.toList.drop 1).take (Try.prog.cellsOf 49)).length = 16
    rw [c1, List.length_take, List.length_drop, hl2]
    rfl) q1
  have e1' : (cs.toList.drop 1).take 16 = nums .u8 (b.map bv) := (congrArg (fun m => (cs.toList.drop 1).take m) c1).symm.trans e1
  obtain ⟨A, c, es, e2, _, _, hr⟩ := arg_entries q2
  have e2' : (cs.toList.drop 17).take 1 = [.slice A es.length c] := (congrArg (fun m => (cs.toList.drop 17).take m) c2).symm.trans e2
  refine ⟨k, b, A, c, es, ?_, hb, hr⟩
  have e : cs.toList = (cs.toList.drop 0).take 1 ++ ((cs.toList.drop 1).take 16 ++ (cs.toList.drop 17).take 1) := by
    rw [List.take_of_length_le (l := cs.toList.drop 17) (by rw [List.length_drop, hl2]; decide)]
    conv => lhs; rw [← List.take_append_drop 1 cs.toList]
    rw [List.drop_zero]
    congr 1
    conv => lhs; rw [← List.take_append_drop 16 (cs.toList.drop 1)]
    rw [List.drop_drop]
  rw [e0', e1', e2'] at e
  congr 1
  apply Array.toList_inj.1
  rw [e]
  rfl
end
end Go.Proofs.Ytiokdpnhaemciaa
