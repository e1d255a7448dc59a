/- Acts that came in. -/
import Derived.Test.YtenlkobjldhfgaaZRootRunsArgsB
import Derived.Test.YtenlkobjldhfgaaZRootRunsWkM
import Derived.ChangeSame
set_option linter.unusedVariables false
set_option linter.unusedSimpArgs false
namespace Go.Proofs.Ytenlkobjldhfgaa
open Go.RowKit Go.Proofs.YtenlkobjldhfgaaW.PrintWords
open Go.ChangeShapes
abbrev rAT : Type := Int × Int × Int × List UInt8 × List Int
def krA : Kd rAT := (Kd.pair (Kd.int .i64) (Kd.pair (Kd.int .i64) (Kd.pair (Kd.int .u64) (Kd.pair (Kd.slice 5 kByte) (Kd.slice 5 (Kd.int .u8))))))
def rAG (y : rAT) : Prop := (-9223372036854775808 ≤ y.1 ∧ y.1 ≤ 9223372036854775807) ∧ (-9223372036854775808 ≤ y.2.1 ∧ y.2.1 ≤ 9223372036854775807) ∧ (0 ≤ y.2.2.1 ∧ y.2.2.1 ≤ 18446744073709551615) ∧ y.2.2.2.1.length ≤ 9223372036854775807 ∧ ((∀ z ∈ y.2.2.2.2, 0 ≤ z ∧ z < 256) ∧ y.2.2.2.2.length ≤ 9223372036854775807)
theorem rA_get {w : World} {A : Option Addr} {n : Nat} {ys : List rAT} (h : krA.C w A n ys) (j : Nat) (hj : j < ys.length) : ∃ (ad : Addr) (y : rAT) (A3 : Option Addr) (c3 : Nat) (A4 : Option Addr) (c4 : Nat), A = some ad ∧ ys[j]? = some y ∧ y.2.2.2.1.length ≤ c3 ∧ kByte.C w A3 y.2.2.2.1.length y.2.2.2.1 ∧ y.2.2.2.2.length ≤ c4 ∧ (Kd.int .u8).C w A4 y.2.2.2.2.length y.2.2.2.2 ∧ ∀ i u, ([.int .i64 y.1, .int .i64 y.2.1, .int .u64 y.2.2.1, .slice A3 y.2.2.2.1.length c3, .slice A4 y.2.2.2.2.length c4] : List Value)[i]? = some u → w.cell? ((ad.add (j * 5)).add i) = some u := by
 obtain ⟨ad, e, hc⟩ := h.2.2 (by have := h.1; omega)
 obtain ⟨c, hs, hr, hcell⟩ := hc j _ (List.getElem?_eq_getElem hj)
 obtain ⟨u0, r0, q0, e0, ⟨u1, r1, q1, e1, ⟨u2, r2, q2, e2, ⟨u3, r3, q3, ⟨A3, c3, e3, hl3, hC3⟩, ⟨A4, c4, e4, hl4, hC4⟩⟩⟩⟩⟩ := hr
 refine ⟨ad, ys[j], A3, c3, A4, c4, e, List.getElem?_eq_getElem hj, hl3, hC3, hl4, hC4, fun i u hu => ?_⟩
 rw [add_add]
 refine hcell i u ?_
 rw [q0, q1, q2, q3, show _ = _ from e0, show _ = _ from e1, show _ = _ from e2, show _ = _ from e3, show _ = _ from e4]
 exact hu
section
variable {H : Type} {enc : TypeId × Value → H} {w : World} {base : Nat} {spare : Nat → Bool} {held : Bool}
theorem arg_b8 {n : Nat} {cs : List Value} {x : DataW H × List MemPlace} (h : DataW.trod enc Try.prog w base spare held n 5 cs = some x) : ∃ y : Int, (Kd.int .u8).K w y cs ∧ (0 ≤ y ∧ y < 256) := by
 obtain ⟨a, rfl, _, wa⟩ := DataW.trod_int Try.underlying5 h
 refine ⟨a, rfl, ?_⟩
 simp [Lit.wf, IntKind.min, IntKind.max, IntKind.signed, IntKind.bits] at wa
 omega
theorem arg_bs {n : Nat} {cs : List Value} {x : DataW H × List MemPlace} (h : DataW.trod enc Try.prog w base spare held n 24 cs = some x) :
  ∃ A c xs, cs = [.slice A xs.length c] ∧ xs.length ≤ c ∧ (Kd.int .u8).C w A xs.length xs ∧ (∀ z ∈ xs, 0 ≤ z ∧ z < 256) ∧ xs.length ≤ 9223372036854775807 := by
 obtain ⟨A, c, xs, rfl, hc, hm, hn, hr, hg⟩ := open_kd (Kd.int .u8) (fun y => 0 ≤ y ∧ y < 256) Try.underlying24 (by kernel_rfl) (by decide) (fun _ _ _ h => arg_b8 h) h
 exact ⟨A, c, xs, rfl, hc, hr, hg, by unfold maxLen at hm; omega⟩
theorem arg_by {n : Nat} {cs : List Value} {x : DataW H × List MemPlace} (h : DataW.trod enc Try.prog w base spare held n 24 cs = some x) :
  ∃ A c xs, cs = [.slice A xs.length c] ∧ xs.length ≤ c ∧ kByte.C w A xs.length xs ∧ xs.length ≤ 9223372036854775807 := by
 obtain ⟨A, c, xs, rfl, hc, hm, hn, hr, hg⟩ := open_kd kByte (fun _ => True) Try.underlying24 (by kernel_rfl) (by decide) (fun _ _ _ h => arg_byte h) h
 exact ⟨A, c, xs, rfl, hc, hr, by unfold maxLen at hm; omega⟩
set_option maxRecDepth 20000 in
theorem arg_rA {n : Nat} {cs : List Value} {x : DataW H × List MemPlace} (h : DataW.trod enc Try.prog w base spare held n 46 cs = some x) : ∃ y : rAT, krA.K w y cs ∧ rAG y := by
 obtain ⟨xs, n', _, _, hl, hlen, hf⟩ := DataW.trod_struct Try.underlying46 h
 have hl2 : cs.length = 5 := hl.trans (by kernel_rfl)
 have hx : xs.length = 5 := hlen
 have q0 := hf 0 _ rfl
 rw [List.getElem?_eq_getElem (by omega)] at q0
 have d0 : Try.prog.cellsOf 3 = 1 := by kernel_rfl
 obtain ⟨y0, e0, _, wa0⟩ := DataW.trod_int Try.underlying3 q0
 have f0 : (cs.drop 0).take 1 = [.int .i64 y0] := (congrArg (fun m => (cs.drop 0).take m) d0).symm.trans e0
 have g0 : -9223372036854775808 ≤ y0 ∧ y0 ≤ 9223372036854775807 := by
  simp [Lit.wf, IntKind.min, IntKind.max, IntKind.signed, IntKind.bits] at wa0
  omega
 have q1 := hf 1 _ rfl
 rw [List.getElem?_eq_getElem (by omega)] at q1
 have d1 : Try.prog.cellsOf 3 = 1 := by kernel_rfl
 obtain ⟨y1, e1, _, wa1⟩ := DataW.trod_int Try.underlying3 q1
 have f1 : (cs.drop 1).take 1 = [.int .i64 y1] := (congrArg (fun m => (cs.drop 1).take m) d1).symm.trans e1
 have g1 : -9223372036854775808 ≤ y1 ∧ y1 ≤ 9223372036854775807 := by
  simp [Lit.wf, IntKind.min, IntKind.max, IntKind.signed, IntKind.bits] at wa1
  omega
 have q2 := hf 2 _ rfl
 rw [List.getElem?_eq_getElem (by omega)] at q2
 have d2 : Try.prog.cellsOf 25 = 1 := by kernel_rfl
 obtain ⟨y2, e2, _, wa2⟩ := DataW.trod_int Try.underlying25 q2
 have f2 : (cs.drop 2).take 1 = [.int .u64 y2] := (congrArg (fun m => (cs.drop 2).take m) d2).symm.trans e2
 have g2 : 0 ≤ y2 ∧ y2 ≤ 18446744073709551615 := by
  simp [Lit.wf, IntKind.min, IntKind.max, IntKind.signed, IntKind.bits] at wa2
  omega
 have q3 := hf 3 _ rfl
 rw [List.getElem?_eq_getElem (by omega)] at q3
 have d3 : Try.prog.cellsOf 24 = 1 := by kernel_rfl
 obtain ⟨A3, c3, y3, e3, hc3, hr3, hm3⟩ := arg_by q3
 have f3 : (cs.drop 3).take 1 = [.slice A3 y3.length c3] := (congrArg (fun m => (cs.drop 3).take m) d3).symm.trans e3
 have q4 := hf 4 _ rfl
 rw [List.getElem?_eq_getElem (by omega)] at q4
 have d4 : Try.prog.cellsOf 24 = 1 := by kernel_rfl
 obtain ⟨A4, c4, y4, e4, hc4, hr4, hg4, hm4⟩ := arg_bs q4
 have f4 : (cs.drop 4).take 1 = [.slice A4 y4.length c4] := (congrArg (fun m => (cs.drop 4).take m) d4).symm.trans e4
 match cs, hl2 with
 | [zz0, zz1, zz2, zz3, zz4], _ =>
  obtain rfl : zz0 = Value.int .i64 y0 := by
   have : [zz0] = [Value.int .i64 y0] := f0
   injection this
  obtain rfl : zz1 = Value.int .i64 y1 := by
   have : [zz1] = [Value.int .i64 y1] := f1
   injection this
  obtain rfl : zz2 = Value.int .u64 y2 := by
   have : [zz2] = [Value.int .u64 y2] := f2
   injection this
  obtain rfl : zz3 = Value.slice A3 y3.length c3 := by
   have : [zz3] = [Value.slice A3 y3.length c3] := f3
   injection this
  obtain rfl : zz4 = Value.slice A4 y4.length c4 := by
   have : [zz4] = [Value.slice A4 y4.length c4] := f4
   injection this
  exact ⟨(y0, y1, y2, y3, y4), ⟨[_], _, rfl, rfl, ⟨[_], _, rfl, rfl, ⟨[_], _, rfl, rfl, ⟨[_], _, rfl, ⟨A3, c3, rfl, hc3, hr3⟩, ⟨A4, c4, rfl, hc4, hr4⟩⟩⟩⟩⟩, ⟨g0, g1, g2, hm3, ⟨hg4, hm4⟩⟩⟩
theorem arg_rAs {n : Nat} {cs : List Value} {x : DataW H × List MemPlace} (h : DataW.trod enc Try.prog w base spare held n 43 cs = some x) :
  ∃ A c xs, cs = [.slice A xs.length c] ∧ xs.length ≤ c ∧ krA.C w A xs.length xs ∧ (∀ y ∈ xs, rAG y) ∧ xs.length ≤ 9223372036854775807 := by
 obtain ⟨A, c, xs, rfl, hc, hm, hn, hr, hg⟩ := open_kd krA rAG Try.underlying43 (by kernel_rfl) (by decide) (fun _ _ _ h => arg_rA h) h
 exact ⟨A, c, xs, rfl, hc, hr, hg, by unfold maxLen at hm; omega⟩
end
end Go.Proofs.Ytenlkobjldhfgaa
