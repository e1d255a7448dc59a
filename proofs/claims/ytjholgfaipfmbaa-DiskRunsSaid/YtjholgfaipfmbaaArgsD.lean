/- Acts that came in. -/
import Derived.Test.YtjholgfaipfmbaaProg
import Derived.ProofKit
import Derived.OpenShut
import Derived.Deep.Slices
import Derived.SizedLaws
import Derived.ChangeSame
import Derived.WideShapes
import Derived.Test.YtjholgfaipfmbaaWkM
import Derived.ChangeSame
set_option linter.unusedVariables false
set_option linter.unusedSimpArgs false
namespace Go.Proofs.Ytjholgfaipfmbaa
open Go.RowKit Go.Proofs.YtjholgfaipfmbaaW.PrintWords
open Go.ChangeShapes
theorem cut_at (cs : List Value) (o s t : Nat) (h : t = o + s) : cs.drop o = (cs.drop o).take s ++ cs.drop t := by
  subst h; rw [← List.drop_drop, List.take_append_drop]
theorem k_cast {α : Type} (d : Kd α) {w : World} {y : α} {a b : List Value} (h : d.K w y a) (e : a = b) : d.K w y b := e ▸ h
theorem mapM_at {α β : Type} (f : α → Option β) : ∀ (l : List α) (r : List β), l.mapM f = some r → ∀ (i : Nat) (u : β), r[i]? = some u → ∃ a, l[i]? = some a ∧ f a = some u
  | [], r, h, i, u, hu => by
    simp only [List.mapM_nil, Option.pure_def, Option.some.injEq] at h
    subst h
    simp at hu
  | a :: l, r, h, i, u, hu => by
    rw [List.mapM_cons] at h
    obtain ⟨b, hb, h⟩ := Option.bind_eq_some_iff.1 h
    obtain ⟨r', hr, h⟩ := Option.bind_eq_some_iff.1 h
    simp only [Option.pure_def, Option.some.injEq] at h
    subst h
    cases i with
    | zero =>
      simp only [List.getElem?_cons_zero, Option.some.injEq] at hu
      subst hu
      exact ⟨a, rfl, hb⟩
    | succ i =>
      rw [List.getElem?_cons_succ] at hu ⊢
      exact mapM_at f l r' hr i u hu
theorem cell_of_cells {w : World} {base : Nat} {a : Addr} {n : Nat} {cs : List Value} (h : w.cells? base a n = some cs) (i : Nat) (u : Value) (hu : cs[i]? = some u) : w.cell? (a.add i) = some u := by
  unfold World.cells? at h
  split at h
  · obtain ⟨j, hj, hf⟩ := mapM_at _ _ _ h i u hu
    obtain ⟨hi, hj2⟩ := List.getElem?_eq_some_iff.1 hj
    rw [List.getElem_range] at hj2
    subst hj2
    exact hf
  · cases h

section
variable {H : Type} {enc : TypeId × Value → H} {w : World} {base : Nat} {spare : Nat → Bool} {held : Bool}
/-- A slice that came in, its elements opened by hd. -/
theorem open_kd {α : Type} (d : Kd α) (Good : α → Prop) {t e : TypeId} {fuel : Nat} {cs : List Value} {x : DataW H × List MemPlace} (ht : Try.prog.underlying t = some (.slice e)) (he : Try.prog.cellsOf e = d.sz) (_hz : 0 < d.sz)
    (hd : ∀ n cs x, DataW.trod enc Try.prog w base spare held n e cs = some x → ∃ y : α, d.K w y cs ∧ Good y) (h : DataW.trod enc Try.prog w base spare held fuel t cs = some x) :
    ∃ A c xs, cs = [.slice A xs.length c] ∧ xs.length ≤ c ∧ c ≤ maxLen ∧ (A = none → c = 0) ∧ d.C w A xs.length xs ∧ ∀ y ∈ xs, Good y := by
  rcases Deep.open_slice ht h with ⟨rfl, _⟩ | ⟨a, len, cap, m, n, D, Pl, rfl, hb, hl, hm, hmm, _, hall⟩
  · exact ⟨none, 0, [], rfl, by simp, by simp [maxLen], fun _ => rfl, ⟨rfl, by simp, fun h => absurd h (by simp)⟩, fun y hy => by cases hy⟩
  · have hml : len ≤ m := by rw [hmm]; split <;> omega
    have hex : ∀ i, i < len → ∃ y cs', w.cells? base (a.add (i * d.sz)) d.sz = some cs' ∧ d.K w y cs' ∧ Good y := by
      intro i hi
      obtain ⟨cs', h1, h2⟩ := hall i (by omega)
      obtain ⟨y, hk, hg⟩ := hd _ _ _ h2
      rw [he] at h1
      exact ⟨y, cs', h1, hk, hg⟩
    have hlist : ∀ k, k ≤ len → ∃ ys : List α, ys.length = k ∧ ∀ i y, ys[i]? = some y → ∃ cs', w.cells? base (a.add (i * d.sz)) d.sz = some cs' ∧ d.K w y cs' ∧ Good y := by
      intro k
      induction k with
      | zero => intro _; exact ⟨[], rfl, fun i y hy => by simp at hy⟩
      | succ k ih =>
        intro hk
        obtain ⟨ys, hys, hP⟩ := ih (by omega)
        obtain ⟨y, cs', hy⟩ := hex k (by omega)
        refine ⟨ys ++ [y], by simp [hys], fun i z hz => ?_⟩
        rcases Nat.lt_or_ge i ys.length with hi | hi
        · rw [List.getElem?_append_left hi] at hz; exact hP i z hz
        · have hi2 : i = k := by
            have := (List.getElem?_eq_some_iff.1 hz).1
            simp at this; omega
          subst hi2
          rw [← hys] at hz
          simp at hz
          subst hz
          exact ⟨cs', hy⟩
    obtain ⟨xs, hxs, hP⟩ := hlist len (Nat.le_refl _)
    subst hxs
    have hmx : xs.length ≤ 9223372036854775807 := by unfold maxLen at hm; omega
    refine ⟨some a, cap, xs, rfl, hl, hm, (fun h => by cases h), ⟨rfl, hmx, fun _ => ⟨a, rfl, fun j p hj => ?_⟩⟩, fun y hy => ?_⟩
    · obtain ⟨cs', h1, h2, _⟩ := hP j p hj
      have hn : cs'.length = d.sz := d.K_len h2
      refine ⟨cs', hn, h2, fun i u hu => ?_⟩
      have := cell_of_cells h1 i u hu
      rwa [Addr.add_add] at this
    · obtain ⟨i, hi, rfl⟩ := List.mem_iff_getElem.1 hy
      obtain ⟨_, _, _, hg⟩ := hP i _ (List.getElem?_eq_getElem hi)
      exact hg

end
theorem bnd_i64 {a : Int} (wa : (Lit.int .i64 a).wf = true) : -9223372036854775808 ≤ a ∧ a ≤ 9223372036854775807 := by
  simp [Lit.wf, IntKind.min, IntKind.max, IntKind.signed, IntKind.bits] at wa
  omega
abbrev dAT : Type := Int × Int × Int × List Int
def kdA : Kd dAT := (Kd.pair (Kd.int .i64) (Kd.pair (Kd.int .i64) (Kd.pair (Kd.int .u8) (Kd.slice 5 (Kd.int .u8)))))
def dAG (y : dAT) : Prop := (-9223372036854775808 ≤ y.1 ∧ y.1 ≤ 9223372036854775807) ∧ (-9223372036854775808 ≤ y.2.1 ∧ y.2.1 ≤ 9223372036854775807) ∧ (0 ≤ y.2.2.1 ∧ y.2.2.1 ≤ 255) ∧ ((∀ z ∈ y.2.2.2, 0 ≤ z ∧ z < 256) ∧ y.2.2.2.length ≤ 9223372036854775807)
theorem dA_get {w : World} {A : Option Addr} {n : Nat} {ys : List dAT} (h : kdA.C w A n ys) (j : Nat) (hj : j < ys.length) : ∃ (ad : Addr) (y : dAT) (A3 : Option Addr) (c3 : Nat), A = some ad ∧ ys[j]? = some y ∧ y.2.2.2.length ≤ c3 ∧ (Kd.int .u8).C w A3 y.2.2.2.length y.2.2.2 ∧ ∀ i u, ([.int .i64 y.1, .int .i64 y.2.1, .int .u8 y.2.2.1, .slice A3 y.2.2.2.length c3] : List Value)[i]? = some u → w.cell? ((ad.add (j * 4)).add i) = some u := by
  obtain ⟨ad, e, hc⟩ := h.2.2 (by have := h.1; omega)
  obtain ⟨c, hs, hr, hcell⟩ := hc j _ (List.getElem?_eq_getElem hj)
  obtain ⟨u0, r0, q0, e0, ⟨u1, r1, q1, e1, ⟨u2, r2, q2, e2, ⟨A3, c3, e3, hl3, hC3⟩⟩⟩⟩ := hr
  refine ⟨ad, ys[j], A3, c3, e, List.getElem?_eq_getElem hj, hl3, hC3, fun i u hu => ?_⟩
  rw [add_add]
  refine hcell i u ?_
  rw [q0, q1, q2, show _ = _ from e0, show _ = _ from e1, show _ = _ from e2, show _ = _ from e3]
  exact hu
section
variable {H : Type} {enc : TypeId × Value → H} {w : World} {base : Nat} {spare : Nat → Bool} {held : Bool}
theorem arg_b8 {n : Nat} {cs : List Value} {x : DataW H × List MemPlace} (h : DataW.trod enc Try.prog w base spare held n 5 cs = some x) : ∃ y : Int, (Kd.int .u8).K w y cs ∧ (0 ≤ y ∧ y < 256) := by
  obtain ⟨a, rfl, _, wa⟩ := DataW.trod_int Try.underlying5 h
  refine ⟨a, rfl, ?_⟩
  simp [Lit.wf, IntKind.min, IntKind.max, IntKind.signed, IntKind.bits] at wa
  omega
theorem arg_bs {n : Nat} {cs : List Value} {x : DataW H × List MemPlace} (h : DataW.trod enc Try.prog w base spare held n 36 cs = some x) :
    ∃ A c xs, cs = [.slice A xs.length c] ∧ xs.length ≤ c ∧ (Kd.int .u8).C w A xs.length xs ∧ (∀ z ∈ xs, 0 ≤ z ∧ z < 256) ∧ xs.length ≤ 9223372036854775807 := by
  obtain ⟨A, c, xs, rfl, hc, hm, hn, hr, hg⟩ := open_kd (Kd.int .u8) (fun y => 0 ≤ y ∧ y < 256) Try.underlying36 (by kernel_rfl) (by decide) (fun _ _ _ h => arg_b8 h) h
  exact ⟨A, c, xs, rfl, hc, hr, hg, by unfold maxLen at hm; omega⟩
theorem arg_dA {n : Nat} {cs : List Value} {x : DataW H × List MemPlace} (h : DataW.trod enc Try.prog w base spare held n 38 cs = some x) : ∃ y : dAT, kdA.K w y cs ∧ dAG y := by
  obtain ⟨xs, n', _, _, hl, hlen, hf⟩ := DataW.trod_struct Try.underlying38 h
  have hl2 : cs.length = 4 := hl.trans (by kernel_rfl)
  have hx : xs.length = 4 := hlen
  have q0 := hf 0 _ rfl
  rw [List.getElem?_eq_getElem (by omega)] at q0
  have d0 : Try.prog.cellsOf 3 = 1 := by kernel_rfl
  obtain ⟨y0, e0, _, wa0⟩ := DataW.trod_int Try.underlying3 q0
  have f0 : (cs.drop 0).take 1 = [.int .i64 y0] := (congrArg (fun m => (cs.drop 0).take m) d0).symm.trans e0
  have g0 : -9223372036854775808 ≤ y0 ∧ y0 ≤ 9223372036854775807 := by
    simp [Lit.wf, IntKind.min, IntKind.max, IntKind.signed, IntKind.bits] at wa0
    omega
  have q1 := hf 1 _ rfl
  rw [List.getElem?_eq_getElem (by omega)] at q1
  have d1 : Try.prog.cellsOf 3 = 1 := by kernel_rfl
  obtain ⟨y1, e1, _, wa1⟩ := DataW.trod_int Try.underlying3 q1
  have f1 : (cs.drop 1).take 1 = [.int .i64 y1] := (congrArg (fun m => (cs.drop 1).take m) d1).symm.trans e1
  have g1 : -9223372036854775808 ≤ y1 ∧ y1 ≤ 9223372036854775807 := by
    simp [Lit.wf, IntKind.min, IntKind.max, IntKind.signed, IntKind.bits] at wa1
    omega
  have q2 := hf 2 _ rfl
  rw [List.getElem?_eq_getElem (by omega)] at q2
  have d2 : Try.prog.cellsOf 5 = 1 := by kernel_rfl
  obtain ⟨y2, e2, _, wa2⟩ := DataW.trod_int Try.underlying5 q2
  have f2 : (cs.drop 2).take 1 = [.int .u8 y2] := (congrArg (fun m => (cs.drop 2).take m) d2).symm.trans e2
  have g2 : 0 ≤ y2 ∧ y2 ≤ 255 := by
    simp [Lit.wf, IntKind.min, IntKind.max, IntKind.signed, IntKind.bits] at wa2
    omega
  have q3 := hf 3 _ rfl
  rw [List.getElem?_eq_getElem (by omega)] at q3
  have d3 : Try.prog.cellsOf 36 = 1 := by kernel_rfl
  obtain ⟨A3, c3, y3, e3, hc3, hr3, hg3, hm3⟩ := arg_bs q3
  have f3 : (cs.drop 3).take 1 = [.slice A3 y3.length c3] := (congrArg (fun m => (cs.drop 3).take m) d3).symm.trans e3
  match cs, hl2 with
  | [zz0, zz1, zz2, zz3], _ =>
    obtain rfl : zz0 = Value.int .i64 y0 := by
      have : [zz0] = [Value.int .i64 y0] := f0
      injection this
    obtain rfl : zz1 = Value.int .i64 y1 := by
      have : [zz1] = [Value.int .i64 y1] := f1
      injection this
    obtain rfl : zz2 = Value.int .u8 y2 := by
      have : [zz2] = [Value.int .u8 y2] := f2
      injection this
    obtain rfl : zz3 = Value.slice A3 y3.length c3 := by
      have : [zz3] = [Value.slice A3 y3.length c3] := f3
      injection this
    exact ⟨(y0, y1, y2, y3), ⟨[_], _, rfl, rfl, ⟨[_], _, rfl, rfl, ⟨[_], _, rfl, rfl, ⟨A3, c3, rfl, hc3, hr3⟩⟩⟩⟩, ⟨g0, g1, g2, ⟨hg3, hm3⟩⟩⟩
theorem arg_dAs {n : Nat} {cs : List Value} {x : DataW H × List MemPlace} (h : DataW.trod enc Try.prog w base spare held n 35 cs = some x) :
    ∃ A c xs, cs = [.slice A xs.length c] ∧ xs.length ≤ c ∧ kdA.C w A xs.length xs ∧ (∀ y ∈ xs, dAG y) ∧ xs.length ≤ 9223372036854775807 := by
  obtain ⟨A, c, xs, rfl, hc, hm, hn, hr, hg⟩ := open_kd kdA dAG Try.underlying35 (by kernel_rfl) (by decide) (fun _ _ _ h => arg_dA h) h
  exact ⟨A, c, xs, rfl, hc, hr, hg, by unfold maxLen at hm; omega⟩
end
end Go.Proofs.Ytjholgfaipfmbaa
