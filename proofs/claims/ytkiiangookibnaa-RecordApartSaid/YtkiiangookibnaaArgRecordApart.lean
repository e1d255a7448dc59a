/- What came in to 'RecordApart', opened. -/
import Derived.Test.YtkiiangookibnaaPRecordApartx
import Derived.ProofKit
import Derived.OpenShut
import Derived.Deep.Slices
import Derived.SizedLaws
import Derived.ChangeSame
import Derived.WideShapes
namespace Go.Proofs.Ytkiiangookibnaa.PRecordApart
open Go.RowKit Go.Proofs.YtkiiangookibnaaW.PrintWords Go.Proofs.YtkiiangookibnaaW.PrintLast
open Go.ChangeShapes
theorem cut_at (cs : List Value) (o s t : Nat) (h : t = o + s) : cs.drop o = (cs.drop o).take s ++ cs.drop t := by
  subst h; rw [← List.drop_drop, List.take_append_drop]
theorem k_cast {α : Type} (d : Kd α) {w : World} {y : α} {a b : List Value} (h : d.K w y a) (e : a = b) : d.K w y b := e ▸ h
theorem mapM_at {α β : Type} (f : α → Option β) : ∀ (l : List α) (r : List β), l.mapM f = some r → ∀ (i : Nat) (u : β), r[i]? = some u → ∃ a, l[i]? = some a ∧ f a = some u
  | [], r, h, i, u, hu => by
    simp only [List.mapM_nil, Option.pure_def, Option.some.injEq] at h
    subst h
    simp at hu
  | a :: l, r, h, i, u, hu => by
    rw [List.mapM_cons] at h
    obtain ⟨b, hb, h⟩ := Option.bind_eq_some_iff.1 h
    obtain ⟨r', hr, h⟩ := Option.bind_eq_some_iff.1 h
    simp only [Option.pure_def, Option.some.injEq] at h
    subst h
    cases i with
    | zero =>
      simp only [List.getElem?_cons_zero, Option.some.injEq] at hu
      subst hu
      exact ⟨a, rfl, hb⟩
    | succ i =>
      rw [List.getElem?_cons_succ] at hu ⊢
      exact mapM_at f l r' hr i u hu
theorem cell_of_cells {w : World} {base : Nat} {a : Addr} {n : Nat} {cs : List Value} (h : w.cells? base a n = some cs) (i : Nat) (u : Value) (hu : cs[i]? = some u) : w.cell? (a.add i) = some u := by
  unfold World.cells? at h
  split at h
  · obtain ⟨j, hj, hf⟩ := mapM_at _ _ _ h i u hu
    obtain ⟨hi, hj2⟩ := List.getElem?_eq_some_iff.1 hj
    rw [List.getElem_range] at hj2
    subst hj2
    exact hf
  · cases h

section
variable {H : Type} {enc : TypeId × Value → H} {w : World} {base : Nat} {spare : Nat → Bool} {held : Bool}
/-- A slice that came in, its elements opened by hd. -/
theorem open_kd {α : Type} (d : Kd α) (Good : α → Prop) {t e : TypeId} {fuel : Nat} {cs : List Value} {x : DataW H × List MemPlace} (ht : Try.prog.underlying t = some (.slice e)) (he : Try.prog.cellsOf e = d.sz) (_hz : 0 < d.sz)
    (hd : ∀ n cs x, DataW.trod enc Try.prog w base spare held n e cs = some x → ∃ y : α, d.K w y cs ∧ Good y) (h : DataW.trod enc Try.prog w base spare held fuel t cs = some x) :
    ∃ A c xs, cs = [.slice A xs.length c] ∧ xs.length ≤ c ∧ c ≤ maxLen ∧ (A = none → c = 0) ∧ d.C w A xs.length xs ∧ ∀ y ∈ xs, Good y := by
  rcases Deep.open_slice ht h with ⟨rfl, _⟩ | ⟨a, len, cap, m, n, D, Pl, rfl, hb, hl, hm, hmm, _, hall⟩
  · exact ⟨none, 0, [], rfl, by simp, by simp [maxLen], fun _ => rfl, ⟨rfl, by simp, fun h => absurd h (by simp)⟩, fun y hy => by cases hy⟩
  · have hml : len ≤ m := by rw [hmm]; split <;> omega
    have hex : ∀ i, i < len → ∃ y cs', w.cells? base (a.add (i * d.sz)) d.sz = some cs' ∧ d.K w y cs' ∧ Good y := by
      intro i hi
      obtain ⟨cs', h1, h2⟩ := hall i (by omega)
      obtain ⟨y, hk, hg⟩ := hd _ _ _ h2
      rw [he] at h1
      exact ⟨y, cs', h1, hk, hg⟩
    have hlist : ∀ k, k ≤ len → ∃ ys : List α, ys.length = k ∧ ∀ i y, ys[i]? = some y → ∃ cs', w.cells? base (a.add (i * d.sz)) d.sz = some cs' ∧ d.K w y cs' ∧ Good y := by
      intro k
      induction k with
      | zero => intro _; exact ⟨[], rfl, fun i y hy => by simp at hy⟩
      | succ k ih =>
        intro hk
        obtain ⟨ys, hys, hP⟩ := ih (by omega)
        obtain ⟨y, cs', hy⟩ := hex k (by omega)
        refine ⟨ys ++ [y], by simp [hys], fun i z hz => ?_⟩
        rcases Nat.lt_or_ge i ys.length with hi | hi
        · rw [List.getElem?_append_left hi] at hz; exact hP i z hz
        · have hi2 : i = k := by
            have := (List.getElem?_eq_some_iff.1 hz).1
            simp at this; omega
          subst hi2
          rw [← hys] at hz
          simp at hz
          subst hz
          exact ⟨cs', hy⟩
    obtain ⟨xs, hxs, hP⟩ := hlist len (Nat.le_refl _)
    subst hxs
    have hmx : xs.length ≤ 9223372036854775807 := by unfold maxLen at hm; omega
    refine ⟨some a, cap, xs, rfl, hl, hm, (fun h => by cases h), ⟨rfl, hmx, fun _ => ⟨a, rfl, fun j p hj => ?_⟩⟩, fun y hy => ?_⟩
    · obtain ⟨cs', h1, h2, _⟩ := hP j p hj
      have hn : cs'.length = d.sz := d.K_len h2
      refine ⟨cs', hn, h2, fun i u hu => ?_⟩
      have := cell_of_cells h1 i u hu
      rwa [Addr.add_add] at this
    · obtain ⟨i, hi, rfl⟩ := List.mem_iff_getElem.1 hy
      obtain ⟨_, _, _, hg⟩ := hP i _ (List.getElem?_eq_getElem hi)
      exact hg

theorem arg_t26 {n : Nat} {cs : List Value} {x : DataW H × List MemPlace} (h : DataW.trod enc Try.prog w base spare held n 26 cs = some x) : ∃ y : Int, (Kd.int .u32).K w y cs ∧ (0 ≤ y ∧ y ≤ 4294967295) := by
  obtain ⟨a, rfl, _, wa⟩ := DataW.trod_int Try.underlying26 h
  refine ⟨a, rfl, ?_⟩
  simp [Lit.wf, IntKind.min, IntKind.max, IntKind.signed, IntKind.bits] at wa
  omega
theorem arg_t4 {n : Nat} {cs : List Value} {x : DataW H × List MemPlace} (h : DataW.trod enc Try.prog w base spare held n 4 cs = some x) : ∃ y : Bool, Kd.bool.K w y cs ∧ True := by
  obtain ⟨a, rfl, _⟩ := DataW.trod_bool Try.underlying4 h
  exact ⟨a, rfl, trivial⟩
theorem arg_t3 {n : Nat} {cs : List Value} {x : DataW H × List MemPlace} (h : DataW.trod enc Try.prog w base spare held n 3 cs = some x) : ∃ y : Int, (Kd.int .i64).K w y cs ∧ (-9223372036854775808 ≤ y ∧ y ≤ 9223372036854775807) := by
  obtain ⟨a, rfl, _, wa⟩ := DataW.trod_int Try.underlying3 h
  refine ⟨a, rfl, ?_⟩
  simp [Lit.wf, IntKind.min, IntKind.max, IntKind.signed, IntKind.bits] at wa
  omega
def G28 (y : S28) : Prop := (0 ≤ y.f0 ∧ y.f0 ≤ 4294967295) ∧ (0 ≤ y.f1 ∧ y.f1 ≤ 4294967295)
theorem arg_t28 {n : Nat} {cs : List Value} {x : DataW H × List MemPlace} (h : DataW.trod enc Try.prog w base spare held n 28 cs = some x) : ∃ y : S28, k28.K w y cs ∧ G28 y := by
  obtain ⟨xs, n', _, _, hl, hlen, hf⟩ := DataW.trod_struct Try.underlying28 h
  have hl2 : cs.length = 2 := hl.trans (by kernel_rfl)
  have hx : xs.length = 2 := hlen
  have q0 := hf 0 _ rfl
  rw [List.getElem?_eq_getElem (by omega)] at q0
  obtain ⟨y0, K0, g0⟩ := arg_t26 q0
  have q1 := hf 1 _ rfl
  rw [List.getElem?_eq_getElem (by omega)] at q1
  obtain ⟨y1, K1, g1⟩ := arg_t26 q1
  have c0 : Try.prog.cellsOf 26 = 1 := by kernel_rfl
  have K0' : (Kd.int .u32).K w y0 ((cs.drop 0).take 1) := k_cast _ K0 (congrArg (fun m => (cs.drop 0).take m) c0)
  have c1 : Try.prog.cellsOf 26 = 1 := by kernel_rfl
  have K1' : (Kd.int .u32).K w y1 ((cs.drop 1).take 1) := k_cast _ K1 (congrArg (fun m => (cs.drop 1).take m) c1)
  have e0 : cs.drop 0 = (cs.drop 0).take 1 ++ cs.drop 1 := cut_at cs 0 1 1 rfl
  have L1 : (Kd.int .u32).K w y1 (cs.drop 1) := by have := K1'; rwa [List.take_of_length_le (by rw [List.length_drop]; omega)] at this
  have hK : k28.K w ⟨y0, y1⟩ (cs.drop 0) := ⟨_, _, e0, K0', L1⟩
  rw [List.drop_zero] at hK
  exact ⟨_, hK, ⟨g0, g1⟩⟩
def G48 (y : S48) : Prop := G28 y.f0 ∧ (-9223372036854775808 ≤ y.f1 ∧ y.f1 ≤ 9223372036854775807) ∧ (0 ≤ y.f2 ∧ y.f2 ≤ 4294967295)
theorem arg_t48 {n : Nat} {cs : List Value} {x : DataW H × List MemPlace} (h : DataW.trod enc Try.prog w base spare held n 48 cs = some x) : ∃ y : S48, k48.K w y cs ∧ G48 y := by
  obtain ⟨xs, n', _, _, hl, hlen, hf⟩ := DataW.trod_struct Try.underlying48 h
  have hl2 : cs.length = 4 := hl.trans (by kernel_rfl)
  have hx : xs.length = 3 := hlen
  have q0 := hf 0 _ rfl
  rw [List.getElem?_eq_getElem (by omega)] at q0
  obtain ⟨y0, K0, g0⟩ := arg_t28 q0
  have q1 := hf 1 _ rfl
  rw [List.getElem?_eq_getElem (by omega)] at q1
  obtain ⟨y1, K1, g1⟩ := arg_t3 q1
  have q2 := hf 2 _ rfl
  rw [List.getElem?_eq_getElem (by omega)] at q2
  obtain ⟨y2, K2, g2⟩ := arg_t26 q2
  have c0 : Try.prog.cellsOf 28 = 2 := by kernel_rfl
  have K0' : k28.K w y0 ((cs.drop 0).take 2) := k_cast _ K0 (congrArg (fun m => (cs.drop 0).take m) c0)
  have c1 : Try.prog.cellsOf 3 = 1 := by kernel_rfl
  have K1' : (Kd.int .i64).K w y1 ((cs.drop 2).take 1) := k_cast _ K1 (congrArg (fun m => (cs.drop 2).take m) c1)
  have c2 : Try.prog.cellsOf 26 = 1 := by kernel_rfl
  have K2' : (Kd.int .u32).K w y2 ((cs.drop 3).take 1) := k_cast _ K2 (congrArg (fun m => (cs.drop 3).take m) c2)
  have e0 : cs.drop 0 = (cs.drop 0).take 2 ++ cs.drop 2 := cut_at cs 0 2 2 rfl
  have e1 : cs.drop 2 = (cs.drop 2).take 1 ++ cs.drop 3 := cut_at cs 2 1 3 rfl
  have L2 : (Kd.int .u32).K w y2 (cs.drop 3) := by have := K2'; rwa [List.take_of_length_le (by rw [List.length_drop]; omega)] at this
  have hK : k48.K w ⟨y0, y1, y2⟩ (cs.drop 0) := ⟨_, _, e0, K0', ⟨_, _, e1, K1', L2⟩⟩
  rw [List.drop_zero] at hK
  exact ⟨_, hK, ⟨g0, g1, g2⟩⟩
theorem arg_t29 {n : Nat} {cs : List Value} {x : DataW H × List MemPlace} (h : DataW.trod enc Try.prog w base spare held n 29 cs = some x) : ∃ y : List (S48), (Kd.slice 48 k48).K w y cs ∧ (y.length ≤ 9223372036854775807 ∧ ∀ z1 ∈ y, G48 z1) := by
  obtain ⟨A, c, xs, rfl, hc, hm, _, hr, hg⟩ := open_kd k48 (fun y => G48 y) Try.underlying29 (by kernel_rfl) (by decide) (fun _ _ _ h => arg_t48 h) h
  exact ⟨xs, ⟨A, c, rfl, hc, hr⟩, by unfold maxLen at hm; omega, hg⟩
theorem arg_t30 {n : Nat} {cs : List Value} {x : DataW H × List MemPlace} (h : DataW.trod enc Try.prog w base spare held n 30 cs = some x) : ∃ y : Int, (Kd.int .u64).K w y cs ∧ (0 ≤ y ∧ y ≤ 18446744073709551615) := by
  obtain ⟨a, rfl, _, wa⟩ := DataW.trod_int Try.underlying30 h
  refine ⟨a, rfl, ?_⟩
  simp [Lit.wf, IntKind.min, IntKind.max, IntKind.signed, IntKind.bits] at wa
  omega
def G32 (y : S32) : Prop := (0 ≤ y.f0 ∧ y.f0 ≤ 18446744073709551615) ∧ G28 y.f1 ∧ G28 y.f2 ∧ (-9223372036854775808 ≤ y.f3 ∧ y.f3 ≤ 9223372036854775807) ∧ (-9223372036854775808 ≤ y.f4 ∧ y.f4 ≤ 9223372036854775807) ∧ (-9223372036854775808 ≤ y.f5 ∧ y.f5 ≤ 9223372036854775807)
theorem arg_t32 {n : Nat} {cs : List Value} {x : DataW H × List MemPlace} (h : DataW.trod enc Try.prog w base spare held n 32 cs = some x) : ∃ y : S32, k32.K w y cs ∧ G32 y := by
  obtain ⟨xs, n', _, _, hl, hlen, hf⟩ := DataW.trod_struct Try.underlying32 h
  have hl2 : cs.length = 8 := hl.trans (by kernel_rfl)
  have hx : xs.length = 6 := hlen
  have q0 := hf 0 _ rfl
  rw [List.getElem?_eq_getElem (by omega)] at q0
  obtain ⟨y0, K0, g0⟩ := arg_t30 q0
  have q1 := hf 1 _ rfl
  rw [List.getElem?_eq_getElem (by omega)] at q1
  obtain ⟨y1, K1, g1⟩ := arg_t28 q1
  have q2 := hf 2 _ rfl
  rw [List.getElem?_eq_getElem (by omega)] at q2
  obtain ⟨y2, K2, g2⟩ := arg_t28 q2
  have q3 := hf 3 _ rfl
  rw [List.getElem?_eq_getElem (by omega)] at q3
  obtain ⟨y3, K3, g3⟩ := arg_t3 q3
  have q4 := hf 4 _ rfl
  rw [List.getElem?_eq_getElem (by omega)] at q4
  obtain ⟨y4, K4, g4⟩ := arg_t3 q4
  have q5 := hf 5 _ rfl
  rw [List.getElem?_eq_getElem (by omega)] at q5
  obtain ⟨y5, K5, g5⟩ := arg_t3 q5
  have c0 : Try.prog.cellsOf 30 = 1 := by kernel_rfl
  have K0' : (Kd.int .u64).K w y0 ((cs.drop 0).take 1) := k_cast _ K0 (congrArg (fun m => (cs.drop 0).take m) c0)
  have c1 : Try.prog.cellsOf 28 = 2 := by kernel_rfl
  have K1' : k28.K w y1 ((cs.drop 1).take 2) := k_cast _ K1 (congrArg (fun m => (cs.drop 1).take m) c1)
  have c2 : Try.prog.cellsOf 28 = 2 := by kernel_rfl
  have K2' : k28.K w y2 ((cs.drop 3).take 2) := k_cast _ K2 (congrArg (fun m => (cs.drop 3).take m) c2)
  have c3 : Try.prog.cellsOf 3 = 1 := by kernel_rfl
  have K3' : (Kd.int .i64).K w y3 ((cs.drop 5).take 1) := k_cast _ K3 (congrArg (fun m => (cs.drop 5).take m) c3)
  have c4 : Try.prog.cellsOf 3 = 1 := by kernel_rfl
  have K4' : (Kd.int .i64).K w y4 ((cs.drop 6).take 1) := k_cast _ K4 (congrArg (fun m => (cs.drop 6).take m) c4)
  have c5 : Try.prog.cellsOf 3 = 1 := by kernel_rfl
  have K5' : (Kd.int .i64).K w y5 ((cs.drop 7).take 1) := k_cast _ K5 (congrArg (fun m => (cs.drop 7).take m) c5)
  have e0 : cs.drop 0 = (cs.drop 0).take 1 ++ cs.drop 1 := cut_at cs 0 1 1 rfl
  have e1 : cs.drop 1 = (cs.drop 1).take 2 ++ cs.drop 3 := cut_at cs 1 2 3 rfl
  have e2 : cs.drop 3 = (cs.drop 3).take 2 ++ cs.drop 5 := cut_at cs 3 2 5 rfl
  have e3 : cs.drop 5 = (cs.drop 5).take 1 ++ cs.drop 6 := cut_at cs 5 1 6 rfl
  have e4 : cs.drop 6 = (cs.drop 6).take 1 ++ cs.drop 7 := cut_at cs 6 1 7 rfl
  have L5 : (Kd.int .i64).K w y5 (cs.drop 7) := by have := K5'; rwa [List.take_of_length_le (by rw [List.length_drop]; omega)] at this
  have hK : k32.K w ⟨y0, y1, y2, y3, y4, y5⟩ (cs.drop 0) := ⟨_, _, e0, K0', ⟨_, _, e1, K1', ⟨_, _, e2, K2', ⟨_, _, e3, K3', ⟨_, _, e4, K4', L5⟩⟩⟩⟩⟩
  rw [List.drop_zero] at hK
  exact ⟨_, hK, ⟨g0, g1, g2, g3, g4, g5⟩⟩
def G34 (y : S34) : Prop := (0 ≤ y.f0 ∧ y.f0 ≤ 4294967295) ∧ True ∧ (0 ≤ y.f2 ∧ y.f2 ≤ 4294967295) ∧ (0 ≤ y.f3 ∧ y.f3 ≤ 4294967295) ∧ (-9223372036854775808 ≤ y.f4 ∧ y.f4 ≤ 9223372036854775807) ∧ G28 y.f5 ∧ (y.f6.length ≤ 9223372036854775807 ∧ ∀ z1 ∈ y.f6, G48 z1) ∧ G32 y.f7
theorem arg_t34 {n : Nat} {cs : List Value} {x : DataW H × List MemPlace} (h : DataW.trod enc Try.prog w base spare held n 34 cs = some x) : ∃ y : S34, k34.K w y cs ∧ G34 y := by
  obtain ⟨xs, n', _, _, hl, hlen, hf⟩ := DataW.trod_struct Try.underlying34 h
  have hl2 : cs.length = 16 := hl.trans (by kernel_rfl)
  have hx : xs.length = 8 := hlen
  have q0 := hf 0 _ rfl
  rw [List.getElem?_eq_getElem (by omega)] at q0
  obtain ⟨y0, K0, g0⟩ := arg_t26 q0
  have q1 := hf 1 _ rfl
  rw [List.getElem?_eq_getElem (by omega)] at q1
  obtain ⟨y1, K1, g1⟩ := arg_t4 q1
  have q2 := hf 2 _ rfl
  rw [List.getElem?_eq_getElem (by omega)] at q2
  obtain ⟨y2, K2, g2⟩ := arg_t26 q2
  have q3 := hf 3 _ rfl
  rw [List.getElem?_eq_getElem (by omega)] at q3
  obtain ⟨y3, K3, g3⟩ := arg_t26 q3
  have q4 := hf 4 _ rfl
  rw [List.getElem?_eq_getElem (by omega)] at q4
  obtain ⟨y4, K4, g4⟩ := arg_t3 q4
  have q5 := hf 5 _ rfl
  rw [List.getElem?_eq_getElem (by omega)] at q5
  obtain ⟨y5, K5, g5⟩ := arg_t28 q5
  have q6 := hf 6 _ rfl
  rw [List.getElem?_eq_getElem (by omega)] at q6
  obtain ⟨y6, K6, g6⟩ := arg_t29 q6
  have q7 := hf 7 _ rfl
  rw [List.getElem?_eq_getElem (by omega)] at q7
  obtain ⟨y7, K7, g7⟩ := arg_t32 q7
  have c0 : Try.prog.cellsOf 26 = 1 := by kernel_rfl
  have K0' : (Kd.int .u32).K w y0 ((cs.drop 0).take 1) := k_cast _ K0 (congrArg (fun m => (cs.drop 0).take m) c0)
  have c1 : Try.prog.cellsOf 4 = 1 := by kernel_rfl
  have K1' : Kd.bool.K w y1 ((cs.drop 1).take 1) := k_cast _ K1 (congrArg (fun m => (cs.drop 1).take m) c1)
  have c2 : Try.prog.cellsOf 26 = 1 := by kernel_rfl
  have K2' : (Kd.int .u32).K w y2 ((cs.drop 2).take 1) := k_cast _ K2 (congrArg (fun m => (cs.drop 2).take m) c2)
  have c3 : Try.prog.cellsOf 26 = 1 := by kernel_rfl
  have K3' : (Kd.int .u32).K w y3 ((cs.drop 3).take 1) := k_cast _ K3 (congrArg (fun m => (cs.drop 3).take m) c3)
  have c4 : Try.prog.cellsOf 3 = 1 := by kernel_rfl
  have K4' : (Kd.int .i64).K w y4 ((cs.drop 4).take 1) := k_cast _ K4 (congrArg (fun m => (cs.drop 4).take m) c4)
  have c5 : Try.prog.cellsOf 28 = 2 := by kernel_rfl
  have K5' : k28.K w y5 ((cs.drop 5).take 2) := k_cast _ K5 (congrArg (fun m => (cs.drop 5).take m) c5)
  have c6 : Try.prog.cellsOf 29 = 1 := by kernel_rfl
  have K6' : (Kd.slice 48 k48).K w y6 ((cs.drop 7).take 1) := k_cast _ K6 (congrArg (fun m => (cs.drop 7).take m) c6)
  have c7 : Try.prog.cellsOf 32 = 8 := by kernel_rfl
  have K7' : k32.K w y7 ((cs.drop 8).take 8) := k_cast _ K7 (congrArg (fun m => (cs.drop 8).take m) c7)
  have e0 : cs.drop 0 = (cs.drop 0).take 1 ++ cs.drop 1 := cut_at cs 0 1 1 rfl
  have e1 : cs.drop 1 = (cs.drop 1).take 1 ++ cs.drop 2 := cut_at cs 1 1 2 rfl
  have e2 : cs.drop 2 = (cs.drop 2).take 1 ++ cs.drop 3 := cut_at cs 2 1 3 rfl
  have e3 : cs.drop 3 = (cs.drop 3).take 1 ++ cs.drop 4 := cut_at cs 3 1 4 rfl
  have e4 : cs.drop 4 = (cs.drop 4).take 1 ++ cs.drop 5 := cut_at cs 4 1 5 rfl
  have e5 : cs.drop 5 = (cs.drop 5).take 2 ++ cs.drop 7 := cut_at cs 5 2 7 rfl
  have e6 : cs.drop 7 = (cs.drop 7).take 1 ++ cs.drop 8 := cut_at cs 7 1 8 rfl
  have L7 : k32.K w y7 (cs.drop 8) := by have := K7'; rwa [List.take_of_length_le (by rw [List.length_drop]; omega)] at this
  have hK : k34.K w ⟨y0, y1, y2, y3, y4, y5, y6, y7⟩ (cs.drop 0) := ⟨_, _, e0, K0', ⟨_, _, e1, K1', ⟨_, _, e2, K2', ⟨_, _, e3, K3', ⟨_, _, e4, K4', ⟨_, _, e5, K5', ⟨_, _, e6, K6', L7⟩⟩⟩⟩⟩⟩⟩
  rw [List.drop_zero] at hK
  exact ⟨_, hK, ⟨g0, g1, g2, g3, g4, g5, g6, g7⟩⟩
end
end Go.Proofs.Ytkiiangookibnaa.PRecordApart
