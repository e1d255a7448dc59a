/- What came in: slices of bytes, slices of these, as lists. -/
import Derived.Test.YtenlkobjldhfgaaZRootRunsBase
import Derived.ProofKit
import Derived.OpenShut
import Derived.Deep.Slices
import Derived.SizedLaws
set_option linter.unusedVariables false
namespace Go.Proofs.Ytenlkobjldhfgaa
open Go.RowKit Go.Proofs.YtenlkobjldhfgaaW.PrintWords
open Go.ChangeShapes
theorem mapM_at {α β : Type} (f : α → Option β) : ∀ (l : List α) (r : List β), l.mapM f = some r → ∀ (i : Nat) (u : β), r[i]? = some u → ∃ a, l[i]? = some a ∧ f a = some u
 | [], r, h, i, u, hu => by
  simp only [List.mapM_nil, Option.pure_def, Option.some.injEq] at h
  subst h
  simp at hu
 | a :: l, r, h, i, u, hu => by
  rw [List.mapM_cons] at h
  obtain ⟨b, hb, h⟩ := Option.bind_eq_some_iff.1 h
  obtain ⟨r', hr, h⟩ := Option.bind_eq_some_iff.1 h
  simp only [Option.pure_def, Option.some.injEq] at h
  subst h
  cases i with
  | zero =>
   simp only [List.getElem?_cons_zero, Option.some.injEq] at hu
   subst hu
   exact ⟨a, rfl, hb⟩
  | succ i =>
   rw [List.getElem?_cons_succ] at hu ⊢
   exact mapM_at f l r' hr i u hu
theorem cell_of_cells {w : World} {base : Nat} {a : Addr} {n : Nat} {cs : List Value} (h : w.cells? base a n = some cs) (i : Nat) (u : Value) (hu : cs[i]? = some u) : w.cell? (a.add i) = some u := by
 unfold World.cells? at h
 split at h
 ·obtain ⟨j, hj, hf⟩ := mapM_at _ _ _ h i u hu
  obtain ⟨hi, hj2⟩ := List.getElem?_eq_some_iff.1 hj
  rw [List.getElem_range] at hj2
  subst hj2
  exact hf
 ·cases h
section
variable {H : Type} {enc : TypeId × Value → H} {w : World} {base : Nat} {spare : Nat → Bool} {held : Bool}
theorem open_kd {α : Type} (d : Kd α) (Good : α → Prop) {t e : TypeId} {fuel : Nat} {cs : List Value} {x : DataW H × List MemPlace} (ht : Try.prog.underlying t = some (.slice e)) (he : Try.prog.cellsOf e = d.sz) (hz : 0 < d.sz)
  (hd : ∀ n cs x, DataW.trod enc Try.prog w base spare held n e cs = some x → ∃ y : α, d.K w y cs ∧ Good y) (h : DataW.trod enc Try.prog w base spare held fuel t cs = some x) :
  ∃ A c xs, cs = [.slice A xs.length c] ∧ xs.length ≤ c ∧ c ≤ maxLen ∧ (A = none → c = 0) ∧ d.C w A xs.length xs ∧ ∀ y ∈ xs, Good y := by
 rcases Deep.open_slice ht h with ⟨rfl, _⟩ | ⟨a, len, cap, m, n, D, Pl, rfl, hb, hl, hm, hmm, _, hall⟩
 ·exact ⟨none, 0, [], rfl, by simp, by simp [maxLen], fun _ => rfl, ⟨rfl, by simp, fun h => absurd h (by simp)⟩, fun y hy => by cases hy⟩
 ·have hml : len ≤ m := by rw [hmm]; split <;> omega
  have hex : ∀ i, i < len → ∃ y cs', w.cells? base (a.add (i * d.sz)) d.sz = some cs' ∧ d.K w y cs' ∧ Good y := by
   intro i hi
   obtain ⟨cs', h1, h2⟩ := hall i (by omega)
   obtain ⟨y, hk, hg⟩ := hd _ _ _ h2
   rw [he] at h1
   exact ⟨y, cs', h1, hk, hg⟩
  have hlist : ∀ k, k ≤ len → ∃ ys : List α, ys.length = k ∧ ∀ i y, ys[i]? = some y → ∃ cs', w.cells? base (a.add (i * d.sz)) d.sz = some cs' ∧ d.K w y cs' ∧ Good y := by
   intro k
   induction k with
   | zero => intro _; exact ⟨[], rfl, fun i y hy => by simp at hy⟩
   | succ k ih =>
    intro hk
    obtain ⟨ys, hys, hP⟩ := ih (by omega)
    obtain ⟨y, cs', hy⟩ := hex k (by omega)
    refine ⟨ys ++ [y], by simp [hys], fun i z hz => ?_⟩
    rcases Nat.lt_or_ge i ys.length with hi | hi
    ·rw [List.getElem?_append_left hi] at hz; exact hP i z hz
    ·have hi2 : i = k := by
      have := (List.getElem?_eq_some_iff.1 hz).1
      simp at this; omega
     subst hi2
     rw [← hys] at hz
     simp at hz
     subst hz
     exact ⟨cs', hy⟩
  obtain ⟨xs, hxs, hP⟩ := hlist len (Nat.le_refl _)
  subst hxs
  have hmx : xs.length ≤ 9223372036854775807 := by unfold maxLen at hm; omega
  refine ⟨some a, cap, xs, rfl, hl, hm, (fun h => by cases h), ⟨rfl, hmx, fun _ => ⟨a, rfl, fun j p hj => ?_⟩⟩, fun y hy => ?_⟩
  ·obtain ⟨cs', h1, h2, _⟩ := hP j p hj
   have hn : cs'.length = d.sz := d.K_len h2
   refine ⟨cs', hn, h2, fun i u hu => ?_⟩
   have := cell_of_cells h1 i u hu
   rwa [Addr.add_add] at this
  ·obtain ⟨i, hi, rfl⟩ := List.mem_iff_getElem.1 hy
   obtain ⟨_, _, _, hg⟩ := hP i _ (List.getElem?_eq_getElem hi)
   exact hg
theorem arg_byte {n : Nat} {cs : List Value} {x : DataW H × List MemPlace} (h : DataW.trod enc Try.prog w base spare held n 5 cs = some x) : ∃ y : UInt8, kByte.K w y cs ∧ True := by
 obtain ⟨a, rfl, _, wa⟩ := DataW.trod_int Try.underlying5 h
 have hw : 0 ≤ a ∧ a ≤ 255 := by
  have := bounds_u8 wa
  omega
 refine ⟨UInt8.ofNat a.toNat, ?_, trivial⟩
 show [Value.int .u8 a] = [.int .u8 (bv (UInt8.ofNat a.toNat))]
 unfold bv
 rw [UInt8.toNat_ofNat']
 congr 2
 omega
end
end Go.Proofs.Ytenlkobjldhfgaa
