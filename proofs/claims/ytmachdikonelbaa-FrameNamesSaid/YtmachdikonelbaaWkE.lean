/- Walks step by step: == of arrays of whole numbers. -/
import Derived.Test.YtmachdikonelbaaWkD
import Derived.ChangeKeysEq
import Derived.Laws.StructEq
set_option linter.unusedVariables false
set_option linter.unusedSimpArgs false
namespace Go.Proofs.Ytmachdikonelbaa
open Go.RowKit Go.Proofs.YtmachdikonelbaaW.PrintWords Go.Proofs.YtmachdikonelbaaW.PrintLast
section
variable {P : Program} {w : World} {t n e : Nat} {k : IntKind}
theorem nums_at (k : IntKind) (xs : List Int) (i : Nat) (h : i < xs.length) : (nums k xs).toArray[i]? = some (.int k xs[i]) := by
  simp [nums, h]
theorem eqItems_nums (he : P.underlying e = some (.int k)) (hna : oneT P e = true) (xs ys : List Int) (hl : xs.length = ys.length) (n d : Nat) : ∀ j, j + n = xs.length → (Op.eqItems (d + 1) e 1 (nums k xs).toArray (nums k ys).toArray (List.range' j n)).run P w = .ok (decide (xs.drop j = ys.drop j)) w := by
  induction n with
  | zero =>
    intro j hj
    have h1 : xs.drop j = [] := List.drop_eq_nil_of_le (by omega)
    have h2 : ys.drop j = [] := List.drop_eq_nil_of_le (by omega)
    rw [h1, h2]; simp [Op.eqItems]
  | succ n ih =>
    intro j hj
    have k1 : j < xs.length := by omega
    have k2 : j < ys.length := by omega
    have ih := ih (j + 1) (by omega)
    have hp : ∀ (zs : List Int) (hz : j < zs.length), (part e (nums k zs).toArray (j * 1)).run P w = .ok (.int k zs[j]) w := by
      intro zs hz
      rw [Nat.mul_one]
      simp only [part, Sem.run_bind, run_oneT hna, Result.andThen_ok, nums_at k zs j hz]
      simp
    rw [List.range'_succ]
    have he2 : (Op.equalIn (d + 1) e (.int k xs[j]) (.int k ys[j])).run P w = .ok (xs[j] == ys[j]) w := by
      simp [Op.equalIn, run_underlying he]
    simp only [Op.eqItems, Sem.run_bind, hp xs k1, hp ys k2, Result.andThen_ok, he2]
    rw [List.drop_eq_getElem_cons k1, List.drop_eq_getElem_cons k2]
    by_cases hb : xs[j] = ys[j]
    · have : (xs[j] == ys[j]) = true := by rw [hb]; simp
      rw [this]
      simp only [Bool.not_true, Bool.false_eq_true, if_false]
      rw [ih, hb]
      simp only [List.cons.injEq, true_and]
    · have : (xs[j] == ys[j]) = false := by rw [beq_eq_false_iff_ne]; exact hb
      rw [this]
      simp only [Bool.not_false, if_true, Sem.run_pure, List.cons.injEq, hb, false_and, decide_false]
/-- '==' of two arrays of whole numbers. -/
theorem equalIn_nums (ht : P.underlying t = some (.array n e)) (he : P.underlying e = some (.int k)) (hc : P.cellsOf e = 1) (hi : (P.info? e).isSome = true) (xs ys : List Int) (h1 : xs.length = n) (h2 : ys.length = n) (d : Nat) :
    (Op.equalIn (d + 2) t (.agg (nums k xs).toArray) (.agg (nums k ys).toArray)).run P w = .ok (decide (xs = ys)) w := by
  obtain ⟨i, hi⟩ := Option.isSome_iff_exists.1 hi
  have hna : oneT P e = true := by unfold oneT; rw [he]
  rw [run_equalIn_array w (d + 1) (nums k xs).toArray (nums k ys).toArray ht hi, hc, List.range_eq_range', eqItems_nums he hna xs ys (by omega) n d 0 (by omega)]
  simp
theorem equal_nums (ht : P.underlying t = some (.array n e)) (he : P.underlying e = some (.int k)) (hc : P.cellsOf e = 1) (hi : (P.info? e).isSome = true) (xs ys : List Int) (h1 : xs.length = n) (h2 : ys.length = n) :
    (Op.equal t (.agg (nums k xs).toArray) (.agg (nums k ys).toArray)).run P w = .ok (decide (xs = ys)) w := equalIn_nums ht he hc hi xs ys h1 h2 9998
theorem guard_agg {op : BinOp} {x y : Operand} {xs ys : Array Value} (hm : P.eqGuardType P.depth t = false) : (eqGuard op t x y (.agg xs) (.agg ys)).run P w = .ok () w := run_eqGuard_agg w op t x y xs ys hm
end
theorem equal_ptrnil {P : Program} {w : World} {t e : Nat} {a : Addr} (hu : P.underlying t = some (.pointer e)) : (Op.equal t (.pointer (some a)) (.pointer none)).run P w = .ok false w := by
  have key : ∀ n, (Op.equalIn (n + 1) t (.pointer (some a)) (.pointer none)).run P w = .ok false w := fun n => by
    unfold Op.equalIn
    simp [underlying, hu, Sem.run_bind]
  exact key 9999
theorem nums_set (k : IntKind) (xs : List Int) (i : Nat) (x : Int) : (nums k xs).set i (.int k x) = nums k (xs.set i x) := by simp [nums]
theorem nums_get {k : IntKind} {xs : List Int} {i : Nat} {x : Int} (h : xs[i]? = some x) : (nums k xs)[i]? = some (.int k x) := by simp [nums, h]
theorem nums_getD {k : IntKind} {xs : List Int} {i : Nat} (h : i < xs.length) : (nums k xs)[i]? = some (.int k (xs.getD i 0)) := by simp [nums, h]
end Go.Proofs.Ytmachdikonelbaa
