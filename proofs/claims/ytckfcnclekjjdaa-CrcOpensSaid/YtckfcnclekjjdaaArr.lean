/- '==' of arrays of bytes. -/
import Derived.Test.YtckfcnclekjjdaaSeq
import Derived.ChangeKeysEq
namespace Go.Proofs.Ytckfcnclekjjdaa
open Go.RowKit Go.Proofs.YtckfcnclekjjdaaW.PrintWords

/-- Bytes as the cells of an array. -/
def cellsB (xs : List UInt8) : Array Value := (xs.map fun c => Value.int .u8 (bv c)).toArray
theorem cellsB_size (xs : List UInt8) : (cellsB xs).size = xs.length := by unfold cellsB; simp
theorem cellsB_at (xs : List UInt8) (i : Nat) (h : i < xs.length) : (cellsB xs)[i]? = some (.int .u8 (bv xs[i])) := by unfold cellsB; simp [h]
theorem cellsB_inj {a b : List UInt8} (h : cellsB a = cellsB b) : a = b := by
  have hl : a.length = b.length := by have := congrArg Array.size h; rwa [cellsB_size, cellsB_size] at this
  apply List.ext_getElem hl
  intro i h1 h2
  have := congrArg (fun x => x[i]?) h
  simp only [cellsB_at a i h1, cellsB_at b i h2, Option.some.injEq, Value.int.injEq, true_and] at this
  exact bv_inj this

theorem part_byte (w : World) (xs : List UInt8) (i : Nat) (h : i < xs.length) : (part 5 (cellsB xs) i).run Try.prog w = .ok (.int .u8 (bv xs[i])) w :=
  run_part_plain w (by kernel_rfl) (cellsB_at xs i h)
theorem eqItems_bytes (w : World) (xs ys : List UInt8) (hl : xs.length = ys.length) (n d : Nat) : ∀ k, k + n = xs.length → (Op.eqItems (d + 1) 5 1 (cellsB xs) (cellsB ys) (List.range' k n)).run Try.prog w = .ok (decide (xs.drop k = ys.drop k)) w := by
  induction n with
  | zero =>
    intro k hk
    have h1 : xs.drop k = [] := List.drop_eq_nil_of_le (by omega)
    have h2 : ys.drop k = [] := List.drop_eq_nil_of_le (by omega)
    rw [h1, h2]; simp [Op.eqItems]
  | succ n ih =>
    intro k hk
    have k1 : k < xs.length := by omega
    have k2 : k < ys.length := by omega
    have := ih (k + 1) (by omega)
    rw [List.range'_succ]
    have he : (Op.equalIn (d + 1) 5 (.int .u8 (bv xs[k])) (.int .u8 (bv ys[k]))).run Try.prog w = .ok (bv xs[k] == bv ys[k]) w := by
      simp [Op.equalIn, run_underlying Try.underlying5]
    simp only [Op.eqItems, Nat.mul_one, Sem.run_bind, part_byte w xs k k1, part_byte w ys k k2, Result.andThen_ok, he]
    rw [List.drop_eq_getElem_cons k1, List.drop_eq_getElem_cons k2]
    by_cases hb : xs[k] = ys[k]
    · have : (bv xs[k] == bv ys[k]) = true := by rw [hb]; simp
      rw [this]
      simp only [Bool.not_true, Bool.false_eq_true, if_false]
      rw [ih (k + 1) (by omega), hb]
      simp only [List.cons.injEq, true_and]
    · have : (bv xs[k] == bv ys[k]) = false := by
        rw [beq_eq_false_iff_ne]; exact fun h => hb (bv_inj h)
      rw [this]
      simp only [Bool.not_false, if_true, Sem.run_pure, List.cons.injEq, hb, false_and, decide_false]
/-- What the walk comes to at '==' of two arrays of bytes. -/
theorem equalIn_bytes {t n : Nat} (ht : Try.prog.underlying t = some (.array n 5)) (xs ys : List UInt8) (h1 : xs.length = n) (h2 : ys.length = n) (w : World) :
    (Op.equalIn 10000 t (.agg (cellsB xs)) (.agg (cellsB ys))).run Try.prog w = .ok (decide (xs = ys)) w := by
  obtain ⟨i, hi, _, hs, _⟩ := info_parts info5
  have hc : Try.prog.cellsOf 5 = 1 := by kernel_rfl
  rw [run_equalIn_array w 9999 (cellsB xs) (cellsB ys) ht hi, hc, List.range_eq_range', eqItems_bytes w xs ys (by omega) n 9998 0 (by omega)]
  simp
/-- '==' of two arrays of bytes. -/
theorem eql_bytes {t n : Nat} (ht : Try.prog.underlying t = some (.array n 5)) (xs ys : List UInt8) (h1 : xs.length = n) (h2 : ys.length = n) (w : World) :
    (binOp .eql t (.agg (cellsB xs)) (.agg (cellsB ys))).run Try.prog w = .ok (.bool (decide (xs = ys))) w := by
  obtain ⟨i, hi, _, hs, _⟩ := info_parts info5
  have hc : Try.prog.cellsOf 5 = 1 := by kernel_rfl
  have h : (Op.equal t (.agg (cellsB xs)) (.agg (cellsB ys))).run Try.prog w = .ok (decide (xs = ys)) w := by
    show (Op.equalIn 10000 t _ _).run _ _ = _
    rw [run_equalIn_array w 9999 (cellsB xs) (cellsB ys) ht hi, hc, List.range_eq_range', eqItems_bytes w xs ys (by omega) n 9998 0 (by omega)]
    simp
  simp [binOp, h]
theorem neq_bytes {t n : Nat} (ht : Try.prog.underlying t = some (.array n 5)) (xs ys : List UInt8) (h1 : xs.length = n) (h2 : ys.length = n) (w : World) :
    (binOp .neq t (.agg (cellsB xs)) (.agg (cellsB ys))).run Try.prog w = .ok (.bool (!decide (xs = ys))) w := by
  obtain ⟨i, hi, _, hs, _⟩ := info_parts info5
  have hc : Try.prog.cellsOf 5 = 1 := by kernel_rfl
  have h : (Op.equal t (.agg (cellsB xs)) (.agg (cellsB ys))).run Try.prog w = .ok (decide (xs = ys)) w := by
    show (Op.equalIn 10000 t _ _).run _ _ = _
    rw [run_equalIn_array w 9999 (cellsB xs) (cellsB ys) ht hi, hc, List.range_eq_range', eqItems_bytes w xs ys (by omega) n 9998 0 (by omega)]
    simp
  simp [binOp, h]
end Go.Proofs.Ytckfcnclekjjdaa
