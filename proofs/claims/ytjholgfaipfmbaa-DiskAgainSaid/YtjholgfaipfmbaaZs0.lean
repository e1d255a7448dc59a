/- Noughts; an array's cell. -/
import Derived.Test.YtjholgfaipfmbaaWkE
set_option linter.unusedVariables false
set_option linter.unusedSimpArgs false
namespace Go.Proofs.Ytjholgfaipfmbaa
open Go.RowKit Go.Proofs.YtjholgfaipfmbaaW.PrintWords Go.Proofs.YtjholgfaipfmbaaW.PrintLast
def zpg : List Int := List.replicate 256 0
theorem zlen : zpg.length = 256 := List.length_replicate
def zct : List Int := List.replicate 240 0
theorem zlen240 : zct.length = 240 := List.length_replicate
def zbl : List Int := List.replicate 16 0
theorem zlen16 : zbl.length = 16 := List.length_replicate
theorem x_idx {P : Program} {w : World} {ρ : Operand → Value} {o : Oper} {t n e : Nat} {k k2 : IntKind} {i : Int} {xs : List Int} {x y : Operand} (j : Nat) (ho : o.op = .index t x y) (hx : ρ x = .agg (nums k xs).toArray) (hy : ρ y = .int k2 i) (ht : P.underlying t = some (.array n e)) (hsz : (P.info? e).map (·.size) = some 1) (hna : oneT P e = true) (hi : i = (j : Int)) (hj : j < n) (hl : xs.length = n) :
    (execOp ρ o).run P w = .ok (.value (.int k (xs.getD j 0))) w := by
  subst hi
  have hq : ∃ q, P.info? e = some q ∧ q.size = 1 := by
    cases h : P.info? e with
    | none => simp [h] at hsz
    | some q => exact ⟨q, rfl, by simpa [h] using hsz⟩
  obtain ⟨q, hq, hq1⟩ := hq
  have hb : (0 : Int) ≤ (j : Int) ∧ (j : Int) < (n : Int) := by omega
  have hg : xs[j]? = some xs[j] := List.getElem?_eq_getElem (by omega)
  have hp : (part e (nums k xs).toArray j).run P w = .ok (.int k (xs.getD j 0)) w := by
    have : (nums k xs).toArray[j]? = some (.int k (xs.getD j 0)) := by simpa using nums_getD (k := k) (xs := xs) (i := j) (by omega)
    simp only [part, Sem.run_bind, run_oneT hna, Result.andThen_ok, this]
    simp
  have hp2 : (part e (nums k xs).toArray ((j : Int).toNat * q.size)).run P w = .ok (.int k (xs.getD j 0)) w := by rw [hq1, Int.toNat_natCast, Nat.mul_one]; exact hp
  have hp3 : (part e (nums k xs).toArray (j * q.size)).run P w = .ok (.int k (xs.getD j 0)) w := by rw [hq1, Nat.mul_one]; exact hp
  simp only [execOp, ho, hx, hy, Instr.index, asIntOf, Sem.run_bind, Sem.run_pure, Result.andThen_ok, run_underlying ht, hb, and_self, if_true, sizeOf, typeInfo, hq]
  simp [Sem.run_bind, hp3, hq, underlying, ht, hb]
end Go.Proofs.Ytjholgfaipfmbaa
