/- Noughts; an array's cell; bytes as walks have them. -/
import Derived.Test.YtiokdpnhaemciaaWkE
import Derived.Test.YtiokdpnhaemciaaStr
set_option linter.unusedVariables false
set_option linter.unusedSimpArgs false
namespace Go.Proofs.Ytiokdpnhaemciaa
open Go.RowKit Go.Proofs.YtiokdpnhaemciaaW.PrintWords Go.Proofs.YtiokdpnhaemciaaW.PrintLast
def zpg : List Int := List.replicate 256 0
theorem zlen : zpg.length = 256 := List.length_replicate
def zct : List Int := List.replicate 240 0
theorem zlen240 : zct.length = 240 := List.length_replicate
def zbl : List Int := List.replicate 16 0
theorem zlen16 : zbl.length = 16 := List.length_replicate
theorem x_idx {P : Program} {w : World} {ρ : Operand → Value} {o : Oper} {t n e : Nat} {k k2 : IntKind} {i : Int} {xs : List Int} {x y : Operand} (j : Nat) (ho : o.op = .index t x y) (hx : ρ x = .agg (nums k xs).toArray) (hy : ρ y = .int k2 i) (ht : P.underlying t = some (.array n e)) (hsz : (P.info? e).map (·.size) = some 1) (hna : oneT P e = true) (hi : i = (j : Int)) (hj : j < n) (hl : xs.length = n) :
    (execOp ρ o).run P w = .ok (.value (.int k (xs.getD j 0))) w := by
  subst hi
  have hq : ∃ q, P.info? e = some q ∧ q.size = 1 := by
    cases h : P.info? e with
    | none => simp [h] at hsz
    | some q => exact ⟨q, rfl, by simpa [h] using hsz⟩
  obtain ⟨q, hq, hq1⟩ := hq
  have hb : (0 : Int) ≤ (j : Int) ∧ (j : Int) < (n : Int) := by omega
  have hg : xs[j]? = some xs[j] := List.getElem?_eq_getElem (by omega)
  have hp : (part e (nums k xs).toArray j).run P w = .ok (.int k (xs.getD j 0)) w := by
    have : (nums k xs).toArray[j]? = some (.int k (xs.getD j 0)) := by simpa using nums_getD (k := k) (xs := xs) (i := j) (by omega)
    simp only [part, Sem.run_bind, run_oneT hna, Result.andThen_ok, this]
    simp
  have hp2 : (part e (nums k xs).toArray ((j : Int).toNat * q.size)).run P w = .ok (.int k (xs.getD j 0)) w := by rw [hq1, Int.toNat_natCast, Nat.mul_one]; exact hp
  have hp3 : (part e (nums k xs).toArray (j * q.size)).run P w = .ok (.int k (xs.getD j 0)) w := by rw [hq1, Nat.mul_one]; exact hp
  simp only [execOp, ho, hx, hy, Instr.index, asIntOf, Sem.run_bind, Sem.run_pure, Result.andThen_ok, run_underlying ht, hb, and_self, if_true, sizeOf, typeInfo, hq]
  simp [Sem.run_bind, hp3, hq, underlying, ht, hb]
section
variable {w : World} {q t : Nat} {A B : Option Addr} {xs ys : List UInt8}
theorem nums_bv (xs : List UInt8) : nums .u8 (xs.map bv) = xs.map fun c => Value.int .u8 (bv c) := by simp [nums]
/-- A block of bytes, read from a place on. -/
theorem rd_sub {cs : List Value} (h : (blk q cs t).holds w) (k : Nat) (hd : (cs.drop k).take xs.length = nums .u8 (xs.map bv)) (hm : xs.length ≤ 9223372036854775807) : Rd w (some ⟨q, k, none⟩) xs := by
  refine ⟨rfl, hm, fun _ => ⟨_, rfl, fun j p hj => ⟨[.int .u8 (bv p)], rfl, rfl, fun i u hu => ?_⟩⟩⟩
  have hi : i = 0 := by
    rcases i with _ | i
    · rfl
    · simp at hu
  subst hi
  have hu' : Value.int .u8 (bv p) = u := by simpa using hu
  subst hu'
  have := bkCells h k (nums .u8 (xs.map bv)) (by rw [nums_length, List.length_map]; exact hd) j (.int .u8 (bv p)) (by simp [nums, hj])
  simpa [kByte, Kd.scalar] using this
theorem rd_blk (h : (blk q (nums .u8 (xs.map bv)) t).holds w) (hm : xs.length ≤ 9223372036854775807) : Rd w (some ⟨q, 0, none⟩) xs :=
  rd_sub h 0 (by rw [List.drop_zero, List.take_of_length_le]; simp [nums_length]) hm
/-- What is read, as cells. -/
theorem rd_cells (h : Rd w A xs) : (nums .u8 (xs.map bv)).length ≠ 0 → ∃ ad, A = some ad ∧ ∀ j v, (nums .u8 (xs.map bv))[j]? = some v → w.cell? (ad.add j) = some v := by
  intro h0
  rw [nums_length, List.length_map] at h0
  obtain ⟨ad, e, _⟩ := h.2.2 (by omega)
  refine ⟨ad, e, fun j v hv => ?_⟩
  have hj : j < xs.length := by
    have := (List.getElem?_eq_some_iff.1 hv).1
    simpa [nums_length] using this
  obtain ⟨ad', e', hc⟩ := h.at j hj
  rw [e] at e'
  injection e' with e'
  subst e'
  rw [hc]
  rw [nums_bv, List.getElem?_map, List.getElem?_eq_getElem hj] at hv
  exact hv
end
end Go.Proofs.Ytiokdpnhaemciaa
