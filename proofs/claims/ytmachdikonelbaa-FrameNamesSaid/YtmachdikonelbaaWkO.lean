/- Walks step by step: operations that are left out; what a call brings; literals of bytes as rows. -/
import Derived.Test.YtmachdikonelbaaByW
import Derived.Test.YtmachdikonelbaaFlat
set_option linter.unusedVariables false
set_option linter.unusedSimpArgs false
namespace Go.Proofs.Ytmachdikonelbaa
open Go.RowKit Go.Proofs.YtmachdikonelbaaW.PrintWords Go.Proofs.YtmachdikonelbaaW.PrintLast
/-- A number's lowest byte. -/
def byt (z : Int) : UInt8 := UInt8.ofNat (z % 256).toNat
theorem conv_byt (z : Int) : IntKind.u8.wrap z = bv (byt z) := by
  rw [IntKind.wrap_u8]
  unfold byt bv
  rw [UInt8.toNat_ofNat']
  omega
theorem byt_bv (x : UInt8) : byt (bv x) = x := by
  have := x.toNat_lt
  unfold byt bv
  apply UInt8.toNat_inj.1
  rw [UInt8.toNat_ofNat']
  omega
theorem byt_nat {n : Nat} (h : n < 256) : bv (byt (n : Int)) = (n : Int) := by
  unfold byt bv
  rw [UInt8.toNat_ofNat']
  omega
section
variable {w0 w : World} {F : Nat → Prop} {L : List Res} {P : Program} {ops : Array Oper} {Q : Exit → Act → World → Prop} {rest : List Oper} {l : List Value} {d ty t e n : Nat} {pos : String} {after : Array Edge}
/-- A literal of bytes, as a row. -/
theorem St.wLitB (HS : St w0 F w L) {parts : Array (Nat × Operand)} (xs : List UInt8) (hn : xs.length = n) (ht : P.underlying t = some (.slice e)) (hz : (P.info? e).map (fun i => (i.zero, i.size)) = some (some (.int .u8 0), 1)) (hn1 : (decide (n * 1 ≤ 16777216 ∧ n * 1 ≠ 0)) = true)
    (hf : Instr.fill (fun i => some (i * 1, 1)) ((Array.range (n * 1)).map ((Value.int .u8 0).cells[· % (Value.int .u8 0).cells.size]!)) (parts.map fun (i, x) => (i, evl l x)).toList = some (nums .u8 (xs.map bv)).toArray)
    (h : ∀ v w', St w0 F w' (row kByte rfl e v xs :: L) → wpList P ops Q rest (fr (l.set d v)) w') : wpList P ops Q (⟨some d, .buildSlice t n parts, ty, pos, after, none⟩ :: rest) (fr l) w := by
  subst hn
  refine m_make (v := .slice (some ⟨w.heap.size, 0, none⟩) xs.length xs.length) (w' := w.alloc (.cells (nums .u8 (xs.map bv)).toArray e)) ?_ (h _ _ ?_)
  · obtain ⟨h1, h2⟩ := of_decide_eq_true hn1
    cases hq : P.info? e with
    | none => simp [hq] at hz
    | some i =>
      have hz' : i.zero = some (.int .u8 0) ∧ i.size = 1 := by simpa [hq] using hz
      obtain ⟨a, b⟩ := hz'
      have h1' : ¬ (16777216 < xs.length * 1) := by omega
      simp only [Array.toList_map] at hf
      simp [execOp, Instr.buildSlice, underlying, ht, sizeOf, typeInfo, hq, a, b, zeroValue, Sem.run_bind, run_newRow]
      rw [if_neg (by simpa using h1'), if_neg (by simpa using h2)]
      simp only [Nat.mul_one] at hf
      simp only [hf]
      simp [Sem.run_bind, run_newRow]
  · exact HS.lit kByte rfl e xs _ ⟨by simp [nums, kByte, Kd.scalar], fun j p hj => by
      obtain ⟨hj2, rfl⟩ := List.getElem?_eq_some_iff.1 hj
      show ((nums .u8 (xs.map bv)).drop (j * 1)).take 1 = [.int .u8 (bv xs[j])]
      rw [Nat.mul_one, List.drop_eq_getElem_cons (by simp [nums]; exact hj2)]
      simp [nums]⟩ (by have := of_decide_eq_true hn1; omega)
end
end Go.Proofs.Ytmachdikonelbaa
