/- Walks step by step: operations that are left out; what a call brings; literals of bytes as rows. -/
import Derived.Test.YtiokdpnhaemciaaByW
import Derived.Test.YtiokdpnhaemciaaFlat
set_option linter.unusedVariables false
set_option linter.unusedSimpArgs false
namespace Go.Proofs.Ytiokdpnhaemciaa
open Go.RowKit Go.Proofs.YtiokdpnhaemciaaW.PrintWords Go.Proofs.YtiokdpnhaemciaaW.PrintLast
section
variable {P : Program} {ops : Array Oper} {Q : Exit → Act → World → Prop} {K : Act → World → Prop} {w : World} {o : Oper} {a : Act}
theorem wp_offG (hw : Region.wanted o (yielded ops a.tmps) = false) (h : K (a.put o.dst undef) w) : if Region.wanted o (yielded ops a.tmps) = true then Oper.wp P o a w K Q else K (a.put o.dst undef) w := by
  rw [if_neg (by rw [hw]; decide)]
  exact h
end
section
variable {P : Program} {ops : Array Oper} {Q : Exit → Act → World → Prop} {K : Act → World → Prop} {w : World} {l : List Value} {d ty : Nat} {op : Op} {pos : String} {after : Array Edge} {g : Option (Nat × Bool)}
/-- An operation that only reckons, in a region of open order. -/
theorem q_op (v : Value) (hx : (execOp (evl l) ⟨some d, op, ty, pos, after, none⟩).run P w = .ok (.value v) w) (hK : K ((fr l).put (some d) v) w) : if Region.wanted (⟨some d, op, ty, pos, after, none⟩ : Oper) (yielded ops (fr l).tmps) = true then Oper.wp P ⟨some d, op, ty, pos, after, none⟩ (fr l) w K Q else K ((fr l).put (some d) undef) w :=
  wp_of_list rfl (fun ops' => p_run v hx rfl (wpList_nil (norm_put hK)))
theorem q_opG (hw : Region.wanted (⟨some d, op, ty, pos, after, g⟩ : Oper) (yielded ops (fr l).tmps) = true) (v : Value) (hx : (execOp (evl l) ⟨some d, op, ty, pos, after, none⟩).run P w = .ok (.value v) w) (hK : K ((fr l).put (some d) v) w) : if Region.wanted (⟨some d, op, ty, pos, after, g⟩ : Oper) (yielded ops (fr l).tmps) = true then Oper.wp P ⟨some d, op, ty, pos, after, g⟩ (fr l) w K Q else K ((fr l).put (some d) undef) w :=
  wp_of_listG rfl hw (fun ops' => p_run v hx rfl (wpList_nil (norm_put hK)))
end
theorem wanted_undef {ops : Array Oper} {o og : Oper} {a : Act} {g : Nat} {u : Bool} {t : Tmp} (hg : o.guard = some (g, u)) (ho : ops[g]? = some og) (hd : og.dst = some t) (hv : a.tmps[t]? = some undef) : Region.wanted o (yielded ops a.tmps) = false := by
  cases u <;> simp_all [Region.wanted, yielded, undef]
/-- A call that holds nothing: what it brings. -/
theorem St.more {w0 w w' : World} {F : Nat → Prop} {L R' : List Res} (h : St w0 F w L) (k : St w (fun _ => False) w' R') : St w0 F w' (R' ++ L) := by
  have k2 : St w (footL []) w' R' := ⟨k.os, k.tape, k.output, k.kept.mono (fun b hb => hb.elim), k.hs, fun b hb => (k.mine b hb).elim (fun h => h.elim) .inr⟩
  exact St.call (R := []) h k2
theorem St.here {w0 w w' : World} {F : Nat → Prop} {L : List Res} (h : St w0 F w L) (hb : Below w.heap.size w w') : St w0 F w' L := h.below hb
/-- A field's address, behind any pointer. -/
theorem x_fieldA {P : Program} {w : World} {ρ : Operand → Value} {o : Oper} {x : Operand} {s f : Nat} {A : Addr} (fs : Array Field) (fl : Field) (ho : o.op = .fieldAddr s x f) (hx : ρ x = .pointer (some A)) (hu : P.underlying s = some (.struct fs)) (hf : fs[f]? = some fl) (hz : ((P.info? fl.type).map fun i => decide (i.size = 0)) = some false) : (execOp ρ o).run P w = .ok (.value (.pointer (some (A.add fl.offset)))) w := by
  cases hi : P.info? fl.type with
  | none => simp [hi] at hz
  | some i =>
    have h0 : ¬ i.size = 0 := by simpa [hi] using hz
    simp [execOp, ho, hx, Instr.fieldAt, Instr.sureAddr, fieldPlace, underlying, hu, hf, sizeOf, typeInfo, hi, h0, Sem.run_bind]
/-- A number's lowest byte. -/
def byt (z : Int) : UInt8 := UInt8.ofNat (z % 256).toNat
theorem conv_byt (z : Int) : IntKind.u8.wrap z = bv (byt z) := by
  rw [IntKind.wrap_u8]
  unfold byt bv
  rw [UInt8.toNat_ofNat']
  omega
theorem byt_bv (x : UInt8) : byt (bv x) = x := by
  have := x.toNat_lt
  unfold byt bv
  apply UInt8.toNat_inj.1
  rw [UInt8.toNat_ofNat']
  omega
theorem byt_nat {n : Nat} (h : n < 256) : bv (byt (n : Int)) = (n : Int) := by
  unfold byt bv
  rw [UInt8.toNat_ofNat']
  omega
section
variable {w0 w : World} {F : Nat → Prop} {L : List Res} {P : Program} {ops : Array Oper} {Q : Exit → Act → World → Prop} {rest : List Oper} {l : List Value} {d ty t e n : Nat} {pos : String} {after : Array Edge}
/-- A literal of bytes, as a row. -/
theorem St.wLitB (HS : St w0 F w L) {parts : Array (Nat × Operand)} (xs : List UInt8) (hn : xs.length = n) (ht : P.underlying t = some (.slice e)) (hz : (P.info? e).map (fun i => (i.zero, i.size)) = some (some (.int .u8 0), 1)) (hn1 : (decide (n * 1 ≤ 16777216 ∧ n * 1 ≠ 0)) = true)
    (hf : Instr.fill (fun i => some (i * 1, 1)) ((Array.range (n * 1)).map ((Value.int .u8 0).cells[· % (Value.int .u8 0).cells.size]!)) (parts.map fun (i, x) => (i, evl l x)).toList = some (nums .u8 (xs.map bv)).toArray)
    (h : ∀ v w', St w0 F w' (row kByte rfl e v xs :: L) → wpList P ops Q rest (fr (l.set d v)) w') : wpList P ops Q (⟨some d, .buildSlice t n parts, ty, pos, after, none⟩ :: rest) (fr l) w := by
  subst hn
  refine m_make (v := .slice (some ⟨w.heap.size, 0, none⟩) xs.length xs.length) (w' := w.alloc (.cells (nums .u8 (xs.map bv)).toArray e)) ?_ (h _ _ ?_)
  · obtain ⟨h1, h2⟩ := of_decide_eq_true hn1
    cases hq : P.info? e with
    | none => simp [hq] at hz
    | some i =>
      have hz' : i.zero = some (.int .u8 0) ∧ i.size = 1 := by simpa [hq] using hz
      obtain ⟨a, b⟩ := hz'
      have h1' : ¬ (16777216 < xs.length * 1) := by omega
      simp only [Array.toList_map] at hf
      simp [execOp, Instr.buildSlice, underlying, ht, sizeOf, typeInfo, hq, a, b, zeroValue, Sem.run_bind, run_newRow]
      rw [if_neg (by simpa using h1'), if_neg (by simpa using h2)]
      simp only [Nat.mul_one] at hf
      simp only [hf]
      simp [Sem.run_bind, run_newRow]
  · exact HS.lit kByte rfl e xs _ ⟨by simp [nums, kByte, Kd.scalar], fun j p hj => by
      obtain ⟨hj2, rfl⟩ := List.getElem?_eq_some_iff.1 hj
      show ((nums .u8 (xs.map bv)).drop (j * 1)).take 1 = [.int .u8 (bv xs[j])]
      rw [Nat.mul_one, List.drop_eq_getElem_cons (by simp [nums]; exact hj2)]
      simp [nums]⟩ (by have := of_decide_eq_true hn1; omega)
end
end Go.Proofs.Ytiokdpnhaemciaa
