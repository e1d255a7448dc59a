/- Noughts; an array's cell; flat kinds. -/
import Derived.Test.YtenlkobjldhfgaaZRootRunsWkDE
set_option linter.unusedVariables false
set_option linter.unusedSimpArgs false
namespace Go.Proofs.Ytenlkobjldhfgaa
open Go.RowKit Go.Proofs.YtenlkobjldhfgaaW.PrintWords Go.Proofs.YtenlkobjldhfgaaW.PrintLast
def zpg : List Int := List.replicate 256 0
theorem zlen : zpg.length = 256 := List.length_replicate
def flatK {α : Type} (sz : Nat) (p : α → List Value → Prop) (hl : ∀ x cs, p x cs → cs.length = sz) (h1 : ∀ x cs, p x cs → ∀ u ∈ cs, u.oneCell' = true) : Kd α where
 sz := sz
 E := []
 K := fun _ x cs => p x cs
 M := fun _ _ _ x cs => p x cs
 K_len := fun h => hl _ _ h
 K_one := fun h => h1 _ _ h
 K_below := fun _ h => h
 K_of_M := fun h => h
 M_mono := fun _ h => h
 M_bound := fun h => h
 M_move := fun _ h => h
 M_lower := fun _ h => h
theorem nums_mem {k : IntKind} {xs : List Int} {u : Value} (h : u ∈ nums k xs) : u.oneCell' = true := by
 unfold nums at h
 obtain ⟨x, -, rfl⟩ := List.mem_map.1 h
 rfl
section
variable {w0 w : World} {F : Nat → Prop} {L : List Res} {P : Program} {ops : Array Oper} {Q : Exit → Act → World → Prop} {rest : List Oper} {l : List Value} {d ty t e : Nat} {pos : String} {after : Array Edge}
theorem St.wLit0 {α : Type} (HS : St w0 F w L) (D : Kd α) (hE : D.E = []) (sz : Nat) (z : Value) (ht : P.underlying t = some (.slice e)) (hz : (P.info? e).map (fun i => (i.zero, i.size)) = some (some z, sz))
  (h : ∀ v w', St w0 F w' (row D hE e v [] :: L) → wpList P ops Q rest (fr (l.set d v)) w') : wpList P ops Q (⟨some d, .buildSlice t 0 #[], ty, pos, after, none⟩ :: rest) (fr l) w := by
 refine m_make (v := .slice (some ⟨w.heap.size, 0, none⟩) 0 0) (w' := w.alloc (.cells #[] e)) ?_ (h (.slice (some ⟨w.heap.size, 0, none⟩) 0 0) _ ?_)
 ·cases hq : P.info? e with
  | none => simp [hq] at hz
  | some i =>
   have hz' : i.zero = some z ∧ i.size = sz := by simpa [hq] using hz
   simp [execOp, Instr.buildSlice, underlying, ht, sizeOf, typeInfo, hq, hz'.1, hz'.2, zeroValue, Sem.run_bind, run_newRow, Instr.fill]
   have e0 : (Array.range 0) = #[] := by simp [Array.range]
   rw [e0]
   simp
 ·have := HS.lit D hE e [] [] ⟨by simp, fun j p hj => by simp at hj⟩ (by simp)
  simpa using this
end
section
variable {P : Program} {ops : Array Oper} {Q : Exit → Act → World → Prop} {K : Act → World → Prop} {w : World} {o : Oper} {a : Act}
end
section
variable {P : Program} {ops : Array Oper} {Q : Exit → Act → World → Prop} {K : Act → World → Prop} {w : World} {l : List Value} {d ty : Nat} {op : Op} {pos : String} {after : Array Edge} {g : Option (Nat × Bool)}
theorem q_op (v : Value) (hx : (execOp (evl l) ⟨some d, op, ty, pos, after, none⟩).run P w = .ok (.value v) w) (hK : K ((fr l).put (some d) v) w) : if Region.wanted (⟨some d, op, ty, pos, after, none⟩ : Oper) (yielded ops (fr l).tmps) = true then Oper.wp P ⟨some d, op, ty, pos, after, none⟩ (fr l) w K Q else K ((fr l).put (some d) undef) w :=
 wp_of_list rfl (fun ops' => p_run v hx rfl (wpList_nil (norm_put hK)))
end
theorem St.more {w0 w w' : World} {F : Nat → Prop} {L R' : List Res} (h : St w0 F w L) (k : St w (fun _ => False) w' R') : St w0 F w' (R' ++ L) := by
 have k2 : St w (footL []) w' R' := ⟨k.os, k.tape, k.output, k.kept.mono (fun b hb => hb.elim), k.hs, fun b hb => (k.mine b hb).elim (fun h => h.elim) .inr⟩
 exact St.call (R := []) h k2
theorem St.here {w0 w w' : World} {F : Nat → Prop} {L : List Res} (h : St w0 F w L) (hb : Below w.heap.size w w') : St w0 F w' L := h.below hb
theorem x_fieldA {P : Program} {w : World} {ρ : Operand → Value} {o : Oper} {x : Operand} {s f : Nat} {A : Addr} (fs : Array Field) (fl : Field) (ho : o.op = .fieldAddr s x f) (hx : ρ x = .pointer (some A)) (hu : P.underlying s = some (.struct fs)) (hf : fs[f]? = some fl) (hz : ((P.info? fl.type).map fun i => decide (i.size = 0)) = some false) : (execOp ρ o).run P w = .ok (.value (.pointer (some (A.add fl.offset)))) w := by
 cases hi : P.info? fl.type with
 | none => simp [hi] at hz
 | some i =>
  have h0 : ¬ i.size = 0 := by simpa [hi] using hz
  simp [execOp, ho, hx, Instr.fieldAt, Instr.sureAddr, fieldPlace, underlying, hu, hf, sizeOf, typeInfo, hi, h0, Sem.run_bind]
end Go.Proofs.Ytenlkobjldhfgaa
