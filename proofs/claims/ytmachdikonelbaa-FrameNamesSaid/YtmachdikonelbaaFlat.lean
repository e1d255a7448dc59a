/- Noughts; an array's cell; flat kinds. -/
import Derived.Test.YtmachdikonelbaaWkE
import Derived.Test.YtmachdikonelbaaWkD
set_option linter.unusedVariables false
set_option linter.unusedSimpArgs false
namespace Go.Proofs.Ytmachdikonelbaa
open Go.RowKit Go.Proofs.YtmachdikonelbaaW.PrintWords Go.Proofs.YtmachdikonelbaaW.PrintLast
def zpg : List Int := List.replicate 256 0
theorem zlen : zpg.length = 256 := List.length_replicate
def zct : List Int := List.replicate 240 0
theorem zlen240 : zct.length = 240 := List.length_replicate
def zbl : List Int := List.replicate 16 0
theorem zlen16 : zbl.length = 16 := List.length_replicate
theorem x_idx {P : Program} {w : World} {ρ : Operand → Value} {o : Oper} {t n e : Nat} {k k2 : IntKind} {i : Int} {xs : List Int} {x y : Operand} (j : Nat) (ho : o.op = .index t x y) (hx : ρ x = .agg (nums k xs).toArray) (hy : ρ y = .int k2 i) (ht : P.underlying t = some (.array n e)) (hsz : (P.info? e).map (·.size) = some 1) (hna : oneT P e = true) (hi : i = (j : Int)) (hj : j < n) (hl : xs.length = n) :
    (execOp ρ o).run P w = .ok (.value (.int k (xs.getD j 0))) w := by
  subst hi
  have hq : ∃ q, P.info? e = some q ∧ q.size = 1 := by
    cases h : P.info? e with
    | none => simp [h] at hsz
    | some q => exact ⟨q, rfl, by simpa [h] using hsz⟩
  obtain ⟨q, hq, hq1⟩ := hq
  have hb : (0 : Int) ≤ (j : Int) ∧ (j : Int) < (n : Int) := by omega
  have hg : xs[j]? = some xs[j] := List.getElem?_eq_getElem (by omega)
  have hp : (part e (nums k xs).toArray j).run P w = .ok (.int k (xs.getD j 0)) w := by
    have : (nums k xs).toArray[j]? = some (.int k (xs.getD j 0)) := by simpa using nums_getD (k := k) (xs := xs) (i := j) (by omega)
    simp only [part, Sem.run_bind, run_oneT hna, Result.andThen_ok, this]
    simp
  have hp2 : (part e (nums k xs).toArray ((j : Int).toNat * q.size)).run P w = .ok (.int k (xs.getD j 0)) w := by rw [hq1, Int.toNat_natCast, Nat.mul_one]; exact hp
  have hp3 : (part e (nums k xs).toArray (j * q.size)).run P w = .ok (.int k (xs.getD j 0)) w := by rw [hq1, Nat.mul_one]; exact hp
  simp only [execOp, ho, hx, hy, Instr.index, asIntOf, Sem.run_bind, Sem.run_pure, Result.andThen_ok, run_underlying ht, hb, and_self, if_true, sizeOf, typeInfo, hq]
  simp [Sem.run_bind, hp3, hq, underlying, ht, hb]
/-- A kind of flat elements. -/
def flatK {α : Type} (sz : Nat) (p : α → List Value → Prop) (hl : ∀ x cs, p x cs → cs.length = sz) (h1 : ∀ x cs, p x cs → ∀ u ∈ cs, u.oneCell' = true) : Kd α where
  sz := sz
  E := []
  K := fun _ x cs => p x cs
  M := fun _ _ _ x cs => p x cs
  K_len := fun h => hl _ _ h
  K_one := fun h => h1 _ _ h
  K_below := fun _ h => h
  K_of_M := fun h => h
  M_mono := fun _ h => h
  M_bound := fun h => h
  M_move := fun _ h => h
  M_lower := fun _ h => h
theorem nums_mem {k : IntKind} {xs : List Int} {u : Value} (h : u ∈ nums k xs) : u.oneCell' = true := by
  unfold nums at h
  obtain ⟨x, -, rfl⟩ := List.mem_map.1 h
  rfl
section
variable {w0 w : World} {F : Nat → Prop} {L : List Res} {P : Program} {ops : Array Oper} {Q : Exit → Act → World → Prop} {rest : List Oper} {l : List Value} {d ty t e : Nat} {pos : String} {after : Array Edge}
/-- An empty literal. -/
theorem St.wLit0 {α : Type} (HS : St w0 F w L) (D : Kd α) (hE : D.E = []) (sz : Nat) (z : Value) (ht : P.underlying t = some (.slice e)) (hz : (P.info? e).map (fun i => (i.zero, i.size)) = some (some z, sz))
    (h : ∀ v w', St w0 F w' (row D hE e v [] :: L) → wpList P ops Q rest (fr (l.set d v)) w') : wpList P ops Q (⟨some d, .buildSlice t 0 #[], ty, pos, after, none⟩ :: rest) (fr l) w := by
  refine m_make (v := .slice (some ⟨w.heap.size, 0, none⟩) 0 0) (w' := w.alloc (.cells #[] e)) ?_ (h (.slice (some ⟨w.heap.size, 0, none⟩) 0 0) _ ?_)
  · cases hq : P.info? e with
    | none => simp [hq] at hz
    | some i =>
      have hz' : i.zero = some z ∧ i.size = sz := by simpa [hq] using hz
      simp [execOp, Instr.buildSlice, underlying, ht, sizeOf, typeInfo, hq, hz'.1, hz'.2, zeroValue, Sem.run_bind, run_newRow, Instr.fill]
      have e0 : (Array.range 0) = #[] := by simp [Array.range]
      rw [e0]
      simp
  · have := HS.lit D hE e [] [] ⟨by simp, fun j p hj => by simp at hj⟩ (by simp)
    simpa using this
end
section
variable {P : Program} {ops : Array Oper} {Q : Exit → Act → World → Prop} {K : Act → World → Prop} {w : World} {o : Oper} {a : Act}
theorem wp_offG (hw : Region.wanted o (yielded ops a.tmps) = false) (h : K (a.put o.dst undef) w) : if Region.wanted o (yielded ops a.tmps) = true then Oper.wp P o a w K Q else K (a.put o.dst undef) w := by
  rw [if_neg (by rw [hw]; decide)]
  exact h
end
section
variable {P : Program} {ops : Array Oper} {Q : Exit → Act → World → Prop} {K : Act → World → Prop} {w : World} {l : List Value} {d ty : Nat} {op : Op} {pos : String} {after : Array Edge} {g : Option (Nat × Bool)}
/-- An operation that only reckons, in a region of open order. -/
theorem q_op (v : Value) (hx : (execOp (evl l) ⟨some d, op, ty, pos, after, none⟩).run P w = .ok (.value v) w) (hK : K ((fr l).put (some d) v) w) : if Region.wanted (⟨some d, op, ty, pos, after, none⟩ : Oper) (yielded ops (fr l).tmps) = true then Oper.wp P ⟨some d, op, ty, pos, after, none⟩ (fr l) w K Q else K ((fr l).put (some d) undef) w :=
  wp_of_list rfl (fun ops' => p_run v hx rfl (wpList_nil (norm_put hK)))
theorem q_opG (hw : Region.wanted (⟨some d, op, ty, pos, after, g⟩ : Oper) (yielded ops (fr l).tmps) = true) (v : Value) (hx : (execOp (evl l) ⟨some d, op, ty, pos, after, none⟩).run P w = .ok (.value v) w) (hK : K ((fr l).put (some d) v) w) : if Region.wanted (⟨some d, op, ty, pos, after, g⟩ : Oper) (yielded ops (fr l).tmps) = true then Oper.wp P ⟨some d, op, ty, pos, after, g⟩ (fr l) w K Q else K ((fr l).put (some d) undef) w :=
  wp_of_listG rfl hw (fun ops' => p_run v hx rfl (wpList_nil (norm_put hK)))
end
theorem wanted_undef {ops : Array Oper} {o og : Oper} {a : Act} {g : Nat} {u : Bool} {t : Tmp} (hg : o.guard = some (g, u)) (ho : ops[g]? = some og) (hd : og.dst = some t) (hv : a.tmps[t]? = some undef) : Region.wanted o (yielded ops a.tmps) = false := by
  cases u <;> simp_all [Region.wanted, yielded, undef]
/-- A call that holds nothing: what it brings. -/
theorem St.more {w0 w w' : World} {F : Nat → Prop} {L R' : List Res} (h : St w0 F w L) (k : St w (fun _ => False) w' R') : St w0 F w' (R' ++ L) := by
  have k2 : St w (footL []) w' R' := ⟨k.os, k.tape, k.output, k.kept.mono (fun b hb => hb.elim), k.hs, fun b hb => (k.mine b hb).elim (fun h => h.elim) .inr⟩
  exact St.call (R := []) h k2
theorem St.here {w0 w w' : World} {F : Nat → Prop} {L : List Res} (h : St w0 F w L) (hb : Below w.heap.size w w') : St w0 F w' L := h.below hb
/-- A field's address, behind any pointer. -/
theorem x_fieldA {P : Program} {w : World} {ρ : Operand → Value} {o : Oper} {x : Operand} {s f : Nat} {A : Addr} (fs : Array Field) (fl : Field) (ho : o.op = .fieldAddr s x f) (hx : ρ x = .pointer (some A)) (hu : P.underlying s = some (.struct fs)) (hf : fs[f]? = some fl) (hz : ((P.info? fl.type).map fun i => decide (i.size = 0)) = some false) : (execOp ρ o).run P w = .ok (.value (.pointer (some (A.add fl.offset)))) w := by
  cases hi : P.info? fl.type with
  | none => simp [hi] at hz
  | some i =>
    have h0 : ¬ i.size = 0 := by simpa [hi] using hz
    simp [execOp, ho, hx, Instr.fieldAt, Instr.sureAddr, fieldPlace, underlying, hu, hf, sizeOf, typeInfo, hi, h0, Sem.run_bind]
end Go.Proofs.Ytmachdikonelbaa
