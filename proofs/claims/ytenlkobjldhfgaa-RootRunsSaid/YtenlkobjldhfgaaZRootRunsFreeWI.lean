/- Several texts in one: FreeW, FreeI. -/
import Derived.Test.YtenlkobjldhfgaaZRootRunsWds0
import Derived.Maps.AppendAt
namespace Go.Proofs.Ytenlkobjldhfgaa
open Go.RowKit Go.Proofs.YtenlkobjldhfgaaW.PrintWords Go.Proofs.YtenlkobjldhfgaaW.PrintLast
structure Tq (R : Nat → Prop) (w w' : World) : Prop where
 os : w'.os = w.os
 tape : w'.tape = w.tape
 output : w'.output = w.output
 kept : Kept w w' R
theorem Tq.refl (R : Nat → Prop) (w : World) : Tq R w w := ⟨rfl, rfl, rfl, Kept.refl _ _⟩
theorem Tq.trans {R : Nat → Prop} {a b c : World} (h : Tq R a b) (k : Tq R b c) : Tq R a c := ⟨k.os.trans h.os, k.tape.trans h.tape, k.output.trans h.output, h.kept.then_ k.kept (fun _ hk => .inl hk)⟩
theorem Tq.drew (R : Nat → Prop) (w : World) : Tq R w w.drew := ⟨rfl, rfl, rfl, Kept.drew (Kept.refl _ _)⟩
theorem Tq.cell {R : Nat → Prop} {w w' : World} (h : Tq R w w') {a : Addr} {v : Value} (hc : w.cell? a = some v) (hn : ¬ R a.block) : w'.cell? a = some v := cell_kept hc h.kept hn
theorem Tq.blk {R : Nat → Prop} {w w' : World} (h : Tq R w w') {g : Nat} {o : Obj} (hc : w.heap[g]? = some o) (hn : ¬ R g) : w'.heap[g]? = some o := blk_kept hc h.kept hn
section
variable {R : Nat → Prop} {P : Program} {ops : Array Oper} {Q : Exit → Act → World → Prop}
def Mk (w w' : World) : Prop := Below w.heap.size w w'
def Ok (T : World → World → Prop) (P : Program) (ops : Array Oper) (Q : Exit → Act → World → Prop) (a : Act) (w : World) (oi : Oper) (S : Value → World → Prop) : Prop :=
 ∀ K : Act → World → Prop, (∀ v w', T w w' → S v w' → K (a.put oi.dst v) w') → if Region.wanted oi (yielded ops a.tmps) = true then Oper.wp P oi a w K Q else K (a.put oi.dst undef) w
theorem Ok.pure {a : Act} {w : World} {oi : Oper} {S : Value → World → Prop} (v : Value) (hw : Region.wanted oi (yielded ops a.tmps) = true) (hr : (execOp a.eval oi).run P w = .ok (.value v) w) (hS : S v w) : Ok Mk P ops Q a w oi S := by
 intro K hK
 rw [if_pos hw]
 unfold Oper.wp
 rw [hr, Oper.upon_value]
 exact hK v w (Below.refl _ _) hS
theorem Ok.call {T : World → World → Prop} {a : Act} {w : World} {oi : Oper} {S : Value → World → Prop} {f : FuncId} {fn : Func} {as : Array Operand} {ts : Array TypeId} (hf : P.funcs[f]? = some fn) (hname : (fn.name == "runtime.NumGoroutine") = false) (hb : fn.body.isSome = true) (args : Array Value)
  (hw : Region.wanted oi (yielded ops a.tmps) = true) (hop : oi.op = .call { callee := .value (.func f), args := as, argTypes := ts }) (hargs : as.map a.eval = args)
  (h : Calls P f args w fun e w' => ∃ v, e = .returned v ∧ S v w' ∧ T w w') : Ok T P ops Q a w oi S := by
 intro K hK
 refine goes_ (N := oi.dst) hf hname hb args hw rfl hop hargs (h.mono ?_)
 rintro e w' ⟨v, he, hS, hB⟩
 exact ⟨v, he, hK v w' hB hS⟩
theorem Ok.off {a : Act} {w : World} {oi : Oper} {S : Value → World → Prop} (hw : Region.wanted oi (yielded ops a.tmps) = false) (hS : S undef w) : Ok Mk P ops Q a w oi S := by
 intro K hK
 rw [if_neg (by rw [hw]; decide)]
 exact hK undef w (Below.refl _ _) hS
theorem Ok.move {a : Act} {w : World} {oi : Oper} {S : Value → World → Prop} {s : Operand} {v : Value} (hw : Region.wanted oi (yielded ops a.tmps) = true) (hop : oi.op = .move s ∨ oi.op = .assign s) (hv : a.eval s = v) (hS : S v w) : Ok Mk P ops Q a w oi S := by
 refine Ok.pure v hw ?_ hS
 unfold execOp
 rcases hop with h | h <;> simp [h, hv]
def tells (D : List (Nat × Tmp)) (vs : Nat → Value) : List (Nat × Tmp × Value) := D.map fun e => (e.1, e.2, vs e.1)
def freeOk (D : List (Nat × Tmp)) (size : Nat) : Bool := decide ((D.map (·.1)).Nodup) && decide ((D.map (·.2)).Nodup) && D.all fun e => Nat.ble (e.2 + 1) size
theorem putSel_val {a0 : Act} {b : Nat → Bool} : ∀ {D : List (Nat × Tmp)} {vs : Nat → Value}, (D.map (·.2)).Nodup → ∀ e ∈ D, e.2 < a0.tmps.size → b e.1 = true → (putSel a0 b (tells D vs)).tmps[e.2]? = some (vs e.1)
 | [], _, _, e, he, _, _ => by cases he
 | x :: D, vs, hn, e, he, hs, hb => by
  rw [List.map_cons, List.nodup_cons] at hn
  have off : (tells D vs).all (fun y => !(y.2.1 == x.2)) = true := by
   rw [List.all_eq_true]
   intro y hy
   obtain ⟨z, hz, rfl⟩ := List.mem_map.1 hy
   simp only [Bool.not_eq_true', beq_eq_false_iff_ne]
   intro h
   exact hn.1 (List.mem_map.2 ⟨z, hz, h⟩)
  rcases List.mem_cons.1 he with rfl | he
  ·show (putSel (if b e.1 = true then a0.put (some e.2) (vs e.1) else a0) b (tells D vs)).tmps[e.2]? = _
   rw [putSel_off off, if_pos hb]
   simp [Act.put, hs]
  ·refine putSel_val (a0 := if b x.1 = true then a0.put (some x.2) (vs x.1) else a0) hn.2 e he ?_ hb
   split
   ·simpa [Act.put] using hs
   ·exact hs
theorem putSel_elder {a0 : Act} {b : Nat → Bool} {D : List (Nat × Tmp)} {vs : Nat → Value} {t : Tmp} (h : (D.all fun e => !(e.2 == t)) = true) : (putSel a0 b (tells D vs)).tmps[t]? = a0.tmps[t]? := by
 refine putSel_off ?_
 rw [List.all_eq_true] at h ⊢
 intro y hy
 obtain ⟨z, hz, rfl⟩ := List.mem_map.1 hy
 exact h z hz
theorem nodup_inj {α : Type} {l : List α} (h : l.Nodup) {i j : Nat} {hi : i < l.length} {hj : j < l.length} (e : l[i] = l[j]) : i = j := by
 have hp := List.pairwise_iff_getElem.1 h
 rcases Nat.lt_trichotomy i j with h1 | h1 | h1
 ·exact absurd e (hp i j hi hj h1)
 ·exact h1
 ·exact absurd e.symm (hp j i hj hi h1)
theorem tells_up {D : List (Nat × Tmp)} {vs : Nat → Value} {i : Nat} {t : Tmp} {v : Value} {a0 : Act} {b : Nat → Bool} (hn : (D.map (·.1)).Nodup) (hm : (D.map (·.2)).Nodup) (hi : (i, t) ∈ D) (hb : b i = false) :
  (putSel a0 b (tells D vs)).put (some t) v = putSel a0 (up b i) (tells D fun j => if j = i then v else vs j) := by
 obtain ⟨k, hk, he⟩ := List.mem_iff_getElem.1 hi
 have hL : (tells D vs)[k]? = some (i, t, vs i) := by unfold tells; rw [List.getElem?_map, List.getElem?_eq_getElem hk, he]; rfl
 refine putSel_upk k hb hL ?_ ?_
 ·apply List.ext_getElem?
  intro j
  unfold tells
  rw [List.getElem?_set]
  by_cases hj : k = j
  ·subst hj
   simp [hk, he]
  ·simp only [hj, if_false, List.getElem?_map]
   rcases Nat.lt_or_ge j D.length with hl | hl
   ·rw [List.getElem?_eq_getElem hl]
    simp only [Option.map_some]
    have : D[j].1 ≠ i := by
     intro h
     apply hj
     have hjl : j < (D.map (·.1)).length := by simpa using hl
     have hkl : k < (D.map (·.1)).length := by simpa using hk
     have h1 : (D.map (·.1))[k] = (D.map (·.1))[j] := by simp [he, h]
     exact nodup_inj hn h1
    rw [if_neg this]
   ·rw [List.getElem?_eq_none hl]
    rfl
 ·rw [List.all_eq_true]
  intro y hy
  have hne : ∀ j, j < D.length → j ≠ k → (tells D vs)[j]? = some y → (!(y.1 == i) && !(y.2.1 == t)) = true := by
   intro j hl hjk hy
   unfold tells at hy
   rw [List.getElem?_map, List.getElem?_eq_getElem hl] at hy
   simp only [Option.map_some, Option.some.injEq] at hy
   subst hy
   have h1 : D[j].1 ≠ i := by
    intro h
    apply hjk
    have hjl : j < (D.map (·.1)).length := by simpa using hl
    have hkl : k < (D.map (·.1)).length := by simpa using hk
    have h1 : (D.map (·.1))[j] = (D.map (·.1))[k] := by simp [he, h]
    exact nodup_inj hn h1
   have h2 : D[j].2 ≠ t := by
    intro h
    apply hjk
    have hjl : j < (D.map (·.2)).length := by simpa using hl
    have hkl : k < (D.map (·.2)).length := by simpa using hk
    have h1 : (D.map (·.2))[j] = (D.map (·.2))[k] := by simp [he, h]
    exact nodup_inj hm h1
   simp [h1, h2]
  have hlen : (tells D vs).length = D.length := by unfold tells; simp
  rcases List.mem_append.1 hy with hy | hy
  ·obtain ⟨j, hj, hjy⟩ := List.mem_iff_getElem.1 hy
   rw [List.length_take] at hj
   refine hne j (by omega) (by omega) ?_
   rw [List.getElem_take] at hjy
   rw [List.getElem?_eq_getElem (by omega), hjy]
  ·obtain ⟨j, hj, hjy⟩ := List.mem_iff_getElem.1 hy
   rw [List.length_drop] at hj
   refine hne (k + 1 + j) (by omega) (by omega) ?_
   rw [List.getElem_drop] at hjy
   rw [List.getElem?_eq_getElem (by omega), hjy]
end
end Go.Proofs.Ytenlkobjldhfgaa
namespace Go.Proofs.Ytenlkobjldhfgaa
open Go.RowKit Go.Proofs.YtenlkobjldhfgaaW.PrintWords Go.Proofs.YtenlkobjldhfgaaW.PrintLast
def dstOk (ops : Array Oper) (D : List (Nat × Tmp)) (n : Nat) : Bool := (D.all fun e => Nat.blt e.1 n) && (List.range n).all fun i => match (ops[i]?).map (·.dst) with
 | some (some t) => D.contains (i, t)
 | some none => D.all fun e => !(e.1 == i)
 | none => false
section
variable {P : Program} {ops : Array Oper} {Q : Exit → Act → World → Prop}
end
end Go.Proofs.Ytenlkobjldhfgaa
