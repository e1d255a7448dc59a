/- A region whose order is open, in which one operation may write block R (behind it Y holds); all others only make memory. -/
import Derived.Test.YtmachdikonelbaaWInvWords
import Derived.Test.YtmachdikonelbaaWKept
import Derived.Maps.AppendAt
namespace Go.Proofs.Ytmachdikonelbaa
open Go.RowKit Go.Proofs.YtmachdikonelbaaW.PrintWords Go.Proofs.YtmachdikonelbaaW.PrintLast

/-- Memory grows; the blocks of R alone may be written. -/
structure Tq (R : Nat → Prop) (w w' : World) : Prop where
  os : w'.os = w.os
  tape : w'.tape = w.tape
  output : w'.output = w.output
  kept : Kept w w' R
theorem Tq.refl (R : Nat → Prop) (w : World) : Tq R w w := ⟨rfl, rfl, rfl, Kept.refl _ _⟩
theorem Tq.trans {R : Nat → Prop} {a b c : World} (h : Tq R a b) (k : Tq R b c) : Tq R a c := ⟨k.os.trans h.os, k.tape.trans h.tape, k.output.trans h.output, h.kept.then_ k.kept (fun _ hk => .inl hk)⟩
theorem Tq.drew (R : Nat → Prop) (w : World) : Tq R w w.drew := ⟨rfl, rfl, rfl, Kept.drew (Kept.refl _ _)⟩
theorem Tq.cell {R : Nat → Prop} {w w' : World} (h : Tq R w w') {a : Addr} {v : Value} (hc : w.cell? a = some v) (hn : ¬ R a.block) : w'.cell? a = some v := cell_kept hc h.kept hn
theorem Tq.blk {R : Nat → Prop} {w w' : World} (h : Tq R w w') {g : Nat} {o : Obj} (hc : w.heap[g]? = some o) (hn : ¬ R g) : w'.heap[g]? = some o := blk_kept hc h.kept hn
section
variable {R : Nat → Prop} {P : Program} {ops : Array Oper} {Q : Exit → Act → World → Prop}

/-- Memory is made alone. -/
def Mk (w w' : World) : Prop := Below w.heap.size w w'
theorem Mk.tq {R : Nat → Prop} {w w' : World} (h : Mk w w') : Tq R w w' := ⟨h.os, h.tape, h.output, Kept.of_below h R⟩
/-- Operation oi, run here, leaves a value and a world of which S holds; memory only grows. -/
def Ok (T : World → World → Prop) (P : Program) (ops : Array Oper) (Q : Exit → Act → World → Prop) (a : Act) (w : World) (oi : Oper) (S : Value → World → Prop) : Prop :=
  ∀ K : Act → World → Prop, (∀ v w', T w w' → S v w' → K (a.put oi.dst v) w') → if Region.wanted oi (yielded ops a.tmps) = true then Oper.wp P oi a w K Q else K (a.put oi.dst undef) w

theorem wanted_none {oi : Oper} {a : Act} (hg : oi.guard = none) : Region.wanted oi (yielded ops a.tmps) = true := by simp [Region.wanted, hg]
/-- What reckons alone. -/
theorem Ok.pure {a : Act} {w : World} {oi : Oper} {S : Value → World → Prop} (v : Value) (hw : Region.wanted oi (yielded ops a.tmps) = true) (hr : (execOp a.eval oi).run P w = .ok (.value v) w) (hS : S v w) : Ok Mk P ops Q a w oi S := by
  intro K hK
  rw [if_pos hw]
  unfold Oper.wp
  rw [hr, Oper.upon_value]
  exact hK v w (Below.refl _ _) hS
/-- What makes memory. -/
theorem Ok.make {a : Act} {w : World} {oi : Oper} {S : Value → World → Prop} (v : Value) (w' : World) (hw : Region.wanted oi (yielded ops a.tmps) = true) (hr : (execOp a.eval oi).run P w = .ok (.value v) w') (hB : Below w.heap.size w w') (hS : S v w') : Ok Mk P ops Q a w oi S := by
  intro K hK
  rw [if_pos hw]
  unfold Oper.wp
  rw [hr, Oper.upon_value]
  exact hK v w' hB hS
/-- A call by its contract. -/
theorem Ok.call {T : World → World → Prop} {a : Act} {w : World} {oi : Oper} {S : Value → World → Prop} {f : FuncId} {fn : Func} {as : Array Operand} {ts : Array TypeId} (hf : P.funcs[f]? = some fn) (hname : (fn.name == "runtime.NumGoroutine") = false) (hb : fn.body.isSome = true) (args : Array Value)
    (hw : Region.wanted oi (yielded ops a.tmps) = true) (hop : oi.op = .call { callee := .value (.func f), args := as, argTypes := ts }) (hargs : as.map a.eval = args)
    (h : Calls P f args w fun e w' => ∃ v, e = .returned v ∧ S v w' ∧ T w w') : Ok T P ops Q a w oi S := by
  intro K hK
  refine goes_ (N := oi.dst) hf hname hb args hw rfl hop hargs (h.mono ?_)
  rintro e w' ⟨v, he, hS, hB⟩
  exact ⟨v, he, hK v w' hB hS⟩
/-- A guarded operation that isn't carried out. -/
theorem Ok.off {a : Act} {w : World} {oi : Oper} {S : Value → World → Prop} (hw : Region.wanted oi (yielded ops a.tmps) = false) (hS : S undef w) : Ok Mk P ops Q a w oi S := by
  intro K hK
  rw [if_neg (by rw [hw]; decide)]
  exact hK undef w (Below.refl _ _) hS
theorem Ok.move {a : Act} {w : World} {oi : Oper} {S : Value → World → Prop} {s : Operand} {v : Value} (hw : Region.wanted oi (yielded ops a.tmps) = true) (hop : oi.op = .move s ∨ oi.op = .assign s) (hv : a.eval s = v) (hS : S v w) : Ok Mk P ops Q a w oi S := by
  refine Ok.pure v hw ?_ hS
  unfold execOp
  rcases hop with h | h <;> simp [h, hv]

/-- The list of what the operations leave. -/
def tells (D : List (Nat × Tmp)) (vs : Nat → Value) : List (Nat × Tmp × Value) := D.map fun e => (e.1, e.2, vs e.1)
def FreeI (R : Nat → Prop) (m : Nat) (Y : World → Prop) (a0 : Act) (w0 : World) (D : List (Nat × Tmp)) (S : Nat → Value → World → Prop) (b : Nat → Bool) (a : Act) (w : World) : Prop :=
  (Tq R w0 w ∧ (b m = false → Below w0.heap.size w0 w) ∧ (b m = true → Y w)) ∧ ∃ vs : Nat → Value, a = putSel a0 b (tells D vs) ∧ ∀ e ∈ D, b e.1 = true → S e.1 (vs e.1) w

/-- The destinations are unlike, and lie in the frame; each number stands once. -/
def freeOk (D : List (Nat × Tmp)) (size : Nat) : Bool := decide ((D.map (·.1)).Nodup) && decide ((D.map (·.2)).Nodup) && D.all fun e => Nat.ble (e.2 + 1) size

theorem putSel_val {a0 : Act} {b : Nat → Bool} : ∀ {D : List (Nat × Tmp)} {vs : Nat → Value}, (D.map (·.2)).Nodup → ∀ e ∈ D, e.2 < a0.tmps.size → b e.1 = true → (putSel a0 b (tells D vs)).tmps[e.2]? = some (vs e.1)
  | [], _, _, e, he, _, _ => by cases he
  | x :: D, vs, hn, e, he, hs, hb => by
    rw [List.map_cons, List.nodup_cons] at hn
    have off : (tells D vs).all (fun y => !(y.2.1 == x.2)) = true := by
      rw [List.all_eq_true]
      intro y hy
      obtain ⟨z, hz, rfl⟩ := List.mem_map.1 hy
      simp only [Bool.not_eq_true', beq_eq_false_iff_ne]
      intro h
      exact hn.1 (List.mem_map.2 ⟨z, hz, h⟩)
    rcases List.mem_cons.1 he with rfl | he
    · show (putSel (if b e.1 = true then a0.put (some e.2) (vs e.1) else a0) b (tells D vs)).tmps[e.2]? = _
      rw [putSel_off off, if_pos hb]
      simp [Act.put, hs]
    · refine putSel_val (a0 := if b x.1 = true then a0.put (some x.2) (vs x.1) else a0) hn.2 e he ?_ hb
      split
      · simpa [Act.put] using hs
      · exact hs
theorem putSel_elder {a0 : Act} {b : Nat → Bool} {D : List (Nat × Tmp)} {vs : Nat → Value} {t : Tmp} (h : (D.all fun e => !(e.2 == t)) = true) : (putSel a0 b (tells D vs)).tmps[t]? = a0.tmps[t]? := by
  refine putSel_off ?_
  rw [List.all_eq_true] at h ⊢
  intro y hy
  obtain ⟨z, hz, rfl⟩ := List.mem_map.1 hy
  exact h z hz
theorem nodup_inj {α : Type} {l : List α} (h : l.Nodup) {i j : Nat} {hi : i < l.length} {hj : j < l.length} (e : l[i] = l[j]) : i = j := by
  have hp := List.pairwise_iff_getElem.1 h
  rcases Nat.lt_trichotomy i j with h1 | h1 | h1
  · exact absurd e (hp i j hi hj h1)
  · exact h1
  · exact absurd e.symm (hp j i hj hi h1)
theorem tells_up {D : List (Nat × Tmp)} {vs : Nat → Value} {i : Nat} {t : Tmp} {v : Value} {a0 : Act} {b : Nat → Bool} (hn : (D.map (·.1)).Nodup) (hm : (D.map (·.2)).Nodup) (hi : (i, t) ∈ D) (hb : b i = false) :
    (putSel a0 b (tells D vs)).put (some t) v = putSel a0 (up b i) (tells D fun j => if j = i then v else vs j) := by
  obtain ⟨k, hk, he⟩ := List.mem_iff_getElem.1 hi
  have hL : (tells D vs)[k]? = some (i, t, vs i) := by unfold tells; rw [List.getElem?_map, List.getElem?_eq_getElem hk, he]; rfl
  refine putSel_upk k hb hL ?_ ?_
  · apply List.ext_getElem?
    intro j
    unfold tells
    rw [List.getElem?_set]
    by_cases hj : k = j
    · subst hj
      simp [hk, he]
    · simp only [hj, if_false, List.getElem?_map]
      rcases Nat.lt_or_ge j D.length with hl | hl
      · rw [List.getElem?_eq_getElem hl]
        simp only [Option.map_some]
        have : D[j].1 ≠ i := by
          intro h
          apply hj
          have hjl : j < (D.map (·.1)).length := by simpa using hl
          have hkl : k < (D.map (·.1)).length := by simpa using hk
          have h1 : (D.map (·.1))[k] = (D.map (·.1))[j] := by simp [he, h]
          exact nodup_inj hn h1
        rw [if_neg this]
      · rw [List.getElem?_eq_none hl]
        rfl
  · rw [List.all_eq_true]
    intro y hy
    have hne : ∀ j, j < D.length → j ≠ k → (tells D vs)[j]? = some y → (!(y.1 == i) && !(y.2.1 == t)) = true := by
      intro j hl hjk hy
      unfold tells at hy
      rw [List.getElem?_map, List.getElem?_eq_getElem hl] at hy
      simp only [Option.map_some, Option.some.injEq] at hy
      subst hy
      have h1 : D[j].1 ≠ i := by
        intro h
        apply hjk
        have hjl : j < (D.map (·.1)).length := by simpa using hl
        have hkl : k < (D.map (·.1)).length := by simpa using hk
        have h1 : (D.map (·.1))[j] = (D.map (·.1))[k] := by simp [he, h]
        exact nodup_inj hn h1
      have h2 : D[j].2 ≠ t := by
        intro h
        apply hjk
        have hjl : j < (D.map (·.2)).length := by simpa using hl
        have hkl : k < (D.map (·.2)).length := by simpa using hk
        have h1 : (D.map (·.2))[j] = (D.map (·.2))[k] := by simp [he, h]
        exact nodup_inj hm h1
      simp [h1, h2]
    have hlen : (tells D vs).length = D.length := by unfold tells; simp
    rcases List.mem_append.1 hy with hy | hy
    · obtain ⟨j, hj, hjy⟩ := List.mem_iff_getElem.1 hy
      rw [List.length_take] at hj
      refine hne j (by omega) (by omega) ?_
      rw [List.getElem_take] at hjy
      rw [List.getElem?_eq_getElem (by omega), hjy]
    · obtain ⟨j, hj, hjy⟩ := List.mem_iff_getElem.1 hy
      rw [List.length_drop] at hj
      refine hne (k + 1 + j) (by omega) (by omega) ?_
      rw [List.getElem_drop] at hjy
      rw [List.getElem?_eq_getElem (by omega), hjy]

/-- What holds here and behind all that only makes memory. -/
def On (R : Nat → Prop) (S : Value → World → Prop) (v : Value) (w : World) : Prop := ∀ w', Tq R w w' → S v w'
theorem On.now {S : Value → World → Prop} {v : Value} {w : World} (h : On R S v w) : S v w := h w (Tq.refl R _)
theorem On.eq {u : Value} (w : World) : On R (fun v _ => v = u) u w := fun _ _ => rfl
/-- THE REGION. T, B: its table and its waiting bits; D: each operation and its destination; S: what each leaves. -/
theorem free_write (m : Nat) (Y : World → Prop) (hY : ∀ w w', Y w → Below w.heap.size w w' → Y w') {id n : Nat} {a0 : Act} {w0 : World} {T : Bool × List (List Nat × List Nat)} (B : List Nat) (D : List (Nat × Tmp)) (S : Nat → Value → World → Prop) (hm : P.follows .mixedOrders = true) (hn : ops.size = n)
    (hT : rtab .any ops = T) (hw : waitsOk T.2 B = true) (hk : baseOk T.2 (List.range n) = true) (hl : T.2.length = n) (hD : D.map (·.1) = List.range n) (hfree : freeOk D a0.tmps.size = true) (hmD : ∃ t, (m, t) ∈ D)
    (hstep : ∀ e ∈ D, ∀ a w, (Tq R w0 w ∧ (e.1 = m → Below w0.heap.size w0 w) ∧ (Below w0.heap.size w0 w ∨ Y w)) → (∀ t, (D.all fun e => !(e.2 == t)) = true → a.tmps[t]? = a0.tmps[t]?) → (∀ d ∈ D, (B.getD e.1 0).testBit d.1 = true → ∃ v, a.tmps[d.2]? = some v ∧ On R (S d.1) v w) →
      ∃ oi, ops[e.1]? = some oi ∧ oi.dst = some e.2 ∧ Ok (if e.1 = m then (fun w w' => Tq R w w' ∧ Y w') else Mk) P ops Q a w oi (On R (S e.1)))
    (hend : ∀ (vs : Nat → Value) w, (Tq R w0 w ∧ Y w) → (∀ e ∈ D, S e.1 (vs e.1) w) → Q .normal (putSel a0 (fun _ => true) (tells D vs)) w) : (Code.region id ops true).wp P Q a0 w0 := by
  have hst : ∀ i v w w', On R (S i) v w → Tq R w w' → On R (S i) v w' := fun i v w w' h hb w2 hb2 => h w2 (Tq.trans hb hb2)
  simp only [freeOk, Bool.and_eq_true, decide_eq_true_eq] at hfree
  obtain ⟨⟨hn1, hn2⟩, hsz⟩ := hfree
  have hsz' : ∀ e ∈ D, e.2 < a0.tmps.size := fun e he => Nat.le_of_ble_eq_true (List.all_eq_true.1 hsz e he)
  have hin : ∀ e ∈ D, (List.range n).contains e.1 = true := fun e he => by
    rw [← hD]; exact List.contains_iff_mem.2 (List.mem_map.2 ⟨e, he, rfl⟩)
  refine start_ (n := n) (S := fun _ => True) (ds := []) (Array.replicate n false) hm hn rfl trivial (fun _ => ?_)
  refine inv_ (T := T) (B := B) (List.range n) (FreeI R m Y a0 w0 D fun i => On R (S i)) hT hw hk ?_ ?_ ?_ ?_
  · rw [hl]
    rw [Bool.and_eq_true]
    constructor
    · rw [beq_iff_eq]
      apply List.ext_getElem?
      intro j
      simp only [lof]
      by_cases hj : j < n
      · simp [hj]
      · simp [hj]
    · simp
  · refine ⟨⟨Tq.drew R _, fun _ => below_drew (Below.refl _ _), fun h => by cases h⟩, fun _ => undef, ?_, fun e _ h => by cases h⟩
    have : ∀ (L : List (Nat × Tmp × Value)) (a : Act), putSel a (fun _ => false) L = a := by
      intro L
      induction L with
      | nil => intro a; rfl
      | cons x L ih => intro a; show putSel (if (false : Bool) = true then _ else a) _ L = a; exact ih a
    exact (this _ _).symm
  · intro i hi b a w hI hb hon hoff
    obtain ⟨⟨hB, hB1, hB2⟩, vs, rfl, hS⟩ := hI
    have hmem : ∃ t, (i, t) ∈ D := by
      rw [← hD] at hi
      obtain ⟨e, he, rfl⟩ := List.mem_map.1 hi
      exact ⟨e.2, he⟩
    obtain ⟨t, ht⟩ := hmem
    obtain ⟨oi, ho, hd, hok⟩ := hstep (i, t) ht (putSel a0 b (tells D vs)) w ⟨hB, fun h => hB1 (by rw [← h]; exact hb), by cases hbm : b m with | true => exact .inr (hB2 hbm) | false => exact .inl (hB1 hbm)⟩ (fun t h => putSel_elder h) (fun d hd hbit => by
      have hbd : b d.1 = true := hon d.1 (by rw [hin d hd, hbit]; rfl)
      exact ⟨vs d.1, putSel_val hn2 d hd (hsz' d hd) hbd, hS d hd hbd⟩)
    refine ⟨oi, ho, fun K hK => hok K (fun v w' hB' hS' => hK _ _ ?_)⟩
    have hd' : oi.dst = some t := hd
    rw [hd']
    have hB3 : Tq R w w' ∧ (up b i m = false → Below w0.heap.size w0 w') ∧ (up b i m = true → Y w') := by
      by_cases him : i = m
      · subst him
        have hB4 : (if (i, t).1 = i then (fun w w' => Tq R w w' ∧ Y w') else Mk) w w' := hB'
        rw [if_pos rfl] at hB4
        exact ⟨hB4.1, fun h => (by rw [up_self] at h; cases h), fun _ => hB4.2⟩
      · have hB4 : (if (i, t).1 = m then (fun w w' => Tq R w w' ∧ Y w') else Mk) w w' := hB'
        rw [if_neg him] at hB4
        have hB5 : Below w.heap.size w w' := hB4
        rw [up_ne (Ne.symm him)]
        exact ⟨Mk.tq hB5, fun h => below_step (hB1 h) hB5, fun h => hY _ _ (hB2 h) hB5⟩
    refine ⟨⟨Tq.trans hB hB3.1, hB3.2⟩, fun j => if j = i then v else vs j, tells_up hn1 hn2 ht hb, fun e he hbe => ?_⟩
    by_cases h : e.1 = i
    · show On R (S e.1) (if e.1 = i then v else vs e.1) w'
      rw [if_pos h, h]; exact hS'
    · show On R (S e.1) (if e.1 = i then v else vs e.1) w'
      rw [if_neg h]
      rw [up_ne h] at hbe
      exact hst _ _ _ _ (hS e he hbe) hB3.1
  · intro b a w hall hI
    obtain ⟨⟨hB, _, hB2⟩, vs, rfl, hS⟩ := hI
    have hb : ∀ e ∈ D, b e.1 = true := fun e he => hall e.1 (hin e he)
    have hall : ∀ (L : List (Nat × Tmp)) (a : Act), (∀ e ∈ L, b e.1 = true) → putSel a b (tells L vs) = putSel a (fun _ => true) (tells L vs) := by
      intro L
      induction L with
      | nil => intro a _; rfl
      | cons x L ih =>
        intro a h
        show putSel (if b x.1 = true then _ else a) b (tells L vs) = putSel (if true = true then _ else a) _ (tells L vs)
        rw [if_pos (h x List.mem_cons_self), if_pos rfl]
        exact ih _ (fun e he => h e (List.mem_cons_of_mem _ he))
    rw [hall D a0 hb]
    exact hend vs w ⟨hB, hB2 (by obtain ⟨t, ht⟩ := hmD; exact hb (m, t) ht)⟩ (fun e he => (hS e he (hb e he)).now)
end
end Go.Proofs.Ytmachdikonelbaa
