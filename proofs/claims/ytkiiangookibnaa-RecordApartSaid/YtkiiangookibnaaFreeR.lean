/- A region of open order in which none writes: from FreeW. -/
import Derived.Test.YtkiiangookibnaaFreeW
import Derived.Test.YtkiiangookibnaaSh
namespace Go.Proofs.Ytkiiangookibnaa
open Go.RowKit Go.Proofs.YtkiiangookibnaaW.PrintWords Go.Proofs.YtkiiangookibnaaW.PrintLast
section
variable {P : Program} {ops : Array Oper} {Q : Exit → Act → World → Prop}
def NoBlk (_ : Nat) : Prop := False
theorem Ok.weak {T T' : World → World → Prop} {a : Act} {w : World} {oi : Oper} {S : Value → World → Prop} (h : Ok T P ops Q a w oi S) (ht : ∀ w', T w w' → T' w w') : Ok T' P ops Q a w oi S := fun K hK => h K (fun v w' h1 h2 => hK v w' (ht w' h1) h2)
theorem tq_below {w w' : World} (h : Tq NoBlk w w') : Below w.heap.size w w' := ⟨h.os, h.tape, h.output, h.kept.1, fun k hk => h.kept.2 k hk id⟩
theorem free_region {id n : Nat} {a0 : Act} {w0 : World} {T : Bool × List (List Nat × List Nat)} (B : List Nat) (D : List (Nat × Tmp)) (S : Nat → Value → World → Prop) (hm : P.follows .mixedOrders = true) (hn : ops.size = n)
    (hT : rtab .any ops = T) (hw : waitsOk T.2 B = true) (hk : baseOk T.2 (List.range n) = true) (hl : T.2.length = n) (hD : D.map (·.1) = List.range n) (hfree : freeOk D a0.tmps.size = true) (hmD : ∃ t, (0, t) ∈ D)
    (hstep : ∀ e ∈ D, ∀ a w, Below w0.heap.size w0 w → (∀ t, (D.all fun e => !(e.2 == t)) = true → a.tmps[t]? = a0.tmps[t]?) → (∀ d ∈ D, (B.getD e.1 0).testBit d.1 = true → ∃ v, a.tmps[d.2]? = some v ∧ On NoBlk (S d.1) v w) →
      ∃ oi, ops[e.1]? = some oi ∧ oi.dst = some e.2 ∧ Ok Mk P ops Q a w oi (On NoBlk (S e.1)))
    (hend : ∀ (vs : Nat → Value) w, Below w0.heap.size w0 w → (∀ e ∈ D, S e.1 (vs e.1) w) → Q .normal (putSel a0 (fun _ => true) (tells D vs)) w) : (Code.region id ops true).wp P Q a0 w0 := by
  refine free_write (R := NoBlk) 0 (fun _ => True) (fun _ _ _ _ => trivial) B D S hm hn hT hw hk hl hD hfree hmD ?_ (fun vs w h hS => hend vs w (tq_below h.1) hS)
  intro e he a w hB hel hdep
  obtain ⟨oi, h1, h2, h3⟩ := hstep e he a w (tq_below hB.1) hel hdep
  refine ⟨oi, h1, h2, h3.weak (fun w' h => ?_)⟩
  split
  · exact ⟨h.tq, trivial⟩
  · exact h
/-- A whole block is read. -/
theorem Ok.loadAll {a : Act} {w : World} {oi : Oper} {S : Value → World → Prop} {g : Nat} {cs : List Value} {t : TypeId} (h : (blk g cs t).holds w) (hw : Region.wanted oi (yielded ops a.tmps) = true) (ty : TypeId) (x : Operand) (ho : oi.op = .load ty x) (hx : a.eval x = .pointer (some ⟨g, 0, none⟩)) (dsc : TypeDesc)
    (hu : P.underlying ty = some dsc) (hd : (match dsc with | .struct _ | .array _ _ => true | _ => false) = true) (hi : (P.info? ty).map (·.size) = some cs.toArray.size) (hS : S (.agg cs.toArray) w) : Ok Mk P ops Q a w oi S := by
  intro K hK
  rw [if_pos hw]
  exact wp_load_row ty x ho g hx t cs.toArray (0, 0) dsc h hu hd hi (hK _ _ (Below.refl _ _) hS)
end
end Go.Proofs.Ytkiiangookibnaa
