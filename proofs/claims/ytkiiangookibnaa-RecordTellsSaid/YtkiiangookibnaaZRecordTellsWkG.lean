/- Guards whose truth isn't known: both cases, then one tail. -/
import Derived.Test.YtkiiangookibnaaZRecordTellsWk
namespace Go.Proofs.Ytkiiangookibnaa
open Go.RowKit
theorem p_tail {P : Program} {ops : Array Oper} {Q : Exit → Act → World → Prop} {L : List Oper} {a : Act} {w : World} (k : Nat) (Φ : Act → World → Prop)
    (h1 : (∀ a w, Φ a w → wpList P ops Q (L.drop k) a w) → wpList P ops Q L a w) (h2 : ∀ a w, Φ a w → wpList P ops Q (L.drop k) a w) : wpList P ops Q L a w := h1 h2
end Go.Proofs.Ytkiiangookibnaa
