/- Rows of bytes that begin anywhere in a block. -/
import Derived.Test.YtmachdikonelbaaZFrameFindsFlat
import Derived.ArgAppend
set_option linter.unusedVariables false
set_option linter.unusedSimpArgs false
namespace Go.Proofs.Ytmachdikonelbaa
open Go.RowKit Go.Proofs.YtmachdikonelbaaW.PrintWords Go.Proofs.YtmachdikonelbaaW.PrintLast
section
variable {w0 w : World} {F : Nat → Prop} {L : List Res} {r s : Res}
theorem St.alter (h : St w0 F w (r :: L)) (hs : s.holds w) (hf : ∀ b, s.foot b → r.foot b) : St w0 F w (s :: L) := h.turn rfl rfl rfl (Kept.refl _ _) hs (fun b hb => .inl (hf b hb))
end
section
variable {w0 w : World} {F : Nat → Prop} {L : List Res} {e g k n c : Nat} {v : Value} {xs ys : List Int} {cs : List Value}
variable {P : Program} {ops : Array Oper} {Q : Exit → Act → World → Prop} {rest : List Oper} {l : List Value} {d ty t m : Nat} {pos : String} {after : Array Edge} {x y : Operand}
end
end Go.Proofs.Ytmachdikonelbaa
