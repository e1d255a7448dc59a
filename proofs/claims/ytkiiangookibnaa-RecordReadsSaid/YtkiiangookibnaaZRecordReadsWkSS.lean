/- Walks step by step: strings of bytes; slices that are only read, as parts. -/
import Derived.Test.YtkiiangookibnaaZRecordReadsFlat
import Derived.ArgAppend
import Derived.Test.YtkiiangookibnaaZRecordReadsByWO
set_option linter.unusedVariables false
set_option linter.unusedSimpArgs false
namespace Go.Proofs.Ytkiiangookibnaa
open Go.RowKit Go.Proofs.YtkiiangookibnaaW.PrintWords Go.Proofs.YtkiiangookibnaaW.PrintLast
section
variable {w : World} {ρ : Operand → Value} {o : Oper} {x y : Operand}
theorem x_str {A : Option Addr} {n c : Nat} {xs : List UInt8} (hr : Rd w A xs) (hn : n = xs.length) (ho : o.op = .convert 22 9 x) (hx : ρ x = .slice A n c) : (execOp ρ o).run Try.prog w = .ok (.value (.string (strB xs))) w := by
  simp [execOp, ho, hx, Rd.conv hr n c hn, Sem.run_bind]
theorem x_streq {P : Program} {t t2 : Nat} (bo : BinOp) (a b : ByteArray) (z : Bool) (ho : o.op = .binOp bo t x y t2) (hx : ρ x = .string a) (hy : ρ y = .string b) (hz : eqB bo (a.toList == b.toList) = z) (hok : eqO bo = true) : (execOp ρ o).run P w = .ok (.value (.bool z)) w := by
  subst hz
  cases bo <;> simp [eqO] at hok
  · simp [execOp, ho, hx, hy, eqGuard, binOp, Op.stringOp, eqB, Sem.run_bind]
  · simp [execOp, ho, hx, hy, eqGuard, binOp, Op.stringOp, eqB, Sem.run_bind]
end
section
variable {w0 w : World} {F : Nat → Prop} {L : List Res} {ops : Array Oper} {Q : Exit → Act → World → Prop} {rest : List Oper} {l : List Value} {d ty g n c : Nat} {pos : String} {after : Array Edge} {x : Operand} {xs : List UInt8}
end
end Go.Proofs.Ytkiiangookibnaa
