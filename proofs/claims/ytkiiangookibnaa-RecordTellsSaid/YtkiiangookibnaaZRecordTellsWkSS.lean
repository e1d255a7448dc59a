/- Several texts in one: WkB, WkC, WkS. -/
import Derived.Test.YtkiiangookibnaaZRecordTellsFlat
import Derived.ArgAppend
import Derived.Test.YtkiiangookibnaaZRecordTellsByWO
set_option linter.unusedVariables false
set_option linter.unusedSimpArgs false
namespace Go.Proofs.Ytkiiangookibnaa
open Go.RowKit Go.Proofs.YtkiiangookibnaaW.PrintWords Go.Proofs.YtkiiangookibnaaW.PrintLast
section
variable {w0 w : World} {F : Nat → Prop} {L : List Res} {r s : Res}
theorem St.alter (h : St w0 F w (r :: L)) (hs : s.holds w) (hf : ∀ b, s.foot b → r.foot b) : St w0 F w (s :: L) := h.turn rfl rfl rfl (Kept.refl _ _) hs (fun b hb => .inl (hf b hb))
end
section
variable {w0 w : World} {F : Nat → Prop} {L : List Res} {e g k n c : Nat} {v : Value} {xs ys : List Int} {cs : List Value}
variable {P : Program} {ops : Array Oper} {Q : Exit → Act → World → Prop} {rest : List Oper} {l : List Value} {d ty t m : Nat} {pos : String} {after : Array Edge} {x y : Operand}
end
end Go.Proofs.Ytkiiangookibnaa
set_option linter.unusedVariables false
set_option linter.unusedSimpArgs false
namespace Go.Proofs.Ytkiiangookibnaa
open Go.RowKit Go.Proofs.YtkiiangookibnaaW.PrintWords Go.Proofs.YtkiiangookibnaaW.PrintLast
section
variable {P : Program} {ops : Array Oper} {Q : Exit → Act → World → Prop} {rest : List Oper} {l : List Value} {w w0 : World} {F : Nat → Prop} {L : List Res} {d ty g k : Nat} {pos : String} {after : Array Edge} {x y : Operand} {t t0 e : TypeId} {cs : List Value}
theorem St.wClear (HS : St w0 F w (blk g cs t0 :: L)) (z : Value) (sz : Nat) (ht : P.underlying t = some (.slice e)) (hinfo : (P.info? e).map (fun i => (i.zero, i.size)) = some (some z, sz)) (hz : z.cells.size = sz) (h1 : z.cells.toList.all (·.oneCell') = true)
    {n c : Nat} (hx : evl l x = .slice (some ⟨g, k, none⟩) n c) (hn : n ≠ 0) (hfit : k + n * sz ≤ cs.length) {dd : Option Nat}
    (hk : ∀ w', St w0 F w' (blk g (lay cs k (Builtin.zeroCells z.cells n).toList) t0 :: L) → wpList P ops Q rest ((fr l).put dd (.tuple #[])) w') :
    wpList P ops Q (⟨dd, .call { callee := .builtin .clear, args := #[x], argTypes := #[t] }, ty, pos, after, none⟩ :: rest) (fr l) w := by
  have hg : w.heap[g]? = some (.cells cs.toArray t0 (0, 0)) := HS.hs.head
  cases hq : P.info? e with
  | none => simp [hq] at hinfo
  | some i =>
    have hi' : i.zero = some z ∧ i.size = sz := by simpa [hq] using hinfo
    obtain ⟨i1, i2⟩ := hi'
    have hxE : (fr l).eval x = _ := (evl_eq _ _).trans hx
    have hlen : (Builtin.zeroCells z.cells n).toList.length = n * sz := by rw [Array.length_toList, size_zeroCells, hz]
    have hone : ∀ v ∈ (Builtin.zeroCells z.cells n).toList, v.oneCell' = true := by
      intro v hv
      unfold Builtin.zeroCells at hv
      simp only [Array.toList_map, List.mem_map] at hv
      obtain ⟨j, hj, rfl⟩ := hv
      have hj' : j < n * z.cells.size := by simpa using hj
      have hpos : 0 < z.cells.size := by
        rcases Nat.eq_zero_or_pos z.cells.size with h | h
        · rw [h] at hj'; omega
        · exact h
      have hlt : j % z.cells.size < z.cells.size := Nat.mod_lt _ hpos
      rw [getElem!_pos z.cells _ hlt]
      exact List.all_eq_true.1 h1 _ (by simp)
    have hst := run_storeCells_at (P := P) g k t0 (Builtin.zeroCells z.cells n).toList 0 cs w hg (by rw [hlen]; omega) hone
    rw [Nat.add_zero] at hst
    have hzv : (zeroValue e).run P w = .ok z w := by simp [zeroValue, typeInfo, hq, i1, Sem.run_bind]
    have hr : (Builtin.clear_ #[t] ty #[.slice (some ⟨g, k, none⟩) n c]).run P w = .ok (.tuple #[]) (w.setRow g (lay cs k (Builtin.zeroCells z.cells n).toList).toArray) := by
      cases n with
      | zero => exact absurd rfl hn
      | succ n => simp [Builtin.clear_, run_underlying ht, Sem.run_bind, hzv, hst]
    refine wpList_plain rfl fun K hK' => ?_
    unfold Oper.wp
    simp [execOp, resolve, invoke, builtin, hxE, hr, Result.andThen]
    exact hK' _ _ (hk _ (HS.setRow _))
end
section
variable {w0 w : World} {F : Nat → Prop} {L : List Res} {α : Type} {D : Kd α} {hE : D.E = []} {e g n c : Nat} {xs : List α}
end
section
variable {P : Program} {ops : Array Oper} {Q : Exit → Act → World → Prop} {K : Act → World → Prop} {w : World} {o : Oper} {a : Act}
end
end Go.Proofs.Ytkiiangookibnaa
set_option linter.unusedVariables false
set_option linter.unusedSimpArgs false
namespace Go.Proofs.Ytkiiangookibnaa
open Go.RowKit Go.Proofs.YtkiiangookibnaaW.PrintWords Go.Proofs.YtkiiangookibnaaW.PrintLast
section
variable {w : World} {ρ : Operand → Value} {o : Oper} {x y : Operand}
theorem x_str {A : Option Addr} {n c : Nat} {xs : List UInt8} (hr : Rd w A xs) (hn : n = xs.length) (ho : o.op = .convert 22 9 x) (hx : ρ x = .slice A n c) : (execOp ρ o).run Try.prog w = .ok (.value (.string (strB xs))) w := by
  simp [execOp, ho, hx, Rd.conv hr n c hn, Sem.run_bind]
theorem x_streq {P : Program} {t t2 : Nat} (bo : BinOp) (a b : ByteArray) (z : Bool) (ho : o.op = .binOp bo t x y t2) (hx : ρ x = .string a) (hy : ρ y = .string b) (hz : eqB bo (a.toList == b.toList) = z) (hok : eqO bo = true) : (execOp ρ o).run P w = .ok (.value (.bool z)) w := by
  subst hz
  cases bo <;> simp [eqO] at hok
  · simp [execOp, ho, hx, hy, eqGuard, binOp, Op.stringOp, eqB, Sem.run_bind]
  · simp [execOp, ho, hx, hy, eqGuard, binOp, Op.stringOp, eqB, Sem.run_bind]
end
section
variable {w0 w : World} {F : Nat → Prop} {L : List Res} {ops : Array Oper} {Q : Exit → Act → World → Prop} {rest : List Oper} {l : List Value} {d ty g n c : Nat} {pos : String} {after : Array Edge} {x : Operand} {xs : List UInt8}
end
end Go.Proofs.Ytkiiangookibnaa
