/- Several texts in one: WkA, WkB, WkS. -/
import Derived.Test.YtenlkobjldhfgaaZRootRunsFlat
import Derived.ArgAppend
import Derived.Test.YtenlkobjldhfgaaZRootRunsByWO
set_option linter.unusedVariables false
set_option linter.unusedSimpArgs false
namespace Go.Proofs.Ytenlkobjldhfgaa
open Go.RowKit Go.Proofs.YtenlkobjldhfgaaW.PrintWords Go.Proofs.YtenlkobjldhfgaaW.PrintLast
section
variable {P : Program} {ops : Array Oper} {Q : Exit → Act → World → Prop} {rest : List Oper} {l : List Value} {w w0 : World} {F : Nat → Prop} {L : List Res} {d ty g k : Nat} {pos : String} {after : Array Edge} {x y : Operand} {t t0 e : TypeId} {cs : List Value}
end
theorem x_quo {P : Program} {w : World} {ρ : Operand → Value} {o : Oper} {t t2 : Nat} {k : IntKind} {m n : Int} {x y : Operand} (z : Int) (ho : o.op = .binOp .quo t x y t2) (hx : ρ x = .int k m) (hy : ρ y = .int k n) (h0 : n ≠ 0) (hz : k.wrap (m.tdiv n) = z) : (execOp ρ o).run P w = .ok (.value (.int k z)) w := by
 simp [execOp, ho, hx, hy, eqGuard, binOp, Op.intDiv, h0, hz]
section
variable {w0 w : World} {F : Nat → Prop} {L R : List Res} {r r' : Res}
end
end Go.Proofs.Ytenlkobjldhfgaa
set_option linter.unusedVariables false
set_option linter.unusedSimpArgs false
namespace Go.Proofs.Ytenlkobjldhfgaa
open Go.RowKit Go.Proofs.YtenlkobjldhfgaaW.PrintWords Go.Proofs.YtenlkobjldhfgaaW.PrintLast
section
variable {w0 w : World} {F : Nat → Prop} {L : List Res} {r s : Res}
theorem St.alter (h : St w0 F w (r :: L)) (hs : s.holds w) (hf : ∀ b, s.foot b → r.foot b) : St w0 F w (s :: L) := h.turn rfl rfl rfl (Kept.refl _ _) hs (fun b hb => .inl (hf b hb))
end
section
variable {w0 w : World} {F : Nat → Prop} {L : List Res} {e g k n c : Nat} {v : Value} {xs ys : List Int} {cs : List Value}
variable {P : Program} {ops : Array Oper} {Q : Exit → Act → World → Prop} {rest : List Oper} {l : List Value} {d ty t m : Nat} {pos : String} {after : Array Edge} {x y : Operand}
end
end Go.Proofs.Ytenlkobjldhfgaa
set_option linter.unusedVariables false
set_option linter.unusedSimpArgs false
namespace Go.Proofs.Ytenlkobjldhfgaa
open Go.RowKit Go.Proofs.YtenlkobjldhfgaaW.PrintWords Go.Proofs.YtenlkobjldhfgaaW.PrintLast
section
variable {w : World} {ρ : Operand → Value} {o : Oper} {x y : Operand}
theorem x_str {A : Option Addr} {n c : Nat} {xs : List UInt8} (hr : Rd w A xs) (hn : n = xs.length) (ho : o.op = .convert 24 9 x) (hx : ρ x = .slice A n c) : (execOp ρ o).run Try.prog w = .ok (.value (.string (strB xs))) w := by
 simp [execOp, ho, hx, Rd.conv hr n c hn, Sem.run_bind]
theorem x_streq {P : Program} {t t2 : Nat} (bo : BinOp) (a b : ByteArray) (z : Bool) (ho : o.op = .binOp bo t x y t2) (hx : ρ x = .string a) (hy : ρ y = .string b) (hz : eqB bo (a.toList == b.toList) = z) (hok : eqO bo = true) : (execOp ρ o).run P w = .ok (.value (.bool z)) w := by
 subst hz
 cases bo <;> simp [eqO] at hok
 ·simp [execOp, ho, hx, hy, eqGuard, binOp, Op.stringOp, eqB, Sem.run_bind]
 ·simp [execOp, ho, hx, hy, eqGuard, binOp, Op.stringOp, eqB, Sem.run_bind]
theorem str_yes {xs ys : List UInt8} (h : xs = ys) : eqB .eql ((strB xs).toList == (strB ys).toList) = true := by subst h; simp [eqB]
theorem str_no {xs ys : List UInt8} (h : xs = ys) : eqB .neq ((strB xs).toList == (strB ys).toList) = false := by subst h; simp [eqB]
end
def slR (A : Option Addr) (c : Nat) (xs : List UInt8) : Res where
 foot b := xs ≠ [] ∧ ∃ a, A = some a ∧ a.block = b
 holds w := Sl w A c xs
 keep := fun {w w'} hk h => by
  refine ⟨⟨h.rd.1, h.rd.2.1, fun h0 => ?_⟩, h.cap, h.nil⟩
  obtain ⟨ad, rfl, hc⟩ := h.rd.2.2 h0
  refine ⟨ad, rfl, fun j p hj => ?_⟩
  obtain ⟨cs, h1, h2, h3⟩ := hc j p hj
  refine ⟨cs, h1, h2, fun i u hu => ?_⟩
  have h4 := h3 i u hu
  have hb : ∀ k, (ad.add k).block = ad.block := fun k => by unfold Addr.add; split <;> rfl
  have hlt : ad.block < w.heap.size := by
   rcases Nat.lt_or_ge ad.block w.heap.size with h' | h'
   ·exact h'
   ·rw [World.cell?, hb, Array.getElem?_eq_none h'] at h4; cases h4
  rw [← h4]
  refine World.cell?_of_block ?_
  rw [hb]
  exact hk ad.block ⟨fun e => by rw [e] at h0; exact absurd h0 (by decide), ad, rfl, rfl⟩ hlt
 lt := fun {w} h b hb => by
  obtain ⟨hne, ad, rfl, rfl⟩ := hb
  have h0 : 0 < xs.length := by
   cases xs with
   | nil => exact absurd rfl hne
   | cons => simp
  obtain ⟨ad', e, hc⟩ := h.rd.2.2 h0
  obtain rfl := Option.some.inj e
  obtain ⟨cs, h1, h2, h3⟩ := hc 0 _ (List.getElem?_eq_getElem h0)
  have h4 := h3 0 (.int .u8 (bv xs[0])) (by rw [show cs = [.int .u8 (bv xs[0])] from h2]; rfl)
  have hb : ∀ k, (ad.add k).block = ad.block := fun k => by unfold Addr.add; split <;> rfl
  rcases Nat.lt_or_ge ad.block w.heap.size with h' | h'
  ·exact h'
  ·rw [World.cell?, hb, Array.getElem?_eq_none h'] at h4; cases h4
section
variable {w0 w : World} {F : Nat → Prop} {L : List Res} {ops : Array Oper} {Q : Exit → Act → World → Prop} {rest : List Oper} {l : List Value} {d ty g n c : Nat} {pos : String} {after : Array Edge} {x : Operand} {xs : List UInt8}
theorem St.wConvC (HS : St w0 F w (blk g (nums .u8 (xs.map bv)) 5 :: L)) (hx : evl l x = .slice (some ⟨g, 0, none⟩) n c) (hn : xs.length ≤ c) (hm : xs.length ≤ 1000000)
  (h : ∀ w', St w0 F w' (slR (some ⟨g, 0, none⟩) c xs :: L) → wpList Try.prog ops Q rest (fr (l.set d (.slice (some ⟨g, 0, none⟩) n c))) w') : wpList Try.prog ops Q (⟨some d, .convert 24 24 x, ty, pos, after, none⟩ :: rest) (fr l) w := by
 have hg : w.heap[g]? = some (.cells (nums .u8 (xs.map bv)).toArray 5 (0, 0)) := HS.hs.head
 have hlt := (Array.getElem?_eq_some_iff.1 hg).1
 have hv : w.heap[g] = .cells (nums .u8 (xs.map bv)).toArray 5 (0, 0) := (Array.getElem?_eq_some_iff.1 hg).2
 generalize hN : (nums .u8 (xs.map bv)).toArray.size = N at *
 have hsh : w.shape? g = some (5, N) := by unfold World.shape?; rw [hg]; simp [← hN]
 have hr : (convert 24 24 (.slice (some ⟨g, 0, none⟩) n c)).run Try.prog w = .ok (.slice (some ⟨g, 0, none⟩) n c) (w.freeze ⟨g, N, none⟩ 1) := by
  simp [convert, run_underlying Try.underlying24, run_underlying Try.underlying5, markStringish, hsh]
 refine m_make (v := .slice (some ⟨g, 0, none⟩) n c) (w' := w.freeze ⟨g, N, none⟩ 1) (by simp [execOp, hx, hr, Sem.run_bind]) (h _ ?_)
 have hb : ∀ b, b ≠ g → (w.freeze ⟨g, N, none⟩ 1).heap[b]? = w.heap[b]? := by
  intro b hb
  unfold World.freeze
  rw [if_neg (by decide)]
  show (w.heap.modify g _)[b]? = _
  rw [Array.getElem?_modify, if_neg (fun e => hb e.symm)]
 have hgn : ∃ q, (w.freeze ⟨g, N, none⟩ 1).heap[g]? = some (.cells (nums .u8 (xs.map bv)).toArray 5 q) := by
  unfold World.freeze
  rw [if_neg (by decide)]
  show ∃ q, (w.heap.modify g _)[g]? = _
  rw [Array.getElem?_modify, if_pos rfl, hg]
  exact ⟨_, rfl⟩
 obtain ⟨q, hgn⟩ := hgn
 refine HS.turn ?_ ?_ ?_ ⟨?_, fun b _ hb' => hb b (fun e => hb' e)⟩ ?_ (fun b hb' => .inl ?_)
 ·unfold World.freeze; rw [if_neg (by decide)]
 ·unfold World.freeze; rw [if_neg (by decide)]
 ·unfold World.freeze; rw [if_neg (by decide)]
 ·unfold World.freeze; rw [if_neg (by decide)]; simp
 ·refine ⟨⟨rfl, by omega, fun h0 => ⟨_, rfl, fun j p hj => ⟨[.int .u8 (bv p)], rfl, rfl, fun i u hu => ?_⟩⟩⟩, hn, fun h => by cases h⟩
  have hi : i = 0 := by
   rcases i with _ | i
   ·rfl
   ·simp at hu
  subst hi
  obtain rfl : Value.int .u8 (bv p) = u := by simpa using hu
  have hsz : kByte.sz = 1 := rfl
  rw [hsz, Nat.mul_one, Nat.add_zero, add_mk, Nat.zero_add]
  show World.cell? _ _ = _
  unfold World.cell?
  rw [hgn]
  have h5 : (nums .u8 (xs.map bv))[j]? = some (.int .u8 (bv p)) := by unfold nums; rw [List.getElem?_map, List.getElem?_map, hj]; rfl
  simpa using h5
 ·obtain ⟨-, a, ha, rfl⟩ := hb'
  obtain rfl := Option.some.inj ha
  rfl
end
end Go.Proofs.Ytenlkobjldhfgaa
