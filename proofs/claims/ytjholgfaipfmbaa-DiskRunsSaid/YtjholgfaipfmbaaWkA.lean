/- append to a slice that begins anywhere in a block of the walk's own; rows of bytes that begin anywhere; parts as one part. -/
import Derived.Test.YtjholgfaipfmbaaFlat
import Derived.ArgAppend
set_option linter.unusedVariables false
set_option linter.unusedSimpArgs false
namespace Go.Proofs.Ytjholgfaipfmbaa
open Go.RowKit Go.Proofs.YtjholgfaipfmbaaW.PrintWords Go.Proofs.YtjholgfaipfmbaaW.PrintLast
section
variable {P : Program} {ops : Array Oper} {Q : Exit → Act → World → Prop} {rest : List Oper} {l : List Value} {w w0 : World} {F : Nat → Prop} {L : List Res} {d ty g k : Nat} {pos : String} {after : Array Edge} {x y : Operand} {t t0 e : TypeId} {cs : List Value}
theorem run_append_at (hg : w.heap[g]? = some (.cells cs.toArray t0 (0, 0))) (i : TypeInfo) (ht : P.underlying t = some (.slice e)) (hi : P.info? e = some i) {n cap m c : Nat} {a : Addr} (news : List Value) (hl : news.length = m * i.size) (hnews : ∀ j u, news[j]? = some u → w.cell? (a.add j) = some u) (h1 : ∀ u ∈ news, u.oneCell' = true)
    (hroom : n + m ≤ cap) (hfit : k + n * i.size + news.length ≤ cs.length) : (Builtin.append_ #[t, t] ty #[.slice (some ⟨g, k, none⟩) n cap, .slice (some a) m c]).run P w = .ok (.slice (some ⟨g, k, none⟩) (n + m) cap) (w.setRow g (lay cs (k + n * i.size) news).toArray) := by
  have hfc := run_firstCells_some (P := P) w i.size m a m c news hl hnews
  have hst := run_storeCells_at (P := P) g (k + n * i.size) t0 news 0 cs w hg (by simpa using hfit) h1
  simp only [Nat.add_zero] at hst
  simp [Builtin.append_, run_underlying ht, sizeOf, typeInfo, hi, Builtin.lenOf, hroom, hfc, Addr.add_lit, hst]
/-- append(v, ys...): v begins anywhere in a block of the walk's own: where there is room it is written there; else there is a new row. -/
theorem St.wApp2 (HS : St w0 F w (blk g cs t0 :: L)) (z : Value) (sz bytes : Nat) (ht : P.underlying t = some (.slice e)) (hinfo : (P.info? e).map (fun i => (i.zero, i.size, i.bytes)) = some (some z, sz, bytes)) (hz : z.cells.size = sz) (hs0 : 0 < sz)
    {n cap m c : Nat} {a : Addr} (olds news : List Value) (hs : evl l x = .slice (some ⟨g, k, none⟩) n cap) (hx : evl l y = .slice (some a) m c) (hlo : olds.length = n * sz) (holds : (cs.drop k).take olds.length = olds)
    (hl : news.length = m * sz) (hnews : ∀ j u, news[j]? = some u → w.cell? (a.add j) = some u) (h1 : news.all (·.oneCell') = true) (hcap : k + cap * sz ≤ cs.length) (h63 : n + m ≤ 9223372036854775807) (hb : (n + m) * bytes ≤ 140737488355328)
    (hroom : n + m ≤ cap → ∀ w', St w0 F w' (blk g (lay cs (k + n * sz) news) t0 :: L) → wpList P ops Q rest (fr (l.set d (.slice (some ⟨g, k, none⟩) (n + m) cap))) w')
    (hgrow : cap < n + m → ∀ v' w', w'.ownsRow w.heap.size e sz v' (n + m) (olds ++ news) → Below w.heap.size w w' → wpList P ops Q rest (fr (l.set d v')) w') :
    wpList P ops Q (⟨some d, .call { callee := .builtin .append, args := #[x, y], argTypes := #[t, t] }, ty, pos, after, none⟩ :: rest) (fr l) w := by
  have hg : w.heap[g]? = some (.cells cs.toArray t0 (0, 0)) := HS.hs.head
  cases hq : P.info? e with
  | none => simp [hq] at hinfo
  | some i =>
    have hi' : i.zero = some z ∧ i.size = sz ∧ i.bytes = bytes := by simpa [hq] using hinfo
    obtain ⟨i1, i2, i3⟩ := hi'
    subst i2
    have hsE : (fr l).eval x = _ := (evl_eq _ _).trans hs
    have hxE : (fr l).eval y = _ := (evl_eq _ _).trans hx
    refine wpList_plain rfl fun K hK' => ?_
    by_cases hr : n + m ≤ cap
    · have hfit : k + n * i.size + news.length ≤ cs.length := by
        have h2 : (n + m) * i.size ≤ cap * i.size := Nat.mul_le_mul_right _ hr
        rw [Nat.add_mul] at h2
        omega
      have hrun := run_append_at (P := P) (ty := ty) (c := c) hg i ht hq news hl hnews (fun u hu => List.all_eq_true.1 h1 u hu) hr hfit
      unfold Oper.wp
      simp [execOp, resolve, invoke, builtin, hsE, hxE, hrun, Result.andThen]
      refine hK' _ _ ?_
      rw [fr_put]
      exact hroom hr _ (HS.setRow _)
    · obtain ⟨v', w', hrun, r1, r2⟩ := run_append_arg_grows (P := P) w t ty e i z i.size bytes ht hq i1 rfl i3 hz hs0 ⟨g, k, none⟩ n cap olds hlo (bkCells HS.hs.head k olds holds) a m c news hl hnews (by omega) (by simpa [maxLen] using h63) hb
      unfold Oper.wp
      simp [execOp, resolve, invoke, builtin, hsE, hxE, hrun, Result.andThen]
      refine hK' _ _ ?_
      rw [fr_put]
      exact hgrow (by omega) v' w' r1 ⟨r2.os, r2.tape, r2.output, r2.size, fun b hb => r2.block b hb (by simp)⟩
end
theorem x_quo {P : Program} {w : World} {ρ : Operand → Value} {o : Oper} {t t2 : Nat} {k : IntKind} {m n : Int} {x y : Operand} (z : Int) (ho : o.op = .binOp .quo t x y t2) (hx : ρ x = .int k m) (hy : ρ y = .int k n) (h0 : n ≠ 0) (hz : k.wrap (m.tdiv n) = z) : (execOp ρ o).run P w = .ok (.value (.int k z)) w := by
  simp [execOp, ho, hx, hy, eqGuard, binOp, Op.intDiv, h0, hz]
/-! Parts as one part. -/
def allR (R : List Res) : Res where
  foot b := footL R b
  holds w := Hs w R
  keep := fun hk h => h.keep hk
  lt := fun h b hb => h.lt b hb
section
variable {w0 w : World} {F : Nat → Prop} {L R : List Res} {r r' : Res}
theorem allR_apart {s : Res} (h : (allR R).apart s) : ∀ r ∈ R, r.apart s := fun r hr b hb => h b ⟨r, hr, hb⟩
theorem St.opened (h : St w0 F w (allR R :: L)) : St w0 F w (R ++ L) := by
  refine ⟨h.os, h.tape, h.output, h.kept, ?_, fun b hb => h.mine b (footL_cons.2 (footL_append.1 hb))⟩
  have hh := h.hs
  refine (show Hs w R from hh.head).both hh.tail (fun b hb hb2 => ?_)
  obtain ⟨s, hs, hb2⟩ := hb2
  exact (List.pairwise_cons.1 hh.2).1 s hs b hb hb2
theorem St.closed (h : St w0 F w (R ++ L)) : St w0 F w (allR R :: L) := by
  refine ⟨h.os, h.tape, h.output, h.kept, ?_, fun b hb => h.mine b (footL_append.2 (footL_cons.1 hb))⟩
  refine h.hs.right.cons (show Hs w R from h.hs.left) (fun s hs b hb hb2 => ?_)
  exact h.hs.apart_of b hb ⟨s, hs, hb2⟩
/-- One of them ahead. -/
theorem St.pull (h : St w0 F w (allR R :: L)) (j : Nat) (hj : R[j]? = some r) : St w0 F w (r :: allR (R.eraseIdx j) :: L) := by
  have h1 := h.opened.front j (r := r) (by rw [List.getElem?_append_left (List.getElem?_eq_some_iff.1 hj).1]; exact hj)
  rw [List.eraseIdx_append_of_lt_length (List.getElem?_eq_some_iff.1 hj).1] at h1
  have h2 : St w0 F w (R.eraseIdx j ++ (r :: L)) := h1.perm (by
    have := List.perm_middle (a := r) (l₁ := R.eraseIdx j) (l₂ := L)
    exact this.symm)
  exact (h2.closed).front 1 rfl
theorem set_perm {α : Type _} {r r' : α} : ∀ {R : List α} {j : Nat}, R[j]? = some r → (R.set j r').Perm (r' :: R.eraseIdx j)
  | [], j, h => by simp at h
  | x :: R, 0, h => List.Perm.refl _
  | x :: R, j + 1, h => by
    have h' : R[j]? = some r := by simpa using h
    exact ((set_perm (r' := r') h').cons x).trans (List.Perm.swap r' x _)
/-- .. and put back, as another one. -/
theorem St.push {j : Nat} (h : St w0 F w (r' :: allR (R.eraseIdx j) :: L)) (hj : R[j]? = some r) : St w0 F w (allR (R.set j r') :: L) := by
  have h1 : St w0 F w (R.eraseIdx j ++ (r' :: L)) := (h.front 1 rfl).opened
  have h2 : St w0 F w (R.set j r' ++ L) := h1.perm (List.perm_middle.trans ((set_perm hj).symm.append_right L))
  exact h2.closed
/-- One more, behind all. -/
theorem St.pushNew (h : St w0 F w (r' :: allR R :: L)) : St w0 F w (allR (R ++ [r']) :: L) := by
  have h1 : St w0 F w (R ++ (r' :: L)) := (h.front 1 rfl).opened
  have h2 : St w0 F w ((R ++ [r']) ++ L) := by rw [List.append_assoc]; exact h1
  exact h2.closed
theorem St.pushNil (h : St w0 F w L) : St w0 F w (allR [] :: L) := St.closed (R := []) h
theorem St.allGet (h : St w0 F w L) (hm : allR R ∈ L) {j : Nat} (hj : R[j]? = some r) : r.holds w := (show Hs w R from h.get hm).1 r (List.mem_of_getElem? hj)
end
end Go.Proofs.Ytjholgfaipfmbaa
