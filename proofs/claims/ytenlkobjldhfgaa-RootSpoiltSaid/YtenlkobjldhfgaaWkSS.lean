/- Several texts in one: WkA, WkB, WkC, WkS. -/
import Derived.Test.YtenlkobjldhfgaaFlat
import Derived.ArgAppend
import Derived.Test.YtenlkobjldhfgaaByWO
/- append to a slice that begins anywhere in a block of the walk's own; rows of bytes that begin anywhere; parts as one part. -/
set_option linter.unusedVariables false
set_option linter.unusedSimpArgs false
namespace Go.Proofs.Ytenlkobjldhfgaa
open Go.RowKit Go.Proofs.YtenlkobjldhfgaaW.PrintWords Go.Proofs.YtenlkobjldhfgaaW.PrintLast
section
variable {P : Program} {ops : Array Oper} {Q : Exit → Act → World → Prop} {rest : List Oper} {l : List Value} {w w0 : World} {F : Nat → Prop} {L : List Res} {d ty g k : Nat} {pos : String} {after : Array Edge} {x y : Operand} {t t0 e : TypeId} {cs : List Value}
theorem run_append_at (hg : w.heap[g]? = some (.cells cs.toArray t0 (0, 0))) (i : TypeInfo) (ht : P.underlying t = some (.slice e)) (hi : P.info? e = some i) {n cap m c : Nat} {a : Addr} (news : List Value) (hl : news.length = m * i.size) (hnews : ∀ j u, news[j]? = some u → w.cell? (a.add j) = some u) (h1 : ∀ u ∈ news, u.oneCell' = true)
    (hroom : n + m ≤ cap) (hfit : k + n * i.size + news.length ≤ cs.length) : (Builtin.append_ #[t, t] ty #[.slice (some ⟨g, k, none⟩) n cap, .slice (some a) m c]).run P w = .ok (.slice (some ⟨g, k, none⟩) (n + m) cap) (w.setRow g (lay cs (k + n * i.size) news).toArray) := by
  have hfc := run_firstCells_some (P := P) w i.size m a m c news hl hnews
  have hst := run_storeCells_at (P := P) g (k + n * i.size) t0 news 0 cs w hg (by simpa using hfit) h1
  simp only [Nat.add_zero] at hst
  simp [Builtin.append_, run_underlying ht, sizeOf, typeInfo, hi, Builtin.lenOf, hroom, hfc, Addr.add_lit, hst]
/-- append(v, ys...): v begins anywhere in a block of the walk's own: where there is room it is written there; else there is a new row. -/
theorem St.wApp2 (HS : St w0 F w (blk g cs t0 :: L)) (z : Value) (sz bytes : Nat) (ht : P.underlying t = some (.slice e)) (hinfo : (P.info? e).map (fun i => (i.zero, i.size, i.bytes)) = some (some z, sz, bytes)) (hz : z.cells.size = sz) (hs0 : 0 < sz)
    {n cap m c : Nat} {a : Addr} (olds news : List Value) (hs : evl l x = .slice (some ⟨g, k, none⟩) n cap) (hx : evl l y = .slice (some a) m c) (hlo : olds.length = n * sz) (holds : (cs.drop k).take olds.length = olds)
    (hl : news.length = m * sz) (hnews : ∀ j u, news[j]? = some u → w.cell? (a.add j) = some u) (h1 : news.all (·.oneCell') = true) (hcap : k + cap * sz ≤ cs.length) (h63 : n + m ≤ 9223372036854775807) (hb : (n + m) * bytes ≤ 140737488355328)
    (hroom : n + m ≤ cap → ∀ w', St w0 F w' (blk g (lay cs (k + n * sz) news) t0 :: L) → wpList P ops Q rest (fr (l.set d (.slice (some ⟨g, k, none⟩) (n + m) cap))) w')
    (hgrow : cap < n + m → ∀ v' w', w'.ownsRow w.heap.size e sz v' (n + m) (olds ++ news) → Below w.heap.size w w' → wpList P ops Q rest (fr (l.set d v')) w') :
    wpList P ops Q (⟨some d, .call { callee := .builtin .append, args := #[x, y], argTypes := #[t, t] }, ty, pos, after, none⟩ :: rest) (fr l) w := by
  have hg : w.heap[g]? = some (.cells cs.toArray t0 (0, 0)) := HS.hs.head
  cases hq : P.info? e with
  | none => simp [hq] at hinfo
  | some i =>
    have hi' : i.zero = some z ∧ i.size = sz ∧ i.bytes = bytes := by simpa [hq] using hinfo
    obtain ⟨i1, i2, i3⟩ := hi'
    subst i2
    have hsE : (fr l).eval x = _ := (evl_eq _ _).trans hs
    have hxE : (fr l).eval y = _ := (evl_eq _ _).trans hx
    refine wpList_plain rfl fun K hK' => ?_
    by_cases hr : n + m ≤ cap
    · have hfit : k + n * i.size + news.length ≤ cs.length := by
        have h2 : (n + m) * i.size ≤ cap * i.size := Nat.mul_le_mul_right _ hr
        rw [Nat.add_mul] at h2
        omega
      have hrun := run_append_at (P := P) (ty := ty) (c := c) hg i ht hq news hl hnews (fun u hu => List.all_eq_true.1 h1 u hu) hr hfit
      unfold Oper.wp
      simp [execOp, resolve, invoke, builtin, hsE, hxE, hrun, Result.andThen]
      refine hK' _ _ ?_
      rw [fr_put]
      exact hroom hr _ (HS.setRow _)
    · obtain ⟨v', w', hrun, r1, r2⟩ := run_append_arg_grows (P := P) w t ty e i z i.size bytes ht hq i1 rfl i3 hz hs0 ⟨g, k, none⟩ n cap olds hlo (bkCells HS.hs.head k olds holds) a m c news hl hnews (by omega) (by simpa [maxLen] using h63) hb
      unfold Oper.wp
      simp [execOp, resolve, invoke, builtin, hsE, hxE, hrun, Result.andThen]
      refine hK' _ _ ?_
      rw [fr_put]
      exact hgrow (by omega) v' w' r1 ⟨r2.os, r2.tape, r2.output, r2.size, fun b hb => r2.block b hb (by simp)⟩
end
theorem x_quo {P : Program} {w : World} {ρ : Operand → Value} {o : Oper} {t t2 : Nat} {k : IntKind} {m n : Int} {x y : Operand} (z : Int) (ho : o.op = .binOp .quo t x y t2) (hx : ρ x = .int k m) (hy : ρ y = .int k n) (h0 : n ≠ 0) (hz : k.wrap (m.tdiv n) = z) : (execOp ρ o).run P w = .ok (.value (.int k z)) w := by
  simp [execOp, ho, hx, hy, eqGuard, binOp, Op.intDiv, h0, hz]
/-! Parts as one part. -/
def allR (R : List Res) : Res where
  foot b := footL R b
  holds w := Hs w R
  keep := fun hk h => h.keep hk
  lt := fun h b hb => h.lt b hb
section
variable {w0 w : World} {F : Nat → Prop} {L R : List Res} {r r' : Res}
theorem allR_apart {s : Res} (h : (allR R).apart s) : ∀ r ∈ R, r.apart s := fun r hr b hb => h b ⟨r, hr, hb⟩
theorem St.opened (h : St w0 F w (allR R :: L)) : St w0 F w (R ++ L) := by
  refine ⟨h.os, h.tape, h.output, h.kept, ?_, fun b hb => h.mine b (footL_cons.2 (footL_append.1 hb))⟩
  have hh := h.hs
  refine (show Hs w R from hh.head).both hh.tail (fun b hb hb2 => ?_)
  obtain ⟨s, hs, hb2⟩ := hb2
  exact (List.pairwise_cons.1 hh.2).1 s hs b hb hb2
theorem St.closed (h : St w0 F w (R ++ L)) : St w0 F w (allR R :: L) := by
  refine ⟨h.os, h.tape, h.output, h.kept, ?_, fun b hb => h.mine b (footL_append.2 (footL_cons.1 hb))⟩
  refine h.hs.right.cons (show Hs w R from h.hs.left) (fun s hs b hb hb2 => ?_)
  exact h.hs.apart_of b hb ⟨s, hs, hb2⟩
/-- One of them ahead. -/
theorem St.pull (h : St w0 F w (allR R :: L)) (j : Nat) (hj : R[j]? = some r) : St w0 F w (r :: allR (R.eraseIdx j) :: L) := by
  have h1 := h.opened.front j (r := r) (by rw [List.getElem?_append_left (List.getElem?_eq_some_iff.1 hj).1]; exact hj)
  rw [List.eraseIdx_append_of_lt_length (List.getElem?_eq_some_iff.1 hj).1] at h1
  have h2 : St w0 F w (R.eraseIdx j ++ (r :: L)) := h1.perm (by
    have := List.perm_middle (a := r) (l₁ := R.eraseIdx j) (l₂ := L)
    exact this.symm)
  exact (h2.closed).front 1 rfl
theorem set_perm {α : Type _} {r r' : α} : ∀ {R : List α} {j : Nat}, R[j]? = some r → (R.set j r').Perm (r' :: R.eraseIdx j)
  | [], j, h => by simp at h
  | x :: R, 0, h => List.Perm.refl _
  | x :: R, j + 1, h => by
    have h' : R[j]? = some r := by simpa using h
    exact ((set_perm (r' := r') h').cons x).trans (List.Perm.swap r' x _)
/-- .. and put back, as another one. -/
theorem St.push {j : Nat} (h : St w0 F w (r' :: allR (R.eraseIdx j) :: L)) (hj : R[j]? = some r) : St w0 F w (allR (R.set j r') :: L) := by
  have h1 : St w0 F w (R.eraseIdx j ++ (r' :: L)) := (h.front 1 rfl).opened
  have h2 : St w0 F w (R.set j r' ++ L) := h1.perm (List.perm_middle.trans ((set_perm hj).symm.append_right L))
  exact h2.closed
/-- One more, behind all. -/
theorem St.pushNew (h : St w0 F w (r' :: allR R :: L)) : St w0 F w (allR (R ++ [r']) :: L) := by
  have h1 : St w0 F w (R ++ (r' :: L)) := (h.front 1 rfl).opened
  have h2 : St w0 F w ((R ++ [r']) ++ L) := by rw [List.append_assoc]; exact h1
  exact h2.closed
theorem St.pushNil (h : St w0 F w L) : St w0 F w (allR [] :: L) := St.closed (R := []) h
theorem St.allGet (h : St w0 F w L) (hm : allR R ∈ L) {j : Nat} (hj : R[j]? = some r) : r.holds w := (show Hs w R from h.get hm).1 r (List.mem_of_getElem? hj)
end
end Go.Proofs.Ytenlkobjldhfgaa
/- Rows of bytes that begin anywhere in a block. -/
set_option linter.unusedVariables false
set_option linter.unusedSimpArgs false
namespace Go.Proofs.Ytenlkobjldhfgaa
open Go.RowKit Go.Proofs.YtenlkobjldhfgaaW.PrintWords Go.Proofs.YtenlkobjldhfgaaW.PrintLast
section
variable {w0 w : World} {F : Nat → Prop} {L : List Res} {r s : Res}
theorem St.alter (h : St w0 F w (r :: L)) (hs : s.holds w) (hf : ∀ b, s.foot b → r.foot b) : St w0 F w (s :: L) := h.turn rfl rfl rfl (Kept.refl _ _) hs (fun b hb => .inl (hf b hb))
end
/-- A row of bytes that begins anywhere in its block. -/
def orow (e : TypeId) (v : Value) (xs : List Int) : Res where
  foot b := v.ownBlock = some b
  holds w := ∃ g k c cs, v = .slice (some ⟨g, k, none⟩) xs.length c ∧ w.heap[g]? = some (.cells (List.toArray cs) e (0, 0)) ∧ xs.length ≤ c ∧ k + c ≤ cs.length ∧ c ≤ maxLen ∧ (cs.drop k).take xs.length = nums .u8 xs
  keep := fun {w w'} hk ⟨g, k, c, cs, hv, hg, h⟩ => by
    have hlt := (Array.getElem?_eq_some_iff.1 hg).1
    exact ⟨g, k, c, cs, hv, (hk g (by rw [hv]; rfl) hlt).trans hg, h⟩
  lt := fun {w} ⟨g, k, c, cs, hv, hg, h⟩ b hb => by
    have hlt := (Array.getElem?_eq_some_iff.1 hg).1
    rw [hv] at hb
    have : g = b := Option.some.inj hb
    omega
section
variable {w0 w : World} {F : Nat → Prop} {L : List Res} {e g k n c : Nat} {v : Value} {xs ys : List Int} {cs : List Value}
theorem orow_open (h : (orow e v xs).holds w) : ∃ g k c, v = .slice (some ⟨g, k, none⟩) xs.length c ∧ xs.length ≤ c ∧ (Kd.int .u8).C w (some ⟨g, k, none⟩) xs.length xs := by
  obtain ⟨g, k, c, cs, hv, hg, h1, h2, h3, h4⟩ := h
  unfold maxLen at h3
  refine ⟨g, k, c, hv, h1, rfl, by omega, fun _ => ⟨_, rfl, fun j p hj => ⟨[.int .u8 p], rfl, rfl, fun i u hu => ?_⟩⟩⟩
  have hi : i = 0 := by
    rcases i with _ | i
    · rfl
    · simp at hu
  subst hi
  have hu' : u = .int .u8 p := by simpa using hu.symm
  subst hu'
  have hsz : (Kd.int .u8).sz = 1 := rfl
  rw [hsz, Nat.mul_one, Nat.add_zero]
  exact bkCells (cs := cs) (t0 := e) (show (blk g cs e).holds w from hg) k (nums .u8 xs) (by rw [nums_length]; exact h4) j (.int .u8 p) (by unfold nums; rw [List.getElem?_map, hj]; rfl)
theorem orow_one (h : (orow e v xs).holds w) : v.oneCell' = true := by
  obtain ⟨g, k, c, cs, rfl, -⟩ := h
  rfl
theorem orow_blk (h : (blk g (nums .u8 xs) e).holds w) (hm : xs.length ≤ 9223372036854775807) : (orow e (.slice (some ⟨g, 0, none⟩) xs.length xs.length) xs).holds w :=
  ⟨g, 0, xs.length, nums .u8 xs, rfl, h, Nat.le_refl _, by rw [nums_length]; omega, by unfold maxLen; omega, by rw [List.drop_zero, List.take_of_length_le (by rw [nums_length]; omega)]⟩
/-- The row from its q-th element on. -/
theorem orow_from {q : Nat} (h : (orow e (.slice (some ⟨g, k, none⟩) n c) xs).holds w) (hq : q ≤ n) : n = xs.length ∧ (orow e (.slice (some ⟨g, k + q, none⟩) (n - q) (c - q)) (xs.drop q)).holds w := by
  obtain ⟨g', k', c', cs, hv, hg, h1, h2, h3, h4⟩ := h
  injection hv with hv hn hc
  injection hv with hv
  injection hv with hv hk
  subst hv hk hn hc
  refine ⟨rfl, g, k + q, c - q, cs, by rw [List.length_drop], hg, by rw [List.length_drop]; omega, by omega, by omega, ?_⟩
  have : ((cs.drop k).take xs.length).drop q = (nums .u8 xs).drop q := by rw [h4]
  rw [List.drop_take, List.drop_drop] at this
  rw [List.length_drop, this]
  simp [nums, List.map_drop]
variable {P : Program} {ops : Array Oper} {Q : Exit → Act → World → Prop} {rest : List Oper} {l : List Value} {d ty t m : Nat} {pos : String} {after : Array Edge} {x y : Operand}
/-- append(v, ys...) -/
theorem St.wAppO {A : Option Addr} (HS : St w0 F w (orow e v xs :: L)) (ht : P.underlying t = some (.slice e)) (hinfo : (P.info? e).map (fun i => (i.zero, i.size, i.bytes)) = some (some (.int .u8 0), 1, 1)) (hs : evl l x = v) (hx : evl l y = .slice A m c) (ys : List Int) (hy : ys ≠ []) (hr : (Kd.int .u8).C w A m ys) (hl : xs.length + ys.length ≤ 140737488355328)
    (hk : ∀ v' w', St w0 F w' (orow e v' (xs ++ ys) :: L) → wpList P ops Q rest (fr (l.set d v')) w') : wpList P ops Q (⟨some d, .call { callee := .builtin .append, args := #[x, y], argTypes := #[t, t] }, ty, pos, after, none⟩ :: rest) (fr l) w := by
  obtain ⟨g, k, c0, cs, rfl, hg, h1, h2, h3, h4⟩ := HS.hs.head
  have hm : m = ys.length := hr.1.symm
  have hy0 : ys.length ≠ 0 := fun h => hy (List.eq_nil_of_length_eq_zero h)
  obtain ⟨ad, rfl, hc⟩ := hr.2.2 (by omega)
  have HB : St w0 F w (blk g cs e :: L) := HS.alter (show (blk g cs e).holds w from hg) (fun b hb => by have : b = g := hb; subst this; rfl)
  have hlen : (nums .u8 (xs ++ ys)).length = xs.length + ys.length := by rw [nums_length, List.length_append]
  refine St.wApp2 HB (.int .u8 0) 1 1 ht hinfo rfl (by decide) (nums .u8 xs) (nums .u8 ys) hs hx (by rw [nums_length]; omega) (by rw [nums_length]; exact h4) (by rw [nums_length]; omega) (fun j u hu => ?_) (nums_one _ _) (by omega) (by omega) (by omega) (fun hroom w' h => ?_) (fun hgrow v' w' ho hb => ?_)
  · unfold nums at hu
    rw [List.getElem?_map] at hu
    obtain ⟨p, hp, rfl⟩ := Option.map_eq_some_iff.1 hu
    obtain ⟨c', hs', hr', hcell⟩ := hc j p hp
    have := hcell 0 (.int .u8 p) (by rw [show c' = [.int .u8 p] from hr']; rfl)
    have hsz : (Kd.int .u8).sz = 1 := rfl
    rwa [hsz, Nat.mul_one, Nat.add_zero] at this
  · refine hk _ _ (h.alter ⟨g, k, c0, lay cs (k + xs.length * 1) (nums .u8 ys), by rw [List.length_append, hm], h.hs.head, by rw [List.length_append]; omega, by rw [lay_length _ _ _ (by rw [nums_length]; omega)]; exact h2, h3, ?_⟩ (fun b hb => (Option.some.inj hb).symm))
    unfold lay
    rw [Nat.mul_one, List.append_assoc, List.drop_append_of_le_length (by rw [List.length_take]; omega), List.drop_take, Nat.add_sub_cancel_left, h4, ← List.append_assoc, List.length_append]
    have e2 : nums .u8 xs ++ nums .u8 ys = nums .u8 (xs ++ ys) := by simp [nums]
    rw [e2, ← List.length_append, List.take_left' (by rw [nums_length])]
  · rcases ho.2 with ⟨-, h0⟩ | ⟨g', cap', cur, rfl, hge, hg', hnc, hcm, hcs, htake⟩
    · omega
    · have e2 : nums .u8 xs ++ nums .u8 ys = nums .u8 (xs ++ ys) := by simp [nums]
      refine hk _ _ (HS.drop.fresh hb ⟨g', 0, cap', cur.toList, by rw [List.length_append, hm], by simpa using hg', by rw [List.length_append]; omega, by show 0 + cap' ≤ cur.toList.length; rw [Array.length_toList, hcs]; omega, hcm, ?_⟩ (fun b hb => by have h5 : some g' = some b := hb; injection h5 with h5; omega))
      rw [List.drop_zero, List.length_append, ← hm, ← e2]
      rw [Nat.mul_one] at htake
      exact htake
end
end Go.Proofs.Ytenlkobjldhfgaa
/- xs[i:j:k]; clear; a row of flat elements as a block. -/
set_option linter.unusedVariables false
set_option linter.unusedSimpArgs false
namespace Go.Proofs.Ytenlkobjldhfgaa
open Go.RowKit Go.Proofs.YtenlkobjldhfgaaW.PrintWords Go.Proofs.YtenlkobjldhfgaaW.PrintLast
/-- xs[lo:hi:mx] of a slice. -/
theorem x_slice3 {P : Program} {w : World} {ρ : Operand → Value} {o : Oper} {x yl yh ym : Operand} {t e n c sz lo hi mx : Nat} {A : Option Addr} (A' : Option Addr) (ho : o.op = .slice t x (some yl) (some yh) (some ym)) (hx : ρ x = .slice A n c) (hu : P.underlying t = some (.slice e)) (hz : (P.info? e).map (·.size) = some sz)
    {k1 k2 k3 : IntKind} (hL : ρ yl = .int k1 (lo : Int)) (hH : ρ yh = .int k2 (hi : Int)) (hM : ρ ym = .int k3 (mx : Int)) (h1 : lo ≤ hi) (h2 : hi ≤ mx) (h3 : mx ≤ c) (hA : (if mx = lo then A else A.map (·.add (lo * sz))) = A') : (execOp ρ o).run P w = .ok (.value (.slice A' (hi - lo) (mx - lo))) w := by
  subst hA
  cases hq : P.info? e with
  | none => simp [hq] at hz
  | some i' =>
    have hs : i'.size = sz := by simpa [hq] using hz
    have key : ∀ (y : Operand) (k : IntKind) (m b : Nat) (code : BoundsCode), ρ y = .int k (m : Int) → m ≤ b → (Instr.sliceBound (ρ y) b code).run P w = .ok m w := by
      intro y k m b code e1 e4
      have h5 : (m : Int) ≤ (b : Int) := by omega
      have h6 : (0 : Int) ≤ (m : Int) := by omega
      simp [Instr.sliceBound, e1, asIntOf, Sem.run_bind, h5, h6, e4]
    simp [execOp, ho, hx, Instr.sliceAt, Instr.slice, underlying, hu, Sem.run_bind, Instr.sliceBounds, sizeOf, typeInfo, hq, hs, key _ _ lo _ _ hL h1, key _ _ hi _ _ hH h2, key _ _ mx _ _ hM h3]
section
variable {P : Program} {ops : Array Oper} {Q : Exit → Act → World → Prop} {rest : List Oper} {l : List Value} {w w0 : World} {F : Nat → Prop} {L : List Res} {d ty g k : Nat} {pos : String} {after : Array Edge} {x y : Operand} {t t0 e : TypeId} {cs : List Value}
/-- clear(xs), xs in a block of the walk's own. -/
theorem St.wClear (HS : St w0 F w (blk g cs t0 :: L)) (z : Value) (sz : Nat) (ht : P.underlying t = some (.slice e)) (hinfo : (P.info? e).map (fun i => (i.zero, i.size)) = some (some z, sz)) (hz : z.cells.size = sz) (h1 : z.cells.toList.all (·.oneCell') = true)
    {n c : Nat} (hx : evl l x = .slice (some ⟨g, k, none⟩) n c) (hn : n ≠ 0) (hfit : k + n * sz ≤ cs.length) {dd : Option Nat}
    (hk : ∀ w', St w0 F w' (blk g (lay cs k (Builtin.zeroCells z.cells n).toList) t0 :: L) → wpList P ops Q rest ((fr l).put dd (.tuple #[])) w') :
    wpList P ops Q (⟨dd, .call { callee := .builtin .clear, args := #[x], argTypes := #[t] }, ty, pos, after, none⟩ :: rest) (fr l) w := by
  have hg : w.heap[g]? = some (.cells cs.toArray t0 (0, 0)) := HS.hs.head
  cases hq : P.info? e with
  | none => simp [hq] at hinfo
  | some i =>
    have hi' : i.zero = some z ∧ i.size = sz := by simpa [hq] using hinfo
    obtain ⟨i1, i2⟩ := hi'
    have hxE : (fr l).eval x = _ := (evl_eq _ _).trans hx
    have hlen : (Builtin.zeroCells z.cells n).toList.length = n * sz := by rw [Array.length_toList, size_zeroCells, hz]
    have hone : ∀ v ∈ (Builtin.zeroCells z.cells n).toList, v.oneCell' = true := by
      intro v hv
      unfold Builtin.zeroCells at hv
      simp only [Array.toList_map, List.mem_map] at hv
      obtain ⟨j, hj, rfl⟩ := hv
      have hj' : j < n * z.cells.size := by simpa using hj
      have hpos : 0 < z.cells.size := by
        rcases Nat.eq_zero_or_pos z.cells.size with h | h
        · rw [h] at hj'; omega
        · exact h
      have hlt : j % z.cells.size < z.cells.size := Nat.mod_lt _ hpos
      rw [getElem!_pos z.cells _ hlt]
      exact List.all_eq_true.1 h1 _ (by simp)
    have hst := run_storeCells_at (P := P) g k t0 (Builtin.zeroCells z.cells n).toList 0 cs w hg (by rw [hlen]; omega) hone
    rw [Nat.add_zero] at hst
    have hzv : (zeroValue e).run P w = .ok z w := by simp [zeroValue, typeInfo, hq, i1, Sem.run_bind]
    have hr : (Builtin.clear_ #[t] ty #[.slice (some ⟨g, k, none⟩) n c]).run P w = .ok (.tuple #[]) (w.setRow g (lay cs k (Builtin.zeroCells z.cells n).toList).toArray) := by
      cases n with
      | zero => exact absurd rfl hn
      | succ n => simp [Builtin.clear_, run_underlying ht, Sem.run_bind, hzv, hst]
    refine wpList_plain rfl fun K hK' => ?_
    unfold Oper.wp
    simp [execOp, resolve, invoke, builtin, hxE, hr, Result.andThen]
    exact hK' _ _ (hk _ (HS.setRow _))
end
section
variable {w0 w : World} {F : Nat → Prop} {L : List Res} {α : Type} {D : Kd α} {hE : D.E = []} {e g n c : Nat} {xs : List α}
/-- A row of flat elements that isn't empty: its block. -/
theorem row_blk (hM : ∀ {w base ok x cs}, D.M w base ok x cs → D.M w base (fun _ => False) x cs) (h : (row D hE e (.slice (some ⟨g, 0, none⟩) n c) xs).holds w) : ∃ cs, (blk g cs e).holds w ∧ cs.length = c * D.sz ∧ n = xs.length ∧ n ≤ c ∧ c ≤ maxLen ∧ (cs.take (n * D.sz)).length = n * D.sz ∧ Reps (D.M w 0 (fun _ => False)) D.sz xs (cs.take (n * D.sz)) := by
  obtain ⟨h0, inner, ho, hr⟩ := h
  rcases ho.2 with ⟨h2, _⟩ | ⟨g', cap', cur, h2, hge, hg', hnc, hcm, hcs, htake⟩
  · injection h2 with h2; cases h2
  · injection h2 with h2 h3 h4
    injection h2 with h2
    injection h2 with h2
    subst h2 h3 h4
    have hl := ho.1
    refine ⟨cur.toList, by show w.heap[g]? = _; simpa using hg', by rw [Array.length_toList, hcs], rfl, hnc, hcm, ?_, ?_⟩
    · rw [htake]; exact hl
    · rw [htake]; exact hr.imp_ (fun _ _ hp => hM hp)
end
section
variable {P : Program} {ops : Array Oper} {Q : Exit → Act → World → Prop} {K : Act → World → Prop} {w : World} {o : Oper} {a : Act}
/-- free_frame, where a slot is written that elder operations read. -/
theorem free_frame2 {id n : Nat} {l0 : List Value} {w0 : World} {T : Bool × List (List Nat × List Nat)} (B : List Nat) (D : List (Nat × Tmp)) (G : (Nat → Bool) → (Nat → Value) → World → Prop) (hm : P.follows .mixedOrders = true) (hn : ops.size = n)
    (hT : rtab .any ops = T) (hw : waitsOk T.2 B = true) (hk : baseOk T.2 (List.range n) = true) (hl : T.2.length = n) (hD : dstOk ops D n = true) (hfree : freeOk D (fr l0).tmps.size = true)
    (h0 : G (fun _ => false) (fun _ => undef) w0.drew)
    (hstep : ∀ i ∈ List.range n, ∀ b vs a w, G b vs w → b i = false → (∀ j, ((List.range n).contains j && (B.getD i 0).testBit j) = true → b j = true) → (∀ j, ((List.range n).contains j && (B.getD j 0).testBit i) = true → b j = false) →
      (∃ l, a = fr l) → (∀ t, (D.all fun e => !(e.2 == t)) = true → a.tmps[t]? = (fr l0).tmps[t]?) → (∀ e ∈ D, b e.1 = true → a.tmps[e.2]? = some (vs e.1)) → (∀ j t, b j = false → (D.all fun e => !(e.2 == t) || e.1 == j) = true → a.tmps[t]? = (fr l0).tmps[t]?) →
      ∃ oi, ops[i]? = some oi ∧ ∀ K : Act → World → Prop, (∀ v w', G (up b i) (fun j => if j = i then v else vs j) w' → K (a.put oi.dst v) w') → if Region.wanted oi (yielded ops a.tmps) = true then Oper.wp P oi a w K Q else K (a.put oi.dst undef) w)
    (hend : ∀ b (vs : Nat → Value) w, (∀ j, (List.range n).contains j = true → b j = true) → G b vs w → Q .normal (putSel (fr l0) (fun _ => true) (tells D vs)) w) : (Code.region id ops true).wp P Q (fr l0) w0 := by
  simp only [freeOk, Bool.and_eq_true, decide_eq_true_eq] at hfree
  obtain ⟨⟨hn1, hn2⟩, hsz⟩ := hfree
  unfold dstOk at hD
  rw [Bool.and_eq_true] at hD
  obtain ⟨hDn, hD⟩ := hD
  have hsz' : ∀ e ∈ D, e.2 < (fr l0).tmps.size := fun e he => Nat.le_of_ble_eq_true (List.all_eq_true.1 hsz e he)
  refine start_ (n := n) (S := fun _ => True) (ds := []) (Array.replicate n false) hm hn rfl trivial (fun _ => ?_)
  refine inv_ (T := T) (B := B) (List.range n) (fun b a w => ∃ vs : Nat → Value, a = putSel (fr l0) b (tells D vs) ∧ G b vs w) hT hw hk ?_ ?_ ?_ ?_
  · rw [hl]
    rw [Bool.and_eq_true]
    constructor
    · rw [beq_iff_eq]
      apply List.ext_getElem?
      intro j
      simp only [lof]
      by_cases hj : j < n
      · simp [hj]
      · simp [hj]
    · simp
  · refine ⟨fun _ => undef, ?_, h0⟩
    have : ∀ (L : List (Nat × Tmp × Value)) (a : Act), putSel a (fun _ => false) L = a := by
      intro L
      induction L with
      | nil => intro a; rfl
      | cons x L ih => intro a; show putSel (if (false : Bool) = true then _ else a) _ L = a; exact ih a
    exact (this _ _).symm
  · intro i hi b a w hI hb hon hoff
    obtain ⟨vs, rfl, hG⟩ := hI
    obtain ⟨oi, ho, hok⟩ := hstep i hi b vs (putSel (fr l0) b (tells D vs)) w hG hb hon hoff (putSel_isfr _ _ _) (fun t h => putSel_elder h) (fun e he hbe => putSel_val hn2 e he (hsz' e he) hbe) (fun j t hj ht => putSel_not hj (by unfold tells; rw [List.all_map]; exact ht))
    refine ⟨oi, ho, fun K hK => hok K (fun v w' hG' => hK _ _ ⟨_, ?_, hG'⟩)⟩
    have h1 := List.all_eq_true.1 hD i hi
    rw [ho] at h1
    simp only [Option.map_some] at h1
    cases hd : oi.dst with
    | some t =>
      rw [hd] at h1
      exact tells_up hn1 hn2 (List.contains_iff_mem.1 h1) hb
    | none =>
      rw [hd] at h1
      have h2 : ∀ e ∈ D, e.1 ≠ i := fun e he => by have := List.all_eq_true.1 h1 e he; simpa using this
      show putSel (fr l0) b (tells D vs) = _
      have h3 : tells D (fun j => if j = i then v else vs j) = tells D vs := by
        unfold tells
        refine List.map_congr_left (fun e he => ?_)
        simp [h2 e he]
      rw [h3]
      refine (putSel_same ?_).symm
      rw [List.all_eq_true]
      intro y hy
      obtain ⟨z, hz, rfl⟩ := List.mem_map.1 hy
      simpa using h2 z hz
  · intro b a w hall hI
    obtain ⟨vs, rfl, hG⟩ := hI
    have hb : ∀ e ∈ D, b e.1 = true := fun e he => by
      refine hall e.1 ?_
      have := List.all_eq_true.1 hDn e he
      have h5 : e.1 + 1 ≤ n := by simpa [Nat.blt] using this
      have h4 : e.1 < n := h5
      simpa using h4
    have hall2 : ∀ (L : List (Nat × Tmp)) (a : Act), (∀ e ∈ L, b e.1 = true) → putSel a b (tells L vs) = putSel a (fun _ => true) (tells L vs) := by
      intro L
      induction L with
      | nil => intro a _; rfl
      | cons x L ih =>
        intro a h
        show putSel (if b x.1 = true then _ else a) b (tells L vs) = putSel (if true = true then _ else a) _ (tells L vs)
        rw [if_pos (h x List.mem_cons_self), if_pos rfl]
        exact ih _ (fun e he => h e (List.mem_cons_of_mem _ he))
    rw [hall2 D (fr l0) hb]
    exact hend b vs w hall hG
end
end Go.Proofs.Ytenlkobjldhfgaa
/- Walks step by step: strings of bytes; slices that are only read, as parts. -/
set_option linter.unusedVariables false
set_option linter.unusedSimpArgs false
namespace Go.Proofs.Ytenlkobjldhfgaa
open Go.RowKit Go.Proofs.YtenlkobjldhfgaaW.PrintWords Go.Proofs.YtenlkobjldhfgaaW.PrintLast
section
variable {w : World} {ρ : Operand → Value} {o : Oper} {x y : Operand}
theorem x_str {A : Option Addr} {n c : Nat} {xs : List UInt8} (hr : Rd w A xs) (hn : n = xs.length) (ho : o.op = .convert 24 9 x) (hx : ρ x = .slice A n c) : (execOp ρ o).run Try.prog w = .ok (.value (.string (strB xs))) w := by
  simp [execOp, ho, hx, Rd.conv hr n c hn, Sem.run_bind]
theorem x_streq {P : Program} {t t2 : Nat} (bo : BinOp) (a b : ByteArray) (z : Bool) (ho : o.op = .binOp bo t x y t2) (hx : ρ x = .string a) (hy : ρ y = .string b) (hz : eqB bo (a.toList == b.toList) = z) (hok : eqO bo = true) : (execOp ρ o).run P w = .ok (.value (.bool z)) w := by
  subst hz
  cases bo <;> simp [eqO] at hok
  · simp [execOp, ho, hx, hy, eqGuard, binOp, Op.stringOp, eqB, Sem.run_bind]
  · simp [execOp, ho, hx, hy, eqGuard, binOp, Op.stringOp, eqB, Sem.run_bind]
theorem str_yes {xs ys : List UInt8} (h : xs = ys) : eqB .eql ((strB xs).toList == (strB ys).toList) = true := by subst h; simp [eqB]
theorem str_no {xs ys : List UInt8} (h : xs = ys) : eqB .neq ((strB xs).toList == (strB ys).toList) = false := by subst h; simp [eqB]
end
/-- A slice of bytes that is only read. -/
def slR (A : Option Addr) (c : Nat) (xs : List UInt8) : Res where
  foot b := xs ≠ [] ∧ ∃ a, A = some a ∧ a.block = b
  holds w := Sl w A c xs
  keep := fun {w w'} hk h => by
    refine ⟨⟨h.rd.1, h.rd.2.1, fun h0 => ?_⟩, h.cap, h.nil⟩
    obtain ⟨ad, rfl, hc⟩ := h.rd.2.2 h0
    refine ⟨ad, rfl, fun j p hj => ?_⟩
    obtain ⟨cs, h1, h2, h3⟩ := hc j p hj
    refine ⟨cs, h1, h2, fun i u hu => ?_⟩
    have h4 := h3 i u hu
    have hb : ∀ k, (ad.add k).block = ad.block := fun k => by unfold Addr.add; split <;> rfl
    have hlt : ad.block < w.heap.size := by
      rcases Nat.lt_or_ge ad.block w.heap.size with h' | h'
      · exact h'
      · rw [World.cell?, hb, Array.getElem?_eq_none h'] at h4; cases h4
    rw [← h4]
    refine World.cell?_of_block ?_
    rw [hb]
    exact hk ad.block ⟨fun e => by rw [e] at h0; exact absurd h0 (by decide), ad, rfl, rfl⟩ hlt
  lt := fun {w} h b hb => by
    obtain ⟨hne, ad, rfl, rfl⟩ := hb
    have h0 : 0 < xs.length := by
      cases xs with
      | nil => exact absurd rfl hne
      | cons => simp
    obtain ⟨ad', e, hc⟩ := h.rd.2.2 h0
    obtain rfl := Option.some.inj e
    obtain ⟨cs, h1, h2, h3⟩ := hc 0 _ (List.getElem?_eq_getElem h0)
    have h4 := h3 0 (.int .u8 (bv xs[0])) (by rw [show cs = [.int .u8 (bv xs[0])] from h2]; rfl)
    have hb : ∀ k, (ad.add k).block = ad.block := fun k => by unfold Addr.add; split <;> rfl
    rcases Nat.lt_or_ge ad.block w.heap.size with h' | h'
    · exact h'
    · rw [World.cell?, hb, Array.getElem?_eq_none h'] at h4; cases h4
section
variable {w0 w : World} {F : Nat → Prop} {L : List Res} {ops : Array Oper} {Q : Exit → Act → World → Prop} {rest : List Oper} {l : List Value} {d ty g n c : Nat} {pos : String} {after : Array Edge} {x : Operand} {xs : List UInt8}
/-- []byte of a constant string, behind its literal. -/
theorem St.wConvC (HS : St w0 F w (blk g (nums .u8 (xs.map bv)) 5 :: L)) (hx : evl l x = .slice (some ⟨g, 0, none⟩) n c) (hn : xs.length ≤ c) (hm : xs.length ≤ 1000000)
    (h : ∀ w', St w0 F w' (slR (some ⟨g, 0, none⟩) c xs :: L) → wpList Try.prog ops Q rest (fr (l.set d (.slice (some ⟨g, 0, none⟩) n c))) w') : wpList Try.prog ops Q (⟨some d, .convert 24 24 x, ty, pos, after, none⟩ :: rest) (fr l) w := by
  have hg : w.heap[g]? = some (.cells (nums .u8 (xs.map bv)).toArray 5 (0, 0)) := HS.hs.head
  have hlt := (Array.getElem?_eq_some_iff.1 hg).1
  have hv : w.heap[g] = .cells (nums .u8 (xs.map bv)).toArray 5 (0, 0) := (Array.getElem?_eq_some_iff.1 hg).2
  generalize hN : (nums .u8 (xs.map bv)).toArray.size = N at *
  have hsh : w.shape? g = some (5, N) := by unfold World.shape?; rw [hg]; simp [← hN]
  have hr : (convert 24 24 (.slice (some ⟨g, 0, none⟩) n c)).run Try.prog w = .ok (.slice (some ⟨g, 0, none⟩) n c) (w.freeze ⟨g, N, none⟩ 1) := by
    simp [convert, run_underlying Try.underlying24, run_underlying Try.underlying5, markStringish, hsh]
  refine m_make (v := .slice (some ⟨g, 0, none⟩) n c) (w' := w.freeze ⟨g, N, none⟩ 1) (by simp [execOp, hx, hr, Sem.run_bind]) (h _ ?_)
  have hb : ∀ b, b ≠ g → (w.freeze ⟨g, N, none⟩ 1).heap[b]? = w.heap[b]? := by
    intro b hb
    unfold World.freeze
    rw [if_neg (by decide)]
    show (w.heap.modify g _)[b]? = _
    rw [Array.getElem?_modify, if_neg (fun e => hb e.symm)]
  have hgn : ∃ q, (w.freeze ⟨g, N, none⟩ 1).heap[g]? = some (.cells (nums .u8 (xs.map bv)).toArray 5 q) := by
    unfold World.freeze
    rw [if_neg (by decide)]
    show ∃ q, (w.heap.modify g _)[g]? = _
    rw [Array.getElem?_modify, if_pos rfl, hg]
    exact ⟨_, rfl⟩
  obtain ⟨q, hgn⟩ := hgn
  refine HS.turn ?_ ?_ ?_ ⟨?_, fun b _ hb' => hb b (fun e => hb' e)⟩ ?_ (fun b hb' => .inl ?_)
  · unfold World.freeze; rw [if_neg (by decide)]
  · unfold World.freeze; rw [if_neg (by decide)]
  · unfold World.freeze; rw [if_neg (by decide)]
  · unfold World.freeze; rw [if_neg (by decide)]; simp
  · refine ⟨⟨rfl, by omega, fun h0 => ⟨_, rfl, fun j p hj => ⟨[.int .u8 (bv p)], rfl, rfl, fun i u hu => ?_⟩⟩⟩, hn, fun h => by cases h⟩
    have hi : i = 0 := by
      rcases i with _ | i
      · rfl
      · simp at hu
    subst hi
    obtain rfl : Value.int .u8 (bv p) = u := by simpa using hu
    have hsz : kByte.sz = 1 := rfl
    rw [hsz, Nat.mul_one, Nat.add_zero, add_mk, Nat.zero_add]
    show World.cell? _ _ = _
    unfold World.cell?
    rw [hgn]
    have h5 : (nums .u8 (xs.map bv))[j]? = some (.int .u8 (bv p)) := by unfold nums; rw [List.getElem?_map, List.getElem?_map, hj]; rfl
    simpa using h5
  · obtain ⟨-, a, ha, rfl⟩ := hb'
    obtain rfl := Option.some.inj ha
    rfl
end
end Go.Proofs.Ytenlkobjldhfgaa
