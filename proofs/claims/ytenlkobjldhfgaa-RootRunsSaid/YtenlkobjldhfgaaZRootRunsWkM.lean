/- Walks step by step: memory. -/
import Derived.Test.YtenlkobjldhfgaaZRootRunsWk
import Derived.Test.YtenlkobjldhfgaaZRootRunsWds0
import Derived.Laws.CopyOwn
import Derived.Laws.MakeOwn
set_option linter.unusedVariables false
set_option linter.unusedSimpArgs false
namespace Go.Proofs.Ytenlkobjldhfgaa
open Go.RowKit Go.Proofs.YtenlkobjldhfgaaW.PrintWords Go.Proofs.YtenlkobjldhfgaaW.PrintLast
def lay (cs : List Value) (k : Nat) (us : List Value) : List Value := cs.take k ++ us ++ cs.drop (k + us.length)
theorem lay_all (cs us : List Value) (h : us.length = cs.length) : lay cs 0 us = us := by
 unfold lay
 simp [h]
theorem lay_step (cur : List Value) (n : Nat) (v : Value) (rest : List Value) (h : n < cur.length) : lay (cur.set n v) (n + 1) rest = lay cur n (v :: rest) := by
 unfold lay
 have e : cur.set n v = cur.take n ++ v :: cur.drop (n + 1) := by rw [List.set_eq_take_append_cons_drop, if_pos h]
 have hl : (cur.take n).length = n := by simp; omega
 have h1 : (cur.take n ++ v :: cur.drop (n + 1)).take (n + 1) = cur.take n ++ [v] := by
  rw [List.take_append, hl, List.take_of_length_le (by omega)]
  simp
 have h2 : (cur.take n ++ v :: cur.drop (n + 1)).drop (n + 1 + rest.length) = cur.drop (n + (v :: rest).length) := by
  rw [List.drop_append, hl, List.drop_of_length_le (by omega), show n + 1 + rest.length - n = rest.length + 1 by omega]
  simp
  congr 1
  omega
 rw [e, h1, h2]
 simp
section
variable {P : Program} {ops : Array Oper} {Q : Exit → Act → World → Prop} {rest : List Oper} {l l' : List Value} {w : World} {d ty : Nat} {pos : String} {after : Array Edge} {x y : Operand} {op : Op} {v : Value}
theorem run_oneT {t : TypeId} (h : oneT P t = true) : (isAgg t).run P w = .ok false w := by
 unfold oneT at h
 cases hu : P.underlying t with
 | none => simp [hu] at h
 | some de => cases de <;> simp [hu] at h <;> simp [isAgg, underlying, hu, Sem.run_bind]
theorem run_aggT {t : TypeId} (h : aggT P t = true) : (isAgg t).run P w = .ok true w := by
 unfold aggT at h
 cases hu : P.underlying t with
 | none => simp [hu] at h
 | some de => cases de <;> simp [hu] at h <;> simp [isAgg, underlying, hu, Sem.run_bind]
theorem run_loadVar_one {t : TypeId} (h : oneT P t = true) {ad : Addr} {u : Value} (hc : w.cell? ad = some u) : (loadVar t ad).run P w = .ok u w := by
 simp [loadVar, Sem.run_bind, run_oneT h, hc]
theorem run_loadVar_agg {t : TypeId} (h : aggT P t = true) {ad : Addr} {us : List Value} (hz : (P.info? t).map (·.size) = some us.length) (hc : ∀ j v, us[j]? = some v → w.cell? (ad.add j) = some v) : (loadVar t ad).run P w = .ok (.agg us.toArray) w := by
 have hl := run_loadCells_list (P := P) w ad us hc
 cases hq : P.info? t with
 | none => simp [hq] at hz
 | some i =>
  have hs : i.size = us.length := by simpa [hq] using hz
  simp [loadVar, Sem.run_bind, run_aggT h, sizeOf, typeInfo, hq, hs, hl]
theorem run_loadVar_aggn {t : TypeId} (h : aggT P t = true) {ad : Addr} (us : List Value) (n : Nat) (hz : (P.info? t).map (·.size) = some n) (hn : us.length = n) (hc : ∀ j v, us[j]? = some v → w.cell? (ad.add j) = some v) : (loadVar t ad).run P w = .ok (.agg us.toArray) w := run_loadVar_agg h (hn ▸ hz) hc
theorem all1 {u : Value} {us : List Value} (h1 : u.oneCell' = true) (h2 : us.all (·.oneCell') = true) : (u :: us).all (·.oneCell') = true := by rw [List.all_cons, h1, h2]; rfl
theorem x_funcs {ρ : Operand → Value} {o : Oper} {fn : Fn} {C : List Operand} (cap : List Value) (ho : o.op = .makeFunc fn #[] C.toArray) (hC : C.map ρ = cap) : (execOp ρ o).run P w = .ok (.value (.func fn #[] cap.toArray)) w := by
 subst hC
 simp [execOp, ho, Instr.makeFunc]
theorem x_load {ρ : Operand → Value} {o : Oper} {t : Nat} {ad : Addr} (u : Value) (ho : o.op = .load t x) (hx : ρ x = .pointer (some ad)) (hc : w.cell? ad = some u) (hna : oneT P t = true) : (execOp ρ o).run P w = .ok (.value u) w := by
 simp [execOp, ho, hx, Instr.loadAt, Instr.sureAddr, run_loadVar_one hna hc, Sem.run_bind]
theorem x_loads {ρ : Operand → Value} {o : Oper} {t : Nat} {ad : Addr} (us : List Value) (n : Nat) (ho : o.op = .load t x) (hx : ρ x = .pointer (some ad)) (hc : ∀ j v, us[j]? = some v → w.cell? (ad.add j) = some v) (hna : aggT P t = true) (hz : (P.info? t).map (·.size) = some n) (hn : us.length = n) : (execOp ρ o).run P w = .ok (.value (.agg us.toArray)) w := by
 simp [execOp, ho, hx, Instr.loadAt, Instr.sureAddr, run_loadVar_agg hna (hn ▸ hz) hc, Sem.run_bind]
theorem fr_at (hl : l = l') (h : Q .normal (fr l') w) : Q .normal (fr l) w := hl ▸ h
theorem fr_to (hl : l = l') (h : wpList P ops Q rest (fr l') w) : wpList P ops Q rest (fr l) w := hl ▸ h
theorem run_storeCells_at (g k : Nat) (t : TypeId) : ∀ (vs : List Value) (i : Nat) (cur : List Value) (w : World), w.heap[g]? = some (.cells cur.toArray t (0, 0)) → k + i + vs.length ≤ cur.length → (∀ v ∈ vs, v.oneCell' = true) →
  (storeCells ⟨g, k, none⟩ vs i).run P w = .ok () (w.setRow g (lay cur (k + i) vs).toArray)
 | [], i, cur, w, hg, hl, _ => by
  have hlt : g < w.heap.size := (Array.getElem?_eq_some_iff.1 hg).1
  have hv : w.heap[g] = .cells cur.toArray t (0, 0) := (Array.getElem?_eq_some_iff.1 hg).2
  have e : lay cur (k + i) [] = cur := by unfold lay; simp
  rw [e]
  show Result.ok () w = _
  congr 1
  unfold World.setRow
  cases w with
  | mk heap tape drawn os output =>
   congr 1
   apply Array.ext
   ·simp
   ·intro k h1 h2
    simp only [Array.getElem_modify]
    split
    ·rename_i hk; subst hk; simp at hv; simp [hv]
    ·rfl
 | v :: rest, i, cur, w, hg, hl, h1 => by
  have hi : k + i < cur.length := by simp at hl; omega
  have hadd : (⟨g, k, none⟩ : Addr).add i = ⟨g, k + i, none⟩ := by unfold Addr.add; simp
  have hcell : w.cell? ⟨g, k + i, none⟩ = some cur[k + i] := by simp [World.cell?, hg, hi]
  have hfro : w.frozen? ⟨g, k + i, none⟩ = false := by simp [World.frozen?, hg]
  have hst : (store ((⟨g, k, none⟩ : Addr).add i) v).run P w = .ok () (w.setRow g (cur.set (k + i) v).toArray) := by
   rw [hadd, run_store P w _ v _ (h1 v (by simp)), hcell]
   simp [hfro, setCell_eq_setRow w g (k + i) cur.toArray t (0, 0) v hg]
  have ih := run_storeCells_at g k t rest (i + 1) (cur.set (k + i) v) (w.setRow g (cur.set (k + i) v).toArray) (setRow_heap w g cur.toArray _ t _ hg) (by simp at hl ⊢; omega) (fun x hx => h1 x (by simp [hx]))
  simp only [storeCells, Sem.run_bind, hst, Result.andThen_ok, ih, setRow_setRow]
  congr 3
  exact lay_step cur (k + i) v rest hi
end
section
variable {P : Program} {ops : Array Oper} {Q : Exit → Act → World → Prop} {rest : List Oper} {l l' : List Value} {w w0 : World} {F : Nat → Prop} {L : List Res} {d ty g k : Nat} {pos : String} {after : Array Edge} {x y : Operand} {op : Op} {v : Value} {t t0 : TypeId} {cs cs' us : List Value}
theorem bkCells (h : (blk g cs t0).holds w) (k : Nat) (us : List Value) (hd : (cs.drop k).take us.length = us) : ∀ j v, us[j]? = some v → w.cell? ((⟨g, k, none⟩ : Addr).add j) = some v := by
 intro j v hj
 have hadd : (⟨g, k, none⟩ : Addr).add j = ⟨g, k + j, none⟩ := by unfold Addr.add; simp
 rw [hadd]
 refine bkCell h _ _ ?_
 rw [← hd, List.getElem?_take] at hj
 split at hj
 ·rwa [List.getElem?_drop] at hj
 ·cases hj
theorem value_one {u : Value} (h : u.oneCell' = true) : u.cells = #[u] := by cases u <;> first | rfl | cases h
theorem St.store (HS : St w0 F w (blk g cs t0 :: L)) (u : Value) (hx : evl l x = .pointer (some ⟨g, k, none⟩)) (hy : evl l y = u) (h1 : u.oneCell' = true) (hz : (P.info? t).map (·.size) = some 1) (hk : (decide (k < cs.length)) = true) (hs : cs.set k u = cs')
  (h : ∀ w', St w0 F w' (blk g cs' t0 :: L) → wpList P ops Q rest (fr l) w') : wpList P ops Q (⟨none, .store t x y, ty, pos, after, none⟩ :: rest) (fr l) w := by
 refine wpList_plain rfl (fun K hK => ?_)
 unfold Oper.wp
 have hg : w.heap[g]? = some (.cells cs.toArray t0 (0, 0)) := HS.hs.head
 have hk' := of_decide_eq_true hk
 have hcell : w.cell? ⟨g, k, none⟩ = some cs[k] := by simp [World.cell?, hg, hk']
 have hfro : w.frozen? ⟨g, k, none⟩ = false := by simp [World.frozen?, hg]
 have hadd : (⟨g, k, none⟩ : Addr).add 0 = ⟨g, k, none⟩ := by unfold Addr.add; simp
 have hst : (storeVar t ⟨g, k, none⟩ u).run P w = .ok () (w.setCell ⟨g, k, none⟩ u) := by
  cases hq : P.info? t with
  | none => simp [hq] at hz
  | some i =>
   have hs' : i.size = 1 := by simpa [hq] using hz
   simp [storeVar, sizeOf, typeInfo, hq, hs', value_one h1, storeCells, hadd, run_store P w _ u _ h1, hcell, hfro]
 have hr : (execOp (fr l).eval ⟨none, .store t x y, ty, pos, after, none⟩).run P w = .ok .skip (w.setCell ⟨g, k, none⟩ u) := by
  rw [evl_fun]
  simp [execOp, hx, hy, Instr.storeAt, Instr.sureAddr, Sem.run_bind, hst]
 rw [hr, Oper.upon_skip]
 refine hK _ _ (h _ ?_)
 rw [← hs]
 exact HS.set k u
theorem St.stores (HS : St w0 F w (blk g cs t0 :: L)) (us : List Value) (n : Nat) (hx : evl l x = .pointer (some ⟨g, k, none⟩)) (hy : evl l y = .agg us.toArray) (h1 : us.all (·.oneCell') = true) (hz : (P.info? t).map (·.size) = some n) (hn : us.length = n) (hk : k + us.length ≤ cs.length) (hs : lay cs k us = cs')
  (h : ∀ w', St w0 F w' (blk g cs' t0 :: L) → wpList P ops Q rest (fr l) w') : wpList P ops Q (⟨none, .store t x y, ty, pos, after, none⟩ :: rest) (fr l) w := by
 subst hn
 refine wpList_plain rfl (fun K hK => ?_)
 unfold Oper.wp
 have hg : w.heap[g]? = some (.cells cs.toArray t0 (0, 0)) := HS.hs.head
 have hst : (storeVar t ⟨g, k, none⟩ (.agg us.toArray)).run P w = .ok () (w.setRow g (lay cs k us).toArray) := by
  have := run_storeCells_at (P := P) g k t0 us 0 cs w hg (by omega) (fun v hv => List.all_eq_true.1 h1 v hv)
  cases hq : P.info? t with
  | none => simp [hq] at hz
  | some i =>
   have hs' : i.size = us.length := by simpa [hq] using hz
   simpa [storeVar, sizeOf, typeInfo, hq, Value.cells, hs', Sem.run_bind] using this
 have hr : (execOp (fr l).eval ⟨none, .store t x y, ty, pos, after, none⟩).run P w = .ok .skip (w.setRow g (lay cs k us).toArray) := by
  rw [evl_fun]
  simp [execOp, hx, hy, Instr.storeAt, Instr.sureAddr, Sem.run_bind, hst]
 rw [hr, Oper.upon_skip]
 refine hK _ _ (h _ ?_)
 rw [← hs]
 exact HS.setRow _
theorem St.new (HS : St w0 F w L) (cs : List Value) (t : TypeId) : w0.heap.size ≤ w.heap.size ∧ St w0 F (w.alloc (.cells cs.toArray t)) (blk w.heap.size cs t :: L) := ⟨HS.size, HS.alloc cs t⟩
theorem m_make {v : Value} {w' : World} (hr : (execOp (evl l) ⟨some d, op, ty, pos, after, none⟩).run P w = .ok (.value v) w') (h : wpList P ops Q rest (fr (l.set d v)) w') : wpList P ops Q (⟨some d, op, ty, pos, after, none⟩ :: rest) (fr l) w := by
 refine wpList_plain rfl (fun K hK => ?_)
 unfold Oper.wp
 rw [evl_fun, hr, Oper.upon_value]
 refine hK _ _ ?_
 rw [fr_put]
 exact h
theorem run_newRow (t : TypeId) (cells : Array Value) : (newRow t cells).run P w = .ok ⟨w.heap.size, 0, none⟩ (w.alloc (.cells cells t)) := by
 simp [newRow, go_sem]
theorem St.wAlloc (HS : St w0 F w L) (z : Value) (hz : (P.info? t).map (·.zero) = some (some z)) (hcs : z.cells.toList = cs)
  (h : ∀ g w', w0.heap.size ≤ g → St w0 F w' (blk g cs t :: L) → wpList P ops Q rest (fr (l.set d (.pointer (some ⟨g, 0, none⟩)))) w') : wpList P ops Q (⟨some d, .alloc t, ty, pos, after, none⟩ :: rest) (fr l) w := by
 have hz' : (zeroValue t).run P w = .ok z w := by
  cases hq : P.info? t with
  | none => simp [hq] at hz
  | some i =>
   have : i.zero = some z := by simpa [hq] using hz
   simp [zeroValue, typeInfo, hq, this, Sem.run_bind]
 have e : z.cells = cs.toArray := by rw [← hcs]
 refine m_make (v := .pointer (some ⟨w.heap.size, 0, none⟩)) (w' := w.alloc (.cells cs.toArray t)) ?_ (h _ _ HS.size (HS.alloc cs t))
 simp [execOp, Instr.alloc, Sem.run_bind, hz', newVar, run_newRow, e]
theorem St.wBox (HS : St w0 F w L) (v : Value) (hx : evl l x = v) (hcs : v.cells = cs.toArray)
  (h : ∀ g w', w0.heap.size ≤ g → St w0 F w' (blk g cs t :: L) → wpList P ops Q rest (fr (l.set d (.pointer (some ⟨g, 0, none⟩)))) w') : wpList P ops Q (⟨some d, .box t x, ty, pos, after, none⟩ :: rest) (fr l) w := by
 refine m_make (v := .pointer (some ⟨w.heap.size, 0, none⟩)) (w' := w.alloc (.cells cs.toArray t)) ?_ (h _ _ HS.size (HS.alloc cs t))
 simp [execOp, Instr.box, Sem.run_bind, newVar, run_newRow, hx, hcs]
theorem St.wLit (HS : St w0 F w L) {e n : Nat} {parts : Array (Nat × Operand)} (sz : Nat) (z : Value) (ht : P.underlying t = some (.slice e)) (hz : (P.info? e).map (fun i => (i.zero, i.size)) = some (some z, sz)) (hn : (decide (n * sz ≤ 16777216 ∧ n * sz ≠ 0)) = true)
  (hf : Instr.fill (fun i => some (i * sz, sz)) ((Array.range (n * sz)).map (z.cells[· % z.cells.size]!)) (parts.map fun (i, x) => (i, evl l x)).toList = some cs.toArray)
  (h : ∀ g w', w0.heap.size ≤ g → St w0 F w' (blk g cs e :: L) → wpList P ops Q rest (fr (l.set d (.slice (some ⟨g, 0, none⟩) n n))) w') : wpList P ops Q (⟨some d, .buildSlice t n parts, ty, pos, after, none⟩ :: rest) (fr l) w := by
 refine m_make (v := .slice (some ⟨w.heap.size, 0, none⟩) n n) (w' := w.alloc (.cells cs.toArray e)) ?_ (h _ _ HS.size (HS.alloc cs e))
 obtain ⟨h1, h2⟩ := of_decide_eq_true hn
 cases hq : P.info? e with
 | none => simp [hq] at hz
 | some i =>
  have hz' : i.zero = some z ∧ i.size = sz := by simpa [hq] using hz
  obtain ⟨a, b⟩ := hz'
  have h1' : ¬ (16777216 < n * sz) := by omega
  simp only [Array.toList_map] at hf
  simp [execOp, Instr.buildSlice, underlying, ht, sizeOf, typeInfo, hq, a, b, zeroValue, Sem.run_bind, h1', h2, run_newRow]
  simp only [hf]
  simp [Sem.run_bind, run_newRow]
theorem fold_lay (off : Nat) : ∀ (us : List Value) (k : Nat) (cs : List Value), off + k + us.length ≤ cs.length → (us.zipIdx k).foldl (fun (cs : Array Value) (x : Value × Nat) => cs.setIfInBounds (off + x.2) x.1) cs.toArray = (lay cs (off + k) us).toArray
 | [], k, cs, h => by simp [lay]
 | u :: us, k, cs, h => by
  have hk : off + k < cs.length := by simp at h; omega
  rw [List.zipIdx_cons, List.foldl_cons, ← lay_step cs (off + k) u us hk]
  show List.foldl _ (cs.toArray.setIfInBounds (off + k) u) _ = _
  rw [List.setIfInBounds_toArray]
  exact fold_lay off us (k + 1) _ (by simp at h ⊢; omega)
theorem fill_cons {place : Nat → Option (Nat × Nat)} {cs us : List Value} {i off n : Nat} {v : Value} {rest : List (Nat × Value)} (hpl : place i = some (off, n)) (hv : v.cells = us.toArray) (hn : us.length = n) (hle : off + n ≤ cs.length) : Instr.fill place cs.toArray ((i, v) :: rest) = Instr.fill place (lay cs off us).toArray rest := by
 subst hn
 have h := fold_lay off us 0 cs (by omega)
 have h2 : us.toArray.zipIdx.foldl (fun (cs : Array Value) (x : Value × Nat) => cs.setIfInBounds (off + x.2) x.1) cs.toArray = (lay cs off us).toArray := by
  rw [← Array.foldl_toList]
  simpa using h
 conv => lhs; unfold Instr.fill
 simp only [hpl, hv]
 rw [if_neg (by simp; omega)]
 exact congrArg (fun c => Instr.fill place c rest) h2
theorem x_builds {ρ : Operand → Value} {o : Oper} {t : Nat} {parts : List (Nat × Operand)} (pv : List (Nat × Value)) (fs : Array Field) (z : List Value) (places : List (Nat × Nat)) (cs : List Value) (ho : o.op = .build t parts.toArray) (hpv : parts.map (fun p => (p.1, ρ p.2)) = pv)
  (hu : P.underlying t = some (.struct fs)) (hz : (P.info? t).map (·.zero) = some (some (.agg z.toArray))) (hp : fs.toList.mapM (fun f => (P.info? f.type).map fun i => (f.offset, i.size)) = some places) (hf : Instr.fill (places.toArray[·]?) z.toArray pv = some cs.toArray) : (execOp ρ o).run P w = .ok (.value (.agg cs.toArray)) w := by
 refine x_build cs ho ?_
 subst hpv
 cases hit : P.info? t with
 | none => simp [hit] at hz
 | some it =>
  have hz' : it.zero = some (.agg z.toArray) := by simpa [hit] using hz
  unfold Program.built
  simp only [hit, hu, hz', hp]
  have e : (Array.map (fun x : Nat × Operand => (x.1, ρ x.2)) parts.toArray).toList = parts.map (fun p => (p.1, ρ p.2)) := by simp
  rw [← e] at hf
  exact hf
theorem St.wLit1 (HS : St w0 F w L) {e : Nat} {po : Operand} (us : List Value) (sz : Nat) (z v : Value) (ht : P.underlying t = some (.slice e)) (hz : (P.info? e).map (fun i => (i.zero, i.size)) = some (some z, sz)) (hn : (decide (sz ≤ 16777216 ∧ sz ≠ 0)) = true) (hx : evl l po = v) (hv : v.cells = us.toArray) (hl : us.length = sz)
  (h : ∀ g w', w0.heap.size ≤ g → St w0 F w' (blk g us e :: L) → wpList P ops Q rest (fr (l.set d (.slice (some ⟨g, 0, none⟩) 1 1))) w') : wpList P ops Q (⟨some d, .buildSlice t 1 #[(0, po)], ty, pos, after, none⟩ :: rest) (fr l) w := by
 refine St.wLit HS (cs := us) sz z ht hz (by simpa using hn) ?_ h
 have hl1 : ((Array.range (1 * sz)).map (z.cells[· % z.cells.size]!)).toList.length = sz := by simp
 have e1 : ((Array.range (1 * sz)).map (z.cells[· % z.cells.size]!)) = ((Array.range (1 * sz)).map (z.cells[· % z.cells.size]!)).toList.toArray := (Array.toArray_toList).symm
 rw [e1]
 have e2 : (Array.map (fun x : Nat × Operand => (x.1, evl l x.2)) #[(0, po)]).toList = [(0, v)] := by simp [hx]
 show Instr.fill _ _ (Array.map (fun x : Nat × Operand => (x.1, evl l x.2)) #[(0, po)]).toList = _
 rw [e2, fill_cons (off := 0) (n := sz) (by simp) hv hl (by omega), lay_all _ _ (by omega)]
 rfl
theorem row_one {α : Type} {D : Kd α} {hE : D.E = []} {e : TypeId} {u : Value} {xs : List α} (h : (row D hE e u xs).holds w) : u.oneCell' = true := by
 obtain ⟨A, c, rfl, -, -⟩ := row_reads h
 rfl
theorem lit_reads {α : Type} {d : Kd α} {xs : List α} (h : (blk g cs t0).holds w) (hrep : Reps (d.K w) d.sz xs cs) (hm : xs.length ≤ 9223372036854775807) : d.C w (some ⟨g, 0, none⟩) xs.length xs := by
 refine ⟨rfl, hm, fun _ => ⟨_, rfl, fun j p hj => ⟨(cs.drop (j * d.sz)).take d.sz, ?_, hrep.2 j p hj, fun i u hu => ?_⟩⟩⟩
 ·have h1 := hrep.1
  have h2 : j < xs.length := (List.getElem?_eq_some_iff.1 hj).1
  have h3 : (j + 1) * d.sz ≤ xs.length * d.sz := Nat.mul_le_mul_right _ h2
  rw [Nat.succ_mul] at h3
  rw [List.length_take, List.length_drop]
  omega
 ·have hadd : (⟨g, 0, none⟩ : Addr).add (j * d.sz + i) = ⟨g, j * d.sz + i, none⟩ := by
   unfold Addr.add
   split
   ·rename_i e; rw [e]
   ·simp
  rw [hadd]
  refine bkCell h _ _ ?_
  rw [List.getElem?_take] at hu
  split at hu
  ·rwa [List.getElem?_drop] at hu
  ·cases hu
theorem St.wAppend {α : Type} {D : Kd α} {hE : D.E = []} {e t : Nat} {u : Value} {xs : List α} (HS : St w0 F w (row D hE e u xs :: L)) (z : Value) (bytes : Nat) (ht : P.underlying t = some (.slice e)) (hinfo : (P.info? e).map (fun i => (i.zero, i.size, i.bytes)) = some (some z, D.sz, bytes)) (hz : z.cells.size = D.sz) (hs0 : 0 < D.sz) (hb0 : 0 < bytes)
  (ys : List α) (A : Option Addr) (m c : Nat) (hs : evl l x = u) (hx : evl l y = .slice A m c) (hr : D.C w A m ys) (hKM : ∀ x cs, D.K w x cs → D.M w 0 (fun _ => False) x cs) (hl : (xs.length + m) * bytes ≤ 140737488355328)
  (hk : ∀ v1 w1, St w0 F w1 (row D hE e v1 (xs ++ ys) :: L) → wpList P ops Q rest (fr (l.set d v1)) w1) : wpList P ops Q (⟨some d, .call { callee := .builtin .append, args := #[x, y], argTypes := #[t, t] }, ty, pos, after, none⟩ :: rest) (fr l) w := by
 refine St.appends HS rfl x y t z bytes rfl ht hinfo hz hs0 hb0 ys A m c ((evl_eq _ _).trans hs) ((evl_eq _ _).trans hx) hr hKM hl ?_
 intro v1 w1 h1
 show wpList P ops Q rest ((fr l).put (some d) v1) w1
 rw [fr_put]
 exact hk v1 w1 h1
theorem add_mk (g a b : Nat) : (⟨g, a, none⟩ : Addr).add b = ⟨g, a + b, none⟩ := by
 unfold Addr.add
 split
 ·rename_i e; rw [e]; rfl
 ·rfl
theorem x_shr {ρ : Operand → Value} {o : Oper} {t t2 : Nat} {k k2 : IntKind} {m n : Int} (z : Int) (ho : o.op = .binOp .shr t x y t2) (hx : ρ x = .int k m) (hy : ρ y = .int k2 n) (h0 : 0 ≤ n) (hz : m / 2 ^ min n.toNat k.bits = z) : (execOp ρ o).run P w = .ok (.value (.int k z)) w := by
 have h1 : ¬ n < 0 := by omega
 have e : m.fdiv (2 ^ min n.toNat k.bits) = m / 2 ^ min n.toNat k.bits := Int.fdiv_eq_ediv_of_nonneg m (Int.pow_nonneg (by omega))
 simp [execOp, ho, hx, hy, eqGuard, binOp, Op.shift, h1, e, hz]
theorem x_and {ρ : Operand → Value} {o : Oper} {t t2 : Nat} {k : IntKind} {m n : Int} (z : Int) (ho : o.op = .binOp .and t x y t2) (hx : ρ x = .int k m) (hy : ρ y = .int k n) (hz : k.wrap ((((m % 2 ^ k.bits).toNat &&& (n % 2 ^ k.bits).toNat : Nat)) : Int) = z) : (execOp ρ o).run P w = .ok (.value (.int k z)) w := by
 simp [execOp, ho, hx, hy, eqGuard, binOp, Op.intBits, hz]
theorem x_rem {ρ : Operand → Value} {o : Oper} {t t2 : Nat} {k : IntKind} {m n : Int} (z : Int) (ho : o.op = .binOp .rem t x y t2) (hx : ρ x = .int k m) (hy : ρ y = .int k n) (h0 : n ≠ 0) (hz : m.tmod n = z) : (execOp ρ o).run P w = .ok (.value (.int k z)) w := by
 simp [execOp, ho, hx, hy, eqGuard, binOp, Op.intDiv, h0, hz]
theorem St.wCopy (HS : St w0 F w (blk g cs t0 :: L)) {dT sT e dLen dCap sLen sCap : Nat} {A : Option Addr} (hu : P.underlying dT = some (.slice e)) (hsz : (P.info? e).map (·.size) = some 1) (hd : evl l x = .slice (some ⟨g, k, none⟩) dLen dCap) (hs : evl l y = .slice A sLen sCap)
  (us : List Value) (hn : us.length = Nat.min sLen dLen) (hsrc : us.length ≠ 0 → ∃ ad, A = some ad ∧ ∀ j v, us[j]? = some v → w.cell? (ad.add j) = some v) (hfit : k + us.length ≤ cs.length) (h1 : us.all (·.oneCell') = true) (hcs : lay cs k us = cs') {dd : Option Nat}
  (hk : ∀ w', St w0 F w' (blk g cs' t0 :: L) → wpList P ops Q rest ((fr l).put dd (.int .i64 (us.length : Int))) w') : wpList P ops Q (⟨dd, .call { callee := .builtin .copy, args := #[x, y], argTypes := #[dT, sT] }, ty, pos, after, none⟩ :: rest) (fr l) w := by
 subst hcs
 by_cases h0 : us.length = 0
 ·have e0 : us = [] := List.eq_nil_of_length_eq_zero h0
  subst e0
  refine wpList_copy_nothing rfl x y dT sT rfl e hu hsz _ _ _ _ _ _ ((evl_eq _ _).trans hd) ((evl_eq _ _).trans hs) hn.symm ?_
  refine hk w ?_
  have : lay cs k [] = cs := by simp [lay]
  rw [this]
  exact HS
 ·obtain ⟨ad, rfl, hc⟩ := hsrc h0
  refine wpList_copy_own rfl x y dT sT rfl e hu hsz g k dLen dCap ad sLen sCap ((evl_eq _ _).trans hd) ((evl_eq _ _).trans hs) cs.toArray t0 HS.hs.head us hn hc (by simpa using hfit) (fun v hv => List.all_eq_true.1 h1 v hv) ?_
  refine hk _ ?_
  have e1 : (cs.toArray.toList.take k ++ (us ++ cs.toArray.toList.drop (k + us.length))).toArray = (lay cs k us).toArray := by simp [lay]
  rw [e1]
  exact HS.setRow _
theorem w_callv {f : FuncId} {fn : Func} {as : List Operand} {ts : Array TypeId} {fo : Operand} (args cap : List Value) (hfo : evl l fo = .func (.func f) #[] cap.toArray) (hf : P.funcs[f]? = some fn) (hname : (fn.name == "runtime.NumGoroutine") = false) (hb : fn.body.isSome = true) (hargs : as.map (evl l) = args)
  (h : Calls P f (args ++ cap).toArray w fun e w' => ∃ v, e = .returned v ∧ wpList P ops Q rest (fr (l.set d v)) w') : wpList P ops Q (⟨some d, .call { callee := .value fo, args := as.toArray, argTypes := ts }, ty, pos, after, none⟩ :: rest) (fr l) w := by
 refine wpList_step (fun K hK => ?_)
 have hw : Region.wanted (⟨some d, .call { callee := .value fo, args := as.toArray, argTypes := ts }, ty, pos, after, none⟩ : Oper) (yielded ops (fr l).tmps) = true := by simp [Region.wanted]
 refine call_ f (args ++ cap).toArray hw rfl ?_ (h.mono ?_)
 ·have he := enters_ hf hname hb (args ++ cap).toArray w
  have ha : (as.toArray.map (evl l)) = args.toArray := by rw [← hargs]; simp
  rw [evl_fun]
  unfold execOp
  simp only [resolve, Deferred.ofValue, hfo, ha, Sem.run_bind]
  simpa [invoke] using he
 ·rintro e w' ⟨v, rfl, hv⟩
  exact ⟨v, rfl, hK _ _ (by rw [fr_put]; exact hv)⟩
theorem St.wMake (HS : St w0 F w L) {e n bytes : Nat} {k1 k2 : IntKind} (z : Value) (sz : Nat) (ht : P.underlying t = some (.slice e)) (hi : (P.info? e).map (fun i => (i.zero, i.size, i.bytes)) = some (some z, sz, bytes)) (hx : evl l x = .int k1 (n : Int)) (hy : evl l y = .int k2 (n : Int)) (hb : bytes * n ≤ 281474976710656) (hn : n ≤ 9223372036854775807)
  (h : ∀ g w', w0.heap.size ≤ g → St w0 F w' (blk g (madeCells z.cells (n * sz)).toList e :: L) → wpList P ops Q rest (fr (l.set d (.slice (some ⟨g, 0, none⟩) n n))) w') : wpList P ops Q (⟨some d, .makeSlice t x y, ty, pos, after, none⟩ :: rest) (fr l) w := by
 cases hq : P.info? e with
 | none => simp [hq] at hi
 | some i =>
  have hi' : i.zero = some z ∧ i.size = sz ∧ i.bytes = bytes := by simpa [hq] using hi
  obtain ⟨a, b, c⟩ := hi'
  have hr := run_make (P := P) w t e i z ht hq a k1 k2 (n : Int) (n : Int) (by omega) (by omega) (by rw [c, ← Int.natCast_mul]; exact Int.ofNat_le.2 hb) (by omega)
  refine m_make (v := .slice (some ⟨w.heap.size, 0, none⟩) n n) (w' := w.alloc (.cells (madeCells z.cells (n * sz)) e)) ?_ (h _ _ HS.size (by have := HS.alloc (madeCells z.cells (n * sz)).toList e; simpa using this))
  simp only [execOp, hx, hy]
  simp only [Int.toNat_natCast, b] at hr
  simp [Sem.run_bind, hr]
theorem w_call {f : FuncId} {fn : Func} {as : List Operand} {ts : Array TypeId} (args : List Value) (hf : P.funcs[f]? = some fn) (hname : (fn.name == "runtime.NumGoroutine") = false) (hb : fn.body.isSome = true) (hargs : as.map (evl l) = args)
  (h : Calls P f args.toArray w fun e w' => ∃ v, e = .returned v ∧ wpList P ops Q rest (fr (l.set d v)) w') : wpList P ops Q (⟨some d, .call { callee := .value (.func f), args := as.toArray, argTypes := ts }, ty, pos, after, none⟩ :: rest) (fr l) w := by
 refine wpList_step (fun K hK => ?_)
 refine goes_ (N := some d) hf hname hb args.toArray (by simp [Region.wanted]) rfl rfl (by rw [evl_fun, ← hargs]; simp) (h.mono ?_)
 rintro e w' ⟨v, rfl, hv⟩
 exact ⟨v, rfl, hK _ _ (by rw [fr_put]; exact hv)⟩
end
theorem whole (cs : List Value) : (cs.drop 0).take cs.length = cs := by simp
theorem nums_one (k : IntKind) (xs : List Int) : (nums k xs).all (·.oneCell') = true := by simp [nums, Value.oneCell']
theorem add_add (A : Addr) (i j : Nat) : (A.add i).add j = A.add (i + j) := by
 unfold Addr.add
 by_cases hi : i = 0 <;> by_cases hj : j = 0 <;> simp [hi, hj, Nat.add_assoc]
theorem getD_of {l : List Value} {t : Nat} {v : Value} (h : nth l t = v) : l[t]?.getD undef = v := by
 have := nth_getD l t
 rw [h] at this
 simpa using this
section
variable {P : Program} {l : List Value} {w : World} {fn : Func} {t u s ty ty2 : Nat} {ad ad2 : Addr} {v v' v'' : Value}
theorem r_c (h : fn.results = #[.cell t ty]) (hp : nth l t = .pointer (some ad)) (hv : (loadVar ty ad).run P w = .ok v w) : (results fn l.toArray).run P w = .ok v w := by
 have e1 := getD_of hp
 simp [results, h, e1, asAddr, hv, Sem.run_bind]
theorem r_ct (h : fn.results = #[.cell t ty, .tmp u]) (hp : nth l t = .pointer (some ad)) (hv : (loadVar ty ad).run P w = .ok v w) (hu : nth l u = v') : (results fn l.toArray).run P w = .ok (.tuple #[v, v']) w := by
 have e1 := getD_of hp
 have e2 := getD_of hu
 simp [results, h, e1, e2, asAddr, hv, Sem.run_bind]
theorem r_ctt (h : fn.results = #[.cell t ty, .tmp u, .tmp s]) (hp : nth l t = .pointer (some ad)) (hv : (loadVar ty ad).run P w = .ok v w) (hu : nth l u = v') (hs : nth l s = v'') : (results fn l.toArray).run P w = .ok (.tuple #[v, v', v'']) w := by
 have e1 := getD_of hp
 have e2 := getD_of hu
 have e3 := getD_of hs
 simp [results, h, e1, e2, e3, asAddr, hv, Sem.run_bind]
end
end Go.Proofs.Ytenlkobjldhfgaa
