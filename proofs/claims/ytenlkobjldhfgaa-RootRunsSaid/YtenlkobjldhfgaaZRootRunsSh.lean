/- Memory told by its parts: what a call holds, each part with the blocks that it stands on. -/
import Derived.Test.YtenlkobjldhfgaaZRootRunsWds0
import Derived.Laws.CopyOwn
import Derived.Laws.Rows
import Derived.Lib.Hide
set_option linter.unusedVariables false
namespace Go.Proofs.Ytenlkobjldhfgaa
open Go.RowKit Go.Proofs.YtenlkobjldhfgaaW.PrintWords
structure Halted (p : Prop) : Prop where
 go : p
structure Res where
 foot : Nat → Prop
 holds : World → Prop
 keep : ∀ {w w' : World}, (∀ b, foot b → b < w.heap.size → w'.heap[b]? = w.heap[b]?) → holds w → holds w'
 lt : ∀ {w : World}, holds w → ∀ b, foot b → b < w.heap.size
def Res.apart (r s : Res) : Prop := ∀ b, r.foot b → ¬ s.foot b
theorem Res.apart_symm {r s : Res} (h : r.apart s) : s.apart r := fun b hs hr => h b hr hs
def footL (L : List Res) (b : Nat) : Prop := ∃ r ∈ L, r.foot b
def Hs (w : World) (L : List Res) : Prop := (∀ r ∈ L, r.holds w) ∧ L.Pairwise Res.apart
structure St (w0 : World) (F : Nat → Prop) (w : World) (L : List Res) : Prop where
 os : w.os = w0.os
 tape : w.tape = w0.tape
 output : w.output = w0.output
 kept : Kept w0 w F
 hs : Hs w L
 mine : ∀ b, footL L b → F b ∨ w0.heap.size ≤ b
section
variable {w0 w w' : World} {F : Nat → Prop} {L R R' : List Res} {r s : Res}
theorem footL_cons {b : Nat} : footL (r :: L) b ↔ r.foot b ∨ footL L b := by
 constructor
 ·rintro ⟨x, hx, hb⟩
  rcases List.mem_cons.1 hx with rfl | hx
  ·exact .inl hb
  ·exact .inr ⟨x, hx, hb⟩
 ·rintro (h | ⟨x, hx, hb⟩)
  ·exact ⟨r, List.mem_cons_self, h⟩
  ·exact ⟨x, List.mem_cons_of_mem _ hx, hb⟩
theorem footL_append {b : Nat} : footL (R ++ L) b ↔ footL R b ∨ footL L b := by
 constructor
 ·rintro ⟨x, hx, hb⟩
  rcases List.mem_append.1 hx with hx | hx
  ·exact .inl ⟨x, hx, hb⟩
  ·exact .inr ⟨x, hx, hb⟩
 ·rintro (⟨x, hx, hb⟩ | ⟨x, hx, hb⟩)
  ·exact ⟨x, List.mem_append_left _ hx, hb⟩
  ·exact ⟨x, List.mem_append_right _ hx, hb⟩
theorem footL_nil {b : Nat} : ¬ footL [] b := by rintro ⟨x, hx, _⟩; cases hx
theorem footL_one {b : Nat} : footL [r] b ↔ r.foot b := by
 rw [footL_cons]
 exact ⟨fun h => h.elim id (fun h => (footL_nil h).elim), .inl⟩
theorem Hs.nil (w : World) : Hs w [] := ⟨fun r h => (by cases h), List.Pairwise.nil⟩
theorem Hs.cons (h : Hs w L) (hr : r.holds w) (ha : ∀ s ∈ L, r.apart s) : Hs w (r :: L) :=
 ⟨fun x hx => (List.mem_cons.1 hx).elim (fun e => e ▸ hr) (fun hx => h.1 x hx), List.pairwise_cons.2 ⟨ha, h.2⟩⟩
theorem Hs.head (h : Hs w (r :: L)) : r.holds w := h.1 r List.mem_cons_self
theorem Hs.tail (h : Hs w (r :: L)) : Hs w L := ⟨fun x hx => h.1 x (List.mem_cons_of_mem _ hx), (List.pairwise_cons.1 h.2).2⟩
theorem Hs.left (h : Hs w (R ++ L)) : Hs w R := ⟨fun x hx => h.1 x (List.mem_append_left _ hx), (List.pairwise_append.1 h.2).1⟩
theorem Hs.right (h : Hs w (R ++ L)) : Hs w L := ⟨fun x hx => h.1 x (List.mem_append_right _ hx), (List.pairwise_append.1 h.2).2.1⟩
theorem Hs.perm (h : Hs w L) (hp : L.Perm R) : Hs w R := ⟨fun x hx => h.1 x (hp.mem_iff.2 hx), (hp.pairwise_iff (fun h => Res.apart_symm h)).1 h.2⟩
theorem Hs.lt (h : Hs w L) : ∀ b, footL L b → b < w.heap.size := fun b ⟨r, hr, hb⟩ => r.lt (h.1 r hr) b hb
theorem Hs.keep (h : Hs w L) (hk : ∀ b, footL L b → b < w.heap.size → w'.heap[b]? = w.heap[b]?) : Hs w' L :=
 ⟨fun r hr => r.keep (fun b hb hlt => hk b ⟨r, hr, hb⟩ hlt) (h.1 r hr), h.2⟩
theorem Hs.both (h : Hs w R) (k : Hs w L) (ha : ∀ b, footL R b → ¬ footL L b) : Hs w (R ++ L) :=
 ⟨fun x hx => (List.mem_append.1 hx).elim (fun hx => h.1 x hx) (fun hx => k.1 x hx),
  List.pairwise_append.2 ⟨h.2, k.2, fun r hr s hs b hb hb2 => ha b ⟨r, hr, hb⟩ ⟨s, hs, hb2⟩⟩⟩
theorem Hs.apart_of (h : Hs w (R ++ L)) : ∀ b, footL R b → ¬ footL L b := fun b ⟨r, hr, hb⟩ ⟨s, hs, hb2⟩ => (List.pairwise_append.1 h.2).2.2 r hr s hs b hb hb2
theorem Hs.below (h : Hs w L) (hb : Below w.heap.size w w') : Hs w' L := h.keep (fun b _ hlt => hb.block b hlt)
theorem St.empty (w : World) : St w (fun _ => False) w [] := ⟨rfl, rfl, rfl, Kept.refl _ _, Hs.nil w, fun _ hb => (footL_nil hb).elim⟩
theorem St.get (h : St w0 F w L) (hm : r ∈ L) : r.holds w := h.hs.1 r hm
theorem St.size (h : St w0 F w L) : w0.heap.size ≤ w.heap.size := h.kept.1
theorem St.perm (h : St w0 F w L) (hp : L.Perm R) : St w0 F w R :=
 ⟨h.os, h.tape, h.output, h.kept, h.hs.perm hp, fun b ⟨r, hr, hb⟩ => h.mine b ⟨r, hp.mem_iff.2 hr, hb⟩⟩
theorem front_perm {α : Type _} {r : α} : ∀ {L : List α} {i : Nat}, L[i]? = some r → L.Perm (r :: L.eraseIdx i)
 | [], i, h => by simp at h
 | x :: L, 0, h => by
  have : x = r := by simpa using h
  subst this; exact List.Perm.refl _
 | x :: L, i + 1, h => by
  have h' : L[i]? = some r := by simpa using h
  exact ((front_perm h').cons x).trans (List.Perm.swap r x _)
theorem St.front (h : St w0 F w L) (i : Nat) (hi : L[i]? = some r) : St w0 F w (r :: L.eraseIdx i) := by
 exact h.perm (front_perm hi)
theorem St.drop (h : St w0 F w (r :: L)) : St w0 F w L := ⟨h.os, h.tape, h.output, h.kept, h.hs.tail, fun b hb => h.mine b (footL_cons.2 (.inr hb))⟩
theorem St.below (h : St w0 F w L) (hb : Below w.heap.size w w') : St w0 F w' L :=
 ⟨hb.os.trans h.os, hb.tape.trans h.tape, hb.output.trans h.output, h.kept.below hb, h.hs.below hb, h.mine⟩
theorem St.fresh (h : St w0 F w L) (hb : Below w.heap.size w w') (hr : r.holds w') (hf : ∀ b, r.foot b → w.heap.size ≤ b) : St w0 F w' (r :: L) :=
 have h1 := h.below hb
 ⟨h1.os, h1.tape, h1.output, h1.kept, h1.hs.cons hr (fun s hs b hb hb2 => absurd (h.hs.lt b ⟨s, hs, hb2⟩) (by have := hf b hb; omega)),
  fun b hb => (footL_cons.1 hb).elim (fun h2 => .inr (Nat.le_trans h.size (hf b h2))) (fun h2 => h1.mine b h2)⟩
theorem St.call (h : St w0 F w (R ++ L)) (k : St w (footL R) w' R') : St w0 F w' (R' ++ L) := by
 refine ⟨k.os.trans h.os, k.tape.trans h.tape, k.output.trans h.output, h.kept.then_ k.kept (fun b hb => h.mine b (footL_append.2 (.inl hb))), ?_, ?_⟩
 ·refine k.hs.both (h.hs.right.keep (fun b hb hlt => k.kept.2 b hlt (fun hR => h.hs.apart_of b hR hb))) (fun b hb hb2 => ?_)
  rcases k.mine b hb with h1 | h1
  ·exact h.hs.apart_of b h1 hb2
  ·have := h.hs.right.lt b hb2; omega
 ·intro b hb
  rcases footL_append.1 hb with h1 | h1
  ·rcases k.mine b h1 with h2 | h2
   ·exact h.mine b (footL_append.2 (.inl h2))
   ·exact .inr (Nat.le_trans h.size h2)
  ·exact h.mine b (footL_append.2 (.inr h1))
theorem St.turn (h : St w0 F w (r :: L)) (ho : w'.os = w.os) (ht : w'.tape = w.tape) (hp : w'.output = w.output) (hk : Kept w w' r.foot) (hs : s.holds w') (hf : ∀ b, s.foot b → r.foot b ∨ w.heap.size ≤ b) : St w0 F w' (s :: L) :=
 St.call (R := [r]) (R' := [s]) h ⟨ho, ht, hp, hk.mono (fun b hb => footL_one.2 hb), (Hs.nil _).cons hs (fun _ h => by cases h), fun b hb => (hf b (footL_one.1 hb)).imp_left footL_one.2⟩
theorem St.draw (h : St w0 F w L) : St w0 F w.drew L := h.below (below_drew (Below.refl _ _))
theorem St.belowOf (h : St w0 (fun _ => False) w L) : Below w0.heap.size w0 w := ⟨h.os, h.tape, h.output, h.kept.1, fun k hk => h.kept.2 k hk id⟩
end
def blk (g : Nat) (cs : List Value) (t : TypeId) : Res where
 foot b := b = g
 holds w := w.heap[g]? = some (.cells cs.toArray t (0, 0))
 keep := fun hk h => by
  have hlt := (Array.getElem?_eq_some_iff.1 h).1
  exact (hk g rfl hlt).trans h
 lt := fun h b hb => by
  have hlt := (Array.getElem?_eq_some_iff.1 h).1
  have : b = g := hb
  omega
def row {α : Type} (d : Kd α) (_hE : d.E = []) (e : TypeId) (v : Value) (xs : List α) : Res where
 foot b := v.ownBlock = some b
 holds w := d.R e w 0 (fun k => some k = v.ownBlock) v xs
 keep := fun hk h => Kd.R_step h (fun k ho hlt => hk k ho.symm hlt)
 lt := fun h b hb => Kd.R_lt h b hb
section
variable {w0 w w' : World} {F : Nat → Prop} {L R R' : List Res} {α : Type} {d : Kd α} {hE : d.E = []} {e : TypeId} {v : Value} {xs : List α} {g : Nat} {cs : List Value} {t : TypeId}
theorem rowOf_ {base : Nat} {ok : Nat → Prop} (h : d.R e w base ok v xs) : (row d hE e v xs).holds w := Kd.R_lower (Kd.R_tight hE h) (Nat.zero_le _)
theorem row_reads (h : (row d hE e v xs).holds w) : ∃ A c, v = .slice A xs.length c ∧ xs.length ≤ c ∧ d.C w A xs.length xs := Kd.R_reads h
theorem row_own (h : (row d hE e v xs).holds w) : d.R e w 0 (fun _ => True) v xs := Kd.R_mono h (fun _ _ => trivial)
theorem St.made {ok : Nat → Prop} (h : St w0 F w L) (hb : Below w.heap.size w w') (ho : d.R e w' w.heap.size ok v xs) : St w0 F w' (row d hE e v xs :: L) :=
 h.fresh hb (rowOf_ ho) (fun b hb => Kd.R_base ho b hb)
theorem St.alloc (h : St w0 F w L) (cs : List Value) (t : TypeId) : St w0 F (w.alloc (.cells cs.toArray t)) (blk w.heap.size cs t :: L) :=
 h.fresh (below_alloc (Below.refl _ _) _) (heap_alloc_new w _) (fun _ hb => Nat.le_of_eq (Eq.symm hb))
theorem St.set (h : St w0 F w (blk g cs t :: L)) (k : Nat) (u : Value) : St w0 F (w.setCell ⟨g, k, none⟩ u) (blk g (cs.set k u) t :: L) := by
 have hg : w.heap[g]? = some (.cells cs.toArray t (0, 0)) := h.hs.head
 refine h.turn rfl rfl rfl ((Kept.refl w (fun b => b = g)).setCell (p := ⟨g, k, none⟩) (.inl rfl) u) ?_ (fun b hb => .inl hb)
 have := heap_setCell_same w g k _ t u hg
 show _ = some (Obj.cells (cs.set k u).toArray t (0, 0))
 rw [this]
 simp
theorem St.setRow (h : St w0 F w (blk g cs t :: L)) (cs' : List Value) : St w0 F (w.setRow g cs'.toArray) (blk g cs' t :: L) := by
 have hg : w.heap[g]? = some (.cells cs.toArray t (0, 0)) := h.hs.head
 refine h.turn rfl rfl rfl ⟨by simp, fun b _ hb => setRow_other w g b _ (fun e => hb e)⟩ ?_ (fun b hb => .inl hb)
 exact setRow_heap w g _ _ t _ hg
theorem bkCell (h : (blk g cs t).holds w) (k : Nat) (u : Value) (hk : cs[k]? = some u) : w.cell? ⟨g, k, none⟩ = some u := by
 have hg : w.heap[g]? = some (.cells cs.toArray t (0, 0)) := h
 rw [cell_of_row w g k _ t _ hg]
 simpa using hk
theorem row_nil (e : TypeId) (w : World) : (row d hE e (.slice none 0 0) []).holds w := rowOf_ (Kd.R_nil d e w 0 (fun _ => True))
theorem St.nil (h : St w0 F w L) (d : Kd α) (hE : d.E = []) (e : TypeId) : St w0 F w (row d hE e (.slice none 0 0) [] :: L) :=
 h.fresh (Below.refl _ _) (row_nil e w) (fun b hb => by cases hb)
theorem shLit (d : Kd α) (w : World) (e : Nat) (xs : List α) (inner : List Value) (hrep : Reps (d.M w w.heap.size (fun _ => False)) d.sz xs inner) (hm : xs.length ≤ 9223372036854775807) :
  d.R e (w.alloc (.cells inner.toArray e)) w.heap.size (fun _ => True) (.slice (some ⟨w.heap.size, 0, none⟩) xs.length xs.length) xs := by
 refine ⟨fun _ _ => trivial, inner, ?_, ?_⟩
 ·have h2 := World.ownsRow_lit (base := w.heap.size) (e := e) (size := d.sz) w inner.toArray xs.length (Nat.le_refl _) (by simpa [maxLen] using hm) (by simpa using hrep.1)
  simpa using h2
 ·exact hrep.imp_ (fun p c hp => d.M_mono (fun k hk => hk.elim) (Kd.M_below hp (below_alloc (Below.refl _ _) _)))
theorem St.lit (h : St w0 F w L) (d : Kd α) (hE : d.E = []) (e : TypeId) (xs : List α) (inner : List Value) (hrep : Reps (d.M w w.heap.size (fun _ => False)) d.sz xs inner) (hm : xs.length ≤ 9223372036854775807) :
  St w0 F (w.alloc (.cells inner.toArray e)) (row d hE e (.slice (some ⟨w.heap.size, 0, none⟩) xs.length xs.length) xs :: L) :=
 h.made (below_alloc (Below.refl _ _) _) (shLit d w e xs inner hrep hm)
theorem St.ints (h : St w0 F w L) (k : IntKind) (e : TypeId) (xs : List Int) (hm : xs.length ≤ 9223372036854775807) :
  St w0 F (w.alloc (.cells (nums k xs).toArray e)) (row (Kd.int k) rfl e (.slice (some ⟨w.heap.size, 0, none⟩) xs.length xs.length) xs :: L) :=
 h.made (below_alloc (Below.refl _ _) _) (Kd.R_of_own (h1 := fun _ => rfl) (own_lit w w.heap.size e k xs (Nat.le_refl _) hm) (fun _ _ => trivial))
theorem turn_grown {w1 : World} {v1 : Value} {ys : List α} (h : St w0 F w (row d hE e v xs :: L)) (hg : w.grownBy w1 v.ownBlock) (ho : d.R e w1 0 (fun _ => True) v1 ys) (hat : v1.ownBlock = v.ownBlock ∨ ∃ b, v1.ownBlock = some b ∧ w.heap.size ≤ b) : St w0 F w1 (row d hE e v1 ys :: L) := by
 refine h.turn hg.os hg.tape hg.output ⟨hg.size, fun b hb hn => hg.block b hb (fun e => hn e.symm)⟩ (rowOf_ ho) (fun b hb => ?_)
 have hb' : v1.ownBlock = some b := hb
 rcases hat with hat | ⟨b', h1, h2⟩
 ·exact .inl (show v.ownBlock = some b by rw [← hat]; exact hb')
 ·rw [h1] at hb'
  injection hb' with hb'
  exact .inr (by omega)
theorem row_C {A : Option Addr} {n c : Nat} (h : (row d hE e (.slice A n c) xs).holds w) : n = xs.length ∧ n ≤ c ∧ d.C w A xs.length xs := Kd.R_reads' h
section
variable {P : Program} {ops : Array Oper} {rest : List Oper} {o : Oper} {a : Act} {Q : Exit → Act → World → Prop}
end
theorem St.appends {P : Program} {ops : Array Oper} {rest : List Oper} {o : Oper} {a : Act} {Q : Exit → Act → World → Prop} (h : St w0 F w (row d hE e v xs :: L)) (hgd : o.guard = none) (s x : Operand) (t : TypeId) (z : Value) (bytes : Nat)
  (ho : o.op = .call { callee := .builtin .append, args := #[s, x], argTypes := #[t, t] })
  (ht : P.underlying t = some (.slice e)) (hinfo : (P.info? e).map (fun i => (i.zero, i.size, i.bytes)) = some (some z, d.sz, bytes)) (hz : z.cells.size = d.sz) (hs0 : 0 < d.sz) (hb0 : 0 < bytes)
  (ys : List α) (A : Option Addr) (m c : Nat) (hs : a.eval s = v) (hx : a.eval x = .slice A m c) (hr : d.C w A m ys) (hKM : ∀ x cs, d.K w x cs → d.M w 0 (fun _ => False) x cs) (hl : (xs.length + m) * bytes ≤ 140737488355328)
  (hk : ∀ v1 w1, St w0 F w1 (row d hE e v1 (xs ++ ys) :: L) → wpList P ops Q rest (a.put o.dst v1) w1) : wpList P ops Q (o :: rest) a w :=
 Kd.R_append_rows d (w0 := w) 0 hgd s x t e z bytes ho ht hinfo hz hs0 hb0 v xs ys A m c (fun _ => True) (fun _ => False) hs hx (row_own h.hs.head) hr hKM (fun _ h => h.elim) (fun _ _ => trivial) (Below.refl _ _) (Nat.zero_le _) hl
  (fun v1 w1 h1 _ hg hat => hk v1 w1 (turn_grown h hg h1 hat))
theorem ints_reads {q : Nat} {k : IntKind} {e : TypeId} {xs : List Int} {cs : List Value} (hq : w.heap[q]? = some (.cells cs.toArray e (0, 0))) (hcs : cs = nums k xs) (hm : xs.length ≤ 9223372036854775807) : (Kd.int k).C w (some ⟨q, 0, none⟩) xs.length xs := by
 subst hcs
 have ho : w.ownsRow 0 e 1 (.slice (some ⟨q, 0, none⟩) xs.length xs.length) xs.length (nums k xs) :=
  ⟨by simp [nums], .inr ⟨q, xs.length, _, rfl, Nat.zero_le _, hq, Nat.le_refl _, by simpa [maxLen] using hm, by simp [nums], by simp [nums, List.take_of_length_le]⟩⟩
 exact (Kd.R_reads' (Kd.R_of_own (h1 := fun _ => rfl) ho (ok := fun _ => True) (fun _ _ => trivial))).2.2
theorem St.reads {A : Option Addr} {n : Nat} (h : St w0 F w L) (hr : ∀ W, Kept w0 W F → d.C W A n xs) : d.C w A n xs := hr w h.kept
end
end Go.Proofs.Ytenlkobjldhfgaa
