/- The disk: its memory as parts. -/
import Derived.Test.YtenlkobjldhfgaaZRootRunsFlat
import Derived.Test.YtenlkobjldhfgaaProg
import Derived.Maps.OwnOps
import Derived.Maps.OwnSet
import Derived.Maps.Views
set_option linter.unusedVariables false
set_option linter.unusedSimpArgs false
namespace Go.Proofs.Ytenlkobjldhfgaa
open Go.RowKit Go.Proofs.YtenlkobjldhfgaaW.PrintWords Go.Proofs.YtenlkobjldhfgaaW.PrintLast
def wrP (x : Int × List Int) (cs : List Value) : Prop := cs = .int .i64 x.1 :: nums .u8 x.2 ∧ x.2.length = 256
def kWr : Kd (Int × List Int) := flatK 257 wrP (fun x cs h => by rw [h.1]; simp [nums_length, h.2]) (fun x cs h u hu => by
 rw [h.1] at hu
 rcases List.mem_cons.1 hu with rfl | hu
 ·rfl
 ·exact nums_mem hu)
def pgP (x : List Int) (cs : List Value) : Prop := cs = nums .u8 x ∧ x.length = 256
def kPg : Kd (List Int) := flatK 256 pgP (fun x cs h => by rw [h.1]; simp [nums_length, h.2]) (fun x cs h u hu => nums_mem (h.1 ▸ hu))
theorem wr_get {w : World} {A : Option Addr} {n : Nat} {ps : List (Int × List Int)} (h : kWr.C w A n ps) (j : Nat) (hj : j < ps.length) : ∃ ad x, A = some ad ∧ ps[j]? = some x ∧ x.2.length = 256 ∧ ∀ i u, ((.int .i64 x.1 :: nums .u8 x.2 : List Value))[i]? = some u → w.cell? ((ad.add (j * 257)).add i) = some u := by
 obtain ⟨ad, e, hc⟩ := h.2.2 (by have := h.1; omega)
 obtain ⟨c, hs, ⟨hr, h2⟩, hcell⟩ := hc j _ (List.getElem?_eq_getElem hj)
 refine ⟨ad, ps[j], e, List.getElem?_eq_getElem hj, h2, fun i u hu => ?_⟩
 rw [add_add]
 exact hcell i u (by rw [hr]; exact hu)
theorem pg_get {w : World} {A : Option Addr} {n : Nat} {ps : List (List Int)} (h : kPg.C w A n ps) (j : Nat) (hj : j < ps.length) : ∃ ad x, A = some ad ∧ ps[j]? = some x ∧ x.length = 256 ∧ ∀ i u, (nums .u8 x)[i]? = some u → w.cell? ((ad.add (j * 256)).add i) = some u := by
 obtain ⟨ad, e, hc⟩ := h.2.2 (by have := h.1; omega)
 obtain ⟨c, hs, ⟨hr, h2⟩, hcell⟩ := hc j _ (List.getElem?_eq_getElem hj)
 refine ⟨ad, ps[j], e, List.getElem?_eq_getElem hj, h2, fun i u hu => ?_⟩
 rw [add_add]
 exact hcell i u (by rw [hr]; exact hu)
def pgs (L : List (List Int)) : List Value := L.flatMap (nums .u8)
theorem pgs_length : ∀ (L : List (List Int)), (∀ p ∈ L, p.length = 256) → (pgs L).length = L.length * 256
 | [], _ => rfl
 | p :: L, h => by
  have := pgs_length L (fun q hq => h q (List.mem_cons_of_mem _ hq))
  have h2 := h p List.mem_cons_self
  unfold pgs at this ⊢
  rw [List.flatMap_cons, List.length_append, this, nums_length, h2, List.length_cons]
  omega
theorem pgs_at : ∀ (L : List (List Int)) (i : Nat) (p : List Int), (∀ p ∈ L, p.length = 256) → L[i]? = some p → ((pgs L).drop (i * 256)).take 256 = nums .u8 p
 | [], _, _, _, h => by simp at h
 | q :: L, 0, p, hL, h => by
  have : q = p := by simpa using h
  subst this
  have h2 := hL q List.mem_cons_self
  unfold pgs
  rw [List.flatMap_cons, Nat.zero_mul, List.drop_zero, List.take_append_of_le_length (by rw [nums_length]; omega), List.take_of_length_le (by rw [nums_length]; omega)]
 | q :: L, i + 1, p, hL, h => by
  have h2 := hL q List.mem_cons_self
  have := pgs_at L i p (fun q hq => hL q (List.mem_cons_of_mem _ hq)) (by simpa using h)
  unfold pgs at this ⊢
  rw [List.flatMap_cons, List.drop_append, nums_length, h2, List.drop_of_length_le (by rw [nums_length]; omega), List.nil_append, show (i + 1) * 256 - 256 = i * 256 by omega]
  exact this
theorem bk_page {w : World} {gs t : Nat} {S : List (List Int)} {i : Nat} {p : List Int} (h : (blk gs (pgs S) t).holds w) (hS : ∀ p ∈ S, p.length = 256) (hp : S[i]? = some p) : ∀ j v, (nums .u8 p)[j]? = some v → w.cell? ((⟨gs, i * 256, none⟩ : Addr).add j) = some v := by
 intro j v hv
 have hl := hS p (List.mem_of_getElem? hp)
 exact bkCells h (i * 256) (nums .u8 p) (by rw [nums_length, hl]; exact pgs_at S i p hS hp) j v hv
theorem pgs_lay : ∀ (L : List (List Int)) (i : Nat) (p q : List Int) (k : Nat) (us : List Int), (∀ p ∈ L, p.length = 256) → L[i]? = some p → k + us.length ≤ 256 → q = p.take k ++ us ++ p.drop (k + us.length) → lay (pgs L) (i * 256 + k) (nums .u8 us) = pgs (L.set i q)
 | [], _, _, _, _, _, _, h, _, _ => by simp at h
 | r :: L, 0, p, q, k, us, hL, h, hk, hq => by
  have : r = p := by simpa using h
  subst this
  have h2 := hL r List.mem_cons_self
  subst hq
  unfold lay pgs
  rw [List.set_cons_zero, List.flatMap_cons, List.flatMap_cons, Nat.zero_mul, Nat.zero_add, nums_length, List.take_append_of_le_length (by rw [nums_length]; omega), List.drop_append_of_le_length (by rw [nums_length]; omega)]
  simp only [nums, List.map_append, List.map_take, List.map_drop, List.append_assoc]
 | r :: L, i + 1, p, q, k, us, hL, h, hk, hq => by
  have h2 := hL r List.mem_cons_self
  have ih := pgs_lay L i p q k us (fun q hq => hL q (List.mem_cons_of_mem _ hq)) (by simpa using h) hk hq
  unfold lay at ih ⊢
  rw [nums_length] at ih ⊢
  unfold pgs at ih ⊢
  rw [List.set_cons_succ, List.flatMap_cons, List.flatMap_cons, ← ih]
  rw [List.take_append, List.drop_append, nums_length, h2, List.take_of_length_le (by rw [nums_length]; omega), List.drop_of_length_le (by rw [nums_length]; omega), List.nil_append, show (i + 1) * 256 + k - 256 = i * 256 + k by omega, show (i + 1) * 256 + k + us.length - 256 = i * 256 + k + us.length by omega]
  simp only [List.append_assoc]
open Go.Maps in
def mapR (g cnt : Nat) (f : Int → Int) : Res where
 foot b := b = g
 holds w := (∀ i, 0 ≤ f i ∧ f i ≤ cnt) ∧ ∃ D : DataW Unit, w.ownsMap Try.prog 3 (plainElem Try.prog 3) g cnt D ∧ ∀ i : Int, D.atKey (.int .i64 i) (.lit (.int .i64 0)) = .lit (.int .i64 (f i))
 keep := fun {w w'} hk ⟨h0, D, h, h2⟩ => by
  obtain ⟨es, clock, hb, F, hs, hD⟩ := h
  have hlt := (Array.getElem?_eq_some_iff.1 hb).1
  exact ⟨h0, D, ⟨es, clock, (hk g rfl hlt).trans hb, F, hs, hD⟩, h2⟩
 lt := fun ⟨h0, D, h, h2⟩ b hb => hb ▸ h.lt
open Go.Maps in
theorem kI : Keyed Try.prog 3 := int_keyed Try.underlying3
theorem zeroI (w : World) : (zeroValue 3).run Try.prog w = .ok (.int .i64 0) w := by kernel_rfl
theorem wfI {i : Int} (h : -9223372036854775808 ≤ i ∧ i < 9223372036854775808) : (Lit.int .i64 i).wf = true := WalkArith.wf_i64 (by omega)
section
variable {ops : Array Oper} {Q : Exit → Act → World → Prop} {rest : List Oper} {l l' : List Value} {w w0 : World} {F : Nat → Prop} {L : List Res} {d ty g k cnt : Nat} {pos : String} {after : Array Edge} {x y z : Operand} {f : Int → Int} {i : Int}
open Go.Maps in
theorem m_lookup (h : (mapR g cnt f).holds w) (hx : evl l x = .map (some g)) (hy : evl l y = .int .i64 i) (hi : -9223372036854775808 ≤ i ∧ i < 9223372036854775808) (hl : l.set d (.int .i64 (f i)) = l') (hk : wpList Try.prog ops Q rest (fr l') w) : wpList Try.prog ops Q (⟨some d, .lookup 69 x y false, ty, pos, after, none⟩ :: rest) (fr l) w := by
 obtain ⟨h0, D, h, h2⟩ := h
 refine wpList_lookup_own_int _ rfl _ _ 69 rfl 3 3 .i64 kI Try.underlying69 Try.underlying3 (zeroI _) g cnt D ((evl_eq _ _).trans hx) h _ _ ((evl_eq _ _).trans hy) (keyOf_int_mk Try.underlying3 (wfI hi)) ?_
 intro c hc hw
 have : c = f i := by
  have := (h2 i).symm.trans hc
  injection this with this
  injection this with _ this
  exact this.symm
 subst this
 show wpList Try.prog ops Q rest ((fr l).put (some d) _) w
 rw [fr_put, hl]
 exact hk
def putF (f : Int → Int) (i z : Int) : Int → Int := fun j => if j = i then z else f j
open Go.Maps in
theorem lit_ne {i j : Int} (h : j ≠ i) : (Lit.int .i64 j) ≠ (Lit.int .i64 i) := fun e => h (by injection e)
open Go.Maps in
theorem St.mapPut (HS : St w0 F w (mapR g cnt f :: L)) (v : Int) (hx : evl l x = .map (some g)) (hy : evl l y = .int .i64 i) (hz : evl l z = .int .i64 v) (hi : -9223372036854775808 ≤ i ∧ i < 9223372036854775808) (hv : 0 ≤ v ∧ v ≤ cnt + 1) (hc : cnt < 1000000)
  (hk : ∀ w', St w0 F w' (mapR g (cnt + 1) (putF f i v) :: L) → wpList Try.prog ops Q rest (fr l) w') : wpList Try.prog ops Q (⟨none, .mapUpdate 69 x y z, ty, pos, after, none⟩ :: rest) (fr l) w := by
 obtain ⟨h0, D, h, h2⟩ := HS.hs.head
 refine wpList_mapUpdate_own _ rfl _ _ _ 69 rfl 3 3 kI Try.underlying69 _ g cnt D ((evl_eq _ _).trans hx) h (by unfold maxLen; omega) _ _ _ ((evl_eq _ _).trans hy) ((evl_eq _ _).trans hz) (keyOf_int_mk Try.underlying3 (wfI hi)) _ [] (plainElem_int Try.underlying3 (wfI (by omega))) ?_
 intro w1 hown hg
 refine hk w1 (HS.turn hg.os hg.tape hg.output ⟨hg.size, fun b hb hn => hg.block b hb (fun e => hn (Option.some.inj e))⟩ ⟨fun j => ?_, _, hown, fun j => ?_⟩ (fun b hb => .inl hb))
 ·unfold putF
  split
  ·omega
  ·have := h0 j; omega
 ·unfold putF
  split
  ·rename_i e
   subst e
   refine atKey_put_same h.isMap ?_ _ _
   exact trivial
  ·rename_i e
   rw [atKey_put_other (lit_ne e)]
   exact h2 j
open Go.Maps in
theorem St.mapDel (HS : St w0 F w (mapR g cnt f :: L)) {ts : Array TypeId} (hts : ts = #[69, 3]) (hx : evl l x = .map (some g)) (hy : evl l y = .int .i64 i) (hi : -9223372036854775808 ≤ i ∧ i < 9223372036854775808)
  (hk : ∀ w', St w0 F w' (mapR g cnt (putF f i 0) :: L) → wpList Try.prog ops Q rest (fr l) w') : wpList Try.prog ops Q (⟨none, .call { callee := .builtin .delete, args := #[x, y], argTypes := ts }, ty, pos, after, none⟩ :: rest) (fr l) w := by
 subst hts
 obtain ⟨h0, D, h, h2⟩ := HS.hs.head
 refine wpList_delete_own _ rfl _ _ 69 3 rfl 3 kI Try.underlying69 _ g cnt D ((evl_eq _ _).trans hx) h _ _ ((evl_eq _ _).trans hy) (keyOf_int_mk Try.underlying3 (wfI hi)) ?_
 intro w1 hown hm
 have hg := hm.grown
 refine hk w1 (HS.turn hg.os hg.tape hg.output ⟨hg.size, fun b hb hn => hg.block b hb (fun e => hn (Option.some.inj e))⟩ ⟨fun j => ?_, _, hown, fun j => ?_⟩ (fun b hb => .inl hb))
 ·unfold putF
  split
  ·omega
  ·have := h0 j; omega
 ·unfold putF
  split
  ·rename_i e
   subst e
   exact atKey_del_same _
  ·rename_i e
   rw [atKey_del_other (lit_ne e)]
   exact h2 j
open Go.Maps in
theorem St.mapMake (HS : St w0 F w L) (hk : ∀ g w', w0.heap.size ≤ g → St w0 F w' (mapR g 0 (fun _ => 0) :: L) → wpList Try.prog ops Q rest (fr (l.set d (.map (some g)))) w') : wpList Try.prog ops Q (⟨some d, .makeMap 69 none, ty, pos, after, none⟩ :: rest) (fr l) w := by
 refine m_make (v := .map (some w.heap.size)) (w' := w.alloc (.map #[] 0)) (by simp [execOp, run_makeMap]) (hk _ _ HS.size ?_)
 refine HS.fresh (below_alloc (Below.refl _ _) _) ⟨fun _ => ⟨Int.le_refl 0, Int.le_refl 0⟩, _, World.ownsMap_made _ _ _ _, fun i => ?_⟩ (fun b hb => Nat.le_of_eq (Eq.symm hb))
 rfl
end
structure Dk where
 stable : List (List Int)
 bad : Int → Int
 pending : List (Int × List Int)
 left : Int
 down : Bool
 cnt : Nat
def Dk.ok (S : Dk) : Prop := (∀ p ∈ S.stable, p.length = 256) ∧ S.stable.length ≤ 244 ∧ -1 ≤ S.left ∧ S.left < 9223372036854775808 ∧ (∀ x ∈ S.pending, 0 ≤ x.1 ∧ x.1 < S.stable.length ∧ x.2.length = 256)
abbrev dskC (gs gm : Nat) (v : Value) (S : Dk) : List Value := [.slice (some ⟨gs, 0, none⟩) S.stable.length S.stable.length, .map (some gm), v, .int .i64 S.left, .bool S.down]
abbrev dsk (D gs gm : Nat) (v : Value) (S : Dk) (L : List Res) : List Res := blk D (dskC gs gm v S) 72 :: blk gs (pgs S.stable) 38 :: mapR gm S.cnt S.bad :: row kWr rfl 78 v S.pending :: L
end Go.Proofs.Ytenlkobjldhfgaa
