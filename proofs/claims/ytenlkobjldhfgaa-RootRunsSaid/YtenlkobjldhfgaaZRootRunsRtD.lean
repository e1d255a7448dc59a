/- Roots on a disk, plain: what a Write does, torn or not. -/
import Derived.Test.YtenlkobjldhfgaaZRootRunsRtP
import Derived.Test.YtenlkobjldhfgaaZRootRunsDkP
set_option linter.unusedVariables false
set_option linter.unusedSimpArgs false
namespace Go.Proofs.Ytenlkobjldhfgaa
open Go.RowKit Go.Proofs.YtenlkobjldhfgaaW.PrintWords Go.Proofs.YtenlkobjldhfgaaW.PrintLast Crc
theorem map_drop_bv (q : List UInt8) (a b : Nat) : ((q.map bv).drop a).take b = ((q.drop a).take b).map bv := by rw [← List.map_drop, ← List.map_take]
theorem mix_map {m : Int} {o x : List UInt8} (ho : o.length = 256) (hx : x.length = 256) : ∀ k, k ≤ 8 → ∃ q : List UInt8, q.length = 256 ∧ mixS m (o.map bv) (x.map bv) k = q.map bv ∧ ∀ s, s < 8 → scO q s = scO o s ∨ scO q s = scO x s
 | 0, _ => ⟨o, ho, rfl, fun s _ => .inl rfl⟩
 | k + 1, hk => by
  obtain ⟨q, hq, hm, hs⟩ := mix_map ho hx k (by omega)
  by_cases hb : m / 2 ^ k % 2 = 1
  ·have hy : ((x.drop (k * 32)).take 32).length = 32 := by rw [List.length_take, List.length_drop]; omega
   obtain ⟨h1, h2⟩ := sc_splice hq hy (show k < 8 by omega)
   refine ⟨_, h1, ?_, fun s h8 => ?_⟩
   ·unfold mixS
    rw [if_pos hb, hm, map_drop_bv, ← List.map_take, ← List.map_drop, ← List.map_append, ← List.map_append]
   ·rw [h2 s h8]
    split
    ·rename_i e
     subst e
     refine .inr ?_
     unfold scO
     rw [Nat.mul_comm]
    ·exact hs s h8
  ·refine ⟨q, hq, ?_, hs⟩
   unfold mixS
   rw [if_neg hb]
   exact hm
structure RT (S : Dk) (q0 q1 : List UInt8) : Prop where
 s0 : S.stable[0]? = some (q0.map bv)
 s1 : S.stable[1]? = some (q1.map bv)
 pd : S.pending = []
 lf : S.left = -1
 dn : S.down = false
 ok : ∀ i, ¬ 0 < S.bad i
 l0 : q0.length = 256
 l1 : q1.length = 256
def zP : List UInt8 := List.replicate 256 0
theorem zP_bv : zP.map bv = zpg := by unfold zP zpg; rw [List.map_replicate]; rfl
def pgI (i : Nat) (q0 q1 : List UInt8) : List UInt8 := if i = 0 then q0 else q1
section
variable {S : Dk} {q0 q1 p : List UInt8}
theorem rt_new {n : Int} (h : 2 ≤ n) : RT (Dk.new n) zP zP := by
 have hl : 2 ≤ nOf n := by unfold nOf; split <;> (try split) <;> omega
 have hs : ∀ i, i < 2 → (Dk.new n).stable[i]? = some (zP.map bv) := by
  intro i hi
  show (List.replicate (nOf n) zpg)[i]? = _
  rw [List.getElem?_replicate, if_pos (by omega), zP_bv]
 exact ⟨hs 0 (by decide), hs 1 (by decide), rfl, rfl, rfl, fun i => Int.lt_irrefl 0, List.length_replicate, List.length_replicate⟩
theorem rt_there (h : RT S q0 q1) {i : Nat} (hi : i < 2) : S.there (i : Int) = true ∧ S.stable[i]? = some ((pgI i q0 q1).map bv) := by
 have h1 := (List.getElem?_eq_some_iff.1 h.s1).1
 refine ⟨by unfold Dk.there; exact decide_eq_true ⟨by omega, by omega⟩, ?_⟩
 unfold pgI
 match i, hi with
 | 0, _ => exact h.s0
 | 1, _ => exact h.s1
theorem rt_read (h : RT S q0 q1) {i : Nat} (hi : i < 2) : S.readE (i : Int) = 0 ∧ S.readP (i : Int) = (pgI i q0 q1).map bv := by
 obtain ⟨ht, hs⟩ := rt_there h hi
 unfold Dk.readE Dk.readP
 rw [if_pos ht, if_pos ht, if_neg (h.ok _), if_neg (h.ok _), h.pd]
 refine ⟨rfl, ?_⟩
 unfold lastW Dk.at
 rw [List.foldl_nil, Int.toNat_natCast, List.getD_eq_getElem?_getD, hs]
 rfl
theorem rt_set (h : RT S q0 q1) {i : Nat} (hi : i < 2) {q : List UInt8} (hq : q.length = 256) (S2 : Dk) (hs : S2.stable = S.stable.set i (q.map bv)) (hp : S2.pending = []) (hl : S2.left = -1) (hd : S2.down = false) (hb : S2.bad = S.bad) :
  RT S2 (if i = 0 then q else q0) (if i = 0 then q1 else q) := by
 have h0 := (List.getElem?_eq_some_iff.1 h.s0).1
 have h1 := (List.getElem?_eq_some_iff.1 h.s1).1
 match i, hi with
 | 0, _ =>
  refine ⟨?_, ?_, hp, hl, hd, fun j => by rw [hb]; exact h.ok j, hq, h.l1⟩
  ·rw [hs, List.getElem?_set_self h0]; rfl
  ·rw [hs, List.getElem?_set_ne (by decide)]; exact h.s1
 | 1, _ =>
  refine ⟨?_, ?_, hp, hl, hd, fun j => by rw [hb]; exact h.ok j, h.l0, hq⟩
  ·rw [hs, List.getElem?_set_ne (by decide)]; exact h.s0
  ·rw [hs, List.getElem?_set_self h1]; rfl
theorem settle_one (T : List (List Int)) (m : Nat → Int) (i : Nat) (x : List Int) : settleL m 0 [((i : Int), x)] T = T.set i (mixS (m 0) (T.getD i zpg) x 8) := rfl
end
end Go.Proofs.Ytenlkobjldhfgaa
