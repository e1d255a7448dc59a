/- Roots on a disk, plain: what a Write does, torn or not. -/
import Derived.Test.YtenlkobjldhfgaaRtABC
import Derived.Test.YtenlkobjldhfgaaDkP
set_option linter.unusedVariables false
set_option linter.unusedSimpArgs false
namespace Go.Proofs.Ytenlkobjldhfgaa
open Go.RowKit Go.Proofs.YtenlkobjldhfgaaW.PrintWords Go.Proofs.YtenlkobjldhfgaaW.PrintLast Crc
theorem map_drop_bv (q : List UInt8) (a b : Nat) : ((q.map bv).drop a).take b = ((q.drop a).take b).map bv := by rw [← List.map_drop, ← List.map_take]
/-- Some sectors of another page: bytes stay bytes. -/
theorem mix_map {m : Int} {o x : List UInt8} (ho : o.length = 256) (hx : x.length = 256) : ∀ k, k ≤ 8 → ∃ q : List UInt8, q.length = 256 ∧ mixS m (o.map bv) (x.map bv) k = q.map bv ∧ ∀ s, s < 8 → scO q s = scO o s ∨ scO q s = scO x s
  | 0, _ => ⟨o, ho, rfl, fun s _ => .inl rfl⟩
  | k + 1, hk => by
    obtain ⟨q, hq, hm, hs⟩ := mix_map ho hx k (by omega)
    by_cases hb : m / 2 ^ k % 2 = 1
    · have hy : ((x.drop (k * 32)).take 32).length = 32 := by rw [List.length_take, List.length_drop]; omega
      obtain ⟨h1, h2⟩ := sc_splice hq hy (show k < 8 by omega)
      refine ⟨_, h1, ?_, fun s h8 => ?_⟩
      · unfold mixS
        rw [if_pos hb, hm, map_drop_bv, ← List.map_take, ← List.map_drop, ← List.map_append, ← List.map_append]
      · rw [h2 s h8]
        split
        · rename_i e
          subst e
          refine .inr ?_
          unfold scO
          rw [Nat.mul_comm]
        · exact hs s h8
    · refine ⟨q, hq, ?_, hs⟩
      unfold mixS
      rw [if_neg hb]
      exact hm
/-- A disk of which two slots are read: nothing is pending, nothing counted, no page is bad. -/
structure RT (S : Dk) (q0 q1 : List UInt8) : Prop where
  s0 : S.stable[0]? = some (q0.map bv)
  s1 : S.stable[1]? = some (q1.map bv)
  pd : S.pending = []
  lf : S.left = -1
  dn : S.down = false
  ok : ∀ i, ¬ 0 < S.bad i
  l0 : q0.length = 256
  l1 : q1.length = 256
def zP : List UInt8 := List.replicate 256 0
theorem zP_bv : zP.map bv = zpg := by unfold zP zpg; rw [List.map_replicate]; rfl
def pgI (i : Nat) (q0 q1 : List UInt8) : List UInt8 := if i = 0 then q0 else q1
section
variable {S : Dk} {q0 q1 p : List UInt8}
theorem rt_new {n : Int} (h : 2 ≤ n) : RT (Dk.new n) zP zP := by
  have hl : 2 ≤ nOf n := by unfold nOf; split <;> (try split) <;> omega
  have hs : ∀ i, i < 2 → (Dk.new n).stable[i]? = some (zP.map bv) := by
    intro i hi
    show (List.replicate (nOf n) zpg)[i]? = _
    rw [List.getElem?_replicate, if_pos (by omega), zP_bv]
  exact ⟨hs 0 (by decide), hs 1 (by decide), rfl, rfl, rfl, fun i => Int.lt_irrefl 0, List.length_replicate, List.length_replicate⟩
theorem rt_there (h : RT S q0 q1) {i : Nat} (hi : i < 2) : S.there (i : Int) = true ∧ S.stable[i]? = some ((pgI i q0 q1).map bv) := by
  have h1 := (List.getElem?_eq_some_iff.1 h.s1).1
  refine ⟨by unfold Dk.there; exact decide_eq_true ⟨by omega, by omega⟩, ?_⟩
  unfold pgI
  match i, hi with
  | 0, _ => exact h.s0
  | 1, _ => exact h.s1
theorem rt_read (h : RT S q0 q1) {i : Nat} (hi : i < 2) : S.readE (i : Int) = 0 ∧ S.readP (i : Int) = (pgI i q0 q1).map bv := by
  obtain ⟨ht, hs⟩ := rt_there h hi
  unfold Dk.readE Dk.readP
  rw [if_pos ht, if_pos ht, if_neg (h.ok _), if_neg (h.ok _), h.pd]
  refine ⟨rfl, ?_⟩
  unfold lastW Dk.at
  rw [List.foldl_nil, Int.toNat_natCast, List.getD_eq_getElem?_getD, hs]
  rfl
theorem rt_set (h : RT S q0 q1) {i : Nat} (hi : i < 2) {q : List UInt8} (hq : q.length = 256) (S2 : Dk) (hs : S2.stable = S.stable.set i (q.map bv)) (hp : S2.pending = []) (hl : S2.left = -1) (hd : S2.down = false) (hb : S2.bad = S.bad) :
    RT S2 (if i = 0 then q else q0) (if i = 0 then q1 else q) := by
  have h0 := (List.getElem?_eq_some_iff.1 h.s0).1
  have h1 := (List.getElem?_eq_some_iff.1 h.s1).1
  match i, hi with
  | 0, _ =>
    refine ⟨?_, ?_, hp, hl, hd, fun j => by rw [hb]; exact h.ok j, hq, h.l1⟩
    · rw [hs, List.getElem?_set_self h0]; rfl
    · rw [hs, List.getElem?_set_ne (by decide)]; exact h.s1
  | 1, _ =>
    refine ⟨?_, ?_, hp, hl, hd, fun j => by rw [hb]; exact h.ok j, h.l0, hq⟩
    · rw [hs, List.getElem?_set_ne (by decide)]; exact h.s0
    · rw [hs, List.getElem?_set_self h1]; rfl
theorem rt_same (h : RT S q0 q1) (S2 : Dk) (hs : S2.stable = S.stable) (hp : S2.pending = []) (hl : S2.left = -1) (hd : S2.down = false) (hb : S2.bad = S.bad) : RT S2 q0 q1 :=
  ⟨by rw [hs]; exact h.s0, by rw [hs]; exact h.s1, hp, hl, hd, fun j => by rw [hb]; exact h.ok j, h.l0, h.l1⟩
theorem settle_one (T : List (List Int)) (m : Nat → Int) (i : Nat) (x : List Int) : settleL m 0 [((i : Int), x)] T = T.set i (mixS (m 0) (T.getD i zpg) x 8) := rfl
/-- A Write that is counted, then a crash: nothing, a torn page, or the page. -/
theorem rt_torn (h : RT S q0 q1) {i : Nat} (hi : i < 2) (hp : p.length = 256) (at_ : Int) (keep : List Int) (hmx : mixS 255 ((pgI i q0 q1).map bv) (p.map bv) 8 = p.map bv) :
    ((S.cut at_).writeE (i : Int) = 42 ∧ RT (((S.cut at_).write (i : Int) (p.map bv)).crash keep) q0 q1) ∨
    ((S.cut at_).writeE (i : Int) = 0 ∧ ((S.cut at_).write (i : Int) (p.map bv)).actE = 42 ∧ ∃ q : List UInt8, q.length = 256 ∧ (∀ s, s < 8 → scO q s = scO (pgI i q0 q1) s ∨ scO q s = scO p s) ∧ RT ((((S.cut at_).write (i : Int) (p.map bv)).sync).crash keep) (if i = 0 then q else q0) (if i = 0 then q1 else q)) ∨
    ((S.cut at_).writeE (i : Int) = 0 ∧ ((S.cut at_).write (i : Int) (p.map bv)).actE = 0 ∧ RT ((((S.cut at_).write (i : Int) (p.map bv)).sync).crash keep) (if i = 0 then p else q0) (if i = 0 then q1 else p)) := by
  obtain ⟨ht, hs⟩ := rt_there h hi
  have ht2 : (S.cut at_).there (i : Int) = true := ht
  have hol : (pgI i q0 q1).length = 256 := by unfold pgI; split; exact h.l0; exact h.l1
  have hget : S.stable.getD i zpg = (pgI i q0 q1).map bv := by rw [List.getD_eq_getElem?_getD, hs]; rfl
  obtain ⟨l, hl⟩ : ∃ l, (S.cut at_).left = l := ⟨_, rfl⟩
  have hdn : (S.cut at_).down = false := h.dn
  have hpd : (S.cut at_).pending = [] := h.pd
  by_cases hz : l = 0
  · have ha : (S.cut at_).acts = false := by unfold Dk.acts; rw [hl, hz]; simp
    have hw : (S.cut at_).write (i : Int) (p.map bv) = { S.cut at_ with down := true } := by
      unfold Dk.write
      rw [if_pos ht2, if_neg (by rw [ha]; decide)]
      unfold Dk.act
      rw [if_neg (by rw [ha]; decide)]
    refine .inl ⟨by unfold Dk.writeE; rw [if_pos ht2, actE_eq, if_neg (by rw [ha]; decide)], ?_⟩
    rw [hw]
    refine rt_same h _ ?_ rfl rfl rfl rfl
    show settleL (maskOf keep) 0 (S.cut at_).pending S.stable = S.stable
    rw [hpd]
    rfl
  · have ha : (S.cut at_).acts = true := by unfold Dk.acts; rw [hl, hdn, decide_eq_false hz]; rfl
    obtain ⟨l2, hl2⟩ : ∃ l2, (if 0 < l then l - 1 else l) = l2 := ⟨_, rfl⟩
    have hw : (S.cut at_).write (i : Int) (p.map bv) = { S.cut at_ with left := l2, pending := [((i : Int), p.map bv)] } := by
      unfold Dk.write
      rw [if_pos ht2, if_pos ha]
      unfold Dk.act
      rw [if_pos ha, hl, hl2]
      show Dk.mk _ _ ((S.cut at_).pending ++ _) _ _ _ = _
      rw [hpd]
      rfl
    have he : (S.cut at_).writeE (i : Int) = 0 := by unfold Dk.writeE; rw [if_pos ht2, actE_eq, if_pos ha]
    rw [hw]
    have hd2 : ({ S.cut at_ with left := l2, pending := [((i : Int), p.map bv)] } : Dk).acts = !decide (l2 = 0) := by
      show (!(S.cut at_).down && !decide (l2 = 0)) = _
      rw [hdn]
      rfl
    by_cases hz2 : l2 = 0
    · have ha2 : ({ S.cut at_ with left := l2, pending := [((i : Int), p.map bv)] } : Dk).acts = false := by rw [hd2, decide_eq_true hz2]; rfl
      obtain ⟨q, hq, hm, hsc⟩ := mix_map (m := maskOf keep 0) hol hp 8 (Nat.le_refl _)
      refine .inr (.inl ⟨he, by rw [actE_eq, if_neg (by rw [ha2]; decide)], q, hq, hsc, ?_⟩)
      refine rt_set h hi hq _ ?_ rfl rfl rfl ?_
      · unfold Dk.sync Dk.act
        rw [if_neg (by rw [ha2]; decide), if_neg (by rw [ha2]; decide)]
        show settleL (maskOf keep) 0 [((i : Int), p.map bv)] S.stable = _
        rw [settle_one, hget, hm]
      · unfold Dk.sync Dk.act
        rw [if_neg (by rw [ha2]; decide), if_neg (by rw [ha2]; decide)]
        rfl
    · have ha2 : ({ S.cut at_ with left := l2, pending := [((i : Int), p.map bv)] } : Dk).acts = true := by rw [hd2, decide_eq_false hz2]; rfl
      refine .inr (.inr ⟨he, by rw [actE_eq, if_pos ha2], ?_⟩)
      refine rt_set h hi hp _ ?_ rfl rfl rfl ?_
      · unfold Dk.sync Dk.act
        rw [if_pos ha2, if_pos ha2]
        show settleL (maskOf keep) 0 [] (settleL (fun _ => 255) 0 [((i : Int), p.map bv)] S.stable) = _
        rw [settle_one, hget, hmx]
        rfl
      · unfold Dk.sync Dk.act
        rw [if_pos ha2, if_pos ha2]
        rfl
end
end Go.Proofs.Ytenlkobjldhfgaa
