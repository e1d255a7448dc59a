/- A root's page in which one byte is turned is none: plain. -/
import Derived.Test.YtenlkobjldhfgaaRtE
set_option linter.unusedVariables false
set_option linter.unusedSimpArgs false
namespace Go.Proofs.Ytenlkobjldhfgaa
open Go.RowKit Go.Proofs.YtenlkobjldhfgaaW.PrintWords Go.Proofs.YtenlkobjldhfgaaW.PrintLast
open Crc
namespace Crc
theorem sumB_inj (l : List UInt8) {a b : W} (h : sumB a l = sumB b l) : a = b := by
  rw [sumB_eq, sumB_eq] at h; exact Crc.sum_inj _ h
theorem up_inj {a b : BitVec 8} (h : up a = up b) : a = b := by
  unfold up at h
  have h := congrArg BitVec.toNat h
  rw [BitVec.toNat_shiftLeft, BitVec.toNat_shiftLeft, Nat.shiftLeft_eq, Nat.shiftLeft_eq, BitVec.toNat_setWidth, BitVec.toNat_setWidth] at h
  apply BitVec.eq_of_toNat_eq
  have h1 := a.isLt
  have h2 := b.isLt
  omega
theorem step_byte {s : W} {a b : BitVec 8} (h : step s a = step s b) : a = b := by
  have h2 : s ^^^ up a = s ^^^ up b := bits8_inj h
  rw [BitVec.xor_comm, BitVec.xor_comm s] at h2
  exact up_inj (xor_right_inj h2)
/-- One byte is another one. -/
theorem sum_set (S : W) (l : List UInt8) (j : Nat) (hj : j < l.length) (y : UInt8) (h : sumB S (l.set j y) = sumB S l) : y = l[j] := by
  have e1 : l = l.take j ++ l[j] :: l.drop (j + 1) := by
    conv => lhs; rw [← List.take_append_drop j l]
    congr 1
    exact List.drop_eq_getElem_cons hj
  have e2 : l.set j y = l.take j ++ y :: l.drop (j + 1) := by rw [List.set_eq_take_append_cons_drop, if_pos hj]
  have ex : ∀ x : UInt8, sumB S (l.take j ++ x :: l.drop (j + 1)) = sumB (Crc.step (sumB S (l.take j)) x.toBitVec) (l.drop (j + 1)) := by
    intro x
    rw [sumB_append]
    rfl
  have h' : sumB S (l.take j ++ y :: l.drop (j + 1)) = sumB S (l.take j ++ l[j] :: l.drop (j + 1)) := by rw [← e2, ← e1]; exact h
  rw [ex, ex] at h'
  exact UInt8.toBitVec_inj.1 (step_byte (sumB_inj _ h'))
end Crc

theorem xor_bv (a b : UInt8) : bits .xor .u8 (bv a) (bv b) = bv (a ^^^ b) := by
  unfold bv
  rw [u8_xor_nat _ _ a.toNat_lt b.toNat_lt, UInt8.toNat_xor]
theorem sum_zeros : ∀ n, sumB (0#32) (List.replicate n (0 : UInt8)) = 0#32
  | 0 => rfl
  | n + 1 => by
    have h : Crc.step (0#32) (0 : UInt8).toBitVec = 0#32 := by decide
    show sumB (Crc.step (0#32) (0 : UInt8).toBitVec) (List.replicate n (0 : UInt8)) = 0#32
    rw [h]
    exact sum_zeros n
theorem sum_tail (s : Crc.W) : sumB s (tailB s) = 0#32 := by
  rw [sumB_eq, tailB_eq]
  exact (Crc.tail_iff s _ _ _ _).2 rfl
theorem sum_rtS (c : List UInt8) : sumB init (rtS c) = 0#32 := by
  unfold rtS sealB
  rw [sumB_append]
  exact sum_tail _
theorem sum_st (g : UInt64) {c : List UInt8} (h : c.length ≤ 186) : sumB init (stB (pgB g (rtS c))) = 0#32 := by
  rw [st_pg g (by rw [rtS_len]; omega)]
  unfold padL
  rw [sumB_append, sum_rtS]
  exact sum_zeros _
/-- Two rows of parts that differ in one: so do the sums ahead of it. -/
theorem sum_parts {f f' : Nat → List UInt8} {k : Nat} (S : Crc.W) (hf : ∀ s, s ≠ k → f s = f' s) : ∀ n, k < n → sumB S ((List.range n).flatMap f) = sumB S ((List.range n).flatMap f') → ∃ s : Crc.W, sumB s (f k) = sumB s (f' k)
  | 0, h, _ => by omega
  | n + 1, h, e => by
    have e1 : ∀ g : Nat → List UInt8, (List.range (n + 1)).flatMap g = (List.range n).flatMap g ++ g n := fun g => by rw [List.range_succ, List.flatMap_append]; simp
    rw [e1, e1, sumB_append, sumB_append] at e
    rcases Nat.lt_or_ge k n with hk | hk
    · rw [hf n (by omega)] at e
      exact sum_parts S hf n hk (Crc.sumB_inj _ e)
    · obtain rfl : k = n := by omega
      have e2 : (List.range k).flatMap f = (List.range k).flatMap f' := by
        rw [List.flatMap_def, List.flatMap_def]
        congr 1
        exact List.map_congr_left (fun s hs => hf s (by have := List.mem_range.1 hs; omega))
      rw [e2] at e
      exact ⟨_, e⟩
/-- A page with one byte turned. -/
def tq (q : List UInt8) (t : Nat) (m : UInt8) : List UInt8 := q.set t (q.getD t 0 ^^^ m)
theorem tq_len {q : List UInt8} {t : Nat} {m : UInt8} : (tq q t m).length = q.length := List.length_set
theorem xor_ne {a m : UInt8} (h : m ≠ 0) : a ^^^ m ≠ a := by
  intro e
  apply h
  have : a ^^^ (a ^^^ m) = a ^^^ a := by rw [e]
  rw [← UInt8.xor_assoc, UInt8.xor_self, UInt8.zero_xor] at this
  exact this
theorem cut_set {q : List UInt8} {t a n : Nat} {y : UInt8} (h : t < a ∨ a + n ≤ t) : ((q.set t y).drop a).take n = (q.drop a).take n := by
  rw [List.drop_set]
  split
  · rfl
  · rw [List.take_set]
    refine List.set_eq_of_length_le ?_
    rw [List.length_take]
    omega
theorem cut_in {q : List UInt8} {t a n : Nat} {y : UInt8} (h : a ≤ t) : ((q.set t y).drop a).take n = ((q.drop a).take n).set (t - a) y := by
  rw [List.drop_set, if_neg (by omega), List.take_set]
theorem sec8 {g : UInt64} {st : List UInt8} {k : Nat} (hk : k < 8) : ((pgB g st).drop (32 * k)).take 8 = gnB g := by
  rw [sec_of.1, pg_sec g st hk]
  unfold secB
  exact List.take_left' (gnB_length g)
theorem bd_get {q : List UInt8} {k i : Nat} (h : i < (bdS q k).length) : (bdS q k)[i] = q.getD (32 * k + 8 + i) 0 := by
  have hl : (bdS q k).length ≤ 24 := by unfold bdS; rw [List.length_take]; omega
  have e : (bdS q k)[i]? = q[32 * k + 8 + i]? := by unfold bdS; rw [List.getElem?_take, if_pos (by omega), List.getElem?_drop]
  rw [List.getD_eq_getElem?_getD, ← e, List.getElem?_eq_getElem h]
  rfl
theorem tq_bad {q c : List UInt8} {g : UInt64} {s t : Nat} {m : UInt8} (hq : q = pgB g (rtS c)) (hc : c.length ≤ 186) (ht : t < 256) (hm : m ≠ 0) : okR (tq q t m) s = false := by
  refine Bool.eq_false_iff.2 (fun hok => ?_)
  have hql : q.length = 256 := by rw [hq]; exact pgB_len _ _
  obtain ⟨h0, h1, h2, h3⟩ := ok_of hok
  have hcl : (ctR (tq q t m)).length ≤ 186 := by rw [ct_len (tq_len.trans hql) h2]; exact h2
  have hy : q.getD t 0 ^^^ m ≠ q.getD t 0 := xor_ne hm
  obtain ⟨k, r, hk, hr, htk⟩ : ∃ k r, k < 8 ∧ r < 32 ∧ t = 32 * k + r := ⟨t / 32, t % 32, by omega, by omega, by omega⟩
  have hget : q.getD t 0 = q[t]'(by omega) := by rw [List.getD_eq_getElem?_getD, List.getElem?_eq_getElem (by omega)]; rfl
  rcases Nat.lt_or_ge r 8 with hr8 | hr8
  · obtain ⟨k', hk', hne⟩ : ∃ k', k' < 8 ∧ k' ≠ k := ⟨if k = 0 then 1 else 0, by split <;> omega, by split <;> omega⟩
    have eg : hdB (tq q t m) 0 = g := by
      rw [← hd_eq hok hk']
      have e1 : hdB (tq q t m) k' = hdB q k' := by
        unfold hdB tq
        rw [cut_set (by omega)]
      rw [e1, hq]
      exact hd_pg g _ hk'
    have e2 : ((tq q t m).drop (32 * k)).take 8 = (q.drop (32 * k)).take 8 := by
      rw [h3, eg, sec8 hk, hq, sec8 hk]
    unfold tq at e2
    rw [cut_in (by omega)] at e2
    have e3 := congrArg (fun l => l[t - 32 * k]?) e2
    have hl : t - 32 * k < ((q.drop (32 * k)).take 8).length := by rw [List.length_take, List.length_drop]; omega
    simp only [List.getElem?_set_self hl] at e3
    rw [List.getElem?_eq_getElem hl] at e3
    have e4 := Option.some.inj e3
    rw [List.getElem_take, List.getElem_drop] at e4
    apply hy
    rw [e4, hget]
    congr 1
    omega
  · have hs1 : sumB init (stB (tq q t m)) = sumB init (stB q) := by
      rw [h3, sum_st _ hcl, hq, sum_st _ hc]
    obtain ⟨S, hS⟩ := sum_parts (k := k) init (fun s hs => by
      unfold bdS tq
      exact cut_set (by omega)) 8 hk hs1
    have e1 : bdS (tq q t m) k = (bdS q k).set (t - (32 * k + 8)) (q.getD t 0 ^^^ m) := by
      unfold bdS
      exact cut_in (by omega)
    rw [e1] at hS
    have hl : t - (32 * k + 8) < (bdS q k).length := by unfold bdS; rw [List.length_take, List.length_drop]; omega
    have e2 := Crc.sum_set S (bdS q k) _ hl _ hS
    rw [bd_get hl] at e2
    apply hy
    rw [e2]
    congr 1
    omega
section
variable {S : Dk} {q0 q1 p : List UInt8} {n : Nat}
/-- A disk of which two slots are read; nothing is counted; some may be pending. -/
structure RQ (S : Dk) (q0 q1 : List UInt8) : Prop where
  e0 : S.readE 0 = 0
  e1 : S.readE 1 = 0
  p0 : S.readP 0 = q0.map bv
  p1 : S.readP 1 = q1.map bv
  l0 : q0.length = 256
  l1 : q1.length = 256
  lf : S.left = -1
  dn : S.down = false
theorem rq_of (h : RT S q0 q1) : RQ S q0 q1 := ⟨(rt_read h (show 0 < 2 by decide)).1, (rt_read h (show 1 < 2 by decide)).1, rt_p0 h, rt_p1 h, h.l0, h.l1, h.lf, h.dn⟩
theorem rq_lkE (h : RQ S q0 q1) : lkE S = 0 := (if_pos h.e0).trans h.e1
theorem rq_there (h : RQ S q0 q1) {i : Nat} (hi : i < 2) : S.there (i : Int) = true := by
  have : S.readE (i : Int) = 0 := by
    match i, hi with
    | 0, _ => exact h.e0
    | 1, _ => exact h.e1
  unfold Dk.readE at this
  split at this
  · rename_i ht; exact ht
  · cases this
theorem lastW_snoc (l : List (Int × List Int)) (i j : Int) (x p : List Int) : lastW (l ++ [(i, x)]) j p = if i = j then x else lastW l j p := by
  unfold lastW
  rw [List.foldl_append]
  rfl
theorem rq_write (h : RQ S q0 q1) {i : Nat} (hi : i < 2) (hp : p.length = 256) : S.writeE (i : Int) = 0 ∧ RQ (S.write (i : Int) (p.map bv)) (s0 i p q0) (s1 i p q1) := by
  have ht := rq_there h hi
  have ha : S.acts = true := by unfold Dk.acts; rw [h.dn, h.lf]; rfl
  have hact : S.act = S := by
    unfold Dk.act
    rw [if_pos ha, if_neg (by rw [h.lf]; decide)]
  have hw : S.write (i : Int) (p.map bv) = { S with pending := S.pending ++ [((i : Int), p.map bv)] } := by
    unfold Dk.write
    rw [if_pos ht, if_pos ha, hact]
  refine ⟨by unfold Dk.writeE; rw [if_pos ht, actE_eq, if_pos ha], ?_⟩
  rw [hw]
  have hE : ∀ j : Int, ({ S with pending := S.pending ++ [((i : Int), p.map bv)] } : Dk).readE j = S.readE j := fun j => rfl
  have hP : ∀ j : Nat, j < 2 → ({ S with pending := S.pending ++ [((i : Int), p.map bv)] } : Dk).readP (j : Int) = if i = j then p.map bv else S.readP (j : Int) := by
    intro j hj
    have hj0 : S.readE (j : Int) = 0 := by
      match j, hj with
      | 0, _ => exact h.e0
      | 1, _ => exact h.e1
    have htj := rq_there h hj
    have hbj : ¬ 0 < S.bad (j : Int) := by
      intro hb
      unfold Dk.readE at hj0
      rw [if_pos htj, if_pos hb] at hj0
      cases hj0
    unfold Dk.readP
    rw [if_pos (show ({ S with pending := S.pending ++ [((i : Int), p.map bv)] } : Dk).there (j : Int) = true from htj), if_pos htj, if_neg hbj]
    rw [if_neg (show ¬ 0 < ({ S with pending := S.pending ++ [((i : Int), p.map bv)] } : Dk).bad (j : Int) from hbj), lastW_snoc]
    by_cases e : i = j
    · rw [if_pos e, if_pos (by omega)]
    · rw [if_neg e, if_neg (by omega)]
      rfl
  match i, hi with
  | 0, _ => exact ⟨h.e0, h.e1, hP 0 (by decide), (hP 1 (by decide)).trans h.p1, hp, h.l1, h.lf, h.dn⟩
  | 1, _ => exact ⟨h.e0, h.e1, (hP 0 (by decide)).trans h.p0, hP 1 (by decide), h.l0, hp, h.lf, h.dn⟩
/-- A slot that was turned is none's. -/
theorem gn_bad {q : List UInt8} {s : Nat} (h : okR q s = false) : gnU q s = 0 ∧ cnU q s = [] := ⟨if_neg (by rw [h]; decide), if_neg (by rw [h]; decide)⟩
end
end Go.Proofs.Ytenlkobjldhfgaa
