/- A disk whose pages are bytes, plain; whatever is done. -/
import Derived.Test.YtenlkobjldhfgaaZRootRunsRf2
import Derived.Test.YtenlkobjldhfgaaZRootRunsRtE
set_option linter.unusedVariables false
set_option linter.unusedSimpArgs false
namespace Go.Proofs.Ytenlkobjldhfgaa
open Go.RowKit Go.Proofs.YtenlkobjldhfgaaW.PrintWords Go.Proofs.YtenlkobjldhfgaaW.PrintLast Crc
def isB (p : List Int) : Prop := ∃ q : List UInt8, q.length = 256 ∧ p = q.map bv
structure BY (S : Dk) : Prop where
 st : ∀ p ∈ S.stable, isB p
 pd : ∀ x ∈ S.pending, isB x.2
theorem isB_z : isB zpg := ⟨zP, List.length_replicate, zP_bv.symm⟩
theorem isB_get {T : List (List Int)} (h : ∀ p ∈ T, isB p) (i : Nat) : isB (T.getD i zpg) := by
 rw [List.getD_eq_getElem?_getD]
 rcases hx : T[i]? with _ | x
 ·exact isB_z
 ·exact h _ (List.mem_of_getElem? hx)
theorem isB_mix {m : Int} {o x : List Int} (ho : isB o) (hx : isB x) : isB (mixS m o x 8) := by
 obtain ⟨o, h1, rfl⟩ := ho
 obtain ⟨x, h2, rfl⟩ := hx
 obtain ⟨q, hq, hm, -⟩ := mix_map (m := m) h1 h2 8 (Nat.le_refl _)
 exact ⟨q, hq, hm⟩
theorem isB_settle (m : Nat → Int) : ∀ (l : List (Int × List Int)) (k : Nat) (T : List (List Int)), (∀ p ∈ T, isB p) → (∀ x ∈ l, isB x.2) → ∀ p ∈ settleL m k l T, isB p
 | [], _, _, hT, _ => hT
 | x :: l, k, T, hT, hl => by
  unfold settleL
  refine isB_settle m l (k + 1) _ (fun p hp => ?_) (fun y hy => hl y (.tail _ hy))
  rcases List.mem_or_eq_of_mem_set hp with h | rfl
  ·exact hT p h
  ·exact isB_mix (isB_get hT _) (hl x (.head _))
theorem isB_last : ∀ (l : List (Int × List Int)) (i : Int) (p : List Int), isB p → (∀ x ∈ l, isB x.2) → isB (lastW l i p)
 | [], _, _, hp, _ => hp
 | x :: l, i, p, hp, hl => by
  show isB (lastW l i (if x.1 = i then x.2 else p))
  refine isB_last l i _ ?_ (fun y hy => hl y (.tail _ hy))
  split
  ·exact hl x (.head _)
  ·exact hp
section
variable {S : Dk} {q0 q1 : List UInt8}
theorem by_new (n : Int) : BY (Dk.new n) := ⟨fun p hp => by
 obtain rfl : p = zpg := List.eq_of_mem_replicate hp
 exact isB_z, fun x hx => by cases hx⟩
theorem act_st (S : Dk) : S.act.stable = S.stable ∧ S.act.pending = S.pending := by
 unfold Dk.act
 split <;> exact ⟨rfl, rfl⟩
theorem by_act (h : BY S) : BY S.act := ⟨by rw [(act_st S).1]; exact h.st, by rw [(act_st S).2]; exact h.pd⟩
theorem by_write (h : BY S) (i : Int) {p : List Int} (hp : isB p) : BY (S.write i p) := by
 unfold Dk.write
 split
 ·split
  ·refine ⟨(by_act h).st, fun x hx => ?_⟩
   rcases List.mem_append.1 hx with h2 | h2
   ·exact (by_act h).pd x h2
   ·obtain rfl := List.mem_singleton.1 h2
    exact hp
  ·exact by_act h
 ·exact h
theorem by_settle (h : BY S) (m : Nat → Int) : BY (S.settle m) := ⟨isB_settle m _ _ _ h.st h.pd, fun x hx => by cases hx⟩
theorem by_sync (h : BY S) : BY S.sync := by
 unfold Dk.sync
 split
 ·exact by_settle (by_act h) _
 ·exact by_act h
theorem by_crash (h : BY S) (keep : List Int) : BY (S.crash keep) := ⟨(by_settle h (maskOf keep)).st, (by_settle h (maskOf keep)).pd⟩
theorem by_cut (h : BY S) (n : Int) : BY (S.cut n) := ⟨h.st, h.pd⟩
theorem by_spoil (h : BY S) (i : Int) (b : Bool) : BY (S.spoil i b) := by
 unfold Dk.spoil
 split
 ·split <;> exact ⟨h.st, h.pd⟩
 ·exact h
theorem by_wS (h : BY S) (xs : List UInt8) : BY (wS S q0 q1 xs) := by
 have h1 : BY (w1S S q0 q1 xs) := by_write h _ ⟨_, pgB_len _ _, rfl⟩
 unfold wS
 split
 ·split
  ·exact by_sync h1
  ·exact h1
 ·exact h
theorem by_read (h : BY S) (i : Int) : isB (S.readP i) := by
 unfold Dk.readP
 split
 ·split
  ·exact isB_z
  ·exact isB_last _ _ _ (isB_get h.st _) h.pd
 ·exact isB_z
theorem by_q (h : BY S) : ∃ q0 q1 : List UInt8, S.readP 0 = q0.map bv ∧ S.readP 1 = q1.map bv ∧ q0.length = 256 ∧ q1.length = 256 := by
 obtain ⟨q0, l0, h0⟩ := by_read h 0
 obtain ⟨q1, l1, h1⟩ := by_read h 1
 exact ⟨q0, q1, h0, h1, l0, l1⟩
end
theorem rd_takeN {w : World} {A : Option Addr} {xs : List UInt8} (h : Rd w A xs) (n : Nat) : Rd w A (xs.take n) := by
 refine ⟨rfl, by have := h.2.1; rw [List.length_take]; omega, fun hne => ?_⟩
 obtain ⟨ad, e, hc⟩ := h.2.2 (by rw [List.length_take] at hne; omega)
 exact ⟨ad, e, fun j p hj => hc j p (by rw [List.getElem?_take] at hj; split at hj; exact hj; cases hj)⟩
theorem map_add0 (A : Option Addr) (c : Nat) : (if c = 0 then A else A.map (·.add (0 * 1))) = A := by
 split
 ·rfl
 ·cases A with
  | none => rfl
  | some a => cases a; rfl
theorem gen_of {g : Int} (h : 0 ≤ g ∧ g ≤ 18446744073709551615) : ∃ u : UInt64, g = uv u := by
 refine ⟨UInt64.ofNat g.toNat, ?_⟩
 unfold uv
 rw [UInt64.toNat_ofNat']
 omega
theorem pB_len (g : UInt64) (st : List UInt8) : ((pgB g st).map bv).length = 256 := by rw [List.length_map]; exact pgB_len _ _
theorem min186 (xs : List UInt8) : (if (186 : Int) < (xs.length : Int) then (186 : Int) else (xs.length : Int)) = ((xs.take 186).length : Int) := by
 rw [List.length_take]
 split <;> omega
section
variable {S : Dk} {R : Rk}
theorem pg_cell {w : World} {ad : Addr} {n c e k : Nat} {x : List Int} {xs : List (List Int)} {hE : kPg.E = []} (h : (row kPg hE e (.slice (some ad) n c) xs).holds w) (hx : xs[k]? = some x) : ∀ j v, (nums .u8 x)[j]? = some v → w.cell? ((ad.add (k * 256)).add j) = some v := by
 obtain ⟨a', y, e, hy, -, hc⟩ := pg_get (row_C h).2.2 k (List.getElem?_eq_some_iff.1 hx).1
 obtain rfl := Option.some.inj e
 obtain rfl := Option.some.inj (hy.symm.trans hx)
 exact hc
theorem rdkd_split (kd : Int) : kd = 0 ∨ kd = 1 ∨ kd = 2 ∨ kd = 3 ∨ kd = 4 ∨ kd = 5 ∨ (kd ≠ 0 ∧ kd ≠ 1 ∧ kd ≠ 2 ∧ kd ≠ 3 ∧ kd ≠ 4 ∧ kd ≠ 5) := by omega
theorem rdp_yes {k : Nat} {p : List Int} (h : RD S R) (hx : R.stable[k]? = some p) : S.pageE (k : Int) = 0 ∧ S.stabP (k : Int) = p := by
 have hk := (List.getElem?_eq_some_iff.1 hx).1
 rw [h.st] at hx hk
 have ht : S.there (k : Int) = true := by unfold Dk.there; exact decide_eq_true ⟨by omega, by omega⟩
 refine ⟨if_pos ht, ?_⟩
 unfold Dk.stabP
 rw [if_pos ht]
 unfold Dk.at
 rw [Int.toNat_natCast, List.getD_eq_getElem?_getD, hx]
 rfl
end
end Go.Proofs.Ytenlkobjldhfgaa
