/- What stays true of a disk, whatever is done with it. -/
import Derived.Test.YtenlkobjldhfgaaZRootRunsDkB
set_option linter.unusedVariables false
set_option linter.unusedSimpArgs false
namespace Go.Proofs.Ytenlkobjldhfgaa
open Go.RowKit Go.Proofs.YtenlkobjldhfgaaW.PrintWords Go.Proofs.YtenlkobjldhfgaaW.PrintLast
structure Dk.good (S : Dk) (n : Nat) : Prop where
 ok : S.ok
 pn : S.pending.length ≤ n
 cn : S.cnt ≤ n
section
variable {S : Dk} {n : Nat}
theorem Dk.good.mono {m : Nat} (h : S.good n) (hm : n ≤ m) : S.good m := ⟨h.ok, Nat.le_trans h.pn hm, Nat.le_trans h.cn hm⟩
theorem Dk.good.lft (h : S.good n) : -1 ≤ S.left ∧ S.left < 9223372036854775808 := ⟨h.ok.2.2.1, h.ok.2.2.2.1⟩
theorem good_new (pages : Int) : (Dk.new pages).good 0 := ⟨new_ok pages, Nat.le_refl _, Nat.le_refl _⟩
theorem good_act (h : S.good n) : S.act.good n := ⟨act_ok h.ok, by rw [act_pending]; exact h.pn, by rw [act_cnt]; exact h.cn⟩
theorem good_write (h : S.good n) (i : Int) {p : List Int} (hp : p.length = 256) : (S.write i p).good (n + 1) := by
 unfold Dk.write
 split
 ·rename_i ht
  split
  ·have ha := good_act h
   refine ⟨⟨ha.ok.1, ha.ok.2.1, ha.ok.2.2.1, ha.ok.2.2.2.1, fun x hx => ?_⟩, ?_, Nat.le_succ_of_le ha.cn⟩
   ·rcases List.mem_append.1 hx with hx | hx
    ·exact ha.ok.2.2.2.2 x hx
    ·obtain rfl : x = (i, p) := by simpa using hx
     have := there_in ht
     show 0 ≤ i ∧ i < (S.act.stable.length : Int) ∧ p.length = 256
     rw [act_stable]
     exact ⟨this.1, this.2, hp⟩
   ·show (S.act.pending ++ [(i, p)]).length ≤ n + 1
    rw [List.length_append]
    have := ha.pn
    simp
    omega
  ·exact (good_act h).mono (Nat.le_succ _)
 ·exact h.mono (Nat.le_succ _)
theorem settleL_ok (mask : Nat → Int) : ∀ (l : List (Int × List Int)) (k : Nat) (T : List (List Int)), (∀ p ∈ T, p.length = 256) → (∀ x ∈ l, 0 ≤ x.1 ∧ x.1 < T.length ∧ x.2.length = 256) → (∀ p ∈ settleL mask k l T, p.length = 256) ∧ (settleL mask k l T).length = T.length
 | [], k, T, hT, _ => ⟨hT, rfl⟩
 | x :: l, k, T, hT, hl => by
  have hx := hl x List.mem_cons_self
  have ho : (T.getD x.1.toNat zpg).length = 256 := by
   rw [List.getD_eq_getElem?_getD, List.getElem?_eq_getElem (by omega)]
   exact hT _ (List.getElem_mem _)
  have ih := settleL_ok mask l (k + 1) (T.set x.1.toNat (mixS (mask k) (T.getD x.1.toNat zpg) x.2 8)) (set_len hT (mixS_len ho hx.2.2 8 (by omega))) (fun y hy => by rw [List.length_set]; exact hl y (List.mem_cons_of_mem _ hy))
  rw [List.length_set] at ih
  exact ih
theorem good_settle (h : S.good n) (mask : Nat → Int) : (S.settle mask).good n := by
 obtain ⟨h1, h2⟩ := settleL_ok mask S.pending 0 S.stable h.ok.1 h.ok.2.2.2.2
 refine ⟨⟨h1, ?_, h.ok.2.2.1, h.ok.2.2.2.1, fun x hx => by cases hx⟩, Nat.zero_le _, h.cn⟩
 show (settleL mask 0 S.pending S.stable).length ≤ 244
 rw [h2]; exact h.ok.2.1
theorem good_sync (h : S.good n) : S.sync.good n := by
 unfold Dk.sync
 split
 ·exact good_settle (good_act h) _
 ·exact good_act h
theorem good_crash (h : S.good n) (keep : List Int) : (S.crash keep).good n := by
 have hs := good_settle h (maskOf keep)
 exact ⟨⟨hs.ok.1, hs.ok.2.1, by show (-1 : Int) ≤ -1; omega, by show (-1 : Int) < 9223372036854775808; omega, hs.ok.2.2.2.2⟩, hs.pn, hs.cn⟩
theorem good_cut (h : S.good n) (m : Int) (hm : m < 9223372036854775808) : (S.cut m).good n := by
 refine ⟨⟨h.ok.1, h.ok.2.1, ?_, ?_, h.ok.2.2.2.2⟩, h.pn, h.cn⟩ <;> (unfold Dk.cut; dsimp only; split <;> omega)
theorem good_spoil (h : S.good n) (i : Int) (b : Bool) : (S.spoil i b).good (n + 1) := by
 unfold Dk.spoil
 split
 ·split
  ·exact ⟨h.ok, Nat.le_succ_of_le h.pn, Nat.succ_le_succ h.cn⟩
  ·exact ⟨h.ok, Nat.le_succ_of_le h.pn, Nat.le_succ_of_le h.cn⟩
 ·exact h.mono (Nat.le_succ _)
def Dk.stabP (S : Dk) (i : Int) : List Int := if S.there i = true then S.at i else zpg
theorem stabP_len (h : S.ok) (i : Int) : (S.stabP i).length = 256 := by
 unfold Dk.stabP
 split
 ·exact at_len h
 ·exact zlen
theorem stable_any {w0 W : World} {F : Nat → Prop} {L : List Res} {D gs gm : Nat} {v : Value} (HS : St w0 F W (dsk D gs gm v S L)) (hS : S.ok) (i : Int) : Calls Try.prog 28 #[.pointer (some ⟨D, 0, none⟩), .int .i64 i] W fun e w' => e = .returned (.tuple #[.agg (nums .u8 (S.stabP i)).toArray, .int .i64 (S.pageE i)]) ∧ St w0 F w' (dsk D gs gm v S L) := by
 unfold Dk.stabP Dk.pageE
 cases ht : S.there i with
 | false => exact stable_no HS hS i ht
 | true => exact stable_yes HS hS i ht
end
def rep (c : Int) : List Int := List.replicate 256 c
end Go.Proofs.Ytenlkobjldhfgaa
