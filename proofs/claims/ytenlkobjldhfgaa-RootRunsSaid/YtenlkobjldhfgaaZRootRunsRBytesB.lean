/- The document's Bytes. -/
import Derived.Test.YtenlkobjldhfgaaZRootRunsPut
namespace Go.Proofs.Ytenlkobjldhfgaa
open Go.RowKit Go.Proofs.YtenlkobjldhfgaaW.PrintWords
def lenV : Value → Nat
 | .slice _ n _ => n
 | _ => 0
theorem done_fits (n : UInt64) (W : Nat) : (uv n / ((256 ^ W : Nat) : Int) == 0) = fits W n := by
 unfold fits uv
 have h : ((n.toNat : Int) / ((256 ^ W : Nat) : Int)) = ((n.toNat / 256 ^ W : Nat) : Int) := by rw [Int.natCast_ediv]
 rw [h]
 by_cases hf : n.toNat < 256 ^ W
 ·rw [Nat.div_eq_of_lt hf]; simp [hf]
 ·have : 0 < n.toNat / 256 ^ W := Nat.div_pos (by omega) (Nat.pow_pos (by decide))
  simp only [hf, decide_false, beq_eq_false_iff_ne]
  omega
set_option maxHeartbeats 4000000 in
theorem rbytes_any (x : UInt64) (W : Nat) (w : World) (hW : W ≤ 8) :
  Calls Try.prog 52 #[.int .u64 (uv x), .int .i64 W] w fun e w' => ∃ v, e = .returned (.tuple #[v, .bool (fits W x)]) ∧ Own w' w.heap.size v (leB W x.toNat) ∧ Below w.heap.size w w' := by
 have x0 := uv_lo x
 have x1 := uv_hi x
 have HN := Lib.hid (leB_length W x.toNat)
 go_enter Try.func52, Try.ntmps52
 go_wp2
 go_loopw [0, 6] (fun n v wq => ∃ (q : Nat) (A : Option Addr) (c : Nat), q ≤ W ∧ v = .slice A q c ∧ n = .int .u64 (uv x / ((256 ^ q : Nat) : Int)) ∧ Own wq w.heap.size v ((leB W x.toNat).take q) ∧ Below w.heap.size w wq) (fun _ v _ => W - lenV v)
 case atStart => exact ⟨0, _, _, by omega, rfl, by simp, by rw [List.take_zero]; exact Own.empty w, alloc_below _ _⟩
 case round =>
  obtain ⟨q, A, c, hq, rfl, rfl, HO, HB⟩ := hrel
  have HOq := Lib.hid HO
  have HBq := Lib.hid HB
  clear HO HB
  by_cases hlt : q < W
  ·have hql : q < (leB W x.toNat).length := by rw [HN.out]; exact hlt
   have HC := Lib.hid (byte_cut x W q hql)
   have HT := Lib.hid (List.take_succ_eq_append_getElem hql)
   have hy0 : 0 ≤ uv x / ((256 ^ q : Nat) : Int) := Int.ediv_nonneg x0 (Int.natCast_nonneg _)
   have hy1 : uv x / ((256 ^ q : Nat) : Int) ≤ 18446744073709551615 := Int.le_trans (Int.ediv_le_self _ x0) x1
   have HY := Lib.hid (show uv x / ((256 ^ q : Nat) : Int) / 256 = uv x / ((256 ^ (q + 1) : Nat) : Int) by
    rw [Int.ediv_ediv_of_nonneg (Int.natCast_nonneg _), Nat.pow_succ, Int.natCast_mul]; rfl)
   have HLq := Lib.hid (show ((leB W x.toNat).take q).length ≤ 8 by rw [List.length_take]; omega)
   have HLq2 := Lib.hid (show ((leB W x.toNat).take (q + 1)).length = q + 1 by rw [List.length_take]; omega)
   generalize (leB W x.toNat)[q] = cq at HC HT
   generalize uv x / ((256 ^ q : Nat) : Int) = y at *
   go_wp2_with (at_builtin; refine own_append w.heap.size rfl (.tmp 12) (.tmp 16) rfl _ _ [cq] _ 1 1 (HOq.out.below (alloc_below _ _)) (Sl.lit wr [cq] _ (0, 0) (by rw [HC.out]; rfl) (by simp [maxLen]) 1 rfl).rd rfl rfl rfl (by have := HBq.out.size; simp; omega) (by have := HLq.out; simp only [List.length_cons, List.length_nil]; omega) ?_; intro v1 w2 HO HG _)
   have HO3 := Lib.hid HO
   have HG3 := Lib.hid HG
   obtain ⟨A2, c2, rfl, _⟩ := HO3.out.sl
   clear HO HG
   go_roundw
   case rel => exact ⟨q + 1, A2, c2, by omega, by rw [← HLq2.out, HT.out], by rw [HY.out], by rw [HT.out]; exact HO3.out, slots (HBq.out.alloc HBq.out.size _) _ HG3.out HOq.out.base⟩
   case measure => simp only [lenV, List.length_append, List.length_take, List.length_cons, List.length_nil]; omega
  ·obtain rfl : q = W := by omega
   have HE := Lib.hid (show (leB q x.toNat).take q = leB q x.toNat by rw [List.take_of_length_le (by rw [HN.out]; exact Nat.le_refl _)])
   have HD := Lib.hid (show (uv x / (256 : Int) ^ q == 0) = fits q x by have h := done_fits x q; rwa [show ((256 ^ q : Nat) : Int) = (256 : Int) ^ q by simp] at h)
   go_wp2
   go_ret2
   have HF := HOq.out
   rw [HE.out] at HF
   exact ⟨_, by rw [HD.out]; rfl, HF, HBq.out⟩
end Go.Proofs.Ytenlkobjldhfgaa
