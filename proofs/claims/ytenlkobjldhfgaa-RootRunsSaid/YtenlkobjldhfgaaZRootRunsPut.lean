/- Put: numbers behind bytes, the lowest byte first. -/
import Derived.Test.YtenlkobjldhfgaaZRootRunsWidth
import Derived.Test.YtenlkobjldhfgaaZRootRunsStr
namespace Go.Proofs.Ytenlkobjldhfgaa
open Go.RowKit Go.Proofs.YtenlkobjldhfgaaW.PrintWords
def uv (n : UInt64) : Int := (n.toNat : Int)
theorem uv_lo (n : UInt64) : 0 ≤ uv n := by unfold uv; omega
theorem uv_hi (n : UInt64) : uv n ≤ 18446744073709551615 := by have := n.toNat_lt; unfold uv; omega
theorem uv_nat (n : UInt64) : (uv n).toNat = n.toNat := by unfold uv; omega
theorem uv_inj {a b : UInt64} (h : uv a = uv b) : a = b := by unfold uv at h; exact UInt64.toNat_inj.1 (by omega)
def kU64 : Kd UInt64 := Kd.scalar (fun n => .int .u64 (uv n)) (fun _ => rfl)
abbrev Ru (w : World) (A : Option Addr) (l : List UInt64) : Prop := kU64.C w A l.length l
theorem Ru.at {w : World} {A : Option Addr} {xs : List UInt64} (h : Ru w A xs) (k : Nat) (hk : k < xs.length) : ∃ ad, A = some ad ∧ w.cell? (ad.add k) = some (.int .u64 (uv xs[k])) := by
 obtain ⟨ad, e, hc⟩ := h.2.2 (by omega)
 obtain ⟨c, hl, hr, hcell⟩ := hc k _ (List.getElem?_eq_getElem hk)
 have hr' : c = [.int .u64 (uv xs[k])] := hr
 subst hr'
 refine ⟨ad, e, ?_⟩
 have := hcell 0 _ rfl
 simpa [kU64, Kd.scalar] using this
theorem Ru.below {w w1 : World} {A : Option Addr} {l : List UInt64} (h : Ru w A l) (hb : Below w.heap.size w w1) : Ru w1 A l := Kd.C_below h hb
theorem bitLenAux_le : ∀ (f x k : Nat), x < 2 ^ f → (Lib.bitLenAux f x ≤ k ↔ x < 2 ^ k)
 | 0, x, k, h => by
  have : x = 0 := by simpa using h
  subst this
  simp [Lib.bitLenAux, Nat.two_pow_pos]
 | f + 1, x, k, h => by
  unfold Lib.bitLenAux
  split
  ·rename_i h0; subst h0; simp [Nat.two_pow_pos]
  ·rename_i h0
   cases k with
   | zero => simp; omega
   | succ k =>
    have := bitLenAux_le f (x / 2) k (by rw [Nat.pow_succ] at h; omega)
    rw [Nat.pow_succ]
    omega
theorem bitLen_le {n : Nat} (h : n < 2 ^ 64) (k : Nat) : Lib.bitLen n ≤ k ↔ n < 2 ^ k := bitLenAux_le 64 n k h
def leB : Nat → Nat → List UInt8
 | 0, _ => []
 | k + 1, n => UInt8.ofNat (n % 256) :: leB k (n / 256)
theorem leB_length : ∀ (k n : Nat), (leB k n).length = k
 | 0, _ => rfl
 | k + 1, n => by unfold leB; rw [List.length_cons, leB_length]
theorem leB_at : ∀ (k n i : Nat) (h : i < (leB k n).length), (leB k n)[i] = UInt8.ofNat (n / 256 ^ i % 256)
 | 0, _, _, h => by simp [leB] at h
 | k + 1, n, 0, _ => by simp [leB]
 | k + 1, n, i + 1, h => by
  have hl : i < (leB k (n / 256)).length := by rw [leB_length] at h ⊢; omega
  have : (leB (k + 1) n)[i + 1] = (leB k (n / 256))[i] := rfl
  rw [this, leB_at k (n / 256) i hl, Nat.div_div_eq_div_mul, Nat.pow_succ, Nat.mul_comm]
def fits (W : Nat) (n : UInt64) : Bool := decide (n.toNat < 256 ^ W)
def putOk (width : Int) (l : List UInt64) : Bool := wideB width && l.all (fits width.toNat)
def packs (W : Nat) (l : List UInt64) : List UInt8 := (l.map fun n => leB W n.toNat).flatten
def putBytes (b : List UInt8) (width : Int) (l : List UInt64) : List UInt8 := if putOk width l then b ++ packs width.toNat l else []
def putErr (width : Int) (l : List UInt64) : Int := if putOk width l then 0 else 11
theorem packs_length (W : Nat) (l : List UInt64) : (packs W l).length = W * l.length := by
 unfold packs
 induction l with
 | nil => simp
 | cons n l ih => simp only [List.map_cons, List.flatten_cons, List.length_append, leB_length, ih, List.length_cons]; rw [Nat.mul_add, Nat.mul_one, Nat.add_comm]
theorem packs_snoc (W : Nat) (l : List UInt64) (k : Nat) (h : k < l.length) : packs W (l.take (k + 1)) = packs W (l.take k) ++ leB W l[k].toNat := by
 unfold packs; rw [List.take_succ_eq_append_getElem h, List.map_append, List.flatten_append]; simp only [List.map_cons, List.map_nil, List.flatten_cons, List.flatten_nil, List.append_nil]
theorem fits_len (W : Nat) (n : UInt64) : decide (8 * (W : Int) < ((Lib.bitLen (uv n).toNat : Nat) : Int)) = !fits W n := by
 unfold fits
 have h := bitLen_le (n := n.toNat) (by have := n.toNat_lt; omega) (8 * W)
 rw [uv_nat, show (256 : Nat) ^ W = 2 ^ (8 * W) by rw [Nat.pow_mul]]
 by_cases hf : n.toNat < 2 ^ (8 * W)
 ·simp only [hf, decide_true, Bool.not_true, decide_eq_false_iff_not]
  have := h.2 hf
  omega
 ·simp only [hf, decide_false, Bool.not_false, decide_eq_true_eq]
  have : ¬ Lib.bitLen n.toNat ≤ 8 * W := fun h2 => hf (h.1 h2)
  omega
theorem byte_cut (n : UInt64) (W q : Nat) (h : q < (leB W n.toNat).length) : (uv n / ((256 ^ q : Nat) : Int)) % 256 = bv (leB W n.toNat)[q] := by
 rw [leB_at]
 unfold uv bv
 rw [UInt8.toNat_ofNat']
 omega
set_option maxHeartbeats 4000000 in
theorem put_any (A : Option Addr) (c : Nat) (b : List UInt8) (width : Int) (L : Option Addr) (cL : Nat) (l : List UInt64) (w : World) (hr : Sl w A c b) (hL : Ru w L l) (hl : b.length + 8 * l.length ≤ 140737488355000) :
  Calls Try.prog 48 #[.slice A b.length c, .int .i64 width, .slice L l.length cL] w fun e w' => ∃ A' c', e = .returned (.tuple #[.slice A' (putBytes b width l).length c', .int .i64 (putErr width l)]) ∧ Sl w' A' c' (putBytes b width l) ∧ Own w' w.heap.size (.slice A' (putBytes b width l).length c') (putBytes b width l) ∧ Below w.heap.size w w' := by
 have HR := Lib.hid hr
 have HL := Lib.hid hL
 clear hr hL
 by_cases hw : wideB width = true
 ·obtain ⟨W, rfl, hW0, hW8⟩ : ∃ W : Nat, width = (W : Int) ∧ 1 ≤ W ∧ W ≤ 8 := by
   have h := hw
   unfold wideB at h
   simp only [Bool.or_eq_true, beq_iff_eq] at h
   exact ⟨width.toNat, by omega, by omega, by omega⟩
  have HP := Lib.hid (show ∀ ok, l.all (fits W) = ok → putOk (W : Int) l = ok by
   intro ok h; unfold putOk; rw [hw, Int.toNat_natCast, h]; rfl)
  go_enter Try.func48, Try.ntmps48
  go_wp2_with (first
   | (go_at_call 56; refine (right_any _ _).mono ?_; rintro e w' ⟨rfl, rfl⟩)
   | (go_at_call 57; refine (clone_n _ _ _ b _ rfl HR.out (by omega)).mono ?_; rintro e w1 ⟨v, rfl, HO, HB⟩; have HO1 := Lib.hid HO; have HB1 := Lib.hid HB; clear HO HB))
  have hll := HL.out.2.1
  have HO2 : Hid (Own w1 w.heap.size v (b ++ packs W (l.take 0))) := by
   have := HO1.out
   show Own w1 w.heap.size v (b ++ packs W (l.take 0))
   rw [List.take_zero]
   simpa [packs] using this
  clear HO1
  go_loopw [8, 18] (fun v i wr => ∃ k : Nat, k ≤ l.length ∧ i = .int .i64 k ∧ Own wr w.heap.size v (b ++ packs W (l.take k)) ∧ Below w.heap.size w wr ∧ (l.take k).all (fits W) = true) (fun _ i _ => l.length - (intOf i).toNat)
  case atStart => exact ⟨0, by omega, rfl, HO2.out, HB1.out, rfl⟩
  case round =>
   obtain ⟨k, hk, rfl, HOr, HBr, hall⟩ := hrel
   clear HO2 HB1
   have HOr2 := Lib.hid HOr
   have HBr2 := Lib.hid HBr
   have HA := Lib.hid hall
   clear HOr HBr hall
   by_cases hlt : k < l.length
   ·obtain ⟨ad, e, hx⟩ := (HL.out.below HBr2.out).at k hlt
    cases e
    have HS := Lib.hid (packs_snoc W l k hlt)
    have HA2 := Lib.hid (show (l.take (k + 1)).all (fits W) = ((l.take k).all (fits W) && fits W l[k]) by rw [List.take_succ_eq_append_getElem hlt, List.all_append]; simp)
    have hall2 : ∀ x, l[k] = x → fits W x = false → l.all (fits W) = false := by
     intro x hx hf
     rw [List.all_eq_false]
     exact ⟨l[k], List.getElem_mem hlt, by rw [hx, hf]; decide⟩
    have HAL := Lib.hid hall2
    clear hall2
    generalize hX : l[k] = x at *
    have HXe := Lib.hid hX
    clear hX
    have x0 := uv_lo x
    have x1 := uv_hi x
    have hf := fits_len W x
    have hbl : Lib.bitLen (uv x).toNat ≤ 64 := by
     rw [uv_nat]; exact (bitLen_le (by have := x.toNat_lt; omega) 64).2 x.toNat_lt
    have HPL := Lib.hid (show (b ++ packs W (l.take k)).length ≤ b.length + 8 * k by
     rw [List.length_append, packs_length, List.length_take]
     have : W * min k l.length ≤ 8 * k := Nat.mul_le_mul hW8 (Nat.min_le_left _ _)
     omega)
    cases hfx : fits W x
    ·rw [hfx] at hf
     simp only [Bool.not_false] at hf
     have HK := Lib.hid (HP.out false (HAL.out x rfl hfx))
     clear hfx
     go_wp2_with (go_at_call 58; refine (len64_any _ x0 x1 _).mono ?_; rintro e w' ⟨rfl, rfl⟩)
     go_ret2
     exact ⟨none, 0, by unfold putBytes putErr; rw [HK.out]; rfl, by unfold putBytes; rw [HK.out]; exact Sl.none _, by unfold putBytes; rw [HK.out]; exact Own.nil _ _, HBr2.out⟩
    ·rw [hfx] at hf
     simp only [Bool.not_true] at hf
     have HF := Lib.hid hfx
     clear hfx
     go_wp2_with (go_at_call 58; refine (len64_any _ x0 x1 _).mono ?_; rintro e w' ⟨rfl, rfl⟩)
     have HN := Lib.hid (leB_length W x.toNat)
     go_loopw [8, 10, 28] (fun v n i wq => ∃ q : Nat, q ≤ W ∧ i = .int .i64 q ∧ n = .int .u64 (uv x / ((256 ^ q : Nat) : Int)) ∧ Own wq w.heap.size v (b ++ packs W (l.take k) ++ (leB W x.toNat).take q) ∧ Below w.heap.size w wq) (fun _ _ i _ => W - (intOf i).toNat)
     case atStart => exact ⟨0, by omega, rfl, by simp, by rw [List.take_zero, List.append_nil]; exact HOr2.out, HBr2.out⟩
     case round =>
      clear hx
      obtain ⟨q, hq, rfl, rfl, HOq, HBq⟩ := hrel
      have HOq2 := Lib.hid HOq
      have HBq2 := Lib.hid HBq
      clear HOq HBq
      by_cases hlt2 : q < W
      ·have hql : q < (leB W x.toNat).length := by rw [HN.out]; exact hlt2
       have HC := Lib.hid (byte_cut x W q hql)
       have HT := Lib.hid (List.take_succ_eq_append_getElem hql)
       have hy0 : 0 ≤ uv x / ((256 ^ q : Nat) : Int) := Int.ediv_nonneg x0 (Int.natCast_nonneg _)
       have hy1 : uv x / ((256 ^ q : Nat) : Int) ≤ 18446744073709551615 := Int.le_trans (Int.ediv_le_self _ x0) x1
       have HY := Lib.hid (show uv x / ((256 ^ q : Nat) : Int) / 256 = uv x / ((256 ^ (q + 1) : Nat) : Int) by
        rw [Int.ediv_ediv_of_nonneg (Int.natCast_nonneg _), Nat.pow_succ, Int.natCast_mul]; rfl)
       have HLq := Lib.hid (show (b ++ packs W (l.take k) ++ (leB W x.toNat).take q).length ≤ b.length + 8 * k + 8 by
        have := HPL.out
        rw [List.length_append, List.length_take]; omega)
       generalize (leB W x.toNat)[q] = cq at HC HT
       generalize uv x / ((256 ^ q : Nat) : Int) = y at *
       go_wp2_with (at_builtin; refine own_append w.heap.size rfl (.tmp 30) (.tmp 33) rfl _ _ [cq] _ 1 1 (HOq2.out.below (alloc_below _ _)) (Sl.lit wr [cq] _ (0, 0) (by rw [HC.out]; rfl) (by simp [maxLen]) 1 rfl).rd rfl rfl rfl (by have := HBq2.out.size; simp; omega) (by have := HLq.out; simp only [List.length_cons, List.length_nil]; omega) ?_; intro v1 w2 HO HG _)
       have HOq3 := Lib.hid HO
       have HGq := Lib.hid HG
       clear HO HG
       go_roundw
       case rel =>
        exact ⟨q + 1, by omega, by go_num, by rw [HY.out], by rw [HT.out, ← List.append_assoc]; exact HOq3.out, slots (HBq2.out.alloc HBq2.out.size _) _ HGq.out HOq2.out.base⟩
       case measure => simp [intOf]; omega
      ·obtain rfl : q = W := by omega
       have HE := Lib.hid (show (leB q x.toNat).take q = leB q x.toNat by rw [List.take_of_length_le (by rw [HN.out]; exact Nat.le_refl _)])
       go_wp2
       go_roundw
       case rel =>
        have hx2 := HOq2.out
        rw [HE.out, List.append_assoc, ← HS.out] at hx2
        exact ⟨k + 1, by omega, by go_num, hx2, HBq2.out, by rw [HA2.out, HA.out, HF.out]; rfl⟩
       case measure => simp [intOf]; omega
   ·obtain rfl : k = l.length := by omega
    have HK := Lib.hid (HP.out true (by have := HA.out; rwa [List.take_length] at this))
    obtain ⟨A', c', rfl, hs⟩ := HOr2.out.sl
    have HS := Lib.hid hs
    clear hs
    go_wp2
    go_ret2
    have e1 : b ++ packs W (l.take l.length) = putBytes b (W : Int) l := by unfold putBytes; rw [HK.out, Int.toNat_natCast, List.take_length]; rfl
    have e2 : putErr (W : Int) l = 0 := by unfold putErr; rw [HK.out]; rfl
    have f1 := HOr2.out
    have f2 := HS.out
    rw [e1] at f1 f2
    exact ⟨_, _, by rw [e2, ← e1]; rfl, f2, f1, HBr2.out⟩
 ·have hw2 : wideB width = false := by simpa using hw
  have HK := Lib.hid (show putOk width l = false by unfold putOk; rw [hw2]; rfl)
  clear hw
  go_enter Try.func48, Try.ntmps48
  go_wp2_with (go_at_call 56; refine (right_any _ _).mono ?_; rintro e w' ⟨rfl, rfl⟩)
  go_ret2
  exact ⟨none, 0, by unfold putBytes putErr; rw [HK.out]; rfl, by unfold putBytes; rw [HK.out]; exact Sl.none _, by unfold putBytes; rw [HK.out]; exact Own.nil _ _, Below.refl _ _⟩
end Go.Proofs.Ytenlkobjldhfgaa
