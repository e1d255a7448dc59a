/- The document's Right, Bytes, Put. -/
import Derived.Test.YtkpkkmffcbeigaaHalves
namespace Go.Proofs.Ytkpkkmffcbeigaa
open Go.RowKit Go.Proofs.YtkpkkmffcbeigaaW.PrintWords

theorem rright_any (width : Int) (w : World) : Calls Try.prog 23 #[.int .i64 width] w fun e w' => e = .returned (.bool (wideB width)) ∧ w = w' := by
  have hk : ∀ b, wideB width = b → Ending.returned (.bool b) = .returned (.bool (wideB width)) := fun b h => by rw [h]
  by_cases h1 : width = 1
  · subst h1; have HK := Lib.hid (hk true rfl); clear hk
    go_enter Try.func23, Try.ntmps23
    go_wp2
    go_ret
    exact ⟨HK.out, rfl⟩
  · by_cases h2 : width = 2
    · subst h2; have HK := Lib.hid (hk true rfl); clear hk
      go_enter Try.func23, Try.ntmps23
      go_wp2
      go_ret
      exact ⟨HK.out, rfl⟩
    · by_cases h4 : width = 4
      · subst h4; have HK := Lib.hid (hk true rfl); clear hk
        go_enter Try.func23, Try.ntmps23
        go_wp2
        go_ret
        exact ⟨HK.out, rfl⟩
      · by_cases h8 : width = 8
        · subst h8; have HK := Lib.hid (hk true rfl); clear hk
          go_enter Try.func23, Try.ntmps23
          go_wp2
          go_ret
          exact ⟨HK.out, rfl⟩
        · have HK := Lib.hid (hk false (by unfold wideB; simp [h1, h2, h4, h8]))
          clear hk
          have e1 : (width == 1) = false := by simpa using h1
          have e2 : (width == 2) = false := by simpa using h2
          have e4 : (width == 4) = false := by simpa using h4
          have e8 : (width == 8) = false := by simpa using h8
          go_enter Try.func23, Try.ntmps23
          go_wp2
          go_ret
          exact ⟨HK.out, rfl⟩

def lenV : Value → Nat
  | .slice _ n _ => n
  | _ => 0
theorem done_fits (n : UInt64) (W : Nat) : (uv n / ((256 ^ W : Nat) : Int) == 0) = fits W n := by
  unfold fits uv
  have h : ((n.toNat : Int) / ((256 ^ W : Nat) : Int)) = ((n.toNat / 256 ^ W : Nat) : Int) := by rw [Int.natCast_ediv]
  rw [h]
  by_cases hf : n.toNat < 256 ^ W
  · rw [Nat.div_eq_of_lt hf]; simp [hf]
  · have : 0 < n.toNat / 256 ^ W := Nat.div_pos (by omega) (Nat.pow_pos (by decide))
    simp only [hf, decide_false, beq_eq_false_iff_ne]
    omega

set_option maxHeartbeats 4000000 in
theorem rbytes_any (x : UInt64) (W : Nat) (w : World) (hW : W ≤ 8) :
    Calls Try.prog 24 #[.int .u64 (uv x), .int .i64 W] w fun e w' => ∃ A c, e = .returned (.tuple #[.slice A W c, .bool (fits W x)]) ∧ Sl w' A c (leB W x.toNat) ∧ Below w.heap.size w w' := by
  have x0 := uv_lo x
  have x1 := uv_hi x
  have HN := Lib.hid (leB_length W x.toNat)
  go_enter Try.func24, Try.ntmps24
  go_wp2
  go_loopw [0, 6] (fun n v wq => ∃ (q : Nat) (A : Option Addr) (c : Nat), q ≤ W ∧ v = .slice A q c ∧ n = .int .u64 (uv x / ((256 ^ q : Nat) : Int)) ∧ Own wq w.heap.size v ((leB W x.toNat).take q) ∧ Below w.heap.size w wq) (fun _ v _ => W - lenV v)
  case atStart => exact ⟨0, _, _, by omega, rfl, by simp, by rw [List.take_zero]; exact Own.empty w, alloc_below _ _⟩
  case round =>
    obtain ⟨q, A, c, hq, rfl, rfl, HO, HB⟩ := hrel
    have HOq := Lib.hid HO
    have HBq := Lib.hid HB
    clear HO HB
    by_cases hlt : q < W
    · have hql : q < (leB W x.toNat).length := by rw [HN.out]; exact hlt
      have HC := Lib.hid (byte_cut x W q hql)
      have HT := Lib.hid (List.take_succ_eq_append_getElem hql)
      have hy0 : 0 ≤ uv x / ((256 ^ q : Nat) : Int) := Int.ediv_nonneg x0 (Int.natCast_nonneg _)
      have hy1 : uv x / ((256 ^ q : Nat) : Int) ≤ 18446744073709551615 := Int.le_trans (Int.ediv_le_self _ x0) x1
      have HY := Lib.hid (show uv x / ((256 ^ q : Nat) : Int) / 256 = uv x / ((256 ^ (q + 1) : Nat) : Int) by
        rw [Int.ediv_ediv_of_nonneg (Int.natCast_nonneg _), Nat.pow_succ, Int.natCast_mul]; rfl)
      have HLq := Lib.hid (show ((leB W x.toNat).take q).length ≤ 8 by rw [List.length_take]; omega)
      have HLq2 := Lib.hid (show ((leB W x.toNat).take (q + 1)).length = q + 1 by rw [List.length_take]; omega)
      generalize (leB W x.toNat)[q] = cq at HC HT
      generalize uv x / ((256 ^ q : Nat) : Int) = y at *
      go_wp2_with (at_builtin; refine own_append w.heap.size rfl (.tmp 12) (.tmp 16) rfl _ _ [cq] _ 1 1 (HOq.out.below (alloc_below _ _)) (Sl.lit wr [cq] _ (0, 0) (by rw [HC.out]; rfl) (by simp [maxLen]) 1 rfl).rd rfl rfl rfl (by have := HBq.out.size; simp; omega) (by have := HLq.out; simp only [List.length_cons, List.length_nil]; omega) ?_; intro v1 w2 HO HG _)
      have HO3 := Lib.hid HO
      have HG3 := Lib.hid HG
      obtain ⟨A2, c2, rfl, _⟩ := HO3.out.sl
      clear HO HG
      go_roundw
      case rel => exact ⟨q + 1, A2, c2, by omega, by rw [← HLq2.out, HT.out], by rw [HY.out], by rw [HT.out]; exact HO3.out, slots (HBq.out.alloc HBq.out.size _) _ HG3.out HOq.out.base⟩
      case measure => simp only [lenV, List.length_append, List.length_take, List.length_cons, List.length_nil]; omega
    · obtain rfl : q = W := by omega
      have HE := Lib.hid (show (leB q x.toNat).take q = leB q x.toNat by rw [List.take_of_length_le (by rw [HN.out]; exact Nat.le_refl _)])
      have HD := Lib.hid (show (uv x / (256 : Int) ^ q == 0) = fits q x by have h := done_fits x q; rwa [show ((256 ^ q : Nat) : Int) = (256 : Int) ^ q by simp] at h)
      go_wp2
      go_ret2
      obtain ⟨A3, c3, e3, hs3⟩ := HOq.out.sl
      rw [HE.out, HN.out] at e3
      injection e3 with e4 _ e5
      subst e4; subst e5
      rw [HE.out] at hs3
      exact ⟨_, _, by rw [HD.out]; rfl, hs3, HBq.out⟩

set_option maxHeartbeats 4000000 in
theorem rput_any (A : Option Addr) (c : Nat) (b : List UInt8) (width : Int) (L : Option Addr) (cL : Nat) (l : List UInt64) (w : World) (hr : Sl w A c b) (hL : Ru w L l) (hl : b.length + 8 * l.length ≤ 140737488355000) :
    Calls Try.prog 11 #[.slice A b.length c, .int .i64 width, .slice L l.length cL] w fun e w' => ∃ A' c', e = .returned (.tuple #[.slice A' (putBytes b width l).length c', .int .i64 (putErr width l)]) ∧ Sl w' A' c' (putBytes b width l) ∧ Below w.heap.size w w' := by
  have HR := Lib.hid hr
  have HL := Lib.hid hL
  clear hr hL
  by_cases hw : wideB width = true
  · obtain ⟨W, rfl, hW0, hW8⟩ : ∃ W : Nat, width = (W : Int) ∧ 1 ≤ W ∧ W ≤ 8 := by
      have h := hw
      unfold wideB at h
      simp only [Bool.or_eq_true, beq_iff_eq] at h
      exact ⟨width.toNat, by omega, by omega, by omega⟩
    have HP := Lib.hid (show ∀ ok, l.all (fits W) = ok → putOk (W : Int) l = ok by
      intro ok h; unfold putOk; rw [hw, Int.toNat_natCast, h]; rfl)
    go_enter Try.func11, Try.ntmps11
    go_wp2_with (first
      | (go_at_call 23; refine (rright_any _ _).mono ?_; rintro e w' ⟨rfl, rfl⟩)
      | (at_builtin; refine own_append w.heap.size rfl (.tmp 16) (.tmp 17) rfl _ _ b _ _ _ (Own.empty w) (HR.out.below (alloc_below _ _)).rd rfl rfl rfl (by simp) (by simp; omega) ?_; intro v w1 HO HG _; have HO1 := Lib.hid HO; have HB1 := Lib.hid (slots (alloc_below w (.cells #[] 5)) _ HG (Own.base (Own.empty w))); clear HO HG))
    have hll := HL.out.2.1
    have HO2 : Hid (Own w1 w.heap.size v (b ++ packs W (l.take 0))) := by
      have := HO1.out
      show Own w1 w.heap.size v (b ++ packs W (l.take 0))
      rw [List.take_zero]
      simpa [packs] using this
    clear HO1
    go_loopw [8, 21] (fun v i wr => ∃ k : Nat, k ≤ l.length ∧ i = .int .i64 k ∧ Own wr w.heap.size v (b ++ packs W (l.take k)) ∧ Below w.heap.size w wr ∧ (l.take k).all (fits W) = true) (fun _ i _ => l.length - (intOf i).toNat)
    case atStart => exact ⟨0, by omega, rfl, HO2.out, HB1.out, rfl⟩
    case round =>
      obtain ⟨k, hk, rfl, HOr, HBr, hall⟩ := hrel
      clear HO2 HB1
      have HOr2 := Lib.hid HOr
      have HBr2 := Lib.hid HBr
      have HA := Lib.hid hall
      clear HOr HBr hall
      by_cases hlt : k < l.length
      · obtain ⟨ad, e, hx⟩ := (HL.out.below HBr2.out).at k hlt
        cases e
        have HS := Lib.hid (packs_snoc W l k hlt)
        have HA2 := Lib.hid (show (l.take (k + 1)).all (fits W) = ((l.take k).all (fits W) && fits W l[k]) by rw [List.take_succ_eq_append_getElem hlt, List.all_append]; simp)
        have hall2 : ∀ x, l[k] = x → fits W x = false → l.all (fits W) = false := by
          intro x hx hf
          rw [List.all_eq_false]
          exact ⟨l[k], List.getElem_mem hlt, by rw [hx, hf]; decide⟩
        have HAL := Lib.hid hall2
        clear hall2
        generalize hX : l[k] = x at *
        clear hX
        have HPL := Lib.hid (show (b ++ packs W (l.take k)).length ≤ b.length + 8 * k by
          rw [List.length_append, packs_length, List.length_take]
          have : W * min k l.length ≤ 8 * k := Nat.mul_le_mul hW8 (Nat.min_le_left _ _)
          omega)
        have HN := Lib.hid (leB_length W x.toNat)
        cases hfx : fits W x
        · have HK := Lib.hid (HP.out false (HAL.out x rfl hfx))
          have HF := Lib.hid hfx
          clear hfx
          go_wp2_with (go_at_call 24; refine (rbytes_any x W _ hW8).mono ?_; rw [HF.out]; rintro e w2 ⟨A2, c2, rfl, hs2, hb2⟩; have HB2 := Lib.hid (HBr2.out.trans (hb2.mono HBr2.out.size)); clear hs2 hb2)
          go_ret2
          exact ⟨none, 0, by unfold putBytes putErr; rw [HK.out]; rfl, by unfold putBytes; rw [HK.out]; exact Sl.none _, HB2.out⟩
        · have HF := Lib.hid hfx
          clear hfx
          go_wp2_with (first
            | (go_at_call 24; refine (rbytes_any x W _ hW8).mono ?_; rw [HF.out]; rintro e w2 ⟨A2, c2, rfl, hs2, hb2⟩; have HO3 := Lib.hid (HOr2.out.below hb2); have HS2 := Lib.hid hs2; have HB2 := Lib.hid (HBr2.out.trans (hb2.mono HBr2.out.size)); clear hs2 hb2)
            | (at_builtin; refine own_append w.heap.size rfl (.tmp 33) (.tmp 34) rfl _ _ (leB W x.toNat) _ _ W HO3.out HS2.out.rd rfl rfl HN.out.symm HB2.out.size (by have := HPL.out; rw [HN.out]; omega) ?_; intro v1 w3 HO HG _; have HO4 := Lib.hid HO; have HB4 := Lib.hid (slots HB2.out _ HG HO3.out.base); clear HO HG))
          go_roundw
          case rel =>
            have hx2 := HO4.out
            rw [List.append_assoc, ← HS.out] at hx2
            exact ⟨k + 1, by omega, by go_num, hx2, HB4.out, by rw [HA2.out, HA.out, HF.out]; rfl⟩
          case measure => simp [intOf]; omega
      · obtain rfl : k = l.length := by omega
        have HK := Lib.hid (HP.out true (by have := HA.out; rwa [List.take_length] at this))
        obtain ⟨A', c', rfl, hs⟩ := HOr2.out.sl
        have HS := Lib.hid hs
        clear hs
        go_wp2
        go_ret2
        have e1 : b ++ packs W (l.take l.length) = putBytes b (W : Int) l := by unfold putBytes; rw [HK.out, Int.toNat_natCast, List.take_length]; rfl
        have e2 : putErr (W : Int) l = 0 := by unfold putErr; rw [HK.out]; rfl
        have f2 := HS.out
        rw [e1] at f2
        exact ⟨_, _, by rw [e2, ← e1]; rfl, f2, HBr2.out⟩
  · have hw2 : wideB width = false := by simpa using hw
    have HK := Lib.hid (show putOk width l = false by unfold putOk; rw [hw2]; rfl)
    clear hw
    go_enter Try.func11, Try.ntmps11
    go_wp2_with (go_at_call 23; refine (rright_any _ _).mono ?_; rintro e w' ⟨rfl, rfl⟩)
    go_ret2
    exact ⟨none, 0, by unfold putBytes putErr; rw [HK.out]; rfl, by unfold putBytes; rw [HK.out]; exact Sl.none _, Below.refl _ _⟩
end Go.Proofs.Ytkpkkmffcbeigaa
