/- EndsBack. -/
import Derived.Test.YtkpkkmffcbeigaaNumPlain
import Derived.Test.YtkpkkmffcbeigaaJoins
namespace Go.Proofs.Ytkpkkmffcbeigaa
open Go.RowKit Go.Proofs.YtkpkkmffcbeigaaW.PrintWords

/-- The reader of all but the last byte. -/
theorem num_short (W : Nat) (hw : wideB W = true) (l : List UInt64) (hok : putOk W l = true) (k : Nat) (hk : k + 1 < l.length) :
    numB (takeOut ((packs W (l.drop k)).take (W * (l.length - k) - 1)) (false || !wideB (W : Int)) W) = uv l[k] ∧
    takeRest ((packs W (l.drop k)).take (W * (l.length - k) - 1)) (false || !wideB (W : Int)) W = (packs W (l.drop (k + 1))).take (W * (l.length - (k + 1)) - 1) ∧
    takeBad ((packs W (l.drop k)).take (W * (l.length - k) - 1)) (false || !wideB (W : Int)) W = false := by
  have hf := fits_of _ l hok k (by omega)
  rw [Int.toNat_natCast] at hf
  have hW : 1 ≤ W := by unfold wideB at hw; simp only [Bool.or_eq_true, beq_iff_eq] at hw; omega
  have e1 : W * (l.length - k) = W + W * (l.length - (k + 1)) := by
    have : l.length - k = (l.length - (k + 1)) + 1 := by omega
    rw [this, Nat.mul_add, Nat.mul_one, Nat.add_comm]
  have e2 : W ≤ W * (l.length - (k + 1)) := Nat.le_mul_of_pos_right _ (by omega)
  have e3 : (packs W (l.drop k)).take (W * (l.length - k) - 1) = leB W l[k].toNat ++ (packs W (l.drop (k + 1))).take (W * (l.length - (k + 1)) - 1) := by
    rw [packs_drop W l k (by omega), List.take_append, leB_length, List.take_of_length_le (by rw [leB_length]; omega)]
    congr 2
    omega
  rw [e3]
  exact num_packs W hw l k (by omega) _ hf
theorem num_last (W : Nat) (hw : wideB W = true) (l : List UInt64) (hl : 0 < l.length) :
    numB (takeOut ((packs W (l.drop (l.length - 1))).take (W * (l.length - (l.length - 1)) - 1)) (false || !wideB (W : Int)) W) = 0 ∧
    takeBad ((packs W (l.drop (l.length - 1))).take (W * (l.length - (l.length - 1)) - 1)) (false || !wideB (W : Int)) W = true := by
  have hW : 1 ≤ W := by unfold wideB at hw; simp only [Bool.or_eq_true, beq_iff_eq] at hw; omega
  have hb : takeBad ((packs W (l.drop (l.length - 1))).take (W * (l.length - (l.length - 1)) - 1)) (false || !wideB (W : Int)) W = true := by
    unfold takeBad
    rw [hw]
    have h1 : ((packs W (l.drop (l.length - 1))).take (W * (l.length - (l.length - 1)) - 1)).length < W := by
      rw [List.length_take]
      have e : l.length - (l.length - 1) = 1 := by omega
      rw [e, Nat.mul_one]
      omega
    simp only [Bool.not_true, Bool.or_false, Bool.false_or, Bool.or_eq_true, decide_eq_true_eq]
    omega
  refine ⟨?_, hb⟩
  unfold takeOut
  rw [hb]
  rfl
theorem packs_take_all (W : Nat) (l : List UInt64) : (packs W l).take ((packs W l).length - 1) = (packs W (l.drop 0)).take (W * (l.length - 0) - 1) := by
  rw [List.drop_zero, packs_length, Nat.sub_zero]

attribute [local go_sem] strB_list
set_option maxHeartbeats 8000000 in
theorem endsBack_any (width : Int) (L : Option Addr) (cL : Nat) (l : List UInt64) (w : World) (hL : Ru w L l) (hcL : l.length ≤ cL) :
    Calls Try.prog 8 #[.int .i64 width, .slice L l.length cL] w fun e w' => e = .returned (.bool true) ∧ Below w.heap.size w w' := by
  have n1 := hL.2.1
  have HL := Lib.hid hL
  clear hL
  by_cases hl : l.length ≤ 100
  · have g1 : ¬ ((100 : Int) < l.length) := by omega
    cases hok : putOk width l
    · have HE := Lib.hid (show putErr width l = 11 by unfold putErr; rw [hok]; rfl)
      clear hok
      go_enter Try.func8, Try.ntmps8
      go_wp2_with (first
        | (go_at_call 9; refine (endsAlive_any _).mono ?_; rintro e w1 ⟨rfl, HB⟩; have HB1 := Lib.hid HB; have HL1 := Lib.hid (HL.out.below HB); clear HB)
        | (go_at_call 10; refine (put_n none 0 0 [] width _ _ _ l _ _ 11 rfl rfl rfl HE.out (Sl.none _) HL1.out (by simp; omega)).mono ?_; rintro e w2 ⟨A2, c2, rfl, _, _, hb⟩; have HB2 := Lib.hid (below_step HB1.out hb); clear hb))
      go_ret
      exact ⟨rfl, HB2.out⟩
    · have hw : wideB width = true := by unfold putOk at hok; exact (Bool.and_eq_true _ _ ▸ hok).1
      obtain ⟨W, rfl, hW0, hW8⟩ : ∃ W : Nat, width = (W : Int) ∧ 1 ≤ W ∧ W ≤ 8 := by
        have h := hw
        unfold wideB at h
        simp only [Bool.or_eq_true, beq_iff_eq] at h
        exact ⟨width.toNat, by omega, by omega, by omega⟩
      have HE := Lib.hid (putErr_ok hok)
      have HP := Lib.hid (show putBytes [] (W : Int) l = packs W l by unfold putBytes; rw [hok, if_pos rfl, List.nil_append, Int.toNat_natCast])
      have HOK := Lib.hid hok
      have HWD := Lib.hid hw
      have HPL := Lib.hid (packs_length W l)
      have hWl : W * l.length ≤ 800 := Nat.mul_le_mul hW8 hl
      have hcut : ∀ k, (packs W (l.drop k)).length ≤ 800 := fun k => by
        rw [packs_length, List.length_drop]
        exact Nat.le_trans (Nat.mul_le_mul_left W (Nat.sub_le _ _)) hWl
      have HCUT := Lib.hid hcut
      clear hok hw hcut
      go_enter Try.func8, Try.ntmps8
      go_wp2_with (first
        | (go_at_call 9; refine (endsAlive_any _).mono ?_; rintro e w1 ⟨rfl, HB⟩; have HB1 := Lib.hid HB; have HL1 := Lib.hid (HL.out.below HB); clear HB)
        | (go_at_call 10; refine (put_n none 0 0 [] W _ _ _ l _ _ 0 rfl rfl HP.out HE.out (Sl.none _) HL1.out (by simp; omega)).mono ?_; rintro e w2 ⟨A2, c2, rfl, hs, _, hb⟩; have HB2 := Lib.hid (below_step HB1.out hb); have HS2 := Lib.hid hs; have HL2 := Lib.hid (HL1.out.below hb); clear hb hs HL1)
        | (go_at_call 12; refine (new_n _ _ _ (packs W l) _ rfl HS2.out (by rw [HPL.out]; omega)).mono ?_; rintro e w3 ⟨R, rfl, hR, hb⟩; have HR3 := Lib.hid hR; have HB3 := Lib.hid hb; clear hR hb))
      go_loopw [32] (fun i wr => ∃ k : Nat, k ≤ l.length ∧ i = .int .i64 k ∧ RdrX wr w2.heap.size R (packs W (l.drop k)) false ∧ Below w2.heap.size w2 wr) (fun i _ => l.length - (intOf i).toNat)
      case atStart => exact ⟨0, by omega, rfl, HR3.out, HB3.out⟩
      case round =>
        obtain ⟨k, hk, rfl, hR, hb⟩ := hrel
        have HRr := Lib.hid hR
        have HBr := Lib.hid hb
        clear hR hb HR3 HB3
        by_cases hlt : k < l.length
        · have HN := Lib.hid (show numB (takeOut (packs W (l.drop k)) (false || !wideB (W : Int)) W) = uv l[k] ∧ takeRest (packs W (l.drop k)) (false || !wideB (W : Int)) W = packs W (l.drop (k + 1)) ∧ takeBad (packs W (l.drop k)) (false || !wideB (W : Int)) W = false by
            have hf := fits_of _ l HOK.out k hlt
            rw [Int.toNat_natCast] at hf
            rw [packs_drop W l k hlt]
            exact num_packs W HWD.out l k hlt _ hf)
          obtain ⟨ad, e, hx⟩ := (HL2.out.below HBr.out).at k hlt
          cases e
          generalize l[k] = x at hx HN
          have x0 := uv_lo x
          have x1 := uv_hi x
          go_wp2_with (go_at_call 13; refine (num_n _ R _ false W _ (uv x) _ false HRr.out (by have := HCUT.out k; omega) HN.out.1 HN.out.2.1 HN.out.2.2).mono ?_; rintro e w5 ⟨rfl, hR, hg⟩; have HR5 := Lib.hid hR; have HB5 := Lib.hid (HBr.out.trans (RdrX.keeps hR.le HBr.out.size hg)); clear hR hg)
          go_roundw
          case rel => exact ⟨k + 1, by omega, by go_num, HR5.out, HB5.out⟩
          case measure => simp [intOf]; omega
        · obtain rfl : k = l.length := by omega
          have HR4 : Hid (RdrX wr w2.heap.size R [] false) := by have := HRr.out; rw [List.drop_length] at this; exact Lib.hid this
          have HB4 := Lib.hid (below_step HB2.out HBr.out)
          have hm : (l.length : Int) * (W : Int) = (((packs W l).length : Nat) : Int) := by rw [HPL.out, Int.natCast_mul, Int.mul_comm]
          have hp2 : (packs W l).length ≤ 800 := by rw [HPL.out]; exact hWl
          by_cases h0 : l.length = 0
          · have hz : (packs W l).length = 0 := by rw [HPL.out, h0, Nat.mul_zero]
            clear hm
            go_wp2_with (go_at_call 16; refine (ended_n _ R [] false _ true HR4.out rfl).mono ?_; rintro e w5 ⟨rfl, rfl⟩)
            go_ret
            exact ⟨rfl, HB4.out⟩
          · have hp1 : 1 ≤ (packs W l).length := by rw [HPL.out]; exact Nat.mul_pos (by omega) (by omega)
            have hcap := (HS2.out.below HBr.out).cap
            have hq1 : ((packs W l).length : Int) - 1 ≤ (c2 : Int) := by omega
            have HTK := Lib.hid (packs_take_all W l)
            have HT1 := Lib.hid (show ((packs W l).take ((packs W l).length - 1)).length = (packs W l).length - 1 by rw [List.length_take]; omega)
            obtain ⟨ad, eL, _⟩ := (HL2.out.below HBr.out).at 0 (by omega)
            cases eL
            go_wp2_with (first
              | (go_at_call 16; refine (ended_n _ R [] false _ true HR4.out rfl).mono ?_; rintro e w5 ⟨rfl, rfl⟩)
              | (go_at_call 12; refine (new_n _ _ _ ((packs W l).take ((packs W l).length - 1)) _ HT1.out.symm ((HS2.out.below HBr.out).take _ (by omega)) (by rw [HT1.out]; omega)).mono ?_; rintro e w5 ⟨S, rfl, hR, hb⟩; rw [HTK.out] at hR; have HR5 := Lib.hid hR; have HB5 := Lib.hid hb; clear hR hb))
            have HB5w := Lib.hid (HBr.out.trans (HB5.out.mono HBr.out.size))
            go_loopw [69] (fun i wq => ∃ k : Nat, k + 1 ≤ l.length ∧ i = .int .i64 k ∧ RdrX wq wr.heap.size S ((packs W (l.drop k)).take (W * (l.length - k) - 1)) false ∧ Below w2.heap.size w2 wq ∧ Below wr.heap.size wr wq) (fun i _ => l.length - (intOf i).toNat)
            case atStart => exact ⟨0, by omega, rfl, HR5.out, HB5w.out, HB5.out⟩
            case round =>
              obtain ⟨k, hk, rfl, hR, hb, hb2⟩ := hrel
              have HRq := Lib.hid hR
              have HBq := Lib.hid hb
              have HBz := Lib.hid hb2
              clear hR hb hb2 HR5 HB5 HB5w
              have HLN := Lib.hid (show ((packs W (l.drop k)).take (W * (l.length - k) - 1)).length ≤ 800 from by rw [List.length_take]; have := HCUT.out k; omega)
              by_cases hlt : k + 1 < l.length
              · have HN := Lib.hid (num_short W HWD.out l HOK.out k hlt)
                obtain ⟨ad2, e, hx⟩ := (HL2.out.below HBq.out).at k (by omega)
                injection e with e
                subst e
                generalize l[k] = x at hx HN
                have x0 := uv_lo x
                have x1 := uv_hi x
                go_wp2_with (go_at_call 13; refine (num_n _ S _ false W _ (uv x) _ false HRq.out (by have := HLN.out; omega) HN.out.1 HN.out.2.1 HN.out.2.2).mono ?_; rintro e w7 ⟨rfl, hR, hg⟩; have HR7 := Lib.hid hR; have hk7 := RdrX.keeps hR.le HBz.out.size hg; have HB7 := Lib.hid (HBq.out.trans (hk7.mono HBr.out.size)); have HZ7 := Lib.hid (HBz.out.trans hk7); clear hR hg hk7)
                go_roundw
                case rel => exact ⟨k + 1, by omega, by go_num, HR7.out, HB7.out, HZ7.out⟩
                case measure => simp [intOf]; omega
              · obtain rfl : k = l.length - 1 := by omega
                have HN := Lib.hid (num_last W HWD.out l (by omega))
                have HB6 := Lib.hid (below_step HB2.out HBq.out)
                have HW6 := Lib.hid (Nat.le_trans HB2.out.size HBr.out.size)
                go_wp2_with (first
                  | (go_at_call 14; refine (failed_n _ S _ false _ HRq.out).mono ?_; rintro e w7 ⟨rfl, rfl⟩)
                  | (go_at_call 13; refine (num_n _ S _ false W _ 0 _ true HRq.out (by have := HLN.out; omega) HN.out.1 rfl HN.out.2).mono ?_; rintro e w7 ⟨rfl, hR, hg⟩; have HR7 := Lib.hid hR; have HB7 := Lib.hid (HB6.out.trans ((RdrX.keeps hR.le HBz.out.size hg).mono HW6.out)); clear hR hg HRq)
                  | (go_at_call 14; refine (failed_n _ S _ true _ HR7.out).mono ?_; rintro e w8 ⟨rfl, rfl⟩))
                go_ret
                exact ⟨rfl, HB7.out⟩
  · have g1 : (100 : Int) < l.length := by omega
    go_enter Try.func8, Try.ntmps8
    go_wp2_with (go_at_call 9; refine (endsAlive_any _).mono ?_; rintro e w1 ⟨rfl, HB⟩; have HB1 := Lib.hid HB; clear HB)
    go_ret
    exact ⟨rfl, HB1.out⟩
end Go.Proofs.Ytkpkkmffcbeigaa
