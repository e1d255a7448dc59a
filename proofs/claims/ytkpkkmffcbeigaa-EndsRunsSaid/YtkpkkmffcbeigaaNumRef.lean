/- The document's Num. -/
import Derived.Test.YtkpkkmffcbeigaaTakeRef
namespace Go.Proofs.Ytkpkkmffcbeigaa
open Go.RowKit Go.Proofs.YtkpkkmffcbeigaaW.PrintWords

theorem leN_snoc : ∀ (l : List UInt8) (c : UInt8), leN (l ++ [c]) = leN l + 256 ^ l.length * c.toNat
  | [], c => by simp [leN]
  | d :: l, c => by
    rw [List.cons_append]
    unfold leN
    rw [leN_snoc l c, List.length_cons, Nat.pow_succ, Nat.mul_add, ← Nat.mul_assoc, Nat.mul_comm 256 (256 ^ l.length)]
    omega

theorem rtake_n (A : Option Addr) (c : Nat) (xs : List UInt8) (at_ : Nat) (f : Bool) (n : Int) (w : World) (p : Nat) (b2 : Bool) (os : List UInt8) (hp : takeAt xs at_ f n = p) (hb2 : takeBad (xs.drop at_) f n = b2) (ho : takeOut (xs.drop at_) f n = os) (hr : Sl w A c xs) (ha : at_ ≤ xs.length) (hl : xs.length ≤ 140737488355000) :
    Calls Try.prog 18 #[.agg #[.slice A xs.length c, .int .i64 at_, .bool f], .int .i64 n] w fun e w' => ∃ A' c', e = .returned (.tuple #[.agg #[.slice A xs.length c, .int .i64 p, .bool b2], .slice A' os.length c']) ∧ Sl w' A' c' os ∧ (∀ a, A' = some a → w.heap.size ≤ a.block) ∧ Below w.heap.size w w' := by
  subst hp; subst hb2; subst ho
  exact rtake_any A c xs at_ f n w hr ha hl
theorem two_below {w w2 : World} {o0 o1 : Obj} (hb : Below ((w.alloc o0).alloc o1).heap.size ((w.alloc o0).alloc o1) w2) : w2.heap[w.heap.size]? = some o0 ∧ w2.heap[w.heap.size + 1]? = some o1 ∧ Below w.heap.size w w2 := by
  have e1 : (w.alloc o0).heap.size = w.heap.size + 1 := by simp
  have e2 : ((w.alloc o0).alloc o1).heap.size = w.heap.size + 1 + 1 := by simp
  refine ⟨?_, ?_, ?_⟩
  · rw [hb.block _ (by omega), Below.heap_alloc _ _ _ (by omega)]; exact heap_alloc_new w o0
  · rw [hb.block _ (by omega)]
    have := heap_alloc_new (w.alloc o0) o1
    rw [e1] at this
    exact this
  · exact (((Below.refl _ w).alloc (Nat.le_refl _) o0).alloc (by omega) o1).trans (hb.mono (by omega))
theorem sl_three {w : World} {A : Option Addr} {c s : Nat} {xs : List UInt8} (h : Sl w A c xs) (hf : ∀ a, A = some a → s + 1 ≤ a.block) (v1 v2 v3 : Value) :
    Sl (((w.setCell ⟨s, 0, none⟩ v1).setCell ⟨s, 1, none⟩ v2).setCell ⟨s, 2, none⟩ v3) A c xs := by
  refine h.same fun _ a e k => ?_
  have h1 := hf a e
  rw [World.cell?_setCell_far _ _ _ _ (by rw [addr_block]; show s ≠ _; omega), World.cell?_setCell_far _ _ _ _ (by rw [addr_block]; show s ≠ _; omega), World.cell?_setCell_far _ _ _ _ (by rw [addr_block]; show s ≠ _; omega)]

theorem ref_step (N U N1 k : Nat) (x : UInt8) (hU : U = 256 ^ k) (hN : N1 = N + 256 ^ k * x.toNat) (h : N1 < 18446744073709551616) : IntKind.u64.wrap ((N : Int) + IntKind.u64.wrap ((U : Int) * IntKind.u64.wrap (bv x))) = (N1 : Int) := by
  have hx := x.toNat_lt
  have e : (bv x) = ((x.toNat : Nat) : Int) := rfl
  subst hU
  have h2 : 256 ^ k * x.toNat < 18446744073709551616 := by omega
  have e1 : IntKind.u64.wrap (bv x) = ((x.toNat : Nat) : Int) := by rw [IntKind.wrap_u64, e]; omega
  rw [e1, ← Int.natCast_mul]
  generalize 256 ^ k * x.toNat = m at *
  have e2 : IntKind.u64.wrap ((m : Nat) : Int) = (m : Int) := by rw [IntKind.wrap_u64]; omega
  rw [e2, IntKind.wrap_u64]
  omega
theorem ref_worth (U V k : Nat) (hU : U = 256 ^ k) (hV : 256 ^ (k + 1) % 18446744073709551616 = V) : IntKind.u64.wrap ((U : Int) * 256) = (V : Int) := by
  rw [IntKind.wrap_u64, ← hV, Nat.pow_succ, ← hU]
  omega

set_option maxHeartbeats 4000000 in
theorem rnum_any (A : Option Addr) (c : Nat) (xs : List UInt8) (at_ : Nat) (f : Bool) (width : Int) (w : World) (hr : Sl w A c xs) (ha : at_ ≤ xs.length) (hl : xs.length ≤ 140737488355000) :
    Calls Try.prog 17 #[rdrV A xs.length c at_ f, .int .i64 width] w fun e w' => e = .returned (.tuple #[rdrV A xs.length c (takeAt xs at_ (f || !wideB width) width) (takeBad (xs.drop at_) (f || !wideB width) width), .int .u64 (leN (takeOut (xs.drop at_) (f || !wideB width) width) : Int)]) ∧ Below w.heap.size w w' := by
  have HR := Lib.hid hr
  have hcap := hr.cap
  clear hr
  by_cases hw : wideB width = true
  · rw [hw, Bool.not_true, Bool.or_false]
    have HLE := Lib.hid (show (takeOut (xs.drop at_) f width).length ≤ 8 by have := takeOut_wide (xs.drop at_) f width; rwa [hw, Bool.not_true, Bool.or_false] at this)
    generalize hp : takeAt xs at_ f width = p
    generalize hb2 : takeBad (xs.drop at_) f width = b2
    generalize ho : takeOut (xs.drop at_) f width = os at *
    have HP := Lib.hid hp
    have HB2 := Lib.hid hb2
    have HO := Lib.hid ho
    clear hp hb2 ho
    unfold rdrV
    go_enter Try.func17, Try.ntmps17
    go_wp2_with (first
      | (go_at_call 23; refine (rright_any _ _).mono ?_; rintro e w' ⟨rfl, rfl⟩)
      | (go_at_call 18; refine (rtake_n A c xs at_ f width _ p b2 os HP.out HB2.out HO.out (HR.out.below ((alloc_below _ _).alloc (by simp) _)) ha hl).mono ?_; rintro e w2 ⟨A2, c2, rfl, hs, hf, hb⟩; have HS := Lib.hid hs; have HF := Lib.hid (show ∀ a, A2 = some a → w.heap.size + 1 ≤ a.block from fun a e => by have := hf a e; simp at this; omega); obtain ⟨q0, q1, qb⟩ := two_below hb; obtain ⟨d0, d1, d2, d3, d4, d5⟩ := cells3 q0; obtain ⟨e0, e1, e2, e3, e4, e5⟩ := cells3 q1; have HQ := Lib.hid qb; clear q0 q1 qb hs hf hb))
    have HX := Lib.hid (sl_three HS.out HF.out (.slice A xs.length c) (.int .i64 p) (.bool b2))
    have hl8 := HLE.out
    go_loop [7, 8, 24] (fun n u i => ∃ k : Nat, k ≤ os.length ∧ i = .int .i64 k ∧ n = .int .u64 (leN (os.take k) : Int) ∧ u = .int .u64 ((256 ^ k % 18446744073709551616 : Nat) : Int)) (fun _ _ i => os.length - (intOf i).toNat)
    case atStart => exact ⟨0, by omega, rfl, rfl, rfl⟩
    case round =>
      obtain ⟨k, hk, rfl, rfl, rfl⟩ := hrel
      by_cases hlt : k < os.length
      · obtain ⟨ad, e, hx⟩ := HX.out.rd.at k hlt
        cases e
        have HT := Lib.hid (show leN (os.take (k + 1)) = leN (os.take k) + 256 ^ k * os[k].toNat by
          rw [List.take_succ_eq_append_getElem hlt, leN_snoc, List.length_take, Nat.min_eq_left (by omega)])
        have HLT := Lib.hid (show leN (os.take (k + 1)) < 18446744073709551616 by
          have h1 := leN_lt (os.take (k + 1))
          have h2 : 256 ^ (os.take (k + 1)).length ≤ 256 ^ 8 := Nat.pow_le_pow_right (by decide) (by rw [List.length_take]; omega)
          omega)
        have HU := Lib.hid (show 256 ^ k % 18446744073709551616 = 256 ^ k by
          have h2 : 256 ^ k ≤ 256 ^ 7 := Nat.pow_le_pow_right (by decide) (by omega)
          exact Nat.mod_eq_of_lt (by omega))
        generalize os[k] = x at hx HT
        generalize hN : leN (os.take k) = N at *
        generalize hN1 : leN (os.take (k + 1)) = N1 at *
        generalize hV : 256 ^ (k + 1) % 18446744073709551616 = V at *
        generalize hU : 256 ^ k % 18446744073709551616 = U at *
        go_wp2
        go_round
        case rel => exact ⟨k + 1, by omega, by go_num, by rw [hN1, ref_step N U N1 k x HU.out HT.out HLT.out], by rw [hV, ref_worth U V k HU.out hV]⟩
        case measure => simp [intOf]; omega
      · obtain rfl : k = os.length := by omega
        go_wp2
        refine bodyPost_ret (v := .tuple #[.agg #[.slice A xs.length c, .int .i64 p, .bool b2], .int .u64 (leN os : Int)]) ?_ rfl ?_
        · clear HX HS HF HQ HR HLE HP HB2 HO
          simp [results, Try.f17, go_sem, d0, d1, d2, d3, d4, d5, e0, e1, e2, e3, e4, e5]
        · refine ⟨rfl, ?_⟩
          exact (((((HQ.out.setCell (p := ⟨w.heap.size, 0, none⟩) (Nat.le_refl _) _).setCell (p := ⟨w.heap.size, 1, none⟩) (Nat.le_refl _) _).setCell (p := ⟨w.heap.size, 2, none⟩) (Nat.le_refl _) _).setCell (p := ⟨w.heap.size + 1, 0, none⟩) (by show w.heap.size ≤ w.heap.size + 1; omega) _).setCell (p := ⟨w.heap.size + 1, 1, none⟩) (by show w.heap.size ≤ w.heap.size + 1; omega) _).setCell (p := ⟨w.heap.size + 1, 2, none⟩) (by show w.heap.size ≤ w.heap.size + 1; omega) _
  · have hw2 : wideB width = false := by simpa using hw
    clear hw
    have HK := Lib.hid (show takeAt xs at_ true width = at_ by unfold takeAt takeBad; rfl)
    have HK2 := Lib.hid (show takeBad (xs.drop at_) true width = true by unfold takeBad; rfl)
    have HK3 := Lib.hid (show takeOut (xs.drop at_) true width = [] by unfold takeOut takeBad; rfl)
    rw [hw2, Bool.not_false, Bool.or_true, HK.out, HK2.out, HK3.out]
    unfold rdrV
    go_enter Try.func17, Try.ntmps17
    go_wp2_with (go_at_call 23; refine (rright_any _ _).mono ?_; rintro e w' ⟨rfl, rfl⟩)
    refine bodyPost_ret (v := .tuple #[.agg #[.slice A xs.length c, .int .i64 at_, .bool true], .int .u64 0]) ?_ rfl ?_
    · simp [results, Try.f17, go_sem]
    · exact ⟨rfl, (alloc_below _ _).trans ((alloc_below _ _).mono (by simp))⟩
end Go.Proofs.Ytkpkkmffcbeigaa
