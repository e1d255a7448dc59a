/- crc.Turn. -/
import Derived.Test.YtckfcnclekjjdaaBase
import Derived.Test.YtckfcnclekjjdaaStep
namespace Go.Proofs.Ytckfcnclekjjdaa
open Go.RowKit Go.Proofs.YtckfcnclekjjdaaW.PrintWords
open Crc
namespace Crc
/-- Bytes with one mixed. -/
def turnB (l : List UInt8) (at_ : Int) (m : UInt8) : List UInt8 := if 0 ≤ at_ then l.modify at_.toNat (· ^^^ m) else l
theorem turnB_length (l : List UInt8) (at_ : Int) (m : UInt8) : (turnB l at_ m).length = l.length := by
  unfold turnB; split <;> simp
theorem xor_bv (a b : UInt8) : bits .xor .u8 (bv a) (bv b) = bv (a ^^^ b) := by
  unfold bv
  rw [u8_xor_nat _ _ a.toNat_lt b.toNat_lt, UInt8.toNat_xor]
end Crc
set_option maxHeartbeats 2000000 in
theorem turn_any (A : Option Addr) (n c : Nat) (xs : List UInt8) (p : Int) (m : UInt8) (w : World) (hn : n = xs.length) (hr : Sl w A c xs) (hl : xs.length ≤ 140737488355000) :
    Calls Try.prog 20 #[.slice A n c, .int .i64 p, .int .u8 (bv m)] w fun e w' => ∃ v, e = .returned v ∧ Own w' w.heap.size v (turnB xs p m) ∧ Below w.heap.size w w' := by
  subst hn
  have HL := Lib.hid hl
  have HR := Lib.hid hr
  clear hr hl
  by_cases h0 : 0 ≤ p
  · by_cases h1 : p < xs.length
    · obtain ⟨q, rfl⟩ := Int.eq_ofNat_of_zero_le h0
      have hq : q < xs.length := by omega
      have HX := Lib.hid (xor_bv xs[q] m)
      go_enter Try.func20, Try.ntmps20
      have HT := Lib.hid (show turnB xs (q : Int) m = xs.set q (xs[q] ^^^ m) by
        unfold turnB; rw [if_pos h0, Int.toNat_natCast]; apply List.ext_getElem? ; intro i; rw [List.getElem?_modify, List.getElem?_set]; by_cases hi : q = i <;> simp [hi]; subst hi; simp [hq])
      go_wp2_with (go_at_call 40; refine (clone_n _ _ _ xs _ rfl HR.out (by have := HL.out; omega)).mono ?_; rintro e w1 ⟨v, rfl, HO, HB⟩; obtain ⟨g, c1, rfl, hc1, hg0, hg1, hcell, hfz, hst⟩ := HO.form (by omega); have hx := hcell q hq; have hy := hfz q; have HS := Lib.hid (hst q (xs[q] ^^^ m)); have HB1 := Lib.hid HB; clear hcell hfz hst HO HB)
      go_ret
      exact ⟨_, rfl, by rw [HT.out, HX.out]; exact HS.out, HB1.out.setCell hg0 _⟩
    · have HT := Lib.hid (show turnB xs p m = xs by
        unfold turnB; rw [if_pos h0]; apply List.modify_eq_self; omega)
      go_enter Try.func20, Try.ntmps20
      go_wp2_with (go_at_call 40; refine (clone_n _ _ _ xs _ rfl HR.out (by have := HL.out; omega)).mono ?_; rintro e w1 ⟨v, rfl, HO, HB⟩; obtain ⟨A1, c1, rfl, hs1⟩ := HO.sl; have HO1 := Lib.hid HO; have HB1 := Lib.hid HB; clear HO HB hs1)
      go_ret
      exact ⟨_, rfl, by rw [HT.out]; exact HO1.out, HB1.out⟩
  · have HT := Lib.hid (show turnB xs p m = xs by unfold turnB; rw [if_neg h0])
    go_enter Try.func20, Try.ntmps20
    go_wp2_with (go_at_call 40; refine (clone_n _ _ _ xs _ rfl HR.out (by have := HL.out; omega)).mono ?_; rintro e w1 ⟨v, rfl, HO, HB⟩; obtain ⟨A1, c1, rfl, hs1⟩ := HO.sl; have HO1 := Lib.hid HO; have HB1 := Lib.hid HB; clear HO HB hs1)
    go_ret
    exact ⟨_, rfl, by rw [HT.out]; exact HO1.out, HB1.out⟩
end Go.Proofs.Ytckfcnclekjjdaa
