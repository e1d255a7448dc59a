/- Open and Turn. -/
import Derived.Test.YtckfcnclekjjdaaSeal
namespace Go.Proofs.Ytckfcnclekjjdaa
open Go.RowKit Go.Proofs.YtckfcnclekjjdaaW.PrintWords
open Crc

namespace Crc
/-- Is it a seal? -/
def okB (l : List UInt8) : Bool := decide (4 ≤ l.length) && decide (sumB init l = 0#32)
/-- Its bytes. -/
def bodyB (l : List UInt8) : List UInt8 := if okB l then l.take (l.length - 4) else []
theorem u_zero (s : W) : (u s != 0) = !decide (s = 0#32) := by
  by_cases h : s = 0#32
  · subst h; rfl
  · have : u s ≠ 0 := by
      intro e
      apply h
      apply BitVec.eq_of_toNat_eq
      unfold u at e
      simpa using e
    simp [h, this]
/-- Bytes with one mixed. -/
def turnB (l : List UInt8) (at_ : Int) (m : UInt8) : List UInt8 := if 0 ≤ at_ then l.modify at_.toNat (· ^^^ m) else l
theorem turnB_length (l : List UInt8) (at_ : Int) (m : UInt8) : (turnB l at_ m).length = l.length := by
  unfold turnB; split <;> simp
theorem xor_bv (a b : UInt8) : bits .xor .u8 (bv a) (bv b) = bv (a ^^^ b) := by
  unfold bv
  rw [u8_xor_nat _ _ a.toNat_lt b.toNat_lt, UInt8.toNat_xor]
end Crc

/-- A slice literal of one slice. -/
theorem Rds.one {w : World} {A : Option Addr} {c : Nat} {xs : List UInt8} (h : Sl w A c xs) : Rds (w.alloc (.cells #[.slice A xs.length c] 24)) (some ⟨w.heap.size, 0, none⟩) [xs] := by
  refine ⟨rfl, by simp, fun _ => ⟨_, rfl, fun j p hj => ?_⟩⟩
  match j, hj with
  | 0, hj =>
    obtain rfl : xs = p := by simpa using hj
    refine ⟨[.slice A xs.length c], rfl, ⟨A, c, rfl, h.cap, h.rd.below ((Below.refl _ _).alloc (Nat.le_refl _) _)⟩, fun i u hu => ?_⟩
    match i, hu with
    | 0, hu =>
      obtain rfl : _ = u := by simpa using hu
      have h := cell_one_new w (.slice A xs.length c) 24 0 (.slice A xs.length c) rfl
      simpa using h

/-- Clone of a cut. -/
theorem clone_n (A : Option Addr) (n c : Nat) (xs : List UInt8) (w : World) (hn : n = xs.length) (hr : Sl w A c xs) (hl : xs.length ≤ 140737488355328) :
    Calls Try.prog 40 #[.slice A n c] w fun e w' => ∃ v, e = .returned v ∧ Own w' w.heap.size v xs ∧ Below w.heap.size w w' := by
  subst hn; exact clone_any A c xs w hr.rd hr.nil hl

set_option maxHeartbeats 2000000 in
theorem open_any (A : Option Addr) (c : Nat) (xs : List UInt8) (w : World) (hr : Sl w A c xs) (hl : xs.length ≤ 140737488355000) :
    Calls Try.prog 18 #[.slice A xs.length c] w fun e w' => ∃ v, e = .returned (.tuple #[v, .bool (okB xs)]) ∧ Own w' w.heap.size v (bodyB xs) ∧ Below w.heap.size w w' := by
  have HL := Lib.hid hl
  have HR := Lib.hid hr
  have HZ := Lib.hid (u_zero (sumB init xs))
  have hcap := hr.cap
  clear hr
  have hb0 : Below w.heap.size w (w.alloc (.cells #[.slice A xs.length c] 24)) := (Below.refl _ _).alloc (Nat.le_refl _) _
  have HB0 := Lib.hid hb0
  clear hb0
  by_cases h4 : 4 ≤ xs.length
  · have g4 : decide ((xs.length : Int) - 4 < 0) = false := by simp; omega
    have g6 : (4 : Int) ≤ (xs.length : Int) := by omega
    have g7 : (xs.length : Int) - 4 ≤ (c : Int) := by omega
    by_cases hz : sumB init xs = 0#32
    · have hz2 : (u (sumB init xs) != 0) = false := by simpa [hz] using HZ.out
      have HOK := Lib.hid (show okB xs = true by unfold okB; simp [h4, hz])
      have HB := Lib.hid (show bodyB xs = xs.take (xs.length - 4) by unfold bodyB; rw [HOK.out]; rfl)
      clear hz
      go_enter Try.func18, Try.ntmps18
      go_wp2_with (first
        | (go_at_call 15; refine (of_any _ _ [xs] _ (Rds.one HR.out)).mono ?_; rintro e w2 ⟨rfl, rfl⟩)
        | (go_at_call 40; refine (clone_n _ _ _ (xs.take (xs.length - 4)) _ (by simp) ((HR.out.below HB0.out).take _ (by omega)) (by simp; omega)).mono ?_; rintro e w3 ⟨v, rfl, HO, HB3⟩))
      go_ret2
      exact ⟨_, by rw [HOK.out]; rfl, by rw [HB.out]; exact HO.lower (by simp), below_step HB0.out HB3⟩
    · have hz2 : (u (sumB init xs) != 0) = true := by simpa [hz] using HZ.out
      have HOK := Lib.hid (show okB xs = false by unfold okB; simp [hz])
      have HB := Lib.hid (show bodyB xs = [] by unfold bodyB; rw [HOK.out]; rfl)
      clear hz
      go_enter Try.func18, Try.ntmps18
      go_wp2_with (go_at_call 15; refine (of_any _ _ [xs] _ (Rds.one HR.out)).mono ?_; rintro e w2 ⟨rfl, rfl⟩)
      go_ret2
      exact ⟨_, by rw [HOK.out]; rfl, by rw [HB.out]; exact Own.nil _ _, HB0.out⟩
  · have g4 : decide ((xs.length : Int) - 4 < 0) = true := by simp; omega
    have HOK := Lib.hid (show okB xs = false by unfold okB; simp [h4])
    have HB := Lib.hid (show bodyB xs = [] by unfold bodyB; rw [HOK.out]; rfl)
    go_enter Try.func18, Try.ntmps18
    go_wp2_with fail
    go_ret2
    exact ⟨_, by rw [HOK.out]; rfl, by rw [HB.out]; exact Own.nil _ _, Below.refl _ _⟩

/-- What is owned and holds something: its block, its cells, a store. -/
theorem Own.form {w : World} {base : Nat} {v : Value} {xs : List UInt8} (h : Own w base v xs) (hp : 0 < xs.length) :
    ∃ g c, v = .slice (some ⟨g, 0, none⟩) xs.length c ∧ xs.length ≤ c ∧ base ≤ g ∧ g < w.heap.size ∧ (∀ k (hk : k < xs.length), w.cell? ⟨g, k, none⟩ = some (.int .u8 (bv xs[k]))) ∧ (∀ k, w.frozen? ⟨g, k, none⟩ = false) ∧
      ∀ k x, Own (w.setCell ⟨g, k, none⟩ (.int .u8 (bv x))) base (.slice (some ⟨g, 0, none⟩) xs.length c) (xs.set k x) := by
  obtain ⟨g, c, rfl, hb, hg, _⟩ := Kd.R_form h hp
  have ho := Kd.own_of_R h
  refine ⟨g, c, rfl, ?_, hb, hg, fun k hk => ?_, fun k => ho.frozenAt k, fun k x => ?_⟩
  · obtain ⟨A, c', e, hc, _⟩ := h.reads
    injection e with _ _ e
    omega
  · rw [ho.cellAt k (by omega)]; simp [encs, hk]
  · have := Kd.R_putn h (k : Int) x
    rw [Int.toNat_natCast] at this
    exact this

set_option maxHeartbeats 2000000 in
theorem turn_any (A : Option Addr) (n c : Nat) (xs : List UInt8) (p : Int) (m : UInt8) (w : World) (hn : n = xs.length) (hr : Sl w A c xs) (hl : xs.length ≤ 140737488355000) :
    Calls Try.prog 20 #[.slice A n c, .int .i64 p, .int .u8 (bv m)] w fun e w' => ∃ v, e = .returned v ∧ Own w' w.heap.size v (turnB xs p m) ∧ Below w.heap.size w w' := by
  subst hn
  have HL := Lib.hid hl
  have HR := Lib.hid hr
  clear hr hl
  by_cases h0 : 0 ≤ p
  · by_cases h1 : p < xs.length
    · obtain ⟨q, rfl⟩ := Int.eq_ofNat_of_zero_le h0
      have hq : q < xs.length := by omega
      have HX := Lib.hid (xor_bv xs[q] m)
      go_enter Try.func20, Try.ntmps20
      have HT := Lib.hid (show turnB xs (q : Int) m = xs.set q (xs[q] ^^^ m) by
        unfold turnB; rw [if_pos h0, Int.toNat_natCast]; apply List.ext_getElem? ; intro i; rw [List.getElem?_modify, List.getElem?_set]; by_cases hi : q = i <;> simp [hi]; subst hi; simp [hq])
      go_wp2_with (go_at_call 40; refine (clone_n _ _ _ xs _ rfl HR.out (by have := HL.out; omega)).mono ?_; rintro e w1 ⟨v, rfl, HO, HB⟩; obtain ⟨g, c1, rfl, hc1, hg0, hg1, hcell, hfz, hst⟩ := HO.form (by omega); have hx := hcell q hq; have hy := hfz q; have HS := Lib.hid (hst q (xs[q] ^^^ m)); have HB1 := Lib.hid HB; clear hcell hfz hst HO HB)
      go_ret
      exact ⟨_, rfl, by rw [HT.out, HX.out]; exact HS.out, HB1.out.setCell hg0 _⟩
    · have HT := Lib.hid (show turnB xs p m = xs by
        unfold turnB; rw [if_pos h0]; apply List.modify_eq_self; omega)
      go_enter Try.func20, Try.ntmps20
      go_wp2_with (go_at_call 40; refine (clone_n _ _ _ xs _ rfl HR.out (by have := HL.out; omega)).mono ?_; rintro e w1 ⟨v, rfl, HO, HB⟩; obtain ⟨A1, c1, rfl, hs1⟩ := HO.sl; have HO1 := Lib.hid HO; have HB1 := Lib.hid HB; clear HO HB hs1)
      go_ret
      exact ⟨_, rfl, by rw [HT.out]; exact HO1.out, HB1.out⟩
  · have HT := Lib.hid (show turnB xs p m = xs by unfold turnB; rw [if_neg h0])
    go_enter Try.func20, Try.ntmps20
    go_wp2_with (go_at_call 40; refine (clone_n _ _ _ xs _ rfl HR.out (by have := HL.out; omega)).mono ?_; rintro e w1 ⟨v, rfl, HO, HB⟩; obtain ⟨A1, c1, rfl, hs1⟩ := HO.sl; have HO1 := Lib.hid HO; have HB1 := Lib.hid HB; clear HO HB hs1)
    go_ret
    exact ⟨_, rfl, by rw [HT.out]; exact HO1.out, HB1.out⟩
end Go.Proofs.Ytckfcnclekjjdaa
