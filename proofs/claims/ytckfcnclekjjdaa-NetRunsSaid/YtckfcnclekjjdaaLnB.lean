/- Rows of bytes: what NetOwn and NetRuns share. -/
import Derived.Test.YtckfcnclekjjdaaLn1
import Derived.Test.YtckfcnclekjjdaaArgsE
set_option linter.unusedVariables false
set_option linter.unusedSimpArgs false
namespace Go.Proofs.Ytckfcnclekjjdaa
open Go.RowKit Go.Proofs.YtckfcnclekjjdaaW.PrintWords Go.Proofs.YtckfcnclekjjdaaW.PrintLast Crc
section
variable {w : World} {e g : Nat} {v : Value} {xs b : List UInt8} {ys : List Int} {sp : List Value} {j : Nat}
theorem row_bytes {hE : kByte.E = []} (h : (row kByte hE e v xs).holds w) (hn : xs ≠ []) : ∃ g c sp, v = .slice (some ⟨g, 0, none⟩) xs.length c ∧ (blk g (nums .u8 (xs.map bv) ++ sp) e).holds w := by
  have hpos : 0 < xs.length := by
    cases xs with
    | nil => exact absurd rfl hn
    | cons => simp
  have ho := Kd.own_of_R (row_own h)
  rcases ho.2 with ⟨-, h0⟩ | ⟨g', cap', cur, rfl, hge, hg', hnc, hcm, hcs, htake⟩
  · omega
  · have e1 : nums .u8 (xs.map bv) = cur.toList.take (xs.length * 1) := by rw [htake]; simp [nums, encs]
    refine ⟨g', cap', cur.toList.drop (xs.length * 1), rfl, ?_⟩
    rw [e1, List.take_append_drop]
    show w.heap[g']? = _
    simpa using hg'
theorem by_get (h : j < ys.length) : (nums .u8 ys ++ sp)[j]? = some (.int .u8 (ys.getD j 0)) := by
  rw [List.getElem?_append_left (by rw [nums_length]; exact h)]
  exact nums_getD h
theorem by_set (h : j < ys.length) (z : Int) : (nums .u8 ys ++ sp).set j (.int .u8 z) = nums .u8 (ys.set j z) ++ sp := by
  rw [List.set_append, if_pos (by rw [nums_length]; exact h), nums_set]
theorem xor_k (x y : UInt8) : IntKind.u8.wrap (((((bv x) % 2 ^ IntKind.u8.bits).toNat ^^^ ((bv y) % 2 ^ IntKind.u8.bits).toNat : Nat)) : Int) = bv (x ^^^ y) := by
  have hx := x.toNat_lt
  have hy := y.toNat_lt
  have hxy := (x ^^^ y).toNat_lt
  have e1 : ((bv x) % 2 ^ IntKind.u8.bits).toNat = x.toNat := by unfold bv; show ((x.toNat : Int) % 256).toNat = _; omega
  have e2 : ((bv y) % 2 ^ IntKind.u8.bits).toNat = y.toNat := by unfold bv; show ((y.toNat : Int) % 256).toNat = _; omega
  rw [e1, e2, ← UInt8.toNat_xor, IntKind.wrap_u8]
  unfold bv
  omega
theorem turn_head (h : 0 < b.length) (m : UInt8) : ∃ x, b[0]? = some x ∧ (turnB b 0 m)[0]? = some (x ^^^ m) := by
  refine ⟨b[0], List.getElem?_eq_getElem h, ?_⟩
  unfold turnB
  rw [if_pos (by decide)]
  show (b.modify 0 (· ^^^ m))[0]? = _
  rw [List.getElem?_modify]
  simp [List.getElem?_eq_getElem h]
theorem two_set (f0 f1 x : Fr_) : ([f0, f1] : List Fr_).set 1 x = [f0, x] := rfl
theorem sl_head {A : Option Addr} {c : Nat} (h : Rd w A xs) {x : UInt8} (hx : xs[0]? = some x) : ∃ a, A = some a ∧ w.cell? (a.add 0) = some (.int .u8 (bv x)) := by
  have h0 := (List.getElem?_eq_some_iff.1 hx).1
  obtain ⟨ad, e, hc⟩ := h.2.2 h0
  obtain ⟨cs, h1, h2, h3⟩ := hc 0 x hx
  refine ⟨ad, e, ?_⟩
  have := h3 0 (.int .u8 (bv x)) (by rw [show cs = [.int .u8 (bv x)] from h2]; rfl)
  have hsz : kByte.sz = 1 := rfl
  rwa [hsz, Nat.mul_one, Nat.add_zero] at this
end
end Go.Proofs.Ytckfcnclekjjdaa
