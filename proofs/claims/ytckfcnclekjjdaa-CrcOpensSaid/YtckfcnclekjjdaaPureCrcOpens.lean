/- CrcOpens: the plain law. -/
import Derived.Test.YtckfcnclekjjdaaArgCrcOpens
namespace Go.Proofs.Ytckfcnclekjjdaa.PCrcOpens
open Go.RowKit Go.Proofs.YtckfcnclekjjdaaW.PrintWords Go.Proofs.YtckfcnclekjjdaaW.PrintLast
theorem wrap_small (n : Nat) (h : n ≤ 9223372036854775807) : wrap64 ((n : Int) - 4) = (n : Int) - 4 := by unfold wrap64; omega
theorem u_zero_iff (s : Crc.W) : (Crc.u s = 0) = (s = 0#32) := by
  apply propext
  constructor
  · intro e
    apply BitVec.eq_of_toNat_eq
    unfold Crc.u at e
    simpa using e
  · rintro rfl; rfl
theorem open_our (l : List Int) (hb : isB l = true) (hl : l.length ≤ 1000000) : crc_Open.f l = some (if Crc.okB (toB l) then l.take (l.length - 4) else [], Crc.okB (toB l)) := by
  unfold crc_Open.f
  rw [wrap_small _ (by omega)]
  unfold Crc.okB
  rw [toB_length]
  by_cases h4 : 4 ≤ l.length
  · rw [if_neg (by omega)]
    rw [show crc_Of.f [l] = some (Crc.u (Crc.sumB Crc.init (toB l))) by unfold crc_Of.f; rw [if_pos (by rw [List.all_cons, hb]; rfl)]; simp]
    rw [Option.bind_some]; have hu := u_zero_iff (Crc.sumB Crc.init (toB l))
    by_cases hs : Crc.sumB Crc.init (toB l) = 0#32
    · rw [if_pos (hu.mpr hs), if_pos (by omega), if_pos (by omega)]
      rw [show ((l.length : Int) - 4).toNat = l.length - 4 by omega]
      rw [show slices_Clone_byte_byte.f (l.take (l.length - 4)) = some (l.take (l.length - 4)) by unfold slices_Clone_byte_byte.f; rw [if_pos (by rw [List.length_take]; omega)]]
      simp [hs, h4]
    · rw [if_neg (fun e => hs (hu.mp e))]
      simp [hs]
  · rw [if_pos (by omega)]
    simp [h4]
theorem pure_law (y0 : List Int) (g0 : (y0.length ≤ 9223372036854775807 ∧ ∀ z1 ∈ y0, (0 ≤ z1 ∧ z1 ≤ 255))) : understudylaw02_CrcOpens.f y0 = some true := by
  have hb : isB y0 = true := (isB_iff _).2 g0.2
  unfold understudylaw02_CrcOpens.f
  rw [show understudylaw02_crcAlive.f = some true from rfl]
  simp only [Option.bind_some, if_true]
  by_cases h5 : (y0.length : Int) > 500
  · rw [if_pos h5]
  · rw [if_neg h5, if_pos (by rw [List.length_nil]; omega), List.nil_append, open_our y0 hb (by omega)]
    rw [show understudyref02_Open.f y0 = some (if Crc.okB (toB y0) then y0.take (y0.length - 4) else [], Crc.okB (toB y0)) by unfold understudyref02_Open.f; rw [if_pos ⟨hb, by omega⟩, rok_ok]]
    simp
end Go.Proofs.Ytckfcnclekjjdaa.PCrcOpens
