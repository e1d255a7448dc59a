/- Bytes: a list of bytes as Go's cells, read and made. -/
import Derived.Test.YtckfcnclekjjdaaWWords
import Derived.Test.YtckfcnclekjjdaaStep
namespace Go.Proofs.Ytckfcnclekjjdaa
open Go.RowKit Go.Proofs.YtckfcnclekjjdaaW.PrintWords

/-- A byte as the number that Go has. -/
def bv (c : UInt8) : Int := (c.toNat : Int)
theorem bv_lo (c : UInt8) : 0 ≤ bv c := by unfold bv; omega
theorem bv_hi (c : UInt8) : bv c ≤ 255 := by have := c.toNat_lt; unfold bv; omega
theorem bv_inj {a b : UInt8} (h : bv a = bv b) : a = b := by
  unfold bv at h
  exact UInt8.toNat_inj.1 (by omega)
def kByte : Kd UInt8 := Kd.scalar (fun c => .int .u8 (bv c)) (fun _ => rfl)
/-- A slice whose bytes are read. -/
abbrev Rd (w : World) (A : Option Addr) (xs : List UInt8) : Prop := kByte.C w A xs.length xs
def kBytes : Kd (List UInt8) := Kd.slice 5 kByte
abbrev Rds (w : World) (A : Option Addr) (xs : List (List UInt8)) : Prop := kBytes.C w A xs.length xs
theorem Rd.at {w : World} {A : Option Addr} {xs : List UInt8} (h : Rd w A xs) (k : Nat) (hk : k < xs.length) : ∃ ad, A = some ad ∧ w.cell? (ad.add k) = some (.int .u8 (bv xs[k])) := by
  obtain ⟨ad, e, hc⟩ := h.2.2 (by omega)
  obtain ⟨c, hl, hr, hcell⟩ := hc k _ (List.getElem?_eq_getElem hk)
  have hr' : c = [.int .u8 (bv xs[k])] := hr
  subst hr'
  refine ⟨ad, e, ?_⟩
  have := hcell 0 _ rfl
  simpa [kByte, Kd.scalar] using this
theorem Rds.at {w : World} {A : Option Addr} {xs : List (List UInt8)} (h : Rds w A xs) (k : Nat) (hk : k < xs.length) :
    ∃ ad B c, A = some ad ∧ w.cell? (ad.add k) = some (.slice B xs[k].length c) ∧ xs[k].length ≤ c ∧ Rd w B xs[k] := by
  obtain ⟨ad, e, hc⟩ := h.2.2 (by omega)
  obtain ⟨c, hl, hr, hcell⟩ := hc k _ (List.getElem?_eq_getElem hk)
  obtain ⟨B, cp, rfl, hcp, hR⟩ := hr
  refine ⟨ad, B, cp, e, ?_, hcp, hR⟩
  have := hcell 0 _ rfl
  simpa [kBytes, Kd.slice] using this
end Go.Proofs.Ytckfcnclekjjdaa
