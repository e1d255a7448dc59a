/- Bytes as the print has them (whole numbers), and as they are here. -/
import Derived.Test.YtiokdpnhaemciaaStr
namespace Go.Proofs.Ytiokdpnhaemciaa
open Go.RowKit Go.Proofs.YtiokdpnhaemciaaW.PrintWords
/-- Whole numbers that are bytes. -/
def isB (l : List Int) : Bool := l.all fun x => decide (0 ≤ x) && decide (x ≤ 255)
def toB (l : List Int) : List UInt8 := l.map fun x => UInt8.ofNat x.toNat
theorem toB_length (l : List Int) : (toB l).length = l.length := by unfold toB; simp
theorem isB_iff (l : List Int) : isB l = true ↔ ∀ x ∈ l, 0 ≤ x ∧ x ≤ 255 := by
  unfold isB; rw [List.all_eq_true]; simp
theorem toB_one {x : Int} (h0 : 0 ≤ x) (h1 : x ≤ 255) : bv (UInt8.ofNat x.toNat) = x := by
  unfold bv; rw [UInt8.toNat_ofNat']; omega
theorem toB_bv (l : List Int) (h : isB l = true) : (toB l).map bv = l := by
  rw [isB_iff] at h
  unfold toB
  rw [List.map_map]
  conv => rhs; rw [← List.map_id l]
  apply List.map_congr_left
  intro x hx
  exact toB_one (h x hx).1 (h x hx).2
theorem toB_map (xs : List UInt8) : toB (xs.map bv) = xs := by
  unfold toB
  rw [List.map_map]
  conv => rhs; rw [← List.map_id xs]
  apply List.map_congr_left
  intro x _
  show UInt8.ofNat (bv x).toNat = x
  unfold bv
  rw [Int.toNat_natCast]; exact UInt8.ofNat_toNat
theorem isB_map (xs : List UInt8) : isB (xs.map bv) = true := by
  rw [isB_iff]
  intro x hx
  obtain ⟨c, _, rfl⟩ := List.mem_map.1 hx
  exact ⟨bv_lo c, bv_hi c⟩
theorem toB_append (a b : List Int) : toB (a ++ b) = toB a ++ toB b := by unfold toB; simp
theorem rd_conv {w : World} {A : Option Addr} {l : List Int} (h : Kd.C (Kd.int .u8) w A l.length l) (hb : isB l = true) : Rd w A (toB l) := by
  refine ⟨rfl, by rw [toB_length]; exact h.2.1, fun h0 => ?_⟩
  rw [toB_length] at h0
  obtain ⟨ad, e, hc⟩ := h.2.2 h0
  refine ⟨ad, e, fun j p hj => ?_⟩
  obtain ⟨hj2, rfl⟩ := List.getElem?_eq_some_iff.1 hj
  have hj3 : j < l.length := by rw [toB_length] at hj2; exact hj2
  obtain ⟨c, hl, hr, hcell⟩ := hc j _ (List.getElem?_eq_getElem hj3)
  have hr' : c = [.int .u8 l[j]] := hr
  have hx := (isB_iff l).1 hb l[j] (List.getElem_mem hj3)
  have he : (toB l)[j] = UInt8.ofNat l[j].toNat := List.getElem_map _
  refine ⟨c, hl, ?_, hcell⟩
  show c = [.int .u8 (bv (toB l)[j])]
  rw [he, toB_one hx.1 hx.2]; exact hr'
theorem own_conv {w : World} {base : Nat} {v : Value} {xs : List UInt8} (h : Own w base v xs) : Kd.R (Kd.int .u8) 5 w base (fun _ => True) v (xs.map bv) := by
  have ho := Kd.own_of_R h
  refine Kd.R_of_own (enc := Value.int .u8) (h1 := fun _ => rfl) (xs := xs.map bv) ?_ (fun _ _ => trivial)
  rw [List.length_map]
  have : encs (Value.int .u8) (xs.map bv) = encs (fun c => Value.int .u8 (bv c)) xs := by unfold encs; rw [List.map_map]; rfl
  rw [this]
  exact ho
end Go.Proofs.Ytiokdpnhaemciaa
