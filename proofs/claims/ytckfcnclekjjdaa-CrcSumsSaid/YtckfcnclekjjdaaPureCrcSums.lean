/- CrcSums: the plain law. -/
import Derived.Test.YtckfcnclekjjdaaArgCrcSums
namespace Go.Proofs.Ytckfcnclekjjdaa.PCrcSums
open Go.RowKit Go.Proofs.YtckfcnclekjjdaaW.PrintWords Go.Proofs.YtckfcnclekjjdaaW.PrintLast
theorem flatten_len (l : List (List Int)) (h : ∀ m ∈ l, m.length ≤ 200) : l.flatten.length ≤ l.length * 200 := by
  induction l with
  | nil => simp
  | cons a l ih =>
    have h1 := h a (List.mem_cons_self ..)
    have h2 := ih (fun m hm => h m (List.mem_cons_of_mem _ hm))
    rw [List.flatten_cons, List.length_append, List.length_cons]
    omega
theorem seal_ref (l : List Int) (hb : isB l = true) (hl : l.length ≤ 1000000) : understudyref02_Seal.f l = some (l ++ [Crc.u (Crc.sumB Crc.init (toB l)) / 16777216 % 256, Crc.u (Crc.sumB Crc.init (toB l)) / 65536 % 256, Crc.u (Crc.sumB Crc.init (toB l)) / 256 % 256, Crc.u (Crc.sumB Crc.init (toB l)) % 256]) := by
  unfold understudyref02_Seal.f
  rw [show understudyref02_Of.f l = some (Crc.u (Crc.sumB Crc.init (toB l))) by unfold understudyref02_Of.f; rw [if_pos ⟨hb, hl⟩]]
  have h0 := Crc.u_lo (Crc.sumB Crc.init (toB l))
  have h1 := Crc.u_hi (Crc.sumB Crc.init (toB l))
  generalize Crc.u (Crc.sumB Crc.init (toB l)) = t at h0 h1 ⊢
  simp only [Option.bind_some, List.nil_append, List.length_nil]
  rw [if_pos (by omega), if_pos (by rw [List.length_cons, List.length_cons, List.length_cons, List.length_cons, List.length_nil]; omega)]
  rw [Int.tdiv_eq_ediv_of_nonneg h0, Int.tdiv_eq_ediv_of_nonneg h0, Int.tdiv_eq_ediv_of_nonneg h0, Int.tmod_eq_emod_of_nonneg h0]
  rw [show t / 16777216 % 4294967296 % 256 = t / 16777216 % 256 by omega, show t / 65536 % 4294967296 % 256 = t / 65536 % 256 by omega, show t / 256 % 4294967296 % 256 = t / 256 % 256 by omega, show t % 256 % 256 = t % 256 by omega]
theorem seal_our (l : List (List Int)) (hb : l.all isB = true) (hl : l.flatten.length ≤ 1000000) : crc_Seal.f l = some (l.flatten ++ [Crc.u (Crc.sumB Crc.init (toB l.flatten)) / 16777216 % 256, Crc.u (Crc.sumB Crc.init (toB l.flatten)) / 65536 % 256, Crc.u (Crc.sumB Crc.init (toB l.flatten)) / 256 % 256, Crc.u (Crc.sumB Crc.init (toB l.flatten)) % 256]) := by
  unfold crc_Seal.f
  rw [show slices_Concat_byte_byte.f l = some l.flatten by unfold slices_Concat_byte_byte.f; rw [if_pos ⟨hb, by omega⟩]]
  rw [show crc_Of.f l = some (Crc.u (Crc.sumB Crc.init (toB l.flatten))) by unfold crc_Of.f; rw [if_pos hb]]
  generalize Crc.u (Crc.sumB Crc.init (toB l.flatten)) = t
  simp only [Option.bind_some]
  unfold crc_tail.f
  rw [Option.bind_some, if_pos (by rw [List.length_cons, List.length_cons, List.length_cons, List.length_cons, List.length_nil]; omega)]
theorem tail_part (y : List (List Int)) (hb : y.all isB = true) (hl : y.flatten.length ≤ 1000000) :
    ((understudyref02_Of.f y.flatten).bind fun t135 => ((crc_Of.f y).bind fun t136 => (if t136 = t135 then ((crc_Of.f (([y.flatten] : List (List Int)))).bind fun t140 => (if t140 = t135 then ((crc_Seal.f y).bind fun t141 => ((understudyref02_Seal.f y.flatten).bind fun t144 => (some ((strOfNums t141).toList == (strOfNums t144).toList)))) else (some false))) else (some false)))) = some true := by
  have hbf : isB y.flatten = true := by
    rw [isB_iff]
    intro x hx
    obtain ⟨m, hm, hx⟩ := List.mem_flatten.1 hx
    exact (isB_iff m).1 (List.all_eq_true.1 hb m hm) x hx
  rw [show understudyref02_Of.f y.flatten = some (Crc.u (Crc.sumB Crc.init (toB y.flatten))) by unfold understudyref02_Of.f; rw [if_pos ⟨hbf, hl⟩]]
  rw [show crc_Of.f y = some (Crc.u (Crc.sumB Crc.init (toB y.flatten))) by unfold crc_Of.f; rw [if_pos hb]]
  rw [show crc_Of.f [y.flatten] = some (Crc.u (Crc.sumB Crc.init (toB y.flatten))) by unfold crc_Of.f; rw [if_pos (by rw [List.all_cons, hbf]; rfl)]; simp]
  rw [seal_ref y.flatten hbf hl, seal_our y hb hl]
  simp
theorem loop (y : List (List Int)) (hb : y.all isB = true) (h20 : y.length ≤ 20) (d : Nat) : ∀ (i : Nat), i ≤ y.length → y.length - i = d → (∀ m ∈ y.take i, m.length ≤ 200) →
    ∃ K, ∀ k, K ≤ k → understudylaw02_CrcSums.l0 k y (y.take i).flatten y (y.length : Int) (i : Int) = some true := by
  induction d with
  | zero =>
    intro i hi hd hs
    refine ⟨1, fun k hk => ?_⟩
    obtain ⟨k, rfl⟩ : ∃ m, k = m + 1 := ⟨k - 1, by omega⟩
    have e : ¬ ((i : Int) < (y.length : Int)) := by omega
    have ei : y.take i = y := List.take_of_length_le (by omega)
    rw [ei] at hs ⊢
    have hfl := flatten_len y hs
    simp only [understudylaw02_CrcSums.l0]
    rw [if_neg e]
    exact tail_part y hb (by omega)
  | succ d ih =>
    intro i hi hd hs
    have hlt : i < y.length := by omega
    have e : (i : Int) < (y.length : Int) := by omega
    have hrd : rd_L1 y (i : Int) = y[i] := by unfold rd_L1; rw [List.getD_eq_getElem?_getD, Int.toNat_natCast, List.getElem?_eq_getElem hlt]; rfl
    by_cases hm : ((y[i].length : Nat) : Int) > 200
    · refine ⟨1, fun k hk => ?_⟩
      obtain ⟨k, rfl⟩ : ∃ m, k = m + 1 := ⟨k - 1, by omega⟩
      simp only [understudylaw02_CrcSums.l0]
      rw [if_pos e, if_pos (by omega), if_pos e, hrd, if_pos hm]
    · have et : y.take (i + 1) = y.take i ++ [y[i]] := (List.take_append_getElem hlt).symm
      have hs' : ∀ m ∈ y.take (i + 1), m.length ≤ 200 := by
        intro m h
        rw [et, List.mem_append] at h
        rcases h with h | h
        · exact hs m h
        · rw [List.mem_singleton] at h; subst h; omega
      obtain ⟨K, hK⟩ := ih (i + 1) (by omega) (by omega) hs'
      have hfl := flatten_len (y.take i) hs
      have htl : (y.take i).length ≤ 20 := by rw [List.length_take]; omega
      have ef : (y.take (i + 1)).flatten = (y.take i).flatten ++ y[i] := by rw [et, List.flatten_append]; simp
      rw [ef] at hK
      refine ⟨K + 1, fun k hk => ?_⟩
      obtain ⟨k, rfl⟩ : ∃ m, k = m + 1 := ⟨k - 1, by omega⟩
      simp only [understudylaw02_CrcSums.l0]
      rw [if_pos e, if_pos (by omega), if_pos e, hrd, if_neg hm, if_pos (by omega)]
      rw [show wrap64 ((i : Int) + 1) = ((i + 1 : Nat) : Int) by unfold wrap64; omega]
      exact hK k (by omega)
theorem pure_law (y0 : List (List Int)) (g0 : (y0.length ≤ 9223372036854775807 ∧ ∀ z1 ∈ y0, (z1.length ≤ 9223372036854775807 ∧ ∀ z2 ∈ z1, (0 ≤ z2 ∧ z2 ≤ 255)))) : ∃ k, understudylaw02_CrcSums.f k y0 = some true := by
  have hb : y0.all isB = true := by
    rw [List.all_eq_true]
    intro m hm
    rw [isB_iff]
    exact (g0.2 m hm).2
  unfold understudylaw02_CrcSums.f
  rw [show understudylaw02_crcAlive.f = some true from rfl]
  simp only [Option.bind_some, if_true]
  by_cases h20 : ((y0.length : Nat) : Int) > 20
  · exact ⟨0, by rw [if_pos h20]⟩
  · obtain ⟨K, hK⟩ := loop y0 hb (by omega) y0.length 0 (by omega) (by omega) (by simp)
    refine ⟨K, ?_⟩
    rw [if_neg h20]
    exact hK K (by omega)
end Go.Proofs.Ytckfcnclekjjdaa.PCrcSums
