/- The reader, one byte after the other; what is taken from it. -/
import Derived.Test.YtmachdikonelbaaShR
import Derived.Test.YtmachdikonelbaaByW
set_option linter.unusedVariables false
set_option linter.unusedSimpArgs false
namespace Go.Proofs.Ytmachdikonelbaa
open Go.RowKit Go.Proofs.YtmachdikonelbaaW.PrintWords Go.Proofs.YtmachdikonelbaaW.PrintLast
/-- Bytes that are read, where they stand. -/
def rdp (A : Option Addr) (c : Nat) (xs : List UInt8) : Res where
  foot b := 0 < xs.length ∧ ∃ a, A = some a ∧ b = a.block
  holds w := Sl w A c xs
  keep := fun {w w'} hk hs => hs.same (fun hp a ha k => by
    obtain ⟨ad, e, hc⟩ := hs.rd.at 0 hp
    rw [ha] at e
    injection e with e
    subst e
    have hlt := World.block_lt_of_cell? w _ hc
    rw [addr_block] at hlt
    unfold World.cell?
    rw [addr_block, hk a.block ⟨hp, a, ha, rfl⟩ hlt])
  lt := fun {w} hs b hb => by
    obtain ⟨hp, a, ha, rfl⟩ := hb
    obtain ⟨ad, e, hc⟩ := hs.rd.at 0 hp
    rw [ha] at e
    injection e with e
    subst e
    have hlt := World.block_lt_of_cell? w _ hc
    rwa [addr_block] at hlt
section
variable {w0 w W : World} {F : Nat → Prop} {L : List Res} {base R : Nat} {s : Rs}
theorem St.takeT (HS : St w0 F W (rdr base R s :: L)) (n : Int) :
    Calls Try.prog 64 #[.pointer (some ⟨R, 0, none⟩), .int .i64 n] W fun e w' => ∃ A c, e = .returned (.slice A (takeOut s.1 s.2 n).length c) ∧ St w0 F w' (rdp A c (takeOut s.1 s.2 n) :: rdr base R (takeRest s.1 s.2 n, takeBad s.1 s.2 n) :: L) := by
  obtain ⟨⟨A, c, h⟩, hl⟩ := HS.hs.head
  have hlt := h.lt
  refine (take_any base R s.1 s.2 A c n W h hl).mono ?_
  rintro e w' ⟨B, d, rfl, hs, hf, hR, hg⟩
  refine ⟨B, d, rfl, St.call (R := [rdr base R s]) (R' := [rdp B d (takeOut s.1 s.2 n), rdr base R (takeRest s.1 s.2 n, takeBad s.1 s.2 n)]) HS ⟨hg.os, hg.tape, hg.output, ⟨hg.size, fun b hb hn => hg.block b hb (fun e => hn ?_)⟩, ?_, fun b hb => ?_⟩⟩
  · injection e with e
    subst e
    exact footL_one.2 ⟨h.le, Nat.le_refl _⟩
  · refine ((Hs.nil w').cons (r := rdr base R (takeRest s.1 s.2 n, takeBad s.1 s.2 n)) ⟨hR, Nat.le_trans (takeRest_le _ _ _) hl⟩ (fun _ hx => by cases hx)).cons hs (fun r hr b hb hb2 => ?_)
    rw [List.mem_singleton.1 hr] at hb2
    obtain ⟨hp, a, ha, rfl⟩ := hb
    have h1 := hf hp a ha
    have h2 : base ≤ a.block ∧ a.block ≤ R := hb2
    omega
  · rcases footL_cons.1 hb with hb | hb
    · obtain ⟨hp, a, ha, rfl⟩ := hb
      exact .inr (hf hp a ha)
    · have h2 : base ≤ b ∧ b ≤ R := footL_one.1 hb
      exact .inl (footL_one.2 h2)
theorem numB_one (x : UInt8) : numB [x] = bv x := by
  have h0 := bv_lo x
  have h1 := bv_hi x
  have e : upto (backAt [x]) 1 = [(0, x)] := by simp [upto, backAt]
  have : numB [x] = numStep 0 (0, x) := by unfold numB; rw [show ([x] : List UInt8).length = 1 from rfl, e]; rfl
  rw [this]
  unfold numStep
  simp only [IntKind.wrap_u64]
  rw [show (0 * 256 : Int) % 18446744073709551616 = 0 by decide, show bv x % 18446744073709551616 = bv x by omega]
  have h2 := x.toNat_lt
  have h3 := u64_or_nat 0 x.toNat (by decide) (by omega)
  unfold bv
  rw [show ((0 : Nat) : Int) = 0 from rfl, Nat.zero_or] at h3
  exact h3
/-- The next byte. -/
theorem rn_one {q : List UInt8} {m : Nat} (h : m < q.length) : rn 1 (q.drop m, false) = bv q[m] ∧ rs 1 (q.drop m, false) = (q.drop (m + 1), false) := by
  have hb : takeBad (q.drop m) false 1 = false := by
    unfold takeBad
    have : (q.drop m).length = q.length - m := List.length_drop ..
    simp
    omega
  have hw : (false || !wideB 1) = false := by decide
  unfold rn rs
  show numB (takeOut (q.drop m) (false || !wideB 1) 1) = _ ∧ (takeRest (q.drop m) (false || !wideB 1) 1, takeBad (q.drop m) (false || !wideB 1) 1) = _
  rw [hw, hb]
  unfold takeOut takeRest
  rw [hb]
  simp only [Bool.false_eq_true, if_false]
  rw [show (1 : Int).toNat = 1 from rfl, List.drop_drop, List.drop_eq_getElem_cons h]
  exact ⟨numB_one _, rfl⟩
theorem St.num1 {q : List UInt8} {m : Nat} (HS : St w0 F W (rdr base R (q.drop m, false) :: L)) (h : m < q.length) :
    Calls Try.prog 49 #[.pointer (some ⟨R, 0, none⟩), .int .i64 1] W fun e w' => e = .returned (.int .u64 (bv q[m])) ∧ St w0 F w' (rdr base R (q.drop (m + 1), false) :: L) := by
  obtain ⟨h1, h2⟩ := rn_one h
  refine (HS.num 1).mono ?_
  rintro e w' ⟨rfl, h⟩
  rw [h1]
  rw [h2] at h
  exact ⟨rfl, h⟩
theorem St.numD {q : List UInt8} {m : Nat} (HS : St w0 F W (rdr base R (q.drop m, false) :: L)) (h : m < q.length) :
    Calls Try.prog 49 #[.pointer (some ⟨R, 0, none⟩), .int .i64 1] W fun e w' => e = .returned (.int .u64 (bv (q.getD m 0))) ∧ St w0 F w' (rdr base R (q.drop (m + 1), false) :: L) := by
  have e : q.getD m 0 = q[m] := by rw [List.getD_eq_getElem?_getD, List.getElem?_eq_getElem h]; rfl
  rw [e]
  exact HS.num1 h
theorem St.take16 {q : List UInt8} {m n : Nat} (HS : St w0 F W (rdr base R (q.drop m, false) :: L)) (h : m + n ≤ q.length) :
    Calls Try.prog 64 #[.pointer (some ⟨R, 0, none⟩), .int .i64 (n : Int)] W fun e w' => ∃ A c, e = .returned (.slice A n c) ∧ St w0 F w' (rdp A c ((q.drop m).take n) :: rdr base R (q.drop (m + n), false) :: L) := by
  have hl : (q.drop m).length = q.length - m := List.length_drop ..
  have hb : takeBad (q.drop m) false (n : Int) = false := by
    unfold takeBad
    simp
    omega
  have ho : takeOut (q.drop m) false (n : Int) = (q.drop m).take n := by unfold takeOut; rw [hb]; simp
  have hr : takeRest (q.drop m) false (n : Int) = q.drop (m + n) := by unfold takeRest; rw [hb]; simp [List.drop_drop]
  refine (HS.takeT (n : Int)).mono ?_
  rintro e w' ⟨A, c, rfl, h2⟩
  simp only [ho, hr, hb] at h2
  simp only [ho, List.length_take, hl]
  rw [show min n (q.length - m) = n by omega]
  exact ⟨A, c, rfl, h2⟩
end
end Go.Proofs.Ytmachdikonelbaa
