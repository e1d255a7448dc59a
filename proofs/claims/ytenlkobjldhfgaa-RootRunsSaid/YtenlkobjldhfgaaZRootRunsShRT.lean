/- Several texts in one: ShR, ShT. -/
import Derived.Test.YtenlkobjldhfgaaZRootRunsSh
import Derived.Test.YtenlkobjldhfgaaZRootRunsNum
import Derived.Test.YtenlkobjldhfgaaZRootRunsByWO
namespace Go.Proofs.Ytenlkobjldhfgaa
open Go.RowKit Go.Proofs.YtenlkobjldhfgaaW.PrintWords
set_option linter.unusedVariables false
abbrev Rs := List UInt8 × Bool
def rdr (base R : Nat) (s : Rs) : Res where
 foot b := base ≤ b ∧ b ≤ R
 holds w := RdrX w base R s.1 s.2 ∧ s.1.length ≤ 140737488355000
 keep := fun hk ⟨⟨A, c, h⟩, hl⟩ => ⟨⟨A, c, h.kept fun k h1 h2 => hk k ⟨h1, h2⟩ (by have := h.lt; omega)⟩, hl⟩
 lt := fun ⟨⟨A, c, h⟩, _⟩ b hb => by have := h.lt; omega
def rn (n : Int) (s : Rs) : Int := numB (takeOut s.1 (s.2 || !wideB n) n)
def rs (n : Int) (s : Rs) : Rs := (takeRest s.1 (s.2 || !wideB n) n, takeBad s.1 (s.2 || !wideB n) n)
theorem takeRest_le (xs : List UInt8) (f : Bool) (n : Int) : (takeRest xs f n).length ≤ xs.length := by
 unfold takeRest; split
 ·exact Nat.le_refl _
 ·rw [List.length_drop]; omega
section
variable {w0 w W : World} {F : Nat → Prop} {L : List Res} {base R : Nat} {s : Rs}
theorem St.num (HS : St w0 F W (rdr base R s :: L)) (n : Int) :
  Calls Try.prog 55 #[.pointer (some ⟨R, 0, none⟩), .int .i64 n] W fun e w' => e = .returned (.int .u64 (rn n s)) ∧ St w0 F w' (rdr base R (rs n s) :: L) := by
 obtain ⟨⟨A, c, h⟩, hl⟩ := HS.hs.head
 refine (num_any base R s.1 s.2 A c n W h hl).mono ?_
 rintro e w' ⟨rfl, hR, hg⟩
 refine ⟨rfl, HS.turn hg.os hg.tape hg.output ⟨hg.size, fun b hb hn => hg.block b hb (fun e => hn ?_)⟩ ⟨hR, Nat.le_trans (takeRest_le _ _ _) hl⟩ (fun b hb => .inl hb)⟩
 injection e with e
 subst e
 exact ⟨h.le, Nat.le_refl _⟩
theorem St.take (HS : St w0 F W (rdr base R s :: L)) (n : Int) :
  Calls Try.prog 64 #[.pointer (some ⟨R, 0, none⟩), .int .i64 n] W fun e w' => ∃ A c, e = .returned (.slice A (takeOut s.1 s.2 n).length c) ∧ Sl w' A c (takeOut s.1 s.2 n) ∧ St w0 F w' (rdr base R (takeRest s.1 s.2 n, takeBad s.1 s.2 n) :: L) := by
 obtain ⟨⟨A, c, h⟩, hl⟩ := HS.hs.head
 refine (take_any base R s.1 s.2 A c n W h hl).mono ?_
 rintro e w' ⟨B, d, rfl, hs, hf, hR, hg⟩
 refine ⟨B, d, rfl, hs, HS.turn hg.os hg.tape hg.output ⟨hg.size, fun b hb hn => hg.block b hb (fun e => hn ?_)⟩ ⟨hR, Nat.le_trans (takeRest_le _ _ _) hl⟩ (fun b hb => .inl hb)⟩
 injection e with e
 subst e
 exact ⟨h.le, Nat.le_refl _⟩
theorem clone_nil (c : Nat) (w : World) : Calls Try.prog 57 #[.slice none 0 c] w fun e w' => e = .returned (.slice none 0 0) ∧ w' = w := by
 have hq := fun w => Lib.run_eql_slice_nil (P := Try.prog) w 24 5 none 0 c 0 0 Try.underlying24
 go_enter Try.func57, Try.ntmps57
 go_wp2
 go_ret
 exact ⟨rfl, rfl⟩
theorem new_nil (c : Nat) (w : World) : Calls Try.prog 54 #[.slice none 0 c] w fun e w' => ∃ R, e = .returned (.pointer (some ⟨R, 0, none⟩)) ∧ RdrX w' w.heap.size R [] false ∧ Below w.heap.size w w' := by
 go_enter Try.func54, Try.ntmps54
 go_wp2_with (go_at_call 57; refine (clone_nil c _).mono ?_; rintro e w1 ⟨rfl, rfl⟩)
 go_ret
 refine ⟨_, rfl, ⟨none, 0, Nat.le_refl _, ?_, ?_, ?_, ?_, Sl.none _, fun h0 => absurd h0 (by simp)⟩, alloc_below _ _⟩
 ·exact (box2 _ _ _ _).1
 ·exact (box2 _ _ _ _).2.1
 ·exact (box2 _ _ _ _).2.2.1
 ·exact (box2 _ _ _ _).2.2.2
theorem St.newR0 (HS : St w0 F W L) (A : Option Addr) (c n : Nat) (xs : List UInt8) (hn : n = xs.length) (hr : Rd W A xs) (hc : xs.length ≤ c) (hl : xs.length ≤ 140737488355000) :
  Calls Try.prog 54 #[.slice A n c] W fun e w' => ∃ base R, e = .returned (.pointer (some ⟨R, 0, none⟩)) ∧ St w0 F w' (rdr base R (xs, false) :: L) := by
 subst hn
 cases A with
 | none =>
  have h0 : xs = [] := by
   rcases Nat.eq_zero_or_pos xs.length with h | h
   ·exact List.eq_nil_of_length_eq_zero h
   ·obtain ⟨ad, e, _⟩ := hr.2.2 h; cases e
  subst h0
  refine (new_nil c W).mono ?_
  rintro e w' ⟨R, rfl, hR, hb⟩
  exact ⟨W.heap.size, R, rfl, HS.fresh hb ⟨hR, hl⟩ (fun b hb => hb.1)⟩
 | some ad =>
  refine (new_any (some ad) c xs W ⟨hr, hc, fun h => by cases h⟩ hl).mono ?_
  rintro e w' ⟨R, rfl, hR, hb⟩
  exact ⟨W.heap.size, R, rfl, HS.fresh hb ⟨hR, hl⟩ (fun b hb => hb.1)⟩
end
end Go.Proofs.Ytenlkobjldhfgaa
set_option linter.unusedVariables false
set_option linter.unusedSimpArgs false
namespace Go.Proofs.Ytenlkobjldhfgaa
open Go.RowKit Go.Proofs.YtenlkobjldhfgaaW.PrintWords Go.Proofs.YtenlkobjldhfgaaW.PrintLast
def rdp (A : Option Addr) (c : Nat) (xs : List UInt8) : Res where
 foot b := 0 < xs.length ∧ ∃ a, A = some a ∧ b = a.block
 holds w := Sl w A c xs
 keep := fun {w w'} hk hs => hs.same (fun hp a ha k => by
  obtain ⟨ad, e, hc⟩ := hs.rd.at 0 hp
  rw [ha] at e
  injection e with e
  subst e
  have hlt := World.block_lt_of_cell? w _ hc
  rw [addr_block] at hlt
  unfold World.cell?
  rw [addr_block, hk a.block ⟨hp, a, ha, rfl⟩ hlt])
 lt := fun {w} hs b hb => by
  obtain ⟨hp, a, ha, rfl⟩ := hb
  obtain ⟨ad, e, hc⟩ := hs.rd.at 0 hp
  rw [ha] at e
  injection e with e
  subst e
  have hlt := World.block_lt_of_cell? w _ hc
  rwa [addr_block] at hlt
section
variable {w0 w W : World} {F : Nat → Prop} {L : List Res} {base R : Nat} {s : Rs}
end
end Go.Proofs.Ytenlkobjldhfgaa
