/- Package disk: settle, Sync, Crash. -/
import Derived.Test.YtiokdpnhaemciaaDisk3
set_option linter.unusedVariables false
set_option linter.unusedSimpArgs false
namespace Go.Proofs.Ytiokdpnhaemciaa
open Go.RowKit Go.Proofs.YtiokdpnhaemciaaW.PrintWords Go.Proofs.YtiokdpnhaemciaaW.PrintLast
section
variable {w0 W : World} {F : Nat → Prop} {L : List Res} {D gs gm : Nat} {v : Value} {S : Dk}
theorem u8_bit {m : Int} (hm : 0 ≤ m ∧ m < 256) (q : Nat) : IntKind.wrap .u8 ((((m / 2 ^ q % 2 ^ 8).toNat &&& ((1 : Int) % 2 ^ 8).toNat : Nat)) : Int) = m / 2 ^ q % 2 := by
  have h1 : 0 ≤ m / 2 ^ q := Int.ediv_nonneg hm.1 (Int.pow_nonneg (by omega))
  have h2 : m / 2 ^ q ≤ m := Int.ediv_le_self _ hm.1
  generalize m / 2 ^ q = z at h1 h2
  have e1 : ((1 : Int) % 2 ^ 8).toNat = 1 := by decide
  have e2 : z % 2 ^ 8 = z := by omega
  rw [e1, e2, Nat.and_one_is_mod, IntKind.wrap_u8]
  omega
/-- The first q sectors of a page: those whose bits are set are the other page's. -/
def mixS (m : Int) (o x : List Int) : Nat → List Int
  | 0 => o
  | q + 1 => if m / 2 ^ q % 2 = 1 then (mixS m o x q).take (q * 32) ++ (x.drop (q * 32)).take 32 ++ (mixS m o x q).drop (q * 32 + 32) else mixS m o x q
theorem mixS_len {m : Int} {o x : List Int} (ho : o.length = 256) (hx : x.length = 256) : ∀ q, q ≤ 8 → (mixS m o x q).length = 256
  | 0, _ => ho
  | q + 1, hq => by
    have ih := mixS_len (m := m) ho hx q (by omega)
    unfold mixS
    split
    · simp [ih, hx]; omega
    · exact ih
/-- Writes settle, one behind the other. -/
def settleL (mask : Nat → Int) : Nat → List (Int × List Int) → List (List Int) → List (List Int)
  | _, [], T => T
  | k, x :: l, T => settleL mask (k + 1) l (T.set x.1.toNat (mixS (mask k) (T.getD x.1.toNat zpg) x.2 8))
def Dk.settle (S : Dk) (mask : Nat → Int) : Dk := { S with stable := settleL mask 0 S.pending S.stable, pending := [] }
theorem set_len {T : List (List Int)} {i : Nat} {p : List Int} (hT : ∀ p ∈ T, p.length = 256) (hp : p.length = 256) : ∀ q ∈ T.set i p, q.length = 256 := by
  intro q hq
  rcases List.mem_or_eq_of_mem_set hq with h | h
  · exact hT q h
  · rw [h]; exact hp
theorem mix_yes {T : List (List Int)} {i : Nat} {m : Int} {o x : List Int} {q : Nat} (hT : ∀ p ∈ T, p.length = 256) (ho : T[i]? = some o) (hx : x.length = 256) (hq : q < 8) (hb : m / 2 ^ q % 2 = 1) : lay (pgs (T.set i (mixS m o x q))) (i * 256 + q * 32) (nums .u8 ((x.drop (q * 32)).take 32)) = pgs (T.set i (mixS m o x (q + 1))) := by
  have hol := hT o (List.mem_of_getElem? ho)
  have hl := mixS_len (m := m) hol hx q (by omega)
  have hi := (List.getElem?_eq_some_iff.1 ho).1
  have hu : ((x.drop (q * 32)).take 32).length = 32 := by rw [List.length_take, List.length_drop]; omega
  rw [pgs_lay (T.set i (mixS m o x q)) i (mixS m o x q) (mixS m o x (q + 1)) (q * 32) _ (set_len hT hl) (by rw [List.getElem?_set_self hi]) (by omega) (by rw [hu]; conv => lhs; unfold mixS; rw [if_pos hb]), List.set_set]
theorem mix_no {m : Int} {o x : List Int} {q : Nat} (hb : ¬ m / 2 ^ q % 2 = 1) : mixS m o x (q + 1) = mixS m o x q := by
  conv => lhs; unfold mixS; rw [if_neg hb]
theorem mix_fit {T : List (List Int)} {i : Nat} {m : Int} {o x : List Int} {q : Nat} (hT : ∀ p ∈ T, p.length = 256) (ho : T[i]? = some o) (hx : x.length = 256) (hq : q < 8) : i * 256 + q * 32 + (nums .u8 ((x.drop (q * 32)).take 32)).length ≤ (pgs (T.set i (mixS m o x q))).length := by
  have hol := hT o (List.mem_of_getElem? ho)
  have hl := mixS_len (m := m) hol hx q (by omega)
  have hi := (List.getElem?_eq_some_iff.1 ho).1
  rw [pgs_length _ (set_len hT hl), nums_length, List.length_set, List.length_take]
  omega
theorem src_cut (a : Value) {p : List Int} {q : Nat} (hp : p.length = 256) (hq : q < 8) : (((a :: nums .u8 p : List Value)).drop (1 + q * 32)).take ((nums .u8 ((p.drop (q * 32)).take 32)).length) = nums .u8 ((p.drop (q * 32)).take 32) := by
  have e : 1 + q * 32 = q * 32 + 1 := by omega
  rw [e, List.drop_succ_cons, nums_length, List.length_take, List.length_drop, hp, show min 32 (256 - q * 32) = 32 by omega]
  simp only [nums, List.map_take, List.map_drop]
theorem set_same {T : List (List Int)} {i : Nat} {o : List Int} (ho : T[i]? = some o) : T.set i o = T := by
  obtain ⟨hi, rfl⟩ := List.getElem?_eq_some_iff.1 ho
  exact List.set_getElem_self hi
theorem settle_step {mask : Nat → Int} {k : Nat} {P : List (Int × List Int)} {x : Int × List Int} {T : List (List Int)} {o : List Int} (hk : k < P.length) (hx : P[k]? = some x) (ho : T[x.1.toNat]? = some o) : settleL mask k (P.drop k) T = settleL mask (k + 1) (P.drop (k + 1)) (T.set x.1.toNat (mixS (mask k) o x.2 8)) := by
  obtain ⟨_, rfl⟩ := List.getElem?_eq_some_iff.1 hx
  rw [List.drop_eq_getElem_cons hk]
  have e : T.getD P[k].1.toNat zpg = o := by rw [List.getD_eq_getElem?_getD, ho]; rfl
  conv => lhs; unfold settleL; rw [e]
end
end Go.Proofs.Ytiokdpnhaemciaa
