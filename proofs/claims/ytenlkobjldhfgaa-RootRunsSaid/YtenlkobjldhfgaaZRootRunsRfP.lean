/- The document's root, plain: byte for byte. -/
import Derived.Test.YtenlkobjldhfgaaZRootRunsRtP
import Derived.Test.YtenlkobjldhfgaaZRootRunsByWO
set_option linter.unusedVariables false
set_option linter.unusedSimpArgs false
namespace Go.Proofs.Ytenlkobjldhfgaa
open Go.RowKit Go.Proofs.YtenlkobjldhfgaaW.PrintWords Go.Proofs.YtenlkobjldhfgaaW.PrintLast Crc
section
variable {α : Type} {f : Nat → List α} {m : Nat}
theorem flat_len : ∀ n, (∀ i, i < n → (f i).length = m) → ((List.range n).flatMap f).length = m * n
 | 0, _ => by simp
 | n + 1, h => by
  rw [List.range_succ, List.flatMap_append, List.length_append, flat_len n (fun i hi => h i (by omega)), Nat.mul_succ]
  have e : List.flatMap f [n] = f n := by simp
  rw [e, h n (by omega)]
theorem flat_get : ∀ n, (∀ i, i < n → (f i).length = m) → ∀ s j, s < n → j < m → ((List.range n).flatMap f)[m * s + j]? = (f s)[j]?
 | 0, _, s, j, hs, _ => by omega
 | n + 1, h, s, j, hs, hj => by
  have hl := flat_len n (fun i hi => h i (by omega))
  have e : List.flatMap f [n] = f n := by simp
  rw [List.range_succ, List.flatMap_append, e]
  rcases Nat.lt_or_ge s n with h2 | h2
  ·have hm : m * s + m ≤ m * n := by
    have := Nat.mul_le_mul_left m (show s + 1 ≤ n by omega)
    rw [Nat.mul_succ] at this
    exact this
   rw [List.getElem?_append_left (by omega)]
   exact flat_get n (fun i hi => h i (by omega)) s j h2 hj
  ·obtain rfl : s = n := by omega
   rw [List.getElem?_append_right (by omega), hl, Nat.add_sub_cancel_left]
end
def kS (i : Nat) : Nat := 24 * (i / 32) + (i % 32 - 8)
theorem kS_lo {i : Nat} (h : i % 32 < 8) : kS (i + 1) = kS i := by unfold kS; omega
theorem kS_hi {i : Nat} (h : ¬ i % 32 < 8) : kS (i + 1) = kS i + 1 := by unfold kS; omega
theorem kS_le {i : Nat} (h : i ≤ 256) : kS i ≤ 192 := by unfold kS; omega
theorem kS_lt {i : Nat} (h : kS i < 192) : i < 256 := by unfold kS at h; omega
section
variable {g : UInt64} {st q : List UInt8} {i : Nat}
theorem pgq_at (hi : i < 256) : (pgB g st)[i]? = (secB g st (i / 32))[i % 32]? := by
 have := flat_get (f := secB g st) (m := 32) 8 (fun s _ => secB_len g st s) (i / 32) (i % 32) (by omega) (by omega)
 rw [show 32 * (i / 32) + i % 32 = i by omega] at this
 exact this
theorem pg_head (hi : i < 256) (h : i % 32 < 8) : (pgB g st)[i]? = (gnB g)[i % 32]? := by
 rw [pgq_at hi]
 unfold secB
 rw [List.getElem?_append_left (by rw [gnB_length]; exact h)]
theorem pg_body (hi : i < 256) (h : ¬ i % 32 < 8) (hk : kS i < st.length) : (pgB g st)[i]? = st[kS i]? := by
 have hd : i % 32 - 8 < 24 := by omega
 have hl : i % 32 - 8 < ((st.drop (24 * (i / 32))).take 24).length := by rw [List.length_take, List.length_drop]; unfold kS at hk; omega
 rw [pgq_at hi]
 unfold secB padL
 rw [List.getElem?_append_right (by rw [gnB_length]; omega), gnB_length, List.getElem?_append_left hl, List.getElem?_take, if_pos hd, List.getElem?_drop]
 rfl
theorem pg_pad (hi : i < 256) (h : ¬ i % 32 < 8) (hk : ¬ kS i < st.length) : (pgB g st)[i]? = some 0 := by
 have hd : i % 32 - 8 < 24 := by omega
 have hl : ((st.drop (24 * (i / 32))).take 24).length ≤ i % 32 - 8 := by rw [List.length_take, List.length_drop]; unfold kS at hk; omega
 rw [pgq_at hi]
 unfold secB padL
 rw [List.getElem?_append_right (by rw [gnB_length]; omega), gnB_length, List.getElem?_append_right hl, List.getElem?_replicate, if_pos (by omega)]
theorem pgq_get {x : UInt8} (hi : i < (pgB g st).length) (h : (pgB g st)[i]? = some x) : (pgB g st)[i] = x := by
 rw [List.getElem?_eq_getElem hi] at h
 exact Option.some.inj h
theorem pp_set {x : UInt8} (hi : i < 256) (h : (pgB g st)[i]? = some x) : (padN 256 (pgB g st) i).set i (bv x) = padN 256 (pgB g st) (i + 1) := by
 have hl : i < (pgB g st).length := by rw [pgB_len]; exact hi
 rw [← pgq_get hl h]
 exact padN_set hl hi
theorem pp_skip (hi : i < 256) (h : (pgB g st)[i]? = some 0) : padN 256 (pgB g st) i = padN 256 (pgB g st) (i + 1) := by
 rw [← pp_set hi h]
 unfold padN
 rw [List.set_append, if_neg (by rw [List.length_map, List.length_take, pgB_len]; omega)]
 have e : 256 - i = (256 - (i + 1)) + 1 := by omega
 have e2 : i - (((pgB g st).take i).map bv).length = 0 := by rw [List.length_map, List.length_take, pgB_len]; omega
 rw [e2, e, List.replicate_succ, List.set_cons_zero]
 rfl
theorem pp_end : padN 256 (pgB g st) 256 = (pgB g st).map bv := by
 have := padN_all 256 (pgB g st)
 rw [pgB_len] at this
 rw [this]
 simp
theorem pp_zero : padN 256 (pgB g st) 0 = zpg := padN_zero _ _
theorem st_at (hq : q.length = 256) (hi : i < 256) (h : ¬ i % 32 < 8) : (stB q)[kS i]? = some (q.getD i 0) := by
 have hb : ∀ s, s < 8 → (bdS q s).length = 24 := by
  intro s hs
  unfold bdS
  rw [List.length_take, List.length_drop]
  omega
 have e := flat_get (f := bdS q) (m := 24) 8 hb (i / 32) (i % 32 - 8) (by omega) (by omega)
 have e2 : (bdS q (i / 32))[i % 32 - 8]? = some (q.getD i 0) := by
  unfold bdS
  rw [List.getElem?_take, if_pos (by omega), List.getElem?_drop, show 32 * (i / 32) + 8 + (i % 32 - 8) = i by omega, List.getD_eq_getElem?_getD, List.getElem?_eq_getElem (by omega)]
  rfl
 exact e.trans e2
def ctK (q : List UInt8) (i : Nat) : List UInt8 := ((stB q).drop 2).take (kS i - 2)
theorem ctK_len (hq : q.length = 256) (hi : i ≤ 256) : (ctK q i).length = kS i - 2 := by
 unfold ctK
 rw [List.length_take, List.length_drop, stB_len hq]
 have := kS_le hi
 omega
theorem ctK_snoc (hq : q.length = 256) (h10 : 10 ≤ i) (hi : i < 256) (h : ¬ i % 32 < 8) : ctK q i ++ [q.getD i 0] = ctK q (i + 1) := by
 have hk : 2 ≤ kS i := by unfold kS; omega
 have hx : ((stB q).drop 2)[kS i - 2]? = some (q.getD i 0) := by rw [List.getElem?_drop, show 2 + (kS i - 2) = kS i by omega]; exact st_at hq hi h
 unfold ctK
 rw [kS_hi h, show kS i + 1 - 2 = (kS i - 2) + 1 by omega, List.take_add_one, hx]
 rfl
theorem ctK_same (h : i % 32 < 8) : ctK q i = ctK q (i + 1) := by unfold ctK; rw [kS_lo h]
theorem ctK_end (h : kS i - 2 = szR q) : ctK q i = ctR q := by unfold ctK ctR; rw [h]
theorem sz_two (hq : q.length = 256) : szR q = (q.getD 8 0).toNat + 256 * (q.getD 9 0).toNat := by
 have h0 := st_at (i := 8) hq (by decide) (by decide)
 have h1 := st_at (i := 9) hq (by decide) (by decide)
 have hl := stB_len hq
 unfold szR
 generalize stB q = s at *
 match s, hl, h0, h1 with
 | a :: b :: r, _, h0, h1 =>
  obtain rfl : a = q.getD 8 0 := Option.some.inj h0
  obtain rfl : b = q.getD 9 0 := Option.some.inj h1
  rfl
def numR (q : List UInt8) (a m : Nat) : Nat := leN (((q.drop a).take 8).drop m)
theorem numR_end (a : Nat) : numR q a 8 = 0 := by
 unfold numR
 rw [List.drop_of_length_le (by rw [List.length_take]; omega)]
 rfl
theorem numR_step {a m : Nat} (hm : m < 8) (ha : a + m < q.length) : numR q a m = (q.getD (a + m) 0).toNat + 256 * numR q a (m + 1) := by
 have hl : m < ((q.drop a).take 8).length := by rw [List.length_take, List.length_drop]; omega
 have e : ((q.drop a).take 8)[m] = q.getD (a + m) 0 := by
  rw [List.getElem_take, List.getElem_drop, List.getD_eq_getElem?_getD, List.getElem?_eq_getElem ha]
  rfl
 unfold numR
 rw [List.drop_eq_getElem_cons hl, e]
 rfl
theorem numR_lt (a m : Nat) (hm : m ≤ 8) : numR q a m < 256 ^ (8 - m) := by
 unfold numR
 have h := leN_lt (((q.drop a).take 8).drop m)
 refine Nat.lt_of_lt_of_le h (Nat.pow_le_pow_right (by decide) ?_)
 rw [List.length_drop, List.length_take]
 omega
theorem numR_hd (s : Nat) : uv (hdB q s) = (numR q (32 * s) 0 : Int) := by
 have h := numR_lt (q := q) (32 * s) 0 (by decide)
 unfold numR at h ⊢
 rw [List.drop_zero] at h ⊢
 unfold uv hdB
 rw [UInt64.toNat_ofNat']
 omega
theorem num_wrap {a m : Nat} {x : Int} (hm : m < 8) (ha : a + m < q.length) (hx : x = ((q.getD (a + m) 0).toNat : Int)) : IntKind.u64.wrap (IntKind.u64.wrap ((numR q a (m + 1) : Int) * 256) + x) = (numR q a m : Int) := by
 have h := numR_lt (q := q) a m (by omega)
 have h2 : 256 ^ (8 - m) ≤ 256 ^ 8 := Nat.pow_le_pow_right (by decide) (by omega)
 have h3 := numR_step hm ha
 rw [IntKind.wrap_u64, IntKind.wrap_u64, hx]
 omega
end
end Go.Proofs.Ytenlkobjldhfgaa
