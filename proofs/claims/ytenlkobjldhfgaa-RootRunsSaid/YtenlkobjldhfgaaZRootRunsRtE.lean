/- Roots on a disk, plain: what is written is read; torn or not. -/
import Derived.Test.YtenlkobjldhfgaaZRootRunsRtS
set_option linter.unusedVariables false
set_option linter.unusedSimpArgs false
namespace Go.Proofs.Ytenlkobjldhfgaa
open Go.RowKit Go.Proofs.YtenlkobjldhfgaaW.PrintWords Go.Proofs.YtenlkobjldhfgaaW.PrintLast Crc
theorem rmix_full {o x : List Int} (ho : o.length = 256) (hx : x.length = 256) : ∀ q, q ≤ 8 → mixS 255 o x q = x.take (q * 32) ++ o.drop (q * 32)
 | 0, _ => by simp [mixS]
 | q + 1, hq => by
  have ih := rmix_full ho hx q (by omega)
  have hb : (255 : Int) / 2 ^ q % 2 = 1 := by
   have : q = 0 ∨ q = 1 ∨ q = 2 ∨ q = 3 ∨ q = 4 ∨ q = 5 ∨ q = 6 ∨ q = 7 := by omega
   rcases this with rfl | rfl | rfl | rfl | rfl | rfl | rfl | rfl <;> decide
  have hA : (x.take (q * 32)).length = q * 32 := by rw [List.length_take]; omega
  have e1 : (x.take (q * 32) ++ o.drop (q * 32)).take (q * 32) = x.take (q * 32) := List.take_left' hA
  have e2 : (x.take (q * 32) ++ o.drop (q * 32)).drop (q * 32 + 32) = o.drop ((q + 1) * 32) := by
   rw [List.drop_append, hA, List.drop_of_length_le (l := x.take (q * 32)) (by omega), List.nil_append, List.drop_drop]
   congr 1
   omega
  unfold mixS
  rw [if_pos hb, ih, e1, e2, ← List.take_add, show q * 32 + 32 = (q + 1) * 32 by omega]
theorem rmix_all {o x : List Int} (ho : o.length = 256) (hx : x.length = 256) : mixS 255 o x 8 = x := by
 rw [rmix_full ho hx 8 (Nat.le_refl _), List.take_of_length_le (by omega), List.drop_of_length_le (by omega), List.append_nil]
section
variable {S : Dk} {q0 q1 xs : List UInt8} {n k : Nat}
theorem rt_lkE (h : RT S q0 q1) : lkE S = 0 := lkE_ok (fun i hi => (rt_read h hi).1)
theorem rt_p0 (h : RT S q0 q1) : S.readP 0 = q0.map bv := (rt_read h (show 0 < 2 by decide)).2
theorem rt_p1 (h : RT S q0 q1) : S.readP 1 = q1.map bv := (rt_read h (show 1 < 2 by decide)).2
theorem rt_vals (h : RT S q0 q1) : rB S q0 q1 = lkB q0 q1 ∧ rG S q0 q1 = lkG q0 q1 ∧ reE S q0 q1 = (if lkG q0 q1 = 0 then 51 else 0) := ⟨if_pos (rt_lkE h), if_pos (rt_lkE h), if_pos (rt_lkE h)⟩
def nX (q0 q1 : List UInt8) : Nat := nxN (lkG q0 q1).toNat (lkT q0 q1).toNat
theorem nx_vals (he : lkE S = 0) (ht : (lkT q0 q1).toNat ≤ 18446744073709551612) : nE S q0 q1 = 0 ∧ nG S q0 q1 = UInt64.ofNat (nX q0 q1) ∧ (UInt64.ofNat (nX q0 q1)).toNat = nX q0 q1 ∧ wI S q0 q1 = nX q0 q1 % 2 := by
 have e1 : nE S q0 q1 = 0 := (if_pos he).trans (if_neg (by omega))
 have e2 : nG S q0 q1 = UInt64.ofNat (nX q0 q1) := if_pos e1
 have h2 := nx_gt (lkG q0 q1).toNat (lkT q0 q1).toNat
 have e3 : (UInt64.ofNat (nX q0 q1)).toNat = nX q0 q1 := ofN_lt (m := 18446744073709551616) (by unfold nX; omega) (Nat.le_refl _)
 refine ⟨e1, e2, e3, ?_⟩
 unfold wI
 rw [e2, e3]
def nP (q0 q1 xs : List UInt8) : List UInt8 := pgB (UInt64.ofNat (nX q0 q1)) (rtS xs)
theorem nP_len : (nP q0 q1 xs).length = 256 := pgB_len _ _
def s0 (i : Nat) (p q0 : List UInt8) : List UInt8 := if i = 0 then p else q0
def s1 (i : Nat) (p q1 : List UInt8) : List UInt8 := if i = 0 then q1 else p
theorem heads_lt (ht : (lkT q0 q1).toNat ≤ 18446744073709551612) : (∀ g ∈ hdsB q0, g < UInt64.ofNat (nX q0 q1)) ∧ (∀ g ∈ hdsB q1, g < UInt64.ofNat (nX q0 q1)) := by
 obtain ⟨h0, h1⟩ := lkT_ge q0 q1
 have h2 := nx_gt (lkG q0 q1).toNat (lkT q0 q1).toNat
 have e3 : (UInt64.ofNat (nX q0 q1)).toNat = nX q0 q1 := ofN_lt (m := 18446744073709551616) (by unfold nX; omega) (Nat.le_refl _)
 have hl : lkT q0 q1 < UInt64.ofNat (nX q0 q1) := by
  rw [UInt64.lt_iff_toNat_lt, e3]
  unfold nX
  omega
 exact ⟨fun g hg => lkv (h0 g hg) hl, fun g hg => lkv (h1 g hg) hl⟩
theorem gn_lt {q : List UInt8} {s : Nat} {m : UInt64} (h : ∀ g ∈ hdsB q, g < m) (hm : m ≠ 0) : gnU q s < m := by
 unfold gnU
 split
 ·exact h _ (List.mem_map.2 ⟨0, by decide, rfl⟩)
 ·rw [UInt64.lt_iff_toNat_lt]
  exact toN_pos hm
theorem nX_ne (ht : (lkT q0 q1).toNat ≤ 18446744073709551612) : UInt64.ofNat (nX q0 q1) ≠ 0 ∧ 0 < nX q0 q1 := by
 have h2 := nx_gt (lkG q0 q1).toNat (lkT q0 q1).toNat
 have e3 : (UInt64.ofNat (nX q0 q1)).toNat = nX q0 q1 := ofN_lt (m := 18446744073709551616) (by unfold nX; omega) (Nat.le_refl _)
 have hp : 0 < nX q0 q1 := by unfold nX; omega
 refine ⟨fun h => ?_, hp⟩
 rw [h] at e3
 have h0 : (0 : UInt64).toNat = 0 := rfl
 omega
theorem u_antisymm {a b : UInt64} (h1 : a ≤ b) (h2 : b ≤ a) : a = b := by
 apply UInt64.toNat_inj.1
 rw [UInt64.le_iff_toNat_le] at h1 h2
 omega
theorem u_le {a b : UInt64} (h : a < b) : a ≤ b := by
 rw [UInt64.le_iff_toNat_le]
 rw [UInt64.lt_iff_toNat_lt] at h
 omega
theorem lk_after (ht : (lkT q0 q1).toNat ≤ 18446744073709551612) (hx : xs.length ≤ 186) : lkG (s0 (nX q0 q1 % 2) (nP q0 q1 xs) q0) (s1 (nX q0 q1 % 2) (nP q0 q1 xs) q1) = UInt64.ofNat (nX q0 q1) ∧ lkB (s0 (nX q0 q1 % 2) (nP q0 q1 xs) q0) (s1 (nX q0 q1 % 2) (nP q0 q1 xs) q1) = xs ∧ lkT (s0 (nX q0 q1 % 2) (nP q0 q1 xs) q0) (s1 (nX q0 q1 % 2) (nP q0 q1 xs) q1) = UInt64.ofNat (nX q0 q1) := by
 obtain ⟨hn0, hpos⟩ := nX_ne ht
 obtain ⟨l0, l1⟩ := heads_lt ht
 have e3 : (UInt64.ofNat (nX q0 q1)).toNat = nX q0 q1 := ofN_lt (m := 18446744073709551616) (by have h2 := nx_gt (lkG q0 q1).toNat (lkT q0 q1).toNat; unfold nX; omega) (Nat.le_refl _)
 obtain ⟨hp1, hp2⟩ := gn_pg (slot := nX q0 q1 % 2) hx hn0 (by rw [e3])
 have hds : ∀ g ∈ hdsB (nP q0 q1 xs), g ≤ UInt64.ofNat (nX q0 q1) := fun g hg => by rw [hds_pg _ _ g hg]; exact UInt64.le_refl _
 have hin : UInt64.ofNat (nX q0 q1) ∈ hdsB (nP q0 q1 xs) := List.mem_map.2 ⟨0, by decide, hd_pg _ _ (by decide)⟩
 rcases Nat.mod_two_eq_zero_or_one (nX q0 q1) with hi | hi
 ·rw [hi] at hp1 hp2 ⊢
  have a0 : s0 0 (nP q0 q1 xs) q0 = nP q0 q1 xs := rfl
  have a1 : s1 0 (nP q0 q1 xs) q1 = q1 := rfl
  rw [a0, a1]
  have hlt := gn_lt (s := 1) l1 hn0
  have hng : ¬ gnU q1 1 > gnU (nP q0 q1 xs) 0 := by
   unfold nP
   rw [hp1]
   intro h
   have := UInt64.lt_iff_toNat_lt.1 h
   have := UInt64.lt_iff_toNat_lt.1 hlt
   omega
  refine ⟨?_, ?_, ?_⟩
  ·unfold lkG; rw [if_neg hng]; exact hp1
  ·unfold lkB; rw [if_neg hng]; exact hp2
  ·exact u_antisymm (lkT_le hds (fun g hg => u_le (l1 g hg))) ((lkT_ge _ _).1 _ hin)
 ·rw [hi] at hp1 hp2 ⊢
  have a0 : s0 1 (nP q0 q1 xs) q0 = q0 := rfl
  have a1 : s1 1 (nP q0 q1 xs) q1 = nP q0 q1 xs := rfl
  rw [a0, a1]
  have hlt := gn_lt (s := 0) l0 hn0
  have hng : gnU (nP q0 q1 xs) 1 > gnU q0 0 := by
   unfold nP
   rw [hp1]
   exact hlt
  refine ⟨?_, ?_, ?_⟩
  ·unfold lkG; rw [if_pos hng]; exact hp1
  ·unfold lkB; rw [if_pos hng]; exact hp2
  ·exact u_antisymm (lkT_le (fun g hg => u_le (l0 g hg)) hds) ((lkT_ge _ _).2 _ hin)
theorem map_len {q : List UInt8} (h : q.length = 256) : (q.map bv).length = 256 := by rw [List.length_map]; exact h
theorem mix_new {o p : List UInt8} (ho : o.length = 256) (hp : p.length = 256) : mixS 255 (o.map bv) (p.map bv) 8 = p.map bv := rmix_all (map_len ho) (map_len hp)
theorem rt_write (h : RT S q0 q1) (ht : (lkT q0 q1).toNat ≤ 18446744073709551612) (hx : xs.length ≤ 186) : wE S q0 q1 xs = 0 ∧ wG S q0 q1 xs = UInt64.ofNat (nX q0 q1) ∧ RT (wS S q0 q1 xs) (s0 (nX q0 q1 % 2) (nP q0 q1 xs) q0) (s1 (nX q0 q1 % 2) (nP q0 q1 xs) q1) := by
 obtain ⟨e1, e2, e3, e4⟩ := nx_vals (S := S) (rt_lkE h) ht
 have hi : nX q0 q1 % 2 < 2 := Nat.mod_lt _ (by decide)
 obtain ⟨hth, hs⟩ := rt_there h hi
 have ha : S.acts = true := by unfold Dk.acts; rw [h.dn, h.lf]; rfl
 have hact : S.act = S := by
  unfold Dk.act
  rw [if_pos ha, if_neg (by rw [h.lf]; decide)]
 have hw : w1S S q0 q1 xs = { S with pending := [((nX q0 q1 % 2 : Nat), (nP q0 q1 xs).map bv)] } := by
  unfold w1S wP
  rw [e4, e2]
  unfold Dk.write
  rw [if_pos hth, if_pos ha, hact, h.pd]
  rfl
 have ha2 : (w1S S q0 q1 xs).acts = true := by rw [hw]; exact ha
 have hwe : S.writeE (wI S q0 q1 : Int) = 0 := by rw [e4]; unfold Dk.writeE; rw [if_pos hth, actE_eq, if_pos ha]
 have hae : (w1S S q0 q1 xs).actE = 0 := by rw [actE_eq, if_pos ha2]
 have hE : wE S q0 q1 xs = 0 := (if_pos hx).trans ((if_pos e1).trans ((if_pos hwe).trans hae))
 have hSt : wS S q0 q1 xs = (w1S S q0 q1 xs).sync := (if_pos ⟨hx, e1⟩).trans (if_pos hwe)
 refine ⟨hE, (if_pos hE).trans e2, ?_⟩
 rw [hSt, hw]
 have hact2 : ({ S with pending := [((nX q0 q1 % 2 : Nat), (nP q0 q1 xs).map bv)] } : Dk).act = { S with pending := [((nX q0 q1 % 2 : Nat), (nP q0 q1 xs).map bv)] } := by
  unfold Dk.act
  rw [if_pos (by rw [← hw]; exact ha2), if_neg (by show ¬ 0 < S.left; rw [h.lf]; decide)]
 have hol : (pgI (nX q0 q1 % 2) q0 q1).length = 256 := pgI_len h.l0 h.l1 _
 have hget : S.stable.getD (nX q0 q1 % 2) zpg = (pgI (nX q0 q1 % 2) q0 q1).map bv := by rw [List.getD_eq_getElem?_getD, hs]; rfl
 have hsy : ({ S with pending := [((nX q0 q1 % 2 : Nat), (nP q0 q1 xs).map bv)] } : Dk).sync = ({ S with pending := [((nX q0 q1 % 2 : Nat), (nP q0 q1 xs).map bv)] } : Dk).settle (fun _ => 255) := by
  unfold Dk.sync
  rw [if_pos (by rw [← hw]; exact ha2), hact2]
 rw [hsy]
 refine rt_set h hi nP_len _ ?_ rfl h.lf h.dn rfl
 show settleL (fun _ => 255) 0 [((nX q0 q1 % 2 : Nat), (nP q0 q1 xs).map bv)] S.stable = _
 rw [settle_one, hget, mix_new hol nP_len]
end
end Go.Proofs.Ytenlkobjldhfgaa
