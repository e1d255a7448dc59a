/- The reader of package ends: New, Left, Failed, Ended, Take. -/
import Derived.Test.YtenlkobjldhfgaaZRootRunsWidth
import Derived.Test.YtenlkobjldhfgaaZRootRunsStr
namespace Go.Proofs.Ytenlkobjldhfgaa
open Go.RowKit Go.Proofs.YtenlkobjldhfgaaW.PrintWords
theorem Rd.of_cells {w : World} {A : Option Addr} {xs : List UInt8} (hl : xs.length ≤ 9223372036854775807) (h : 0 < xs.length → ∃ ad, A = some ad ∧ ∀ k (hk : k < xs.length), w.cell? (ad.add k) = some (.int .u8 (bv xs[k]))) : Rd w A xs := by
 refine ⟨rfl, hl, fun h0 => ?_⟩
 obtain ⟨ad, e, hc⟩ := h h0
 refine ⟨ad, e, fun j p hj => ?_⟩
 obtain ⟨hj2, rfl⟩ := List.getElem?_eq_some_iff.1 hj
 refine ⟨[.int .u8 (bv xs[j])], rfl, rfl, fun i u hu => ?_⟩
 match i, hu with
 | 0, hu =>
  obtain rfl : _ = u := by simpa using hu
  have := hc j hj2
  simpa [kByte, Kd.scalar] using this
theorem Sl.same {w w' : World} {A : Option Addr} {c : Nat} {xs : List UInt8} (h : Sl w A c xs) (hk : 0 < xs.length → ∀ a, A = some a → ∀ k, w'.cell? (a.add k) = w.cell? (a.add k)) : Sl w' A c xs := by
 refine ⟨Rd.of_cells h.small fun h0 => ?_, h.cap, h.nil⟩
 obtain ⟨ad, e, _⟩ := h.rd.at 0 h0
 refine ⟨ad, e, fun k hk2 => ?_⟩
 obtain ⟨ad', e', hc⟩ := h.rd.at k hk2
 rw [e] at e'
 injection e' with e'
 subst e'
 rw [hk h0 _ e]
 exact hc
theorem addr_block (a : Addr) (k : Nat) : (a.add k).block = a.block := by unfold Addr.add; split <;> rfl
theorem addr_add (a : Addr) (n k : Nat) : (a.add n).add k = a.add (n + k) := by
 unfold Addr.add
 by_cases h1 : n = 0
 ·subst h1; simp
 ·by_cases h2 : k = 0
  ·subst h2; simp
  ·simp [h1, h2, Nat.add_assoc]
theorem Sl.drop {w : World} {A : Option Addr} {c : Nat} {xs : List UInt8} (h : Sl w A c xs) (n : Nat) (hn : n ≤ xs.length) : Sl w (A.map fun a => a.add n) (c - n) (xs.drop n) := by
 have hl : (xs.drop n).length = xs.length - n := List.length_drop
 refine ⟨Rd.of_cells (by have := h.small; omega) fun h0 => ?_, by have := h.cap; omega, fun hA => ?_⟩
 ·obtain ⟨ad, e, _⟩ := h.rd.at n (by omega)
  subst e
  refine ⟨_, rfl, fun k hk => ?_⟩
  obtain ⟨ad', e', hc⟩ := h.rd.at (n + k) (by omega)
  injection e' with e'
  subst e'
  rw [List.getElem_drop]
  show w.cell? ((ad.add n).add k) = _
  rw [addr_add]; exact hc
 ·cases A with
  | none => have := h.nil rfl; omega
  | some a => cases hA
structure Rdr (w : World) (base R : Nat) (xs : List UInt8) (f : Bool) (A : Option Addr) (c : Nat) : Prop where
 le : base ≤ R
 c0 : w.cell? ⟨R, 0, none⟩ = some (.slice A xs.length c)
 c1 : w.cell? ⟨R, 1, none⟩ = some (.bool f)
 f0 : w.frozen? ⟨R, 0, none⟩ = false
 f1 : w.frozen? ⟨R, 1, none⟩ = false
 sl : Sl w A c xs
 far : 0 < xs.length → ∀ a, A = some a → base ≤ a.block ∧ a.block < R
theorem Rdr.lt {w : World} {base R : Nat} {xs : List UInt8} {f : Bool} {A : Option Addr} {c : Nat} (h : Rdr w base R xs f A c) : R < w.heap.size := World.block_lt_of_cell? w _ h.c0
theorem Rdr.kept {w w' : World} {base R : Nat} {xs : List UInt8} {f : Bool} {A : Option Addr} {c : Nat} (h : Rdr w base R xs f A c) (hb : ∀ k, base ≤ k → k ≤ R → w'.heap[k]? = w.heap[k]?) : Rdr w' base R xs f A c := by
 have hR := hb R h.le (Nat.le_refl _)
 refine ⟨h.le, (World.cell?_of_block (a := ⟨R, 0, none⟩) hR).trans h.c0, (World.cell?_of_block (a := ⟨R, 1, none⟩) hR).trans h.c1, (World.frozen?_of_block (a := ⟨R, 0, none⟩) hR).trans h.f0, (World.frozen?_of_block (a := ⟨R, 1, none⟩) hR).trans h.f1, h.sl.same fun h0 a e k => ?_, h.far⟩
 have h1 := h.far h0 a e
 obtain ⟨ad, e2, hc⟩ := h.sl.rd.at 0 h0
 rw [e] at e2
 injection e2 with e2
 subst e2
 exact World.cell?_of_block (by rw [addr_block]; exact hb _ h1.1 (by omega))
theorem Rdr.below {w w' : World} {base R : Nat} {xs : List UInt8} {f : Bool} {A : Option Addr} {c : Nat} (h : Rdr w base R xs f A c) (hb : Below w.heap.size w w') : Rdr w' base R xs f A c := h.kept fun k _ hk => hb.block k (by have := h.lt; omega)
theorem Rdr.set0 {w : World} {base R : Nat} {xs : List UInt8} {f : Bool} {A : Option Addr} {c : Nat} (h : Rdr w base R xs f A c) {ys : List UInt8} {B : Option Addr} {d : Nat} (hs : Sl w B d ys) (hf : 0 < ys.length → ∀ a, B = some a → base ≤ a.block ∧ a.block < R) :
  Rdr (w.setCell ⟨R, 0, none⟩ (.slice B ys.length d)) base R ys f B d := by
 refine ⟨h.le, World.cell?_setCell_same _ _ _ h.c0, ?_, ?_, ?_, hs.same fun h0 a e k => World.cell?_setCell_far _ _ _ _ (fun e2 => by have := (hf h0 a e).2; rw [addr_block] at e2; have e3 : R = a.block := e2; omega), hf⟩
 ·rw [World.cell?_setCell_other _ _ _ _ (by simp)]; exact h.c1
 ·rw [World.frozen?_setCell]; exact h.f0
 ·rw [World.frozen?_setCell]; exact h.f1
theorem Rdr.set1 {w : World} {base R : Nat} {xs : List UInt8} {f : Bool} {A : Option Addr} {c : Nat} (h : Rdr w base R xs f A c) (g : Bool) :
  Rdr (w.setCell ⟨R, 1, none⟩ (.bool g)) base R xs g A c := by
 refine ⟨h.le, ?_, World.cell?_setCell_same _ _ _ h.c1, ?_, ?_, h.sl.same fun h0 a e k => World.cell?_setCell_far _ _ _ _ (fun e2 => by have := (h.far h0 a e).2; rw [addr_block] at e2; have e3 : R = a.block := e2; omega), h.far⟩
 ·rw [World.cell?_setCell_other _ _ _ _ (by simp)]; exact h.c0
 ·rw [World.frozen?_setCell]; exact h.f0
 ·rw [World.frozen?_setCell]; exact h.f1
theorem box2 (w : World) (u v : Value) (t : TypeId) : (w.alloc (.cells #[u, v] t)).cell? ⟨w.heap.size, 0, none⟩ = some u ∧ (w.alloc (.cells #[u, v] t)).cell? ⟨w.heap.size, 1, none⟩ = some v ∧ (w.alloc (.cells #[u, v] t)).frozen? ⟨w.heap.size, 0, none⟩ = false ∧ (w.alloc (.cells #[u, v] t)).frozen? ⟨w.heap.size, 1, none⟩ = false := by
 have h := heap_alloc_new w (.cells #[u, v] t)
 refine ⟨?_, ?_, ?_, ?_⟩
 ·unfold World.cell?; rw [h]; rfl
 ·unfold World.cell?; rw [h]; rfl
 ·unfold World.frozen?; rw [h]; rfl
 ·unfold World.frozen?; rw [h]; rfl
def RdrX (w : World) (base R : Nat) (xs : List UInt8) (f : Bool) : Prop := ∃ A c, Rdr w base R xs f A c
set_option maxHeartbeats 2000000 in
theorem new_any (A : Option Addr) (c : Nat) (xs : List UInt8) (w : World) (hr : Sl w A c xs) (hl : xs.length ≤ 140737488355000) :
  Calls Try.prog 54 #[.slice A xs.length c] w fun e w' => ∃ R, e = .returned (.pointer (some ⟨R, 0, none⟩)) ∧ RdrX w' w.heap.size R xs false ∧ Below w.heap.size w w' := by
 have HR := Lib.hid hr
 clear hr
 go_enter Try.func54, Try.ntmps54
 go_wp2_with (go_at_call 57; refine (clone_n _ _ _ xs _ rfl HR.out (by omega)).mono ?_; rintro e w1 ⟨v, rfl, HO, HB⟩; obtain ⟨B, d, rfl, hs⟩ := HO.sl; have HB := Lib.hid HB; have HS := Lib.hid hs; have HO := Lib.hid HO; clear hs)
 go_ret
 refine ⟨_, rfl, ⟨B, d, HB.out.size, ?_, ?_, ?_, ?_, HS.out.below (alloc_below _ _), fun h0 a e => ?_⟩, HB.out.alloc HB.out.size _⟩
 ·exact (box2 _ _ _ _).1
 ·exact (box2 _ _ _ _).2.1
 ·exact (box2 _ _ _ _).2.2.1
 ·exact (box2 _ _ _ _).2.2.2
 ·subst e
  obtain ⟨ad, e2, hc⟩ := HS.out.rd.at 0 h0
  injection e2 with e2
  subst e2
  have h1 := World.block_lt_of_cell? _ _ hc
  rw [addr_block] at h1
  have h2 := HO.out.base _ rfl
  exact ⟨h2, h1⟩
theorem grown_of_below {w w' : World} (h : Below w.heap.size w w') (row : Option Nat) : w.grownBy w' row := ⟨h.os, h.tape, h.output, h.size, fun k hk _ => h.block k hk⟩
theorem grown_setCell {w w' : World} {R : Nat} (h : w.grownBy w' (some R)) (i : Nat) (v : Value) : w.grownBy (w'.setCell ⟨R, i, none⟩ v) (some R) :=
 ⟨h.os, h.tape, h.output, by simpa [World.setCell] using h.size, fun k hk hne => (Below.heap_setCell _ _ _ _ (fun e => hne (by rw [e]))).trans (h.block k hk hne)⟩
theorem take_end {w w1 : World} {base R : Nat} {xs ys : List UInt8} {f : Bool} {A B X : Option Addr} {c d Y : Nat} (hr : Rdr w base R xs f A c) (hB : Below w.heap.size w w1)
  (hO : Own w1 w.heap.size (.slice B ys.length d) ys) (zs : List UInt8) (hs : Sl w1 X Y zs) (hf : 0 < zs.length → ∀ a, X = some a → base ≤ a.block ∧ a.block < R) (n : Nat) (hn : n = zs.length) :
  Sl (w1.setCell ⟨R, 0, none⟩ (.slice X n Y)) B d ys ∧ (0 < ys.length → ∀ a, B = some a → w.heap.size ≤ a.block) ∧ RdrX (w1.setCell ⟨R, 0, none⟩ (.slice X n Y)) base R zs f ∧ w.grownBy (w1.setCell ⟨R, 0, none⟩ (.slice X n Y)) (some R) := by
 subst hn
 obtain ⟨B', d', e, hs2⟩ := hO.sl
 injection e with e1 _ e2
 subst e1; subst e2
 refine ⟨hs2.same fun h0 a e k => World.cell?_setCell_far _ _ _ _ fun e2 => ?_, fun _ a e => hO.base _ (by rw [e]; rfl), ⟨X, Y, (hr.below hB).set0 hs hf⟩, grown_setCell (grown_of_below hB _) 0 _⟩
 subst e
 have h1 := hO.base _ rfl
 rw [addr_block] at e2
 have h2 := hr.lt
 have : R = a.block := e2
 omega
def takeBad (xs : List UInt8) (f : Bool) (n : Int) : Bool := f || decide (n < 0) || decide ((xs.length : Int) < n)
def takeOut (xs : List UInt8) (f : Bool) (n : Int) : List UInt8 := if takeBad xs f n then [] else xs.take n.toNat
def takeRest (xs : List UInt8) (f : Bool) (n : Int) : List UInt8 := if takeBad xs f n then xs else xs.drop n.toNat
set_option maxHeartbeats 4000000 in
theorem take_any (base R : Nat) (xs : List UInt8) (f : Bool) (A : Option Addr) (c : Nat) (n : Int) (w : World) (hr : Rdr w base R xs f A c) (hl : xs.length ≤ 140737488355000) :
  Calls Try.prog 64 #[.pointer (some ⟨R, 0, none⟩), .int .i64 n] w fun e w' => ∃ A' c', e = .returned (.slice A' (takeOut xs f n).length c') ∧ Sl w' A' c' (takeOut xs f n) ∧ (0 < (takeOut xs f n).length → ∀ a, A' = some a → w.heap.size ≤ a.block) ∧ RdrX w' base R (takeRest xs f n) (takeBad xs f n) ∧ w.grownBy w' (some R) := by
 have HR := Lib.hid hr
 have h0 := hr.c0
 have h1 := hr.c1
 have z0 := hr.f0
 have z1 := hr.f1
 have hcap := hr.sl.cap
 clear hr
 by_cases hbad : takeBad xs f n = true
 ·have HK := Lib.hid (show takeOut xs f n = [] by unfold takeOut; rw [hbad]; rfl)
  have HK2 := Lib.hid (show takeRest xs f n = xs by unfold takeRest; rw [hbad]; rfl)
  have HK3 := Lib.hid hbad
  have hend : (∃ A' c', Ending.returned (.slice none 0 0) = .returned (.slice A' (takeOut xs f n).length c') ∧ Sl (w.setCell ⟨R, 1, none⟩ (.bool true)) A' c' (takeOut xs f n) ∧ (0 < (takeOut xs f n).length → ∀ a, A' = some a → w.heap.size ≤ a.block) ∧ RdrX (w.setCell ⟨R, 1, none⟩ (.bool true)) base R (takeRest xs f n) (takeBad xs f n) ∧ w.grownBy (w.setCell ⟨R, 1, none⟩ (.bool true)) (some R)) :=
   ⟨none, 0, by rw [HK.out]; rfl, by rw [HK.out]; exact Sl.none _, fun _ a e => (by cases e), by rw [HK2.out, HK3.out]; exact ⟨A, c, HR.out.set1 true⟩, grown_setCell (grown_of_below (Below.refl _ _) _) 1 _⟩
  have HE := Lib.hid hend
  clear hend
  unfold takeBad at hbad
  cases f
  ·by_cases hn : n < 0
   ·clear hbad
    go_enter Try.func64, Try.ntmps64
    go_wp2
    go_ret
    exact HE.out
   ·have hn2 : (xs.length : Int) < n := by simpa [hn] using hbad
    clear hbad
    go_enter Try.func64, Try.ntmps64
    go_wp2
    go_ret
    exact HE.out
  ·clear hbad
   go_enter Try.func64, Try.ntmps64
   go_wp2
   go_ret
   exact HE.out
 ·have HK := Lib.hid (show takeOut xs f n = xs.take n.toNat by unfold takeOut; rw [if_neg hbad])
  have HK2 := Lib.hid (show takeRest xs f n = xs.drop n.toNat by unfold takeRest; rw [if_neg hbad])
  have HK3 := Lib.hid (show takeBad xs f n = false by simpa using hbad)
  unfold takeBad at hbad
  obtain rfl : f = false := by cases f <;> simp_all
  have hn0 : 0 ≤ n := by simp at hbad; omega
  have hn1 : n ≤ (xs.length : Int) := by simp at hbad; omega
  have hn2 : n ≤ (c : Int) := by omega
  clear hbad
  obtain ⟨m, rfl⟩ : ∃ m : Nat, n = (m : Int) := ⟨n.toNat, by omega⟩
  rw [Int.toNat_natCast] at HK HK2
  go_enter Try.func64, Try.ntmps64
  go_wp2_with (go_at_call 57; refine (clone_n _ _ _ (xs.take m) _ (by simp; omega) (HR.out.sl.take m (by omega)) (by simp; omega)).mono ?_; rintro e w1 ⟨v, rfl, HO, HB⟩; obtain ⟨B, d, rfl, hs⟩ := HO.sl; have HB := Lib.hid HB; have HS := Lib.hid hs; have HO := Lib.hid HO; clear hs; have HR1 := Lib.hid (HR.out.below HB.out); have h0 := HR1.out.c0; have h1 := HR1.out.c1; have z0 := HR1.out.f0; have z1 := HR1.out.f1)
  all_goals go_ret
  all_goals
   have hq : takeBad xs false (m : Int) = false := HK3.out
   have ho : takeOut xs false (m : Int) = xs.take m := HK.out
   have hr2 : takeRest xs false (m : Int) = xs.drop m := HK2.out
   rw [hq, ho, hr2]
   refine ⟨B, d, by simp, ?_⟩
  ·exact take_end HR.out HB.out HO.out (xs.drop m) (by have e : xs.drop m = [] := List.drop_eq_nil_of_le (by omega); rw [e]; have := HR1.out.sl; refine ⟨Rd.of_cells (by simp) (fun h => absurd h (by simp)), by simp, fun _ => rfl⟩) (fun h => absurd h (by simp; omega)) _ (by simp)
  ·refine take_end HR.out HB.out HO.out (xs.drop m) (HR1.out.sl.drop m (by omega)) (fun h a e => ?_) _ (by simp)
   cases A with
   | none => cases e
   | some b =>
    injection e with e
    subst e
    have := HR.out.far (by simp at h; omega) b rfl
    rw [addr_block]
    exact this
end Go.Proofs.Ytenlkobjldhfgaa
