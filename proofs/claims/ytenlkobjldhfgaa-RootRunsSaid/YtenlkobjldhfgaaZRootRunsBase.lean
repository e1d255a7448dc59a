/- Bytes: slices of bytes as lists, read and made; append, make, Clone, literals. -/
import Derived.Test.YtenlkobjldhfgaaRows
import Derived.WalkKit
import Derived.WalkSpells
import Derived.Lib.Hide
import Derived.WalkLawsBesides
import Derived.Test.YtenlkobjldhfgaaZRootRunsWds0
namespace Go.Proofs.Ytenlkobjldhfgaa
open Go.RowKit Go.Proofs.YtenlkobjldhfgaaW.PrintWords
def bv (c : UInt8) : Int := (c.toNat : Int)
theorem bv_lo (c : UInt8) : 0 ≤ bv c := by unfold bv; omega
theorem bv_hi (c : UInt8) : bv c ≤ 255 := by have := c.toNat_lt; unfold bv; omega
theorem bv_inj {a b : UInt8} (h : bv a = bv b) : a = b := by
 unfold bv at h
 exact UInt8.toNat_inj.1 (by omega)
def kByte : Kd UInt8 := Kd.scalar (fun c => .int .u8 (bv c)) (fun _ => rfl)
abbrev Rd (w : World) (A : Option Addr) (xs : List UInt8) : Prop := kByte.C w A xs.length xs
theorem Rd.at {w : World} {A : Option Addr} {xs : List UInt8} (h : Rd w A xs) (k : Nat) (hk : k < xs.length) : ∃ ad, A = some ad ∧ w.cell? (ad.add k) = some (.int .u8 (bv xs[k])) := by
 obtain ⟨ad, e, hc⟩ := h.2.2 (by omega)
 obtain ⟨c, hl, hr, hcell⟩ := hc k _ (List.getElem?_eq_getElem hk)
 have hr' : c = [.int .u8 (bv xs[k])] := hr
 subst hr'
 refine ⟨ad, e, ?_⟩
 have := hcell 0 _ rfl
 simpa [kByte, Kd.scalar] using this
abbrev Own (w : World) (base : Nat) (v : Value) (xs : List UInt8) : Prop := kByte.R 5 w base (fun _ => True) v xs
theorem info5 : (Try.prog.info? 5).map (fun i => (i.zero, i.size, i.bytes)) = some (some (.int .u8 0), 1, 1) := by kernel_rfl
theorem Own.nil (w : World) (base : Nat) : Own w base (.slice none 0 0) [] := Kd.R_nil _ _ _ _ _
theorem Own.of {w : World} {base : Nat} {v : Value} {xs : List UInt8} (h : w.ownsRow base 5 1 v xs.length (xs.map fun c => .int .u8 (bv c))) : Own w base v xs :=
 Kd.R_of_own (h1 := fun _ => rfl) h (fun _ _ => trivial)
theorem Own.reads {w : World} {base : Nat} {v : Value} {xs : List UInt8} (h : Own w base v xs) : ∃ A c, v = .slice A xs.length c ∧ xs.length ≤ c ∧ Rd w A xs := Kd.R_reads h
theorem Rd.below {w w1 : World} {A : Option Addr} {xs : List UInt8} (h : Rd w A xs) (hb : Below w.heap.size w w1) : Rd w1 A xs := Kd.C_below h hb
theorem Own.below {w w1 : World} {base : Nat} {v : Value} {xs : List UInt8} (h : Own w base v xs) (hb : Below w.heap.size w w1) : Own w1 base v xs := Kd.R_below h hb
theorem Own.lower {w : World} {base base' : Nat} {v : Value} {xs : List UInt8} (h : Own w base v xs) (hb : base' ≤ base) : Own w base' v xs := Kd.R_lower h hb
theorem Own.base {w : World} {base : Nat} {v : Value} {xs : List UInt8} (h : Own w base v xs) : ∀ k, v.ownBlock = some k → base ≤ k := own_base h.2.choose_spec.1
theorem own_append {ops : Array Oper} {rest : List Oper} {o : Oper} {a : Act} {Q : Exit → Act → World → Prop} {W : World} (base : Nat) (hgd : o.guard = none) (s x : Operand)
  (ho : o.op = .call { callee := .builtin .append, args := #[s, x], argTypes := #[24, 24] })
  (v : Value) (xs ys : List UInt8) (A : Option Addr) (c m : Nat)
  (HO : Own W base v xs) (HR : Rd W A ys) (hs : a.eval s = v) (hx : a.eval x = .slice A m c) (hm : m = ys.length) (hbase : base ≤ W.heap.size) (hl : xs.length + ys.length ≤ 140737488355328)
  (h : ∀ v1 w1, Own w1 base v1 (xs ++ ys) → W.grownBy w1 v.ownBlock → (v1.ownBlock = v.ownBlock ∨ ∃ b, v1.ownBlock = some b ∧ W.heap.size ≤ b) → wpList Try.prog ops Q rest (a.put o.dst v1) w1) :
  wpList Try.prog ops Q (o :: rest) a W := by
 subst hm
 exact Kd.R_append_rows kByte (w0 := W) (Rr := fun y cs => cs = [.int .u8 (bv y)]) base hgd s x 24 5 _ 1 ho Try.underlying24 info5 rfl (by decide) (by decide) v xs ys A ys.length c (fun _ => True) (fun _ => False) hs hx
  HO HR (fun _ _ h => h) (fun _ h => h.elim) (fun _ _ => trivial) (Below.refl _ _) hbase (by omega) (fun v1 w1 h1 _ hg hat => h v1 w1 h1 hg hat)
theorem Own.empty (w : World) : Own (w.alloc (.cells #[] 5)) w.heap.size (.slice (some ⟨w.heap.size, 0, none⟩) 0 0) [] :=
 Own.of (World.ownsRow_made w #[] 0 (Nat.le_refl _) (by decide) rfl)
set_option maxHeartbeats 1000000 in
theorem clone_any (A : Option Addr) (c : Nat) (xs : List UInt8) (w : World) (hr : Rd w A xs) (hc : A = none → c = 0) (hl : xs.length ≤ 140737488355328) :
  Calls Try.prog 57 #[.slice A xs.length c] w fun e w' => ∃ v, e = .returned v ∧ Own w' w.heap.size v xs ∧ Below w.heap.size w w' := by
 have HL := Lib.hid hl
 have HR := Lib.hid hr
 clear hr hl
 rcases A with _ | ad
 ·have hn : xs = [] := by
   rcases Nat.eq_zero_or_pos xs.length with h | h
   ·exact List.eq_nil_of_length_eq_zero h
   ·obtain ⟨ad, h, _⟩ := HR.out.2.2 h; cases h
  obtain rfl : c = 0 := hc rfl
  subst hn
  have hq := fun w => Lib.run_eql_slice_nil (P := Try.prog) w 24 5 none 0 0 0 0 Try.underlying24
  go_enter Try.func57, Try.ntmps57
  go_wp2
  go_ret
  exact ⟨_, rfl, Own.nil _ _, Below.refl _ _⟩
 ·have hq := fun w => Lib.run_eql_slice_nil (P := Try.prog) w 24 5 (some ad) xs.length c 0 0 Try.underlying24
  go_enter Try.func57, Try.ntmps57
  go_wp2_with (at_builtin; refine own_append w.heap.size rfl (.tmp 5) (.tmp 6) rfl _ _ _ _ _ _ (Own.empty w) (HR.out.below ((Below.refl _ _).alloc (Nat.le_refl _) _)) rfl rfl rfl (by simp) (by simpa using HL.out) ?_; intro v1 w1 HO HG _)
  go_ret
  exact ⟨_, rfl, by simpa using HO, (((Below.refl _ _).alloc (Nat.le_refl _) _).grown HG (by simp) (Own.base (Own.empty w)))⟩
structure Sl (w : World) (A : Option Addr) (c : Nat) (xs : List UInt8) : Prop where
 rd : Rd w A xs
 cap : xs.length ≤ c
 nil : A = none → c = 0
theorem Own.sl {w : World} {base : Nat} {v : Value} {xs : List UInt8} (h : Own w base v xs) : ∃ A c, v = .slice A xs.length c ∧ Sl w A c xs := by
 obtain ⟨A, c, rfl, hc, hr⟩ := h.reads
 refine ⟨A, c, rfl, hr, hc, fun hA => ?_⟩
 subst hA
 obtain ⟨_, inner, ho, _⟩ := h
 rcases ho.2 with ⟨h1, _⟩ | ⟨g, cap, cur, h1, _⟩
 ·injection h1
 ·injection h1 with h1; cases h1
theorem Sl.below {w w1 : World} {A : Option Addr} {c : Nat} {xs : List UInt8} (h : Sl w A c xs) (hb : Below w.heap.size w w1) : Sl w1 A c xs := ⟨h.rd.below hb, h.cap, h.nil⟩
theorem Sl.take {w : World} {A : Option Addr} {c : Nat} {xs : List UInt8} (h : Sl w A c xs) (n : Nat) (hn : n ≤ xs.length) : Sl w A c (xs.take n) := by
 have hl : (xs.take n).length = n := by rw [List.length_take]; omega
 refine ⟨⟨rfl, by have := h.rd.2.1; omega, fun h0 => ?_⟩, by have := h.cap; omega, h.nil⟩
 obtain ⟨ad, e, hc⟩ := h.rd.2.2 (by omega)
 refine ⟨ad, e, fun j p hj => hc j p ?_⟩
 rw [List.getElem?_take] at hj
 split at hj
 ·exact hj
 ·cases hj
theorem Sl.small {w : World} {A : Option Addr} {c : Nat} {xs : List UInt8} (h : Sl w A c xs) : xs.length ≤ 9223372036854775807 := h.rd.2.1
theorem clone_n (A : Option Addr) (n c : Nat) (xs : List UInt8) (w : World) (hn : n = xs.length) (hr : Sl w A c xs) (hl : xs.length ≤ 140737488355328) :
  Calls Try.prog 57 #[.slice A n c] w fun e w' => ∃ v, e = .returned v ∧ Own w' w.heap.size v xs ∧ Below w.heap.size w w' := by
 subst hn; exact clone_any A c xs w hr.rd hr.nil hl
theorem Own.form {w : World} {base : Nat} {v : Value} {xs : List UInt8} (h : Own w base v xs) (hp : 0 < xs.length) :
  ∃ g c, v = .slice (some ⟨g, 0, none⟩) xs.length c ∧ xs.length ≤ c ∧ base ≤ g ∧ g < w.heap.size ∧ (∀ k (hk : k < xs.length), w.cell? ⟨g, k, none⟩ = some (.int .u8 (bv xs[k]))) ∧ (∀ k, w.frozen? ⟨g, k, none⟩ = false) ∧
   ∀ k x, Own (w.setCell ⟨g, k, none⟩ (.int .u8 (bv x))) base (.slice (some ⟨g, 0, none⟩) xs.length c) (xs.set k x) := by
 obtain ⟨g, c, rfl, hb, hg, _⟩ := Kd.R_form h hp
 have ho := Kd.own_of_R h
 refine ⟨g, c, rfl, ?_, hb, hg, fun k hk => ?_, fun k => ho.frozenAt k, fun k x => ?_⟩
 ·obtain ⟨A, c', e, hc, _⟩ := h.reads
  injection e with _ _ e
  omega
 ·rw [ho.cellAt k (by omega)]; simp [encs, hk]
 ·have := Kd.R_putn h (k : Int) x
  rw [Int.toNat_natCast] at this
  exact this
theorem Own.lit (w : World) (base : Nat) (cs : List UInt8) (cur : Array Value) (hc : cur = (cs.map fun c => .int .u8 (bv c)).toArray) (hb : base ≤ w.heap.size) (hm : cs.length ≤ maxLen) :
  Own (w.alloc (.cells cur 5)) base (.slice (some ⟨w.heap.size, 0, none⟩) cs.length cs.length) cs := by
 refine Own.of ⟨by simp, .inr ⟨w.heap.size, cs.length, cur, rfl, hb, heap_alloc_new w _, Nat.le_refl _, hm, by rw [hc]; simp, ?_⟩⟩
 rw [hc]; simp [List.take_of_length_le]
theorem slots {W w1 : World} (hb : Below W.heap.size W w1) (row : Option Nat) {w2 : World} (hg : w1.grownBy w2 row) (hr : ∀ k, row = some k → W.heap.size ≤ k) : Below W.heap.size W w2 := hb.grown hg hb.size hr
theorem alloc_below (w : World) (o : Obj) : Below w.heap.size w (w.alloc o) := (Below.refl _ _).alloc (Nat.le_refl _) _
end Go.Proofs.Ytenlkobjldhfgaa
