/- What Go's library does with slices of bytes: Clone, Grow, Concat; append as a law of the walk. -/
import Derived.Test.YtckfcnclekjjdaaOf
namespace Go.Proofs.Ytckfcnclekjjdaa
open Go.RowKit Go.Proofs.YtckfcnclekjjdaaW.PrintWords

/-- A slice of bytes of the call's own. -/
abbrev Own (w : World) (base : Nat) (v : Value) (xs : List UInt8) : Prop := kByte.R 5 w base (fun _ => True) v xs
theorem info5 : (Try.prog.info? 5).map (fun i => (i.zero, i.size, i.bytes)) = some (some (.int .u8 0), 1, 1) := by kernel_rfl
theorem Own.nil (w : World) (base : Nat) : Own w base (.slice none 0 0) [] := Kd.R_nil _ _ _ _ _
theorem Own.of {w : World} {base : Nat} {v : Value} {xs : List UInt8} (h : w.ownsRow base 5 1 v xs.length (xs.map fun c => .int .u8 (bv c))) : Own w base v xs :=
  Kd.R_of_own (h1 := fun _ => rfl) h (fun _ _ => trivial)
theorem Own.reads {w : World} {base : Nat} {v : Value} {xs : List UInt8} (h : Own w base v xs) : ∃ A c, v = .slice A xs.length c ∧ xs.length ≤ c ∧ Rd w A xs := Kd.R_reads h
theorem Rd.below {w w1 : World} {A : Option Addr} {xs : List UInt8} (h : Rd w A xs) (hb : Below w.heap.size w w1) : Rd w1 A xs := Kd.C_below h hb
theorem Own.below {w w1 : World} {base : Nat} {v : Value} {xs : List UInt8} (h : Own w base v xs) (hb : Below w.heap.size w w1) : Own w1 base v xs := Kd.R_below h hb
theorem Own.lower {w : World} {base base' : Nat} {v : Value} {xs : List UInt8} (h : Own w base v xs) (hb : base' ≤ base) : Own w base' v xs := Kd.R_lower h hb
theorem Own.base {w : World} {base : Nat} {v : Value} {xs : List UInt8} (h : Own w base v xs) : ∀ k, v.ownBlock = some k → base ≤ k := own_base h.2.choose_spec.1
/-- append(v, ys...) -/
theorem own_append {ops : Array Oper} {rest : List Oper} {o : Oper} {a : Act} {Q : Exit → Act → World → Prop} {W : World} (base : Nat) (hgd : o.guard = none) (s x : Operand)
    (ho : o.op = .call { callee := .builtin .append, args := #[s, x], argTypes := #[24, 24] })
    (v : Value) (xs ys : List UInt8) (A : Option Addr) (c m : Nat)
    (HO : Own W base v xs) (HR : Rd W A ys) (hs : a.eval s = v) (hx : a.eval x = .slice A m c) (hm : m = ys.length) (hbase : base ≤ W.heap.size) (hl : xs.length + ys.length ≤ 140737488355328)
    (h : ∀ v1 w1, Own w1 base v1 (xs ++ ys) → W.grownBy w1 v.ownBlock → (v1.ownBlock = v.ownBlock ∨ ∃ b, v1.ownBlock = some b ∧ W.heap.size ≤ b) → wpList Try.prog ops Q rest (a.put o.dst v1) w1) :
    wpList Try.prog ops Q (o :: rest) a W := by
  subst hm
  exact Kd.R_append_rows kByte (w0 := W) (Rr := fun y cs => cs = [.int .u8 (bv y)]) base hgd s x 24 5 _ 1 ho Try.underlying24 info5 rfl (by decide) (by decide) v xs ys A ys.length c (fun _ => True) (fun _ => False) hs hx
    HO HR (fun _ _ h => h) (fun _ h => h.elim) (fun _ _ => trivial) (Below.refl _ _) hbase (by omega) (fun v1 w1 h1 _ hg hat => h v1 w1 h1 hg hat)

theorem Own.empty (w : World) : Own (w.alloc (.cells #[] 5)) w.heap.size (.slice (some ⟨w.heap.size, 0, none⟩) 0 0) [] :=
  Own.of (World.ownsRow_made w #[] 0 (Nat.le_refl _) (by decide) rfl)

set_option maxHeartbeats 1000000 in
theorem clone_any (A : Option Addr) (c : Nat) (xs : List UInt8) (w : World) (hr : Rd w A xs) (hc : A = none → c = 0) (hl : xs.length ≤ 140737488355328) :
    Calls Try.prog 40 #[.slice A xs.length c] w fun e w' => ∃ v, e = .returned v ∧ Own w' w.heap.size v xs ∧ Below w.heap.size w w' := by
  have HL := Lib.hid hl
  have HR := Lib.hid hr
  clear hr hl
  rcases A with _ | ad
  · have hn : xs = [] := by
      rcases Nat.eq_zero_or_pos xs.length with h | h
      · exact List.eq_nil_of_length_eq_zero h
      · obtain ⟨ad, h, _⟩ := HR.out.2.2 h; cases h
    obtain rfl : c = 0 := hc rfl
    subst hn
    have hq := fun w => Lib.run_eql_slice_nil (P := Try.prog) w 24 5 none 0 0 0 0 Try.underlying24
    go_enter Try.func40, Try.ntmps40
    go_wp2
    go_ret
    exact ⟨_, rfl, Own.nil _ _, Below.refl _ _⟩
  · have hq := fun w => Lib.run_eql_slice_nil (P := Try.prog) w 24 5 (some ad) xs.length c 0 0 Try.underlying24
    go_enter Try.func40, Try.ntmps40
    go_wp2_with (at_builtin; refine own_append w.heap.size rfl (.tmp 5) (.tmp 6) rfl _ _ _ _ _ _ (Own.empty w) (HR.out.below ((Below.refl _ _).alloc (Nat.le_refl _) _)) rfl rfl rfl (by simp) (by simpa using HL.out) ?_; intro v1 w1 HO HG _)
    go_ret
    exact ⟨_, rfl, by simpa using HO, (((Below.refl _ _).alloc (Nat.le_refl _) _).grown HG (by simp) (Own.base (Own.empty w)))⟩
end Go.Proofs.Ytckfcnclekjjdaa
