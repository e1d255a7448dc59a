/- EndsJoin. -/
import Derived.Test.YtkpkkmffcbeigaaPuts
namespace Go.Proofs.Ytkpkkmffcbeigaa
open Go.RowKit Go.Proofs.YtkpkkmffcbeigaaW.PrintWords

abbrev OwnU (w : World) (base : Nat) (v : Value) (xs : List UInt64) : Prop := kU64.R 32 w base (fun _ => True) v xs
theorem info32 : (Try.prog.info? 32).map (fun i => (i.zero, i.size, i.bytes)) = some (some (.int .u64 0), 1, 8) := by kernel_rfl
theorem OwnU.of {w : World} {base : Nat} {v : Value} {xs : List UInt64} (h : w.ownsRow base 32 1 v xs.length (xs.map fun c => .int .u64 (uv c))) : OwnU w base v xs :=
  Kd.R_of_own (h1 := fun _ => rfl) h (fun _ _ => trivial)
theorem OwnU.reads {w : World} {base : Nat} {v : Value} {xs : List UInt64} (h : OwnU w base v xs) : ∃ A c, v = .slice A xs.length c ∧ xs.length ≤ c ∧ Ru w A xs := Kd.R_reads h
theorem OwnU.base {w : World} {base : Nat} {v : Value} {xs : List UInt64} (h : OwnU w base v xs) : ∀ k, v.ownBlock = some k → base ≤ k := own_base h.2.choose_spec.1
theorem ownU_append {ops : Array Oper} {rest : List Oper} {o : Oper} {a : Act} {Q : Exit → Act → World → Prop} {W : World} (base : Nat) (hgd : o.guard = none) (s x : Operand)
    (ho : o.op = .call { callee := .builtin .append, args := #[s, x], argTypes := #[23, 23] })
    (v : Value) (xs ys : List UInt64) (A : Option Addr) (c m : Nat)
    (HO : OwnU W base v xs) (HR : Ru W A ys) (hs : a.eval s = v) (hx : a.eval x = .slice A m c) (hm : m = ys.length) (hbase : base ≤ W.heap.size) (hl : 8 * (xs.length + ys.length) ≤ 140737488355328)
    (h : ∀ v1 w1, OwnU w1 base v1 (xs ++ ys) → W.grownBy w1 v.ownBlock → (v1.ownBlock = v.ownBlock ∨ ∃ b, v1.ownBlock = some b ∧ W.heap.size ≤ b) → wpList Try.prog ops Q rest (a.put o.dst v1) w1) :
    wpList Try.prog ops Q (o :: rest) a W := by
  subst hm
  exact Kd.R_append_rows kU64 (w0 := W) (Rr := fun y cs => cs = [.int .u64 (uv y)]) base hgd s x 23 32 _ 8 ho Try.underlying23 info32 rfl (by decide) (by decide) v xs ys A ys.length c (fun _ => True) (fun _ => False) hs hx
    HO HR (fun _ _ h => h) (fun _ h => h.elim) (fun _ _ => trivial) (Below.refl _ _) hbase (by omega) (fun v1 w1 h1 _ hg hat => h v1 w1 h1 hg hat)
theorem OwnU.empty (w : World) : OwnU (w.alloc (.cells #[] 32)) w.heap.size (.slice (some ⟨w.heap.size, 0, none⟩) 0 0) [] :=
  OwnU.of (World.ownsRow_made w #[] 0 (Nat.le_refl _) (by decide) rfl)

theorem putOk_append (width : Int) (a b : List UInt64) : putOk width (a ++ b) = (putOk width a && putOk width b) := by
  unfold putOk; rw [List.all_append]
  cases wideB width <;> simp
theorem packs_append (W : Nat) (a b : List UInt64) : packs W (a ++ b) = packs W a ++ packs W b := by unfold packs; rw [List.map_append, List.flatten_append]
theorem join_bytes (width : Int) (a b : List UInt64) (h : putOk width a = true) : putBytes (putBytes [] width a) width b = putBytes [] width (a ++ b) := by
  unfold putBytes
  rw [putOk_append, h, Bool.true_and, packs_append]
  cases putOk width b <;> simp
theorem join_err (width : Int) (a b : List UInt64) (h : putOk width a = true) : putErr width (a ++ b) = putErr width b := by
  unfold putErr
  rw [putOk_append, h, Bool.true_and]
theorem putErr_eq (width : Int) (l : List UInt64) : putErr width l = 0 ∨ putErr width l = 11 := by unfold putErr; cases putOk width l <;> simp
theorem putBytes_len (b : List UInt8) (width : Int) (l : List UInt64) : (putBytes b width l).length ≤ b.length + 8 * l.length := by
  unfold putBytes
  cases h : putOk width l
  · simp
  · simp only [if_pos, List.length_append, packs_length]
    have hw : wideB width = true := by unfold putOk at h; exact (Bool.and_eq_true _ _ ▸ h).1
    have : width.toNat ≤ 8 := by unfold wideB at hw; simp only [Bool.or_eq_true, beq_iff_eq] at hw; omega
    have := Nat.mul_le_mul_right l.length this
    omega

attribute [local go_sem] strB_list
set_option maxHeartbeats 4000000 in
theorem endsJoin_any (width : Int) (L : Option Addr) (cL : Nat) (l : List UInt64) (M : Option Addr) (cM : Nat) (m : List UInt64) (w : World) (hL : Ru w L l) (hM : Ru w M m) :
    Calls Try.prog 4 #[.int .i64 width, .slice L l.length cL, .slice M m.length cM] w fun e w' => e = .returned (.bool true) ∧ Below w.heap.size w w' := by
  have n1 := hL.2.1
  have n2 := hM.2.1
  have HL := Lib.hid hL
  have HM := Lib.hid hM
  clear hL hM
  by_cases hl : l.length ≤ 60
  · by_cases hm : m.length ≤ 60
    · have g1 : ¬ ((60 : Int) < l.length) := by omega
      have g2 : ¬ ((60 : Int) < m.length) := by omega
      have HLe := Lib.hid (putBytes_len [] width l)
      cases hok : putOk width l
      · have HE := Lib.hid (show putErr width l = 11 by unfold putErr; rw [hok]; rfl)
        clear hok
        go_enter Try.func4, Try.ntmps4
        go_wp2_with (first
          | (go_at_call 9; refine (endsAlive_any _).mono ?_; rintro e w1 ⟨rfl, HB⟩; have HB1 := Lib.hid HB; have HL1 := Lib.hid (HL.out.below HB); clear HB)
          | (go_at_call 10; refine (put_n none 0 0 [] width _ _ _ l _ _ 11 rfl rfl rfl HE.out (Sl.none _) HL1.out (by simp; omega)).mono ?_; rintro e w2 ⟨A2, c2, rfl, _, _, hb⟩; have HB2 := Lib.hid (below_step HB1.out hb); clear hb))
        go_ret
        exact ⟨rfl, HB2.out⟩
      · have HE := Lib.hid (putErr_ok hok)
        have HJ := Lib.hid (join_bytes width l m hok)
        have HJ2 := Lib.hid (join_err width l m hok)
        clear hok
        go_enter Try.func4, Try.ntmps4
        go_wp2_with (first
          | (go_at_call 9; refine (endsAlive_any _).mono ?_; rintro e w1 ⟨rfl, HB⟩; have HB1 := Lib.hid HB; have HL1 := Lib.hid (HL.out.below HB); have HM1 := Lib.hid (HM.out.below HB); clear HB)
          | (go_at_call 10; refine (put_n none 0 0 [] width _ _ _ l _ _ 0 rfl rfl rfl HE.out (Sl.none _) HL1.out (by simp; omega)).mono ?_; rintro e w2 ⟨A2, c2, rfl, hs, _, hb⟩; have HB2 := Lib.hid (below_step HB1.out hb); have HS2 := Lib.hid hs; have HL2 := Lib.hid (HL1.out.below hb); have HM2 := Lib.hid (HM1.out.below hb); clear hb hs HL1 HM1))
        refine (put_any A2 c2 _ width M cM m _ HS2.out HM2.out (by have := HLe.out; simp at this; omega)).mono ?_
        rw [HJ.out]
        rintro e w3 ⟨A3, c3, rfl, hs, _, hb⟩
        have HB3 := Lib.hid (below_step HB2.out hb)
        have HS3 := Lib.hid hs
        have HL3 := Lib.hid (HL2.out.below hb)
        have HM3 := Lib.hid (HM2.out.below hb)
        clear hb hs HL2 HM2 HS2 HB1 HB2
        go_wp2_with (first
          | (at_builtin; refine ownU_append w3.heap.size rfl (.tmp 40) (.tmp 41) rfl _ _ l _ _ _ (OwnU.empty w3) (HL3.out.below (alloc_below _ _)) rfl rfl rfl (by simp) (by simp; omega) ?_; intro v4 w4 HO HG _; have HO4 := Lib.hid HO; have hbb := slots (alloc_below w3 (.cells #[] 32)) _ HG (OwnU.base (OwnU.empty w3)); have HBB := Lib.hid hbb; have HB4 := Lib.hid (below_step HB3.out hbb); have HM4 := Lib.hid (HM3.out.below hbb); have HS4 := Lib.hid (HS3.out.below hbb); clear HO HG hbb)
          | (at_builtin; refine ownU_append w3.heap.size rfl (.tmp 42) (.tmp 43) rfl _ _ m _ _ _ HO4.out HM4.out rfl rfl rfl HBB.out.size (by simp; omega) ?_; intro v5 w5 HO HG _; have HO5 := Lib.hid HO; have hbb := slots HBB.out _ HG HO4.out.base; have HB5 := Lib.hid (below_step HB3.out hbb); have HS5 := Lib.hid (HS3.out.below hbb); clear HO HG hbb; obtain ⟨A5, c5, rfl, _, hr5⟩ := HO5.out.reads; have HR5 := Lib.hid hr5; clear hr5))
        refine (put_n none 0 0 [] width _ _ _ (l ++ m) _ _ _ rfl (by simp) rfl HJ2.out (Sl.none _) (by have := HR5.out; rwa [List.nil_append] at this) (by simp; omega)).mono ?_
        rintro e w6 ⟨A6, c6, rfl, hs, _, hb⟩
        have HB6 := Lib.hid (below_step HB5.out hb)
        have k1 := (HS5.out.below hb).rd.conv _ c3 rfl
        have k2 := hs.rd.conv _ c6 rfl
        clear hs hb HS5 HR5 HO5 HB5 HO4 HM4 HS4 HB4 HBB
        go_wp2
        go_ret
        exact ⟨rfl, HB6.out⟩
    · have g2 : (60 : Int) < m.length := by omega
      go_enter Try.func4, Try.ntmps4
      go_wp2_with (go_at_call 9; refine (endsAlive_any _).mono ?_; rintro e w1 ⟨rfl, HB⟩; have HB1 := Lib.hid HB; clear HB)
      go_ret
      exact ⟨rfl, HB1.out⟩
  · have g1 : (60 : Int) < l.length := by omega
    go_enter Try.func4, Try.ntmps4
    go_wp2_with (go_at_call 9; refine (endsAlive_any _).mono ?_; rintro e w1 ⟨rfl, HB⟩; have HB1 := Lib.hid HB; clear HB)
    go_ret
    exact ⟨rfl, HB1.out⟩
end Go.Proofs.Ytkpkkmffcbeigaa
