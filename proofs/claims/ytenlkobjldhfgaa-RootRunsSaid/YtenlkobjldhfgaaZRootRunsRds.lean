/- Slices of slices of bytes; Grow, Concat (over Base). -/
import Derived.Test.YtenlkobjldhfgaaZRootRunsBase
import Derived.Test.YtenlkobjldhfgaaZRootRunsStr
import Derived.Test.YtenlkobjldhfgaaZRootRunsWds0
namespace Go.Proofs.Ytenlkobjldhfgaa
open Go.RowKit Go.Proofs.YtenlkobjldhfgaaW.PrintWords
def kBytes : Kd (List UInt8) := Kd.slice 5 kByte
abbrev Rds (w : World) (A : Option Addr) (xs : List (List UInt8)) : Prop := kBytes.C w A xs.length xs
theorem Rds.at {w : World} {A : Option Addr} {xs : List (List UInt8)} (h : Rds w A xs) (k : Nat) (hk : k < xs.length) :
  ∃ ad B c, A = some ad ∧ w.cell? (ad.add k) = some (.slice B xs[k].length c) ∧ xs[k].length ≤ c ∧ Rd w B xs[k] := by
 obtain ⟨ad, e, hc⟩ := h.2.2 (by omega)
 obtain ⟨c, hl, hr, hcell⟩ := hc k _ (List.getElem?_eq_getElem hk)
 obtain ⟨B, cp, rfl, hcp, hR⟩ := hr
 refine ⟨ad, B, cp, e, ?_, hcp, hR⟩
 have := hcell 0 _ rfl
 simpa [kBytes, Kd.slice] using this
theorem own_append_zeros {ops : Array Oper} {rest : List Oper} {o : Oper} {a : Act} {Q : Exit → Act → World → Prop} {W : World} (base : Nat) (hgd : o.guard = none) (s x : Operand)
  (ho : o.op = .call { callee := .builtin .append, args := #[s, x], argTypes := #[24, 3] })
  (v : Value) (xs : List UInt8) (n : Int)
  (HO : Own W base v xs) (hs : a.eval s = v) (hx : a.eval x = .int .i64 n) (h0 : 0 ≤ n) (hbase : base ≤ W.heap.size) (hl : xs.length + n.toNat ≤ 140737488355328)
  (h : ∀ v1 w1, Own w1 base v1 (xs ++ List.replicate n.toNat 0) → W.grownBy w1 v.ownBlock → (v1.ownBlock = v.ownBlock ∨ ∃ b, v1.ownBlock = some b ∧ W.heap.size ≤ b) → wpList Try.prog ops Q rest (a.put o.dst v1) w1) :
  wpList Try.prog ops Q (o :: rest) a W :=
 Kd.R_append_zeros kByte (w0 := W) base hgd s x 24 3 5 _ 1 ho Try.underlying24 Try.underlying3 info5 rfl (by decide) (by decide) v xs 0 n (fun _ => True) hs hx (show _ = _ from rfl) (fun _ _ => trivial)
  HO h0 (Below.refl _ _) hbase (by omega) (fun v1 w1 h1 _ hg hat => h v1 w1 h1 hg hat)
set_option maxHeartbeats 1000000 in
theorem grow_nil (n : Nat) (w : World) (hn : n ≤ 140737488355328) :
  Calls Try.prog 66 #[.slice none 0 0, .int .i64 (n : Int)] w fun e w' => ∃ v, e = .returned v ∧ Own w' w.heap.size v [] ∧ Below w.heap.size w w' := by
 by_cases h0 : 0 < n
 ·go_enter Try.func66, Try.ntmps66
  go_wp2_with (at_builtin; refine own_append_zeros w.heap.size rfl (.tmp 20) (.tmp 21) rfl _ _ _ (Own.nil _ _) rfl rfl (by omega) (Nat.le_refl _) (by simp; omega) ?_; intro v1 w1 HO HG _; obtain ⟨A, c, rfl, hs⟩ := HO.sl; have hc0 : (0 : Nat) ≤ c := Nat.zero_le _)
  go_ret
  exact ⟨_, rfl, by simpa using Kd.R_take HO (Nat.zero_le _), (Below.refl _ _).grown HG (Nat.le_refl _) (by simp [Value.ownBlock])⟩
 ·obtain rfl : n = 0 := by omega
  go_enter Try.func66, Try.ntmps66
  go_wp2
  go_ret
  exact ⟨_, rfl, Own.nil _ _, Below.refl _ _⟩
theorem flat_snoc (l : List (List UInt8)) (k : Nat) (h : k < l.length) : (l.take (k + 1)).flatten = (l.take k).flatten ++ l[k] := by
 rw [List.take_succ_eq_append_getElem h, List.flatten_append]; simp
theorem flat_le (l : List (List UInt8)) (k : Nat) : (l.take k).flatten.length ≤ l.flatten.length := by
 have h : l.flatten = (l.take k).flatten ++ (l.drop k).flatten := by rw [← List.flatten_append, List.take_append_drop]
 rw [h, List.length_append]; omega
theorem Rds.below {w w1 : World} {A : Option Addr} {l : List (List UInt8)} (h : Rds w A l) (hb : Below w.heap.size w w1) : Rds w1 A l := Kd.C_below h hb
set_option maxHeartbeats 2000000 in
theorem concat_any (A : Option Addr) (c : Nat) (l : List (List UInt8)) (w : World) (hr : Rds w A l) (hl : l.flatten.length ≤ 140737488355328) :
  Calls Try.prog 59 #[.slice A l.length c] w fun e w' => ∃ v, e = .returned v ∧ Own w' w.heap.size v l.flatten ∧ Below w.heap.size w w' := by
 have hn := hr.2.1
 have HR := Lib.hid hr
 clear hr
 go_enter Try.func59, Try.ntmps59
 go_wp2
 go_loop [3, 11] (fun s i => ∃ k : Nat, k ≤ l.length ∧ i = .int .i64 k ∧ s = .int .i64 ((l.take k).flatten.length : Int)) (fun _ i => l.length - (intOf i).toNat)
 case atStart => exact ⟨0, by omega, rfl, rfl⟩
 case round =>
  obtain ⟨k, hk, rfl, rfl⟩ := hrel
  have hle := flat_le l k
  by_cases hlt : k < l.length
  ·obtain ⟨ad, B, cp, e, hx, hcp, hR⟩ := HR.out.at k hlt
   cases e
   have HS := Lib.hid (flat_snoc l k hlt)
   have hle2 : (l.take k).flatten.length + l[k].length ≤ l.flatten.length := by
    have h := flat_le l (k + 1); rw [flat_snoc l k hlt, List.length_append] at h; exact h
   clear hR
   generalize l[k] = m at *
   generalize (l.take k).flatten = S at *
   go_wp2
   go_round
   case rel => exact ⟨k + 1, by omega, by go_num, by rw [HS.out, List.length_append]; go_num⟩
   case measure => simp [intOf]; omega
  ·obtain rfl : k = l.length := by omega
   go_wp2_with (go_at_call 66; refine (grow_nil _ _ (by simpa using hl)).mono ?_; rintro e w' ⟨v, rfl, HO, HB⟩)
   have HO2 := Lib.hid HO
   have HB2 := Lib.hid HB
   clear HO HB hle hlt hk
   go_loopw [6, 27] (fun v i wr => ∃ k : Nat, k ≤ l.length ∧ i = .int .i64 k ∧ Own wr w.heap.size v (l.take k).flatten ∧ Below w.heap.size w wr) (fun _ i _ => l.length - (intOf i).toNat)
   case atStart => exact ⟨0, by omega, rfl, HO2.out, HB2.out⟩
   case round =>
    obtain ⟨k, hk, rfl, HOr, HBr⟩ := hrel
    clear HO2 HB2
    have hle := flat_le l k
    have HOr2 := Lib.hid HOr
    have HBr2 := Lib.hid HBr
    clear HOr HBr
    by_cases hlt : k < l.length
    ·obtain ⟨ad, B, cp, e, hx, hcp, hR⟩ := (HR.out.below HBr2.out).at k hlt
     cases e
     have HS := Lib.hid (flat_snoc l k hlt)
     have hle2 : (l.take k).flatten.length + l[k].length ≤ l.flatten.length := by
      have h := flat_le l (k + 1); rw [flat_snoc l k hlt, List.length_append] at h; exact h
     have HR2 := Lib.hid hR
     clear hR
     generalize l[k] = m at *
     go_wp2_with (at_builtin; refine own_append w.heap.size rfl (.tmp 31) (.tmp 32) rfl _ _ _ _ _ _ HOr2.out HR2.out rfl rfl rfl HBr2.out.size (by omega) ?_; intro v1 w1 HO HG _)
     go_roundw
     case rel => exact ⟨k + 1, by omega, by go_num, by rw [HS.out]; exact HO, slots HBr2.out _ HG HOr2.out.base⟩
     case measure => simp [intOf]; omega
    ·obtain rfl : k = l.length := by omega
     go_wp2
     go_ret
     exact ⟨_, rfl, by have := HOr2.out; rwa [List.take_length] at this, HBr2.out⟩
end Go.Proofs.Ytenlkobjldhfgaa
