-- Printed by a program of this session (wip/printx.py), which runs the kit's print with texts of its own put in.
import Derived.Test.YtkiiangookibnaaProg
import Derived.Below
import Derived.Deep.Draws
import Derived.Deep.AppendLies
import Derived.Maps.AppendAt
import Derived.OwnWalk
import Derived.Laws.BytesArg
import Derived.Laws.MakeOwn
import Derived.Laws.OwnMore
import Derived.Deep.OwnRows
import Derived.Tactics
import Derived.Lib.ConvBytes
import Derived.Laws.Slices
import Derived.WalkKit
import Derived.KernelRfl
import Derived.RowKit3
import Derived.Deep.LoopGhost
import Derived.Deep.QuietTactic
import Derived.BigQuiet
import Derived.WideLaws
import Derived.Deep.DeepCutAuto
import Derived.Deep.CutBlock
import Derived.Deep.RegionHeld3
import Derived.Laws.Rows
import Derived.Lib.AppendStr
import Derived.ArgAppend
import Derived.Laws.IdiomCopy
import Derived.OrdersHeld
import Derived.Laws.BitsLemmas
import Derived.RowKit
import Derived.Test.YtkiiangookibnaaWWords
import Derived.Test.YtkiiangookibnaaWLast
import Derived.Test.YtkiiangookibnaaWTab
import Derived.Test.YtkiiangookibnaaWFour
import Derived.Test.YtkiiangookibnaaWQPut
import Derived.Test.YtkiiangookibnaaWApart
import Derived.Test.YtkiiangookibnaaWArr
import Derived.Test.YtkiiangookibnaaWZeros
import Derived.Test.YtkiiangookibnaaWFoot
import Derived.Test.YtkiiangookibnaaWKept
import Derived.Test.YtkiiangookibnaaWShare
import Derived.Test.YtkiiangookibnaaWN
import Derived.Test.YtkiiangookibnaaWFootNe
import Derived.Test.YtkiiangookibnaaWAt
import Derived.Test.YtkiiangookibnaaWEqStruct
import Derived.Test.YtkiiangookibnaaWRepsOne
import Derived.Test.YtkiiangookibnaaWInv
import Derived.Test.YtkiiangookibnaaWInvWords
import Derived.Test.YtkiiangookibnaaWGuard
import Derived.Test.YtkiiangookibnaaWNEv
import Derived.Test.YtkiiangookibnaaWMore
namespace Go.Proofs.Ytkiiangookibnaa.PRecordApart
open Go.RowKit Go.Proofs.YtkiiangookibnaaW.PrintWords Go.Proofs.YtkiiangookibnaaW.PrintLast Go.Proofs.YtkiiangookibnaaW.PrintMore
attribute [local go_sem] max2_int min2_int max_two min_two max_three min_three max_four min_four   -- for this text's walks alone
set_option linter.unusedVariables false
set_option linter.unusedSimpArgs false



def errW : Option Int → Value
  | none => .nilIface
  | some c => .iface 0 (.int .i64 c)
theorem errW_none : errW none = .nilIface := rfl
theorem errW_some (c : Int) : errW (some c) = .iface 0 (.int .i64 c) := rfl

theorem info3 : (Try.prog.info? 3).map (fun i => (i.zero, i.size, i.bytes)) = some (some (.int .i64 0), 1, 8) := by kernel_rfl
theorem info5 : (Try.prog.info? 5).map (fun i => (i.zero, i.size, i.bytes)) = some (some (.int .u8 0), 1, 1) := by kernel_rfl
theorem info30 : (Try.prog.info? 30).map (fun i => (i.zero, i.size, i.bytes)) = some (some (.int .u64 0), 1, 8) := by kernel_rfl
-- the values' own types
/-! #### struct type 28 -/
structure S28 where
  f0 : Int
  f1 : Int
def z28 : S28 := ⟨(0 : Int), (0 : Int)⟩
def k28 : Kd S28 := Kd.iso (Kd.pair (Kd.int .u32) (Kd.int .u32)) (fun x : S28 => (x.f0, x.f1))
theorem k28_open {w : World} {x : S28} {cs : List Value} (h : k28.K w x cs) : cs = [.int .u32 x.f0, .int .u32 x.f1] := by
  obtain ⟨_, _, rfl, rfl, rfl⟩ := h
  exact rfl
theorem k28_openM {w : World} {base : Nat} {ok : Nat → Prop} {x : S28} {cs : List Value} (h : k28.M w base ok x cs) : cs = [.int .u32 x.f0, .int .u32 x.f1] := by
  obtain ⟨_, _, rfl, rfl, rfl⟩ := h
  exact rfl
theorem k28_mk (w : World) (x : S28)  : k28.K w x [.int .u32 x.f0, .int .u32 x.f1] := ⟨[.int .u32 x.f0], [.int .u32 x.f1], rfl, rfl, rfl⟩
theorem k28_mkM (w : World) (base : Nat) (ok : Nat → Prop) (x : S28)  : k28.M w base ok x [.int .u32 x.f0, .int .u32 x.f1] := ⟨[.int .u32 x.f0], [.int .u32 x.f1], rfl, rfl, rfl⟩
def rd_T28 (xs : List S28) (i : Int) : S28 := xs.getD i.toNat z28
theorem at_T28 {w : World} {A : Option Addr} {n : Nat} {xs : List S28} (h : Kd.C k28 w A n xs) (i : Int) (h0 : 0 ≤ i) (h1 : i < n) : ∃ ad , A = some ad ∧ w.cell? (ad.add (i.toNat * 2)) = some (.int .u32 (rd_T28 xs i).f0) ∧ w.cell? ⟨(ad.add (i.toNat * 2)).block, (ad.add (i.toNat * 2)).off + 1, none⟩ = some (.int .u32 (rd_T28 xs i).f1) := by
  obtain ⟨ad, c, e, _, hK, hc0⟩ := Kd.C_get h z28 i h0 h1
  have hc : ∀ j u, c[j]? = some u → w.cell? (ad.add (i.toNat * 2 + j)) = some u := hc0
  obtain rfl := k28_open hK
  exact ⟨ad, e, hc 0 _ rfl, by rw [← add_field _ _ 1 (by omega)]; exact hc 1 _ rfl⟩

/-! #### struct type 48 -/
structure S48 where
  f0 : S28
  f1 : Int
  f2 : Int
def z48 : S48 := ⟨z28, (0 : Int), (0 : Int)⟩
def k48 : Kd S48 := Kd.iso (Kd.pair k28 (Kd.pair (Kd.int .i64) (Kd.int .u32))) (fun x : S48 => (x.f0, x.f1, x.f2))
theorem k48_open {w : World} {x : S48} {cs : List Value} (h : k48.K w x cs) : cs = [.int .u32 x.f0.f0, .int .u32 x.f0.f1, .int .i64 x.f1, .int .u32 x.f2] := by
  obtain ⟨_, _, rfl, s0, ⟨_, _, rfl, rfl, rfl⟩⟩ := h
  obtain rfl := k28_open s0
  exact rfl
theorem k48_openM {w : World} {base : Nat} {ok : Nat → Prop} {x : S48} {cs : List Value} (h : k48.M w base ok x cs) : cs = [.int .u32 x.f0.f0, .int .u32 x.f0.f1, .int .i64 x.f1, .int .u32 x.f2] := by
  obtain ⟨_, _, rfl, s0, ⟨_, _, rfl, rfl, rfl⟩⟩ := h
  obtain rfl := k28_openM s0
  exact rfl
theorem k48_mk (w : World) (x : S48)  : k48.K w x [.int .u32 x.f0.f0, .int .u32 x.f0.f1, .int .i64 x.f1, .int .u32 x.f2] := ⟨[.int .u32 x.f0.f0, .int .u32 x.f0.f1], [.int .i64 x.f1, .int .u32 x.f2], rfl, (k28_mk w x.f0 ), ⟨[.int .i64 x.f1], [.int .u32 x.f2], rfl, rfl, rfl⟩⟩
theorem k48_mkM (w : World) (base : Nat) (ok : Nat → Prop) (x : S48)  : k48.M w base ok x [.int .u32 x.f0.f0, .int .u32 x.f0.f1, .int .i64 x.f1, .int .u32 x.f2] := ⟨[.int .u32 x.f0.f0, .int .u32 x.f0.f1], [.int .i64 x.f1, .int .u32 x.f2], rfl, (k28_mkM w base ok x.f0 ), ⟨[.int .i64 x.f1], [.int .u32 x.f2], rfl, rfl, rfl⟩⟩
def rd_T48 (xs : List S48) (i : Int) : S48 := xs.getD i.toNat z48
theorem at_T48 {w : World} {A : Option Addr} {n : Nat} {xs : List S48} (h : Kd.C k48 w A n xs) (i : Int) (h0 : 0 ≤ i) (h1 : i < n) : ∃ ad , A = some ad ∧ w.cell? (ad.add (i.toNat * 4)) = some (.int .u32 (rd_T48 xs i).f0.f0) ∧ w.cell? ⟨(ad.add (i.toNat * 4)).block, (ad.add (i.toNat * 4)).off + 1, none⟩ = some (.int .u32 (rd_T48 xs i).f0.f1) ∧ w.cell? ⟨(ad.add (i.toNat * 4)).block, (ad.add (i.toNat * 4)).off + 2, none⟩ = some (.int .i64 (rd_T48 xs i).f1) ∧ w.cell? ⟨(ad.add (i.toNat * 4)).block, (ad.add (i.toNat * 4)).off + 3, none⟩ = some (.int .u32 (rd_T48 xs i).f2) := by
  obtain ⟨ad, c, e, _, hK, hc0⟩ := Kd.C_get h z48 i h0 h1
  have hc : ∀ j u, c[j]? = some u → w.cell? (ad.add (i.toNat * 4 + j)) = some u := hc0
  obtain rfl := k48_open hK
  exact ⟨ad, e, hc 0 _ rfl, by rw [← add_field _ _ 1 (by omega)]; exact hc 1 _ rfl, by rw [← add_field _ _ 2 (by omega)]; exact hc 2 _ rfl, by rw [← add_field _ _ 3 (by omega)]; exact hc 3 _ rfl⟩

def rd_L5 (xs : List (List Int)) (i : Int) : (List Int) := xs.getD i.toNat ([] : List Int)
theorem at_L5 {w : World} {A : Option Addr} {n : Nat} {xs : List (List Int)} (h : Kd.C (Kd.slice 5 (Kd.int .u8)) w A n xs) (i : Int) (h0 : 0 ≤ i) (h1 : i < n) : ∃ ad A0 c0, A = some ad ∧ w.cell? (ad.add i.toNat) = some (.slice A0 (rd_L5 xs i).length c0) ∧ (rd_L5 xs i).length ≤ c0 ∧ (Kd.int .u8).C w A0 (rd_L5 xs i).length (rd_L5 xs i) := by
  obtain ⟨ad, c, e, _, hK, hc0⟩ := Kd.C_get h ([] : List Int) i h0 h1
  have hc : ∀ j u, c[j]? = some u → w.cell? (ad.add (i.toNat * 1 + j)) = some u := hc0
  obtain ⟨A0, c0, rfl, l0, g0⟩ := hK
  exact ⟨ad, A0, c0, e, by have hq := hc 0 _ rfl; rwa [Nat.mul_one, Nat.add_zero] at hq, l0, g0⟩

def rd_L8 (xs : List (List S48)) (i : Int) : (List S48) := xs.getD i.toNat ([] : List S48)
theorem at_L8 {w : World} {A : Option Addr} {n : Nat} {xs : List (List S48)} (h : Kd.C (Kd.slice 48 k48) w A n xs) (i : Int) (h0 : 0 ≤ i) (h1 : i < n) : ∃ ad A0 c0, A = some ad ∧ w.cell? (ad.add i.toNat) = some (.slice A0 (rd_L8 xs i).length c0) ∧ (rd_L8 xs i).length ≤ c0 ∧ k48.C w A0 (rd_L8 xs i).length (rd_L8 xs i) := by
  obtain ⟨ad, c, e, _, hK, hc0⟩ := Kd.C_get h ([] : List S48) i h0 h1
  have hc : ∀ j u, c[j]? = some u → w.cell? (ad.add (i.toNat * 1 + j)) = some u := hc0
  obtain ⟨A0, c0, rfl, l0, g0⟩ := hK
  exact ⟨ad, A0, c0, e, by have hq := hc 0 _ rfl; rwa [Nat.mul_one, Nat.add_zero] at hq, l0, g0⟩

/-! #### struct type 32 -/
structure S32 where
  f0 : Int
  f1 : S28
  f2 : S28
  f3 : Int
  f4 : Int
  f5 : Int
def z32 : S32 := ⟨(0 : Int), z28, z28, (0 : Int), (0 : Int), (0 : Int)⟩
def k32 : Kd S32 := Kd.iso (Kd.pair (Kd.int .u64) (Kd.pair k28 (Kd.pair k28 (Kd.pair (Kd.int .i64) (Kd.pair (Kd.int .i64) (Kd.int .i64)))))) (fun x : S32 => (x.f0, x.f1, x.f2, x.f3, x.f4, x.f5))
theorem k32_open {w : World} {x : S32} {cs : List Value} (h : k32.K w x cs) : cs = [.int .u64 x.f0, .int .u32 x.f1.f0, .int .u32 x.f1.f1, .int .u32 x.f2.f0, .int .u32 x.f2.f1, .int .i64 x.f3, .int .i64 x.f4, .int .i64 x.f5] := by
  obtain ⟨_, _, rfl, rfl, ⟨_, _, rfl, s1, ⟨_, _, rfl, s3, ⟨_, _, rfl, rfl, ⟨_, _, rfl, rfl, rfl⟩⟩⟩⟩⟩ := h
  obtain rfl := k28_open s1
  obtain rfl := k28_open s3
  exact rfl
theorem k32_openM {w : World} {base : Nat} {ok : Nat → Prop} {x : S32} {cs : List Value} (h : k32.M w base ok x cs) : cs = [.int .u64 x.f0, .int .u32 x.f1.f0, .int .u32 x.f1.f1, .int .u32 x.f2.f0, .int .u32 x.f2.f1, .int .i64 x.f3, .int .i64 x.f4, .int .i64 x.f5] := by
  obtain ⟨_, _, rfl, rfl, ⟨_, _, rfl, s1, ⟨_, _, rfl, s3, ⟨_, _, rfl, rfl, ⟨_, _, rfl, rfl, rfl⟩⟩⟩⟩⟩ := h
  obtain rfl := k28_openM s1
  obtain rfl := k28_openM s3
  exact rfl
theorem k32_mk (w : World) (x : S32)  : k32.K w x [.int .u64 x.f0, .int .u32 x.f1.f0, .int .u32 x.f1.f1, .int .u32 x.f2.f0, .int .u32 x.f2.f1, .int .i64 x.f3, .int .i64 x.f4, .int .i64 x.f5] := ⟨[.int .u64 x.f0], [.int .u32 x.f1.f0, .int .u32 x.f1.f1, .int .u32 x.f2.f0, .int .u32 x.f2.f1, .int .i64 x.f3, .int .i64 x.f4, .int .i64 x.f5], rfl, rfl, ⟨[.int .u32 x.f1.f0, .int .u32 x.f1.f1], [.int .u32 x.f2.f0, .int .u32 x.f2.f1, .int .i64 x.f3, .int .i64 x.f4, .int .i64 x.f5], rfl, (k28_mk w x.f1 ), ⟨[.int .u32 x.f2.f0, .int .u32 x.f2.f1], [.int .i64 x.f3, .int .i64 x.f4, .int .i64 x.f5], rfl, (k28_mk w x.f2 ), ⟨[.int .i64 x.f3], [.int .i64 x.f4, .int .i64 x.f5], rfl, rfl, ⟨[.int .i64 x.f4], [.int .i64 x.f5], rfl, rfl, rfl⟩⟩⟩⟩⟩
theorem k32_mkM (w : World) (base : Nat) (ok : Nat → Prop) (x : S32)  : k32.M w base ok x [.int .u64 x.f0, .int .u32 x.f1.f0, .int .u32 x.f1.f1, .int .u32 x.f2.f0, .int .u32 x.f2.f1, .int .i64 x.f3, .int .i64 x.f4, .int .i64 x.f5] := ⟨[.int .u64 x.f0], [.int .u32 x.f1.f0, .int .u32 x.f1.f1, .int .u32 x.f2.f0, .int .u32 x.f2.f1, .int .i64 x.f3, .int .i64 x.f4, .int .i64 x.f5], rfl, rfl, ⟨[.int .u32 x.f1.f0, .int .u32 x.f1.f1], [.int .u32 x.f2.f0, .int .u32 x.f2.f1, .int .i64 x.f3, .int .i64 x.f4, .int .i64 x.f5], rfl, (k28_mkM w base ok x.f1 ), ⟨[.int .u32 x.f2.f0, .int .u32 x.f2.f1], [.int .i64 x.f3, .int .i64 x.f4, .int .i64 x.f5], rfl, (k28_mkM w base ok x.f2 ), ⟨[.int .i64 x.f3], [.int .i64 x.f4, .int .i64 x.f5], rfl, rfl, ⟨[.int .i64 x.f4], [.int .i64 x.f5], rfl, rfl, rfl⟩⟩⟩⟩⟩
def rd_T32 (xs : List S32) (i : Int) : S32 := xs.getD i.toNat z32
theorem at_T32 {w : World} {A : Option Addr} {n : Nat} {xs : List S32} (h : Kd.C k32 w A n xs) (i : Int) (h0 : 0 ≤ i) (h1 : i < n) : ∃ ad , A = some ad ∧ w.cell? (ad.add (i.toNat * 8)) = some (.int .u64 (rd_T32 xs i).f0) ∧ w.cell? ⟨(ad.add (i.toNat * 8)).block, (ad.add (i.toNat * 8)).off + 1, none⟩ = some (.int .u32 (rd_T32 xs i).f1.f0) ∧ w.cell? ⟨(ad.add (i.toNat * 8)).block, (ad.add (i.toNat * 8)).off + 2, none⟩ = some (.int .u32 (rd_T32 xs i).f1.f1) ∧ w.cell? ⟨(ad.add (i.toNat * 8)).block, (ad.add (i.toNat * 8)).off + 3, none⟩ = some (.int .u32 (rd_T32 xs i).f2.f0) ∧ w.cell? ⟨(ad.add (i.toNat * 8)).block, (ad.add (i.toNat * 8)).off + 4, none⟩ = some (.int .u32 (rd_T32 xs i).f2.f1) ∧ w.cell? ⟨(ad.add (i.toNat * 8)).block, (ad.add (i.toNat * 8)).off + 5, none⟩ = some (.int .i64 (rd_T32 xs i).f3) ∧ w.cell? ⟨(ad.add (i.toNat * 8)).block, (ad.add (i.toNat * 8)).off + 6, none⟩ = some (.int .i64 (rd_T32 xs i).f4) ∧ w.cell? ⟨(ad.add (i.toNat * 8)).block, (ad.add (i.toNat * 8)).off + 7, none⟩ = some (.int .i64 (rd_T32 xs i).f5) := by
  obtain ⟨ad, c, e, _, hK, hc0⟩ := Kd.C_get h z32 i h0 h1
  have hc : ∀ j u, c[j]? = some u → w.cell? (ad.add (i.toNat * 8 + j)) = some u := hc0
  obtain rfl := k32_open hK
  exact ⟨ad, e, hc 0 _ rfl, by rw [← add_field _ _ 1 (by omega)]; exact hc 1 _ rfl, by rw [← add_field _ _ 2 (by omega)]; exact hc 2 _ rfl, by rw [← add_field _ _ 3 (by omega)]; exact hc 3 _ rfl, by rw [← add_field _ _ 4 (by omega)]; exact hc 4 _ rfl, by rw [← add_field _ _ 5 (by omega)]; exact hc 5 _ rfl, by rw [← add_field _ _ 6 (by omega)]; exact hc 6 _ rfl, by rw [← add_field _ _ 7 (by omega)]; exact hc 7 _ rfl⟩

/-! #### struct type 34 -/
structure S34 where
  f0 : Int
  f1 : Bool
  f2 : Int
  f3 : Int
  f4 : Int
  f5 : S28
  f6 : (List S48)
  f7 : S32
def z34 : S34 := ⟨(0 : Int), false, (0 : Int), (0 : Int), (0 : Int), z28, ([] : List S48), z32⟩
def k34 : Kd S34 := Kd.iso (Kd.pair (Kd.int .u32) (Kd.pair Kd.bool (Kd.pair (Kd.int .u32) (Kd.pair (Kd.int .u32) (Kd.pair (Kd.int .i64) (Kd.pair k28 (Kd.pair (Kd.slice 48 k48) k32))))))) (fun x : S34 => (x.f0, x.f1, x.f2, x.f3, x.f4, x.f5, x.f6, x.f7))
theorem k34_open {w : World} {x : S34} {cs : List Value} (h : k34.K w x cs) : ∃ A7 c7, cs = [.int .u32 x.f0, .bool x.f1, .int .u32 x.f2, .int .u32 x.f3, .int .i64 x.f4, .int .u32 x.f5.f0, .int .u32 x.f5.f1, .slice A7 x.f6.length c7, .int .u64 x.f7.f0, .int .u32 x.f7.f1.f0, .int .u32 x.f7.f1.f1, .int .u32 x.f7.f2.f0, .int .u32 x.f7.f2.f1, .int .i64 x.f7.f3, .int .i64 x.f7.f4, .int .i64 x.f7.f5] ∧ x.f6.length ≤ c7 ∧ k48.C w A7 x.f6.length x.f6 := by
  obtain ⟨_, _, rfl, rfl, ⟨_, _, rfl, rfl, ⟨_, _, rfl, rfl, ⟨_, _, rfl, rfl, ⟨_, _, rfl, rfl, ⟨_, _, rfl, s5, ⟨_, _, rfl, ⟨A7, c7, rfl, l7, g7⟩, s8⟩⟩⟩⟩⟩⟩⟩ := h
  obtain rfl := k28_open s5
  obtain rfl := k32_open s8
  exact ⟨A7, c7, rfl, l7, g7⟩
theorem k34_openM {w : World} {base : Nat} {ok : Nat → Prop} {x : S34} {cs : List Value} (h : k34.M w base ok x cs) : ∃ v7, cs = [.int .u32 x.f0, .bool x.f1, .int .u32 x.f2, .int .u32 x.f3, .int .i64 x.f4, .int .u32 x.f5.f0, .int .u32 x.f5.f1, v7, .int .u64 x.f7.f0, .int .u32 x.f7.f1.f0, .int .u32 x.f7.f1.f1, .int .u32 x.f7.f2.f0, .int .u32 x.f7.f2.f1, .int .i64 x.f7.f3, .int .i64 x.f7.f4, .int .i64 x.f7.f5] ∧ k48.R 48 w base ok v7 x.f6 := by
  obtain ⟨_, _, rfl, rfl, ⟨_, _, rfl, rfl, ⟨_, _, rfl, rfl, ⟨_, _, rfl, rfl, ⟨_, _, rfl, rfl, ⟨_, _, rfl, s5, ⟨_, _, rfl, ⟨v7, rfl, g7⟩, s8⟩⟩⟩⟩⟩⟩⟩ := h
  obtain rfl := k28_openM s5
  obtain rfl := k32_openM s8
  exact ⟨v7, rfl, g7⟩
theorem k34_mk (w : World) (x : S34) {A7 : Option Addr} {c7 : Nat} (l7 : x.f6.length ≤ c7) (g7 : k48.C w A7 x.f6.length x.f6) : k34.K w x [.int .u32 x.f0, .bool x.f1, .int .u32 x.f2, .int .u32 x.f3, .int .i64 x.f4, .int .u32 x.f5.f0, .int .u32 x.f5.f1, .slice A7 x.f6.length c7, .int .u64 x.f7.f0, .int .u32 x.f7.f1.f0, .int .u32 x.f7.f1.f1, .int .u32 x.f7.f2.f0, .int .u32 x.f7.f2.f1, .int .i64 x.f7.f3, .int .i64 x.f7.f4, .int .i64 x.f7.f5] := ⟨[.int .u32 x.f0], [.bool x.f1, .int .u32 x.f2, .int .u32 x.f3, .int .i64 x.f4, .int .u32 x.f5.f0, .int .u32 x.f5.f1, .slice A7 x.f6.length c7, .int .u64 x.f7.f0, .int .u32 x.f7.f1.f0, .int .u32 x.f7.f1.f1, .int .u32 x.f7.f2.f0, .int .u32 x.f7.f2.f1, .int .i64 x.f7.f3, .int .i64 x.f7.f4, .int .i64 x.f7.f5], rfl, rfl, ⟨[.bool x.f1], [.int .u32 x.f2, .int .u32 x.f3, .int .i64 x.f4, .int .u32 x.f5.f0, .int .u32 x.f5.f1, .slice A7 x.f6.length c7, .int .u64 x.f7.f0, .int .u32 x.f7.f1.f0, .int .u32 x.f7.f1.f1, .int .u32 x.f7.f2.f0, .int .u32 x.f7.f2.f1, .int .i64 x.f7.f3, .int .i64 x.f7.f4, .int .i64 x.f7.f5], rfl, rfl, ⟨[.int .u32 x.f2], [.int .u32 x.f3, .int .i64 x.f4, .int .u32 x.f5.f0, .int .u32 x.f5.f1, .slice A7 x.f6.length c7, .int .u64 x.f7.f0, .int .u32 x.f7.f1.f0, .int .u32 x.f7.f1.f1, .int .u32 x.f7.f2.f0, .int .u32 x.f7.f2.f1, .int .i64 x.f7.f3, .int .i64 x.f7.f4, .int .i64 x.f7.f5], rfl, rfl, ⟨[.int .u32 x.f3], [.int .i64 x.f4, .int .u32 x.f5.f0, .int .u32 x.f5.f1, .slice A7 x.f6.length c7, .int .u64 x.f7.f0, .int .u32 x.f7.f1.f0, .int .u32 x.f7.f1.f1, .int .u32 x.f7.f2.f0, .int .u32 x.f7.f2.f1, .int .i64 x.f7.f3, .int .i64 x.f7.f4, .int .i64 x.f7.f5], rfl, rfl, ⟨[.int .i64 x.f4], [.int .u32 x.f5.f0, .int .u32 x.f5.f1, .slice A7 x.f6.length c7, .int .u64 x.f7.f0, .int .u32 x.f7.f1.f0, .int .u32 x.f7.f1.f1, .int .u32 x.f7.f2.f0, .int .u32 x.f7.f2.f1, .int .i64 x.f7.f3, .int .i64 x.f7.f4, .int .i64 x.f7.f5], rfl, rfl, ⟨[.int .u32 x.f5.f0, .int .u32 x.f5.f1], [.slice A7 x.f6.length c7, .int .u64 x.f7.f0, .int .u32 x.f7.f1.f0, .int .u32 x.f7.f1.f1, .int .u32 x.f7.f2.f0, .int .u32 x.f7.f2.f1, .int .i64 x.f7.f3, .int .i64 x.f7.f4, .int .i64 x.f7.f5], rfl, (k28_mk w x.f5 ), ⟨[.slice A7 x.f6.length c7], [.int .u64 x.f7.f0, .int .u32 x.f7.f1.f0, .int .u32 x.f7.f1.f1, .int .u32 x.f7.f2.f0, .int .u32 x.f7.f2.f1, .int .i64 x.f7.f3, .int .i64 x.f7.f4, .int .i64 x.f7.f5], rfl, ⟨A7, c7, rfl, l7, g7⟩, (k32_mk w x.f7 )⟩⟩⟩⟩⟩⟩⟩
theorem k34_mkM (w : World) (base : Nat) (ok : Nat → Prop) (x : S34) {v7 : Value} (g7 : k48.R 48 w base ok v7 x.f6) : k34.M w base ok x [.int .u32 x.f0, .bool x.f1, .int .u32 x.f2, .int .u32 x.f3, .int .i64 x.f4, .int .u32 x.f5.f0, .int .u32 x.f5.f1, v7, .int .u64 x.f7.f0, .int .u32 x.f7.f1.f0, .int .u32 x.f7.f1.f1, .int .u32 x.f7.f2.f0, .int .u32 x.f7.f2.f1, .int .i64 x.f7.f3, .int .i64 x.f7.f4, .int .i64 x.f7.f5] := ⟨[.int .u32 x.f0], [.bool x.f1, .int .u32 x.f2, .int .u32 x.f3, .int .i64 x.f4, .int .u32 x.f5.f0, .int .u32 x.f5.f1, v7, .int .u64 x.f7.f0, .int .u32 x.f7.f1.f0, .int .u32 x.f7.f1.f1, .int .u32 x.f7.f2.f0, .int .u32 x.f7.f2.f1, .int .i64 x.f7.f3, .int .i64 x.f7.f4, .int .i64 x.f7.f5], rfl, rfl, ⟨[.bool x.f1], [.int .u32 x.f2, .int .u32 x.f3, .int .i64 x.f4, .int .u32 x.f5.f0, .int .u32 x.f5.f1, v7, .int .u64 x.f7.f0, .int .u32 x.f7.f1.f0, .int .u32 x.f7.f1.f1, .int .u32 x.f7.f2.f0, .int .u32 x.f7.f2.f1, .int .i64 x.f7.f3, .int .i64 x.f7.f4, .int .i64 x.f7.f5], rfl, rfl, ⟨[.int .u32 x.f2], [.int .u32 x.f3, .int .i64 x.f4, .int .u32 x.f5.f0, .int .u32 x.f5.f1, v7, .int .u64 x.f7.f0, .int .u32 x.f7.f1.f0, .int .u32 x.f7.f1.f1, .int .u32 x.f7.f2.f0, .int .u32 x.f7.f2.f1, .int .i64 x.f7.f3, .int .i64 x.f7.f4, .int .i64 x.f7.f5], rfl, rfl, ⟨[.int .u32 x.f3], [.int .i64 x.f4, .int .u32 x.f5.f0, .int .u32 x.f5.f1, v7, .int .u64 x.f7.f0, .int .u32 x.f7.f1.f0, .int .u32 x.f7.f1.f1, .int .u32 x.f7.f2.f0, .int .u32 x.f7.f2.f1, .int .i64 x.f7.f3, .int .i64 x.f7.f4, .int .i64 x.f7.f5], rfl, rfl, ⟨[.int .i64 x.f4], [.int .u32 x.f5.f0, .int .u32 x.f5.f1, v7, .int .u64 x.f7.f0, .int .u32 x.f7.f1.f0, .int .u32 x.f7.f1.f1, .int .u32 x.f7.f2.f0, .int .u32 x.f7.f2.f1, .int .i64 x.f7.f3, .int .i64 x.f7.f4, .int .i64 x.f7.f5], rfl, rfl, ⟨[.int .u32 x.f5.f0, .int .u32 x.f5.f1], [v7, .int .u64 x.f7.f0, .int .u32 x.f7.f1.f0, .int .u32 x.f7.f1.f1, .int .u32 x.f7.f2.f0, .int .u32 x.f7.f2.f1, .int .i64 x.f7.f3, .int .i64 x.f7.f4, .int .i64 x.f7.f5], rfl, (k28_mkM w base ok x.f5 ), ⟨[v7], [.int .u64 x.f7.f0, .int .u32 x.f7.f1.f0, .int .u32 x.f7.f1.f1, .int .u32 x.f7.f2.f0, .int .u32 x.f7.f2.f1, .int .i64 x.f7.f3, .int .i64 x.f7.f4, .int .i64 x.f7.f5], rfl, ⟨v7, rfl, g7⟩, (k32_mkM w base ok x.f7 )⟩⟩⟩⟩⟩⟩⟩
def rd_T34 (xs : List S34) (i : Int) : S34 := xs.getD i.toNat z34
theorem at_T34 {w : World} {A : Option Addr} {n : Nat} {xs : List S34} (h : Kd.C k34 w A n xs) (i : Int) (h0 : 0 ≤ i) (h1 : i < n) : ∃ ad A7 c7, A = some ad ∧ w.cell? (ad.add (i.toNat * 16)) = some (.int .u32 (rd_T34 xs i).f0) ∧ w.cell? ⟨(ad.add (i.toNat * 16)).block, (ad.add (i.toNat * 16)).off + 1, none⟩ = some (.bool (rd_T34 xs i).f1) ∧ w.cell? ⟨(ad.add (i.toNat * 16)).block, (ad.add (i.toNat * 16)).off + 2, none⟩ = some (.int .u32 (rd_T34 xs i).f2) ∧ w.cell? ⟨(ad.add (i.toNat * 16)).block, (ad.add (i.toNat * 16)).off + 3, none⟩ = some (.int .u32 (rd_T34 xs i).f3) ∧ w.cell? ⟨(ad.add (i.toNat * 16)).block, (ad.add (i.toNat * 16)).off + 4, none⟩ = some (.int .i64 (rd_T34 xs i).f4) ∧ w.cell? ⟨(ad.add (i.toNat * 16)).block, (ad.add (i.toNat * 16)).off + 5, none⟩ = some (.int .u32 (rd_T34 xs i).f5.f0) ∧ w.cell? ⟨(ad.add (i.toNat * 16)).block, (ad.add (i.toNat * 16)).off + 6, none⟩ = some (.int .u32 (rd_T34 xs i).f5.f1) ∧ w.cell? ⟨(ad.add (i.toNat * 16)).block, (ad.add (i.toNat * 16)).off + 7, none⟩ = some (.slice A7 (rd_T34 xs i).f6.length c7) ∧ w.cell? ⟨(ad.add (i.toNat * 16)).block, (ad.add (i.toNat * 16)).off + 8, none⟩ = some (.int .u64 (rd_T34 xs i).f7.f0) ∧ w.cell? ⟨(ad.add (i.toNat * 16)).block, (ad.add (i.toNat * 16)).off + 9, none⟩ = some (.int .u32 (rd_T34 xs i).f7.f1.f0) ∧ w.cell? ⟨(ad.add (i.toNat * 16)).block, (ad.add (i.toNat * 16)).off + 10, none⟩ = some (.int .u32 (rd_T34 xs i).f7.f1.f1) ∧ w.cell? ⟨(ad.add (i.toNat * 16)).block, (ad.add (i.toNat * 16)).off + 11, none⟩ = some (.int .u32 (rd_T34 xs i).f7.f2.f0) ∧ w.cell? ⟨(ad.add (i.toNat * 16)).block, (ad.add (i.toNat * 16)).off + 12, none⟩ = some (.int .u32 (rd_T34 xs i).f7.f2.f1) ∧ w.cell? ⟨(ad.add (i.toNat * 16)).block, (ad.add (i.toNat * 16)).off + 13, none⟩ = some (.int .i64 (rd_T34 xs i).f7.f3) ∧ w.cell? ⟨(ad.add (i.toNat * 16)).block, (ad.add (i.toNat * 16)).off + 14, none⟩ = some (.int .i64 (rd_T34 xs i).f7.f4) ∧ w.cell? ⟨(ad.add (i.toNat * 16)).block, (ad.add (i.toNat * 16)).off + 15, none⟩ = some (.int .i64 (rd_T34 xs i).f7.f5) ∧ (rd_T34 xs i).f6.length ≤ c7 ∧ k48.C w A7 (rd_T34 xs i).f6.length (rd_T34 xs i).f6 := by
  obtain ⟨ad, c, e, _, hK, hc0⟩ := Kd.C_get h z34 i h0 h1
  have hc : ∀ j u, c[j]? = some u → w.cell? (ad.add (i.toNat * 16 + j)) = some u := hc0
  obtain ⟨A7, c7, rfl, l7, g7⟩ := k34_open hK
  exact ⟨ad, A7, c7, e, hc 0 _ rfl, by rw [← add_field _ _ 1 (by omega)]; exact hc 1 _ rfl, by rw [← add_field _ _ 2 (by omega)]; exact hc 2 _ rfl, by rw [← add_field _ _ 3 (by omega)]; exact hc 3 _ rfl, by rw [← add_field _ _ 4 (by omega)]; exact hc 4 _ rfl, by rw [← add_field _ _ 5 (by omega)]; exact hc 5 _ rfl, by rw [← add_field _ _ 6 (by omega)]; exact hc 6 _ rfl, by rw [← add_field _ _ 7 (by omega)]; exact hc 7 _ rfl, by rw [← add_field _ _ 8 (by omega)]; exact hc 8 _ rfl, by rw [← add_field _ _ 9 (by omega)]; exact hc 9 _ rfl, by rw [← add_field _ _ 10 (by omega)]; exact hc 10 _ rfl, by rw [← add_field _ _ 11 (by omega)]; exact hc 11 _ rfl, by rw [← add_field _ _ 12 (by omega)]; exact hc 12 _ rfl, by rw [← add_field _ _ 13 (by omega)]; exact hc 13 _ rfl, by rw [← add_field _ _ 14 (by omega)]; exact hc 14 _ rfl, by rw [← add_field _ _ 15 (by omega)]; exact hc 15 _ rfl, l7, g7⟩

end Go.Proofs.Ytkiiangookibnaa.PRecordApart
