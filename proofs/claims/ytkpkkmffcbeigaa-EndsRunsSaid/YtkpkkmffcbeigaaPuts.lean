/- EndsPuts, EndsJoin. -/
import Derived.Test.YtkpkkmffcbeigaaPutRef
namespace Go.Proofs.Ytkpkkmffcbeigaa
open Go.RowKit Go.Proofs.YtkpkkmffcbeigaaW.PrintWords

theorem rput_n (A : Option Addr) (n c : Nat) (b : List UInt8) (width : Int) (L : Option Addr) (m cL : Nat) (l : List UInt64) (w : World) (hn : n = b.length) (hm : m = l.length)
    (hr : Sl w A c b) (hL : Ru w L l) (hl : b.length + 8 * l.length ≤ 140737488355000) :
    Calls Try.prog 11 #[.slice A n c, .int .i64 width, .slice L m cL] w fun e w' => ∃ A' c', e = .returned (.tuple #[.slice A' (putBytes b width l).length c', .int .i64 (putErr width l)]) ∧ Sl w' A' c' (putBytes b width l) ∧ Below w.heap.size w w' := by
  subst hn; subst hm
  exact rput_any A c b width L cL l w hr hL hl

attribute [local go_sem] strB_list
set_option maxHeartbeats 4000000 in
theorem endsPuts_any (A : Option Addr) (c : Nat) (b : List UInt8) (width : Int) (L : Option Addr) (cL : Nat) (l : List UInt64) (w : World) (hr : Sl w A c b) (hL : Ru w L l) :
    Calls Try.prog 3 #[.slice A b.length c, .int .i64 width, .slice L l.length cL] w fun e w' => e = .returned (.bool true) ∧ Below w.heap.size w w' := by
  have n1 := hr.small
  have n2 := hL.2.1
  have HR := Lib.hid hr
  have HL := Lib.hid hL
  clear hr hL
  by_cases hb : b.length ≤ 500
  · by_cases hl : l.length ≤ 100
    · have g1 : ¬ ((500 : Int) < b.length) := by omega
      have g2 : ¬ ((100 : Int) < l.length) := by omega
      go_enter Try.func3, Try.ntmps3
      go_wp2_with (first
        | (go_at_call 9; refine (endsAlive_any _).mono ?_; rintro e w1 ⟨rfl, HB⟩; have HB1 := Lib.hid HB; have HR1 := Lib.hid (HR.out.below HB); have HL1 := Lib.hid (HL.out.below HB); clear HB)
        | (at_builtin; refine own_append w1.heap.size rfl _ _ rfl _ _ b _ _ _ (Own.empty w1) (HR1.out.below (alloc_below _ _)).rd rfl rfl rfl (by simp) (by simp; omega) ?_; intro v w2 HO HG _; have HO2 := Lib.hid HO; have hbb := slots (alloc_below w1 (.cells #[] 5)) _ HG (Own.base (Own.empty w1)); have HB2 := Lib.hid (below_step HB1.out hbb); have HR2 := Lib.hid (HR1.out.below hbb); have HL2 := Lib.hid (HL1.out.below hbb); clear HO HG hbb; obtain ⟨Ao, co, rfl, hso⟩ := HO2.out.sl; have HS2 : Hid (Sl w2 Ao co b) := Lib.hid hso; clear hso HO2))
      refine (put_any Ao co b width L cL l _ HS2.out HL2.out (by omega)).mono ?_
      rintro e w3 ⟨A3, c3, rfl, hs, _, hb3⟩
      have HB3 := Lib.hid (below_step HB2.out hb3)
      have HX3 := Lib.hid hs
      have HR3 := Lib.hid (HR2.out.below hb3)
      have HL3 := Lib.hid (HL2.out.below hb3)
      have HS3 := Lib.hid (HS2.out.below hb3)
      clear hs hb3 HB1 HB2 HR1 HR2 HL1 HL2 HS2
      go_wp2_with fail
      refine (rput_any A c b width L cL l _ HR3.out HL3.out (by omega)).mono ?_
      rintro e w4 ⟨A4, c4, rfl, hs, hb4⟩
      have HB4 := Lib.hid (below_step HB3.out hb4)
      have k1 := (HX3.out.below hb4).rd.conv _ c3 rfl
      have k2 := hs.rd.conv _ c4 rfl
      have k3 := (HR3.out.below hb4).rd.conv _ c rfl
      have k4 := (HS3.out.below hb4).rd.conv _ co rfl
      clear hs hb4 HB3 HR3 HL3 HS3 HX3
      go_wp2
      go_ret
      exact ⟨rfl, HB4.out⟩
    · have g2 : (100 : Int) < l.length := by omega
      go_enter Try.func3, Try.ntmps3
      go_wp2_with (go_at_call 9; refine (endsAlive_any _).mono ?_; rintro e w1 ⟨rfl, HB⟩; have HB1 := Lib.hid HB; clear HB)
      go_ret
      exact ⟨rfl, HB1.out⟩
  · have g1 : (500 : Int) < b.length := by omega
    go_enter Try.func3, Try.ntmps3
    go_wp2_with (go_at_call 9; refine (endsAlive_any _).mono ?_; rintro e w1 ⟨rfl, HB⟩; have HB1 := Lib.hid HB; clear HB)
    go_ret
    exact ⟨rfl, HB1.out⟩
end Go.Proofs.Ytkpkkmffcbeigaa
