/- The example of package ends, there and back. -/
import Derived.Test.YtkpkkmffcbeigaaPut
import Derived.Test.YtkpkkmffcbeigaaNum
namespace Go.Proofs.Ytkpkkmffcbeigaa
open Go.RowKit Go.Proofs.YtkpkkmffcbeigaaW.PrintWords

theorem Ru.lit (w : World) (ns : List UInt64) (cur : Array Value) (hc : cur = (ns.map fun n => .int .u64 (uv n)).toArray) (hm : ns.length ≤ maxLen) : Ru (w.alloc (.cells cur 32)) (some ⟨w.heap.size, 0, Option.none⟩) ns := by
  subst hc
  refine ⟨rfl, hm, fun _ => ⟨_, rfl, fun j p hj => ⟨[.int .u64 (uv p)], rfl, rfl, fun i u hu => ?_⟩⟩⟩
  match i, hu with
  | 0, hu =>
    obtain rfl : _ = u := by simpa using hu
    have hn := World.news_of_block (cs := (ns.map fun n => Value.int .u64 (uv n)).toArray) (t := 32) (fr := (0, 0)) (heap_alloc_new w (.cells (ns.map fun n => Value.int .u64 (uv n)).toArray 32))
    have := hn j (.int .u64 (uv p)) (by simp [hj])
    simpa [kU64, Kd.scalar] using this
theorem Ru.none (w : World) : Ru w Option.none [] := ⟨rfl, by simp, fun h => absurd h (by simp)⟩
/-- Put, its answers named. -/
theorem put_n (A : Option Addr) (n c : Nat) (b : List UInt8) (width : Int) (L : Option Addr) (m cL : Nat) (l : List UInt64) (w : World) (out : List UInt8) (err : Int) (hn : n = b.length) (hm : m = l.length) (ho : putBytes b width l = out) (he : putErr width l = err)
    (hr : Sl w A c b) (hL : Ru w L l) (hl : b.length + 8 * l.length ≤ 140737488355000) :
    Calls Try.prog 10 #[.slice A n c, .int .i64 width, .slice L m cL] w fun e w' => ∃ A' c', e = .returned (.tuple #[.slice A' out.length c', .int .i64 err]) ∧ Sl w' A' c' out ∧ Own w' w.heap.size (.slice A' out.length c') out ∧ Below w.heap.size w w' := by
  subst hn; subst hm; subst ho; subst he
  exact put_any A c b width L cL l w hr hL hl
theorem new_n (A : Option Addr) (n c : Nat) (xs : List UInt8) (w : World) (hn : n = xs.length) (hr : Sl w A c xs) (hl : xs.length ≤ 140737488355000) :
    Calls Try.prog 12 #[.slice A n c] w fun e w' => ∃ R, e = .returned (.pointer (some ⟨R, 0, none⟩)) ∧ RdrX w' w.heap.size R xs false ∧ Below w.heap.size w w' := by
  subst hn; exact new_any A c xs w hr hl
theorem num_n (base R : Nat) (xs : List UInt8) (f : Bool) (width : Int) (w : World) (v : Int) (rest : List UInt8) (bad : Bool) (hr : RdrX w base R xs f) (hl : xs.length ≤ 140737488355000)
    (h1 : numB (takeOut xs (f || !wideB width) width) = v) (h2 : takeRest xs (f || !wideB width) width = rest) (h3 : takeBad xs (f || !wideB width) width = bad) :
    Calls Try.prog 13 #[.pointer (some ⟨R, 0, none⟩), .int .i64 width] w fun e w' => e = .returned (.int .u64 v) ∧ RdrX w' base R rest bad ∧ w.grownBy w' (some R) := by
  obtain ⟨A, c, hr⟩ := hr
  subst h1; subst h2; subst h3
  exact num_any base R xs f A c width w hr hl
theorem take_n (base R : Nat) (xs : List UInt8) (f : Bool) (n : Int) (w : World) (hr : RdrX w base R xs f) (hl : xs.length ≤ 140737488355000) :
    Calls Try.prog 19 #[.pointer (some ⟨R, 0, none⟩), .int .i64 n] w fun e w' => ∃ A' c', e = .returned (.slice A' (takeOut xs f n).length c') ∧ Sl w' A' c' (takeOut xs f n) ∧ RdrX w' base R (takeRest xs f n) (takeBad xs f n) ∧ w.grownBy w' (some R) := by
  obtain ⟨A, c, hr⟩ := hr
  refine (take_any base R xs f A c n w hr hl).mono ?_
  rintro e w' ⟨A', c', rfl, h1, _, h2⟩
  exact ⟨A', c', rfl, h1, h2⟩
theorem left_n (base R : Nat) (xs : List UInt8) (f : Bool) (w : World) (hr : RdrX w base R xs f) : Calls Try.prog 15 #[.pointer (some ⟨R, 0, none⟩)] w fun e w' => e = .returned (.int .i64 (xs.length : Int)) ∧ w = w' := by
  obtain ⟨A, c, hr⟩ := hr; exact left_any base R xs f A c w hr
theorem failed_n (base R : Nat) (xs : List UInt8) (f : Bool) (w : World) (hr : RdrX w base R xs f) : Calls Try.prog 14 #[.pointer (some ⟨R, 0, none⟩)] w fun e w' => e = .returned (.bool f) ∧ w = w' := by
  obtain ⟨A, c, hr⟩ := hr; exact failed_any base R xs f A c w hr
theorem ended_n (base R : Nat) (xs : List UInt8) (f : Bool) (w : World) (b : Bool) (hr : RdrX w base R xs f) (hb : (!f && xs.isEmpty) = b) : Calls Try.prog 16 #[.pointer (some ⟨R, 0, none⟩)] w fun e w' => e = .returned (.bool b) ∧ w = w' := by
  obtain ⟨A, c, hr⟩ := hr; subst hb; exact ended_any base R xs f A c w hr
theorem RdrX.le {w : World} {base R : Nat} {xs : List UInt8} {f : Bool} (h : RdrX w base R xs f) : base ≤ R := by obtain ⟨A, c, h⟩ := h; exact h.le
theorem RdrX.below {w w' : World} {base R : Nat} {xs : List UInt8} {f : Bool} (h : RdrX w base R xs f) (hb : Below w.heap.size w w') : RdrX w' base R xs f := by obtain ⟨A, c, h⟩ := h; exact ⟨A, c, h.below hb⟩
/-- Whatever lies below the reader's base lies as it lay. -/
theorem RdrX.keeps {w w' : World} {base R : Nat} (h : base ≤ R) (hb : base ≤ w.heap.size) (hg : w.grownBy w' (some R)) : Below base w w' := (Below.refl base w).grown hg hb (fun k e => by cases e; exact h)

attribute [local go_sem] strB_list
set_option maxHeartbeats 4000000 in
theorem endsAlive_any (w : World) : Calls Try.prog 9 #[] w fun e w' => e = .returned (.bool true) ∧ Below w.heap.size w w' := by
  go_enter Try.func9, Try.ntmps9
  go_wp2_with fail
  refine (put_n none 0 0 [] 2 _ 1 1 [258] _ [2, 1] 0 rfl rfl (by decide) (by decide) (Sl.none _) (Ru.lit w [258] _ rfl (by decide)) (by decide)).mono ?_
  rintro e w1 ⟨A1, c1, rfl, hs, _, hb⟩
  have HS := Lib.hid hs
  have HB := Lib.hid ((alloc_below w (.cells #[.int .u64 258] 32)).trans (hb.mono (by simp)))
  clear hs hb
  go_wp2_with fail
  refine (new_n _ _ _ [2, 1] _ rfl HS.out (by decide)).mono ?_
  rintro e w2 ⟨R, rfl, hR, hb⟩
  have HR := Lib.hid hR
  have HB2 := Lib.hid (HB.out.trans (hb.mono HB.out.size))
  have HW := Lib.hid (show w.heap.size ≤ w1.heap.size ∧ w1.heap.size ≤ w2.heap.size from ⟨HB.out.size, hb.size⟩)
  have hc := (HS.out.below hb).rd.conv 2 c1 rfl
  clear hR hb HS HB
  go_wp2_with fail
  clear hc
  go_at_call 15
  refine (left_n _ R [2, 1] false _ HR.out).mono ?_
  rintro e w3 ⟨rfl, rfl⟩
  go_wp2_with fail
  refine (num_n _ R [2, 1] false 2 _ 258 [] false HR.out (by decide) (by decide) (by decide) (by decide)).mono ?_
  rintro e w3 ⟨rfl, hR, hg⟩
  have HB3 := Lib.hid (HB2.out.trans ((RdrX.keeps hR.le HW.out.2 hg).mono HW.out.1))
  go_wp2_with fail
  refine (ended_n _ R [] false _ true hR rfl).mono ?_
  rintro e w4 ⟨rfl, rfl⟩
  clear hR hg
  go_wp2
  go_ret
  exact ⟨rfl, HB3.out⟩
end Go.Proofs.Ytkpkkmffcbeigaa
