/- string(b); literals of slices; the chapter's examples hold. -/
import Derived.Test.YtckfcnclekjjdaaOpen
import Derived.Lib.SlBytesConst
namespace Go.Proofs.Ytckfcnclekjjdaa
open Go.RowKit Go.Proofs.YtckfcnclekjjdaaW.PrintWords
open Crc

/-- Bytes as a string. -/
def strB (xs : List UInt8) : ByteArray := ⟨xs.toArray⟩
theorem strB_inj {a b : List UInt8} (h : strB a = strB b) : a = b := by
  unfold strB at h
  injection h with h
  exact Array.toList_inj.2 h
theorem strB_eq (a b : List UInt8) : (strB a = strB b) = (a = b) := propext ⟨strB_inj, fun h => by rw [h]⟩
theorem bytes_toList (a : Array UInt8) : (⟨a⟩ : ByteArray).toList = a.toList := by
  have hl : ∀ (n i : Nat) (r : List UInt8), a.size - i = n → i ≤ a.size → ByteArray.toList.loop ⟨a⟩ i r = r.reverse ++ a.toList.drop i := by
    intro n
    induction n with
    | zero =>
      intro i r h hi
      have hi2 : i = a.size := by omega
      subst hi2
      unfold ByteArray.toList.loop
      rw [if_neg (by show ¬ a.size < a.size; omega)]
      simp
    | succ n ih =>
      intro i r h hi
      have hlt : i < a.size := by omega
      unfold ByteArray.toList.loop
      rw [if_pos (by show i < a.size; exact hlt), ih (i + 1) _ (by omega) (by omega)]
      have hg : (⟨a⟩ : ByteArray).get! i = a[i] := by
        show a[i]! = a[i]
        simp [hlt]
      rw [hg, List.reverse_cons, List.append_assoc]
      congr 1
      have hd : a.toList.drop i = a[i] :: a.toList.drop (i + 1) := by
        rw [List.drop_eq_getElem_cons (by simpa using hlt)]; simp
      rw [hd]; rfl
  have := hl a.size 0 [] (by omega) (by omega)
  rw [List.reverse_nil, List.nil_append, List.drop_zero] at this
  exact this
theorem strB_list (xs : List UInt8) : (strB xs).toList = xs := by
  unfold strB; rw [bytes_toList]
theorem strB_nums (xs : List UInt8) : strOfNums (xs.map bv) = strB xs := by
  unfold strOfNums strB
  congr 1
  rw [List.map_map]
  congr 1
  have : ∀ l : List UInt8, List.map ((fun n => UInt8.ofNat (Int.toNat n)) ∘ bv) l = l := by
    intro l
    induction l with
    | nil => rfl
    | cons c l ih =>
      rw [List.map_cons, ih]
      congr 1
      show UInt8.ofNat (bv c).toNat = c
      unfold bv
      rw [Int.toNat_natCast]
      exact UInt8.ofNat_toNat
  exact this xs
theorem Rd.ints {w : World} {A : Option Addr} {xs : List UInt8} (h : Rd w A xs) : ReadsInt w .u8 A xs.length (xs.map bv) := by
  refine ⟨by simp, h.2.1, fun hn => ?_⟩
  obtain ⟨ad, e, _⟩ := h.2.2 hn
  refine ⟨ad, e, fun j hj => ?_⟩
  obtain ⟨ad', e', hc⟩ := h.at j hj
  rw [e] at e'
  injection e' with e'
  subst e'
  rw [hc]; simp [List.getD_eq_getElem?_getD, hj]
/-- string(b) -/
theorem Rd.conv {w : World} {A : Option Addr} {xs : List UInt8} (h : Rd w A xs) (n c : Nat) (hn : n = xs.length) : (convert 24 9 (.slice A n c)).run Try.prog w = .ok (.string (strB xs)) w := by
  subst hn
  rw [string_of_reads Try.underlying24 Try.underlying5 Try.underlying9 h.ints, strB_nums]

/-- A slice literal of slices. -/
theorem Rds.lit {w : World} (l : List (Option Addr × Nat × List UInt8)) (hl : l.length ≤ 9223372036854775807) (h : ∀ e ∈ l, Sl w e.1 e.2.1 e.2.2) (cur : Array Value) (hc : cur = (l.map fun e => .slice e.1 e.2.2.length e.2.1).toArray)
    (xs : List (List UInt8)) (hx : xs = l.map (·.2.2)) : Rds (w.alloc (.cells cur 24)) (some ⟨w.heap.size, 0, none⟩) xs := by
  subst hc
  subst hx
  refine ⟨rfl, by simpa using hl, fun _ => ⟨_, rfl, fun j p hj => ?_⟩⟩
  rw [List.getElem?_map] at hj
  obtain ⟨e, he, rfl⟩ := Option.map_eq_some_iff.1 hj
  have hs := h e (List.mem_of_getElem? he)
  refine ⟨[.slice e.1 e.2.2.length e.2.1], rfl, ⟨e.1, e.2.1, rfl, hs.cap, hs.rd.below ((Below.refl _ _).alloc (Nat.le_refl _) _)⟩, fun i u hu => ?_⟩
  match i, hu with
  | 0, hu =>
    obtain rfl : _ = u := by simpa using hu
    have hn := World.news_of_block (cs := (l.map fun e => Value.slice e.1 e.2.2.length e.2.1).toArray) (t := 24) (fr := (0, 0)) (heap_alloc_new w (.cells (l.map fun e => Value.slice e.1 e.2.2.length e.2.1).toArray 24))
    have := hn j (.slice e.1 e.2.2.length e.2.1) (by simp [he])
    simpa [kBytes, Kd.slice] using this
theorem Sl.none (w : World) : Sl w none 0 [] := ⟨⟨rfl, by simp, fun h => absurd h (by simp)⟩, by simp, fun _ => rfl⟩
theorem Sl.lit (w : World) (cs : List UInt8) (cur : Array Value) (fr : Nat × Nat) (hc : cur = (cs.map fun c => .int .u8 (bv c)).toArray) (hm : cs.length ≤ maxLen) (n : Nat) (hn : n = cs.length) : Sl (w.alloc (.cells cur 5 fr)) (some ⟨w.heap.size, 0, Option.none⟩) n cs := by
  subst hn
  subst hc
  refine ⟨⟨rfl, hm, fun _ => ⟨_, rfl, fun j p hj => ⟨[.int .u8 (bv p)], rfl, rfl, fun i u hu => ?_⟩⟩⟩, Nat.le_refl _, fun h => by cases h⟩
  match i, hu with
  | 0, hu =>
    obtain rfl : _ = u := by simpa using hu
    have hn := World.news_of_block (cs := (cs.map fun c => Value.int .u8 (bv c)).toArray) (t := 5) (fr := fr) (heap_alloc_new w (.cells (cs.map fun c => Value.int .u8 (bv c)).toArray 5 fr))
    have := hn j (.int .u8 (bv p)) (by simp [hj])
    simpa [kByte, Kd.scalar] using this
/-- []byte of a constant, its block the first, the second new one. -/
theorem conv_const (w : World) (C : Array Value) (n c : Nat) : (convert 24 24 (.slice (some ⟨w.heap.size, 0, Option.none⟩) n c)).run Try.prog (w.alloc (.cells C 5)) = .ok (.slice (some ⟨w.heap.size, 0, Option.none⟩) n c) (w.alloc (.cells C 5 (C.size, C.size + 1))) :=
  Lib.run_convert_bytes_const (P := Try.prog) w 24 5 C n c Try.underlying24 Try.underlying5
theorem conv_const1 (w : World) (o : Obj) (C : Array Value) (n c : Nat) : (convert 24 24 (.slice (some ⟨w.heap.size + 1, 0, Option.none⟩) n c)).run Try.prog ((w.alloc o).alloc (.cells C 5)) = .ok (.slice (some ⟨w.heap.size + 1, 0, Option.none⟩) n c) ((w.alloc o).alloc (.cells C 5 (C.size, C.size + 1))) := by
  have := conv_const (w.alloc o) C n c
  simpa using this
theorem Rds.none (w : World) : Rds w Option.none [] := ⟨rfl, by simp, fun h => absurd h (by simp)⟩
theorem alloc_below (w : World) (o : Obj) : Below w.heap.size w (w.alloc o) := (Below.refl _ _).alloc (Nat.le_refl _) _

/-- Seal, its parts' length and their whole named. -/
theorem seal_n (A : Option Addr) (n c : Nat) (l : List (List UInt8)) (xs : List UInt8) (w : World) (hn : n = l.length) (hx : l.flatten = xs) (hr : Rds w A l) (hl : xs.length ≤ 140737488355000) :
    Calls Try.prog 16 #[.slice A n c] w fun e w' => ∃ A' c', e = .returned (.slice A' (sealB xs).length c') ∧ Sl w' A' c' (sealB xs) ∧ Own w' w.heap.size (.slice A' (sealB xs).length c') (sealB xs) ∧ Below w.heap.size w w' := by
  subst hn
  subst hx
  refine (seal_any A c l w hr hl).mono ?_
  rintro e w' ⟨v, rfl, HO, HB⟩
  obtain ⟨A', c', rfl, hs⟩ := HO.sl
  exact ⟨A', c', rfl, hs, HO, HB⟩
theorem of_n (A : Option Addr) (n c : Nat) (l : List (List UInt8)) (xs : List UInt8) (w : World) (hn : n = l.length) (hx : l.flatten = xs) (hr : Rds w A l) :
    Calls Try.prog 15 #[.slice A n c] w fun e w' => e = .returned (.int .u32 (u (sumB init xs))) ∧ w = w' := by
  subst hn
  subst hx
  exact of_any A c l w hr
theorem open_n (A : Option Addr) (n c : Nat) (xs : List UInt8) (w : World) (hn : n = xs.length) (hr : Sl w A c xs) (hl : xs.length ≤ 140737488355000) :
    Calls Try.prog 18 #[.slice A n c] w fun e w' => ∃ A' c', e = .returned (.tuple #[.slice A' (bodyB xs).length c', .bool (okB xs)]) ∧ Sl w' A' c' (bodyB xs) ∧ Own w' w.heap.size (.slice A' (bodyB xs).length c') (bodyB xs) ∧ Below w.heap.size w w' := by
  subst hn
  refine (open_any A c xs w hr hl).mono ?_
  rintro e w' ⟨v, rfl, HO, HB⟩
  obtain ⟨A', c', rfl, hs⟩ := HO.sl
  exact ⟨A', c', rfl, hs, HO, HB⟩
theorem alive_parts (w : World) : Rds (((w.alloc (.cells #[.int .u8 49, .int .u8 50, .int .u8 51, .int .u8 52] 5 (4, 5))).alloc (.cells #[.int .u8 53, .int .u8 54, .int .u8 55, .int .u8 56, .int .u8 57] 5 (5, 6))).alloc
    (.cells #[.slice (some ⟨w.heap.size, 0, Option.none⟩) 4 4, .slice Option.none 0 0, .slice (some ⟨w.heap.size + 1, 0, Option.none⟩) 5 5] 24)) (some ⟨w.heap.size + 2, 0, Option.none⟩) [[49, 50, 51, 52], [], [53, 54, 55, 56, 57]] := by
  have h1 := (Sl.lit w [49, 50, 51, 52] #[.int .u8 49, .int .u8 50, .int .u8 51, .int .u8 52] (4, 5) rfl (by decide) 4 rfl).below (alloc_below _ (.cells #[.int .u8 53, .int .u8 54, .int .u8 55, .int .u8 56, .int .u8 57] 5 (5, 6)))
  have h2 := Sl.lit (w.alloc (.cells #[.int .u8 49, .int .u8 50, .int .u8 51, .int .u8 52] 5 (4, 5))) [53, 54, 55, 56, 57] #[.int .u8 53, .int .u8 54, .int .u8 55, .int .u8 56, .int .u8 57] (5, 6) rfl (by decide) 5 rfl
  have h3 := Rds.lit (w := (w.alloc (.cells #[.int .u8 49, .int .u8 50, .int .u8 51, .int .u8 52] 5 (4, 5))).alloc (.cells #[.int .u8 53, .int .u8 54, .int .u8 55, .int .u8 56, .int .u8 57] 5 (5, 6)))
    [(some ⟨w.heap.size, 0, Option.none⟩, 4, [49, 50, 51, 52]), (Option.none, 0, []), (some ⟨w.heap.size + 1, 0, Option.none⟩, 5, [53, 54, 55, 56, 57])] (by simp)
    (by
      intro e he
      simp only [List.mem_cons, List.not_mem_nil, or_false] at he
      rcases he with rfl | rfl | rfl
      · exact h1
      · exact Sl.none _
      · simpa using h2)
    #[.slice (some ⟨w.heap.size, 0, Option.none⟩) 4 4, .slice Option.none 0 0, .slice (some ⟨w.heap.size + 1, 0, Option.none⟩) 5 5] rfl _ rfl
  simpa using h3
theorem alive_sum : sumB init [49, 50, 51, 52, 53, 54, 55, 56, 57] = 0x0376e6e7#32 := by decide +kernel
theorem alive_seal : sealB [] = [255, 255, 255, 255] := by decide +kernel

attribute [local go_sem] strB_list
set_option maxHeartbeats 2000000 in
theorem crcAlive_any (w : World) :
    Calls Try.prog 13 #[] w fun e w' => e = .returned (.bool true) ∧ Below w.heap.size w w' := by
  have a1 : (u (sumB init [49, 50, 51, 52, 53, 54, 55, 56, 57]) == 58124007) = true := by rw [alive_sum]; rfl
  have a2 : (sealB [] == [255, 255, 255, 255]) = true := by rw [alive_seal]; rfl
  have kc := conv_const
  have kc1 := conv_const1
  go_enter Try.func13, Try.ntmps13
  go_wp2_with (first
    | (go_at_call 15; refine (of_any _ _ _ _ (alive_parts w)).mono ?_; rintro e w1 ⟨rfl, rfl⟩)
    | (go_at_call 16; refine (seal_n _ _ _ [] [] _ rfl rfl (Rds.none _) (by simp)).mono ?_; rintro e w2 ⟨A2, c2, rfl, hs, _, HB⟩; have hcv := hs.rd.conv _ c2 rfl; have HB2 := Lib.hid HB; clear HB hs))
  go_ret
  exact ⟨rfl, (((alloc_below _ _).alloc (by simp) _).alloc (by simp; omega) _).trans (HB2.out.mono (by simp; omega))⟩
end Go.Proofs.Ytckfcnclekjjdaa
