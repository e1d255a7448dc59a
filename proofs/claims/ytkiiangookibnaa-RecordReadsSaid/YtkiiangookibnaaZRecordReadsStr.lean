/- string(b); literals of bytes. -/
import Derived.Test.YtkiiangookibnaaZRecordReadsBase
import Derived.Lib.SlBytesConst
namespace Go.Proofs.Ytkiiangookibnaa
open Go.RowKit Go.Proofs.YtkiiangookibnaaW.PrintWords
def strB (xs : List UInt8) : ByteArray := ⟨xs.toArray⟩
theorem bytes_toList (a : Array UInt8) : (⟨a⟩ : ByteArray).toList = a.toList := by
  have hl : ∀ (n i : Nat) (r : List UInt8), a.size - i = n → i ≤ a.size → ByteArray.toList.loop ⟨a⟩ i r = r.reverse ++ a.toList.drop i := by
    intro n
    induction n with
    | zero =>
      intro i r h hi
      have hi2 : i = a.size := by omega
      subst hi2
      unfold ByteArray.toList.loop
      rw [if_neg (by show ¬ a.size < a.size; omega)]
      simp
    | succ n ih =>
      intro i r h hi
      have hlt : i < a.size := by omega
      unfold ByteArray.toList.loop
      rw [if_pos (by show i < a.size; exact hlt), ih (i + 1) _ (by omega) (by omega)]
      have hg : (⟨a⟩ : ByteArray).get! i = a[i] := by
        show a[i]! = a[i]
        simp [hlt]
      rw [hg, List.reverse_cons, List.append_assoc]
      congr 1
      have hd : a.toList.drop i = a[i] :: a.toList.drop (i + 1) := by
        rw [List.drop_eq_getElem_cons (by simpa using hlt)]; simp
      rw [hd]; rfl
  have := hl a.size 0 [] (by omega) (by omega)
  rw [List.reverse_nil, List.nil_append, List.drop_zero] at this
  exact this
theorem strB_list (xs : List UInt8) : (strB xs).toList = xs := by
  unfold strB; rw [bytes_toList]
theorem strB_nums (xs : List UInt8) : strOfNums (xs.map bv) = strB xs := by
  unfold strOfNums strB
  congr 1
  rw [List.map_map]
  congr 1
  have : ∀ l : List UInt8, List.map ((fun n => UInt8.ofNat (Int.toNat n)) ∘ bv) l = l := by
    intro l
    induction l with
    | nil => rfl
    | cons c l ih =>
      rw [List.map_cons, ih]
      congr 1
      show UInt8.ofNat (bv c).toNat = c
      unfold bv
      rw [Int.toNat_natCast]
      exact UInt8.ofNat_toNat
  exact this xs
theorem Rd.ints {w : World} {A : Option Addr} {xs : List UInt8} (h : Rd w A xs) : ReadsInt w .u8 A xs.length (xs.map bv) := by
  refine ⟨by simp, h.2.1, fun hn => ?_⟩
  obtain ⟨ad, e, _⟩ := h.2.2 hn
  refine ⟨ad, e, fun j hj => ?_⟩
  obtain ⟨ad', e', hc⟩ := h.at j hj
  rw [e] at e'
  injection e' with e'
  subst e'
  rw [hc]; simp [List.getD_eq_getElem?_getD, hj]
theorem Rd.conv {w : World} {A : Option Addr} {xs : List UInt8} (h : Rd w A xs) (n c : Nat) (hn : n = xs.length) : (convert 22 9 (.slice A n c)).run Try.prog w = .ok (.string (strB xs)) w := by
  subst hn
  rw [string_of_reads Try.underlying22 Try.underlying5 Try.underlying9 h.ints, strB_nums]
theorem Sl.none (w : World) : Sl w none 0 [] := ⟨⟨rfl, by simp, fun h => absurd h (by simp)⟩, by simp, fun _ => rfl⟩
theorem Sl.lit (w : World) (cs : List UInt8) (cur : Array Value) (fr : Nat × Nat) (hc : cur = (cs.map fun c => .int .u8 (bv c)).toArray) (hm : cs.length ≤ maxLen) (n : Nat) (hn : n = cs.length) : Sl (w.alloc (.cells cur 5 fr)) (some ⟨w.heap.size, 0, Option.none⟩) n cs := by
  subst hn
  subst hc
  refine ⟨⟨rfl, hm, fun _ => ⟨_, rfl, fun j p hj => ⟨[.int .u8 (bv p)], rfl, rfl, fun i u hu => ?_⟩⟩⟩, Nat.le_refl _, fun h => by cases h⟩
  match i, hu with
  | 0, hu =>
    obtain rfl : _ = u := by simpa using hu
    have hn := World.news_of_block (cs := (cs.map fun c => Value.int .u8 (bv c)).toArray) (t := 5) (fr := fr) (heap_alloc_new w (.cells (cs.map fun c => Value.int .u8 (bv c)).toArray 5 fr))
    have := hn j (.int .u8 (bv p)) (by simp [hj])
    simpa [kByte, Kd.scalar] using this
end Go.Proofs.Ytkiiangookibnaa
