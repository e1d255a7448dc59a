/- string(b); literals of bytes. -/
import Derived.Test.YtenlkobjldhfgaaZRootRunsBase
import Derived.Lib.SlBytesConst
namespace Go.Proofs.Ytenlkobjldhfgaa
open Go.RowKit Go.Proofs.YtenlkobjldhfgaaW.PrintWords
def strB (xs : List UInt8) : ByteArray := ⟨xs.toArray⟩
theorem strB_nums (xs : List UInt8) : strOfNums (xs.map bv) = strB xs := by
 unfold strOfNums strB
 congr 1
 rw [List.map_map]
 congr 1
 have : ∀ l : List UInt8, List.map ((fun n => UInt8.ofNat (Int.toNat n)) ∘ bv) l = l := by
  intro l
  induction l with
  | nil => rfl
  | cons c l ih =>
   rw [List.map_cons, ih]
   congr 1
   show UInt8.ofNat (bv c).toNat = c
   unfold bv
   rw [Int.toNat_natCast]
   exact UInt8.ofNat_toNat
 exact this xs
theorem Rd.ints {w : World} {A : Option Addr} {xs : List UInt8} (h : Rd w A xs) : ReadsInt w .u8 A xs.length (xs.map bv) := by
 refine ⟨by simp, h.2.1, fun hn => ?_⟩
 obtain ⟨ad, e, _⟩ := h.2.2 hn
 refine ⟨ad, e, fun j hj => ?_⟩
 obtain ⟨ad', e', hc⟩ := h.at j hj
 rw [e] at e'
 injection e' with e'
 subst e'
 rw [hc]; simp [List.getD_eq_getElem?_getD, hj]
theorem Rd.conv {w : World} {A : Option Addr} {xs : List UInt8} (h : Rd w A xs) (n c : Nat) (hn : n = xs.length) : (convert 24 9 (.slice A n c)).run Try.prog w = .ok (.string (strB xs)) w := by
 subst hn
 rw [string_of_reads Try.underlying24 Try.underlying5 Try.underlying9 h.ints, strB_nums]
theorem Sl.none (w : World) : Sl w none 0 [] := ⟨⟨rfl, by simp, fun h => absurd h (by simp)⟩, by simp, fun _ => rfl⟩
theorem Sl.lit (w : World) (cs : List UInt8) (cur : Array Value) (fr : Nat × Nat) (hc : cur = (cs.map fun c => .int .u8 (bv c)).toArray) (hm : cs.length ≤ maxLen) (n : Nat) (hn : n = cs.length) : Sl (w.alloc (.cells cur 5 fr)) (some ⟨w.heap.size, 0, Option.none⟩) n cs := by
 subst hn
 subst hc
 refine ⟨⟨rfl, hm, fun _ => ⟨_, rfl, fun j p hj => ⟨[.int .u8 (bv p)], rfl, rfl, fun i u hu => ?_⟩⟩⟩, Nat.le_refl _, fun h => by cases h⟩
 match i, hu with
 | 0, hu =>
  obtain rfl : _ = u := by simpa using hu
  have hn := World.news_of_block (cs := (cs.map fun c => Value.int .u8 (bv c)).toArray) (t := 5) (fr := fr) (heap_alloc_new w (.cells (cs.map fun c => Value.int .u8 (bv c)).toArray 5 fr))
  have := hn j (.int .u8 (bv p)) (by simp [hj])
  simpa [kByte, Kd.scalar] using this
end Go.Proofs.Ytenlkobjldhfgaa
