/- LabelPuts: the plain law. -/
import Derived.Test.YthohdcnhnopafaaDoorArgLabelPuts
namespace Go.Proofs.YthohdcnhnopafaaDoor.PLabelPuts
open Go.RowKit Go.Proofs.YthohdcnhnopafaaDoorW.PrintWords Go.Proofs.YthohdcnhnopafaaDoorW.PrintLast Go.Proofs.YthohdcnhnopafaaDoorW.PrintMore
/-- Which of two numbers is lower. -/
def cmpI (a b : Int) : Int := if a < b then -1 else if b < a then 1 else 0
theorem compare_u32 (a b : Int) : cmp_Compare_uint32.f a b = some (cmpI a b) := by
  unfold cmp_Compare_uint32.f cmp_isNaN_uint32.f cmpI
  simp only [Option.bind_some, bne_self_eq_false, Bool.false_eq_true, if_false]
  by_cases h1 : a < b
  · simp [h1]
  · by_cases h2 : b < a
    · simp [h1, h2]
    · simp [h1, h2]
/-- The first of two that isn't nought. -/
def orI (x y : Int) : Int := if x = 0 then y else x
theorem or_two (k : Nat) (x y : Int) : cmp_Or_int.f (k + 3) [x, y] = some (orI x y) := by
  unfold cmp_Or_int.f orI
  by_cases hx : x = 0
  · subst hx
    by_cases hy : y = 0
    · subst hy; simp [cmp_Or_int.l0, rd, wrap64]
    · simp [cmp_Or_int.l0, rd, wrap64, hy]
  · simp [cmp_Or_int.l0, rd, wrap64, hx]
/-- Which of two labels is lower. -/
def cmpL (a0 a1 b0 b1 : Int) : Int := orI (cmpI a0 b0) (cmpI a1 b1)
theorem label_cmp (k : Nat) (a0 a1 b0 b1 : Int) : label_Compare.f (k + 3) a0 a1 b0 b1 = some (cmpL a0 a1 b0 b1) := by
  unfold label_Compare.f
  simp only [compare_u32, Option.bind_some, or_two]
  rfl
theorem cmpL_eq (a0 a1 b0 b1 : Int) : cmpL a0 a1 b0 b1 = if a0 < b0 then -1 else if b0 < a0 then 1 else if a1 < b1 then -1 else if b1 < a1 then 1 else 0 := by
  unfold cmpL orI cmpI
  split <;> split <;> (try split) <;> (try split) <;> omega
theorem text_26 : label_Text.f 2 6 = some ⟨#[50, 46, 54]⟩ := by decide +kernel
theorem text_30 : label_Text.f 3 0 = some ⟨#[51, 46, 48]⟩ := by decide +kernel
theorem chars_26 : ((⟨#[50, 46, 54]⟩ : ByteArray).toList = ([50, 46, 54] : List UInt8)) = True := eq_true (by decide +kernel)
theorem chars_30 : ((⟨#[51, 46, 48]⟩ : ByteArray).toList = ([51, 46, 48] : List UInt8)) = True := eq_true (by decide +kernel)
theorem next_25 : label_Next.f 2 5 = some (2, 6, 0) := by decide +kernel
theorem rise_25 : label_Rise.f 2 5 = some (3, 0, 0) := by decide +kernel
theorem alive (k : Nat) : understudylaw03_labelAlive.f (k + 3) = some true := by
  unfold understudylaw03_labelAlive.f
  simp only [next_25, rise_25, Option.bind_some, if_true, text_26, text_30, chars_26, chars_30, label_cmp]
  decide +kernel
/-- Can it be? -/
def rightL (a0 a1 : Int) : Bool := decide (a0 ≤ 1048576) && decide (a1 ≤ 1048576)
theorem label_right (a0 a1 : Int) : label_Right.f a0 a1 = some (rightL a0 a1) := by
  unfold label_Right.f rightL
  by_cases h : a0 ≤ 1048576 <;> simp [h]
def nextL (a0 a1 : Int) : Int × Int × Int := if rightL a0 a1 then (if a1 = 1048576 then (0, 0, 32) else (a0, a1 + 1, 0)) else (0, 0, 31)
theorem label_next (a0 a1 : Int) (h : 0 ≤ a1) : label_Next.f a0 a1 = some (nextL a0 a1) := by
  unfold label_Next.f nextL
  rw [label_right, Option.bind_some]
  by_cases hr : rightL a0 a1 = true
  · rw [if_pos hr, if_pos hr]
    by_cases h1 : a1 = 1048576
    · rw [if_pos h1, if_pos h1]
    · rw [if_neg h1, if_neg h1]
      have : a1 ≤ 1048576 := by unfold rightL at hr; simp at hr; omega
      rw [show (a1 + 1) % 4294967296 = a1 + 1 by omega]
  · rw [if_neg hr, if_neg hr]
def riseL (a0 a1 : Int) : Int × Int × Int := if rightL a0 a1 then (if a0 = 1048576 then (0, 0, 33) else (a0 + 1, 0, 0)) else (0, 0, 31)
theorem label_rise (a0 a1 : Int) (h : 0 ≤ a0) : label_Rise.f a0 a1 = some (riseL a0 a1) := by
  unfold label_Rise.f riseL
  rw [label_right, Option.bind_some]
  by_cases hr : rightL a0 a1 = true
  · rw [if_pos hr, if_pos hr]
    by_cases h1 : a0 = 1048576
    · rw [if_pos h1, if_pos h1]
    · rw [if_neg h1, if_neg h1]
      have : a0 ≤ 1048576 := by unfold rightL at hr; simp at hr; omega
      rw [show (a0 + 1) % 4294967296 = a0 + 1 by omega]
  · rw [if_neg hr, if_neg hr]
/-- The lowest W bytes of a number, the lowest first. -/
def leI : Nat → Int → List Int
  | 0, _ => []
  | k + 1, n => n % 256 :: leI k (n / 256)
theorem leI_length : ∀ (k : Nat) (n : Int), (leI k n).length = k
  | 0, _ => rfl
  | k + 1, n => by unfold leI; rw [List.length_cons, leI_length]
theorem flat_drop {α : Type} (f : α → List Int) (l : List α) (i : Nat) (h : i < l.length) : ((l.drop i).map f).flatten = f l[i] ++ ((l.drop (i + 1)).map f).flatten := by
  rw [List.drop_eq_getElem_cons h]; rfl
def packI (W : Nat) (l : List Int) : List Int := (l.map fun n => leI W n).flatten
theorem packI_length (W : Nat) (l : List Int) : (packI W l).length = W * l.length := by
  unfold packI
  induction l with
  | nil => simp
  | cons n l ih => simp only [List.map_cons, List.flatten_cons, List.length_append, leI_length, ih, List.length_cons]; rw [Nat.mul_add, Nat.mul_one, Nat.add_comm]
theorem bitLenAux_le : ∀ (f x k : Nat), x < 2 ^ f → (Lib.bitLenAux f x ≤ k ↔ x < 2 ^ k)
  | 0, x, k, h => by
    have : x = 0 := by simpa using h
    subst this
    simp [Lib.bitLenAux, Nat.two_pow_pos]
  | f + 1, x, k, h => by
    unfold Lib.bitLenAux
    split
    · rename_i h0; subst h0; simp [Nat.two_pow_pos]
    · rename_i h0
      cases k with
      | zero => simp; omega
      | succ k =>
        have := bitLenAux_le f (x / 2) k (by rw [Nat.pow_succ] at h; omega)
        rw [Nat.pow_succ]
        omega
theorem bitLen_le {n : Nat} (h : n < 2 ^ 64) (k : Nat) : Lib.bitLen n ≤ k ↔ n < 2 ^ k := bitLenAux_le 64 n k h
theorem u64_keep {n : Int} (h0 : 0 ≤ n) (h1 : n ≤ 18446744073709551615) : IntKind.u64.wrap n = n := by
  simp [IntKind.wrap, IntKind.signed, IntKind.bits]; omega
theorem pow_cast (W : Nat) : (256 : Int) ^ W = ((256 ^ W : Nat) : Int) := by rw [Int.natCast_pow]; rfl
theorem pow_max (W : Nat) (h : W ≤ 8) : (256 : Int) ^ W ≤ 18446744073709551616 := by
  rw [pow_cast]
  have h1 : 256 ^ W ≤ 256 ^ 8 := Nat.pow_le_pow_right (by decide) h
  have h2 : 256 ^ 8 = 18446744073709551616 := by decide
  rw [h2] at h1
  omega
theorem fit_len (W : Nat) (n : Int) (h0 : 0 ≤ n) (h : n < 256 ^ W) (hW : W ≤ 8) : Lib.bitLen n.toNat ≤ 8 * W := by
  have h2 := pow_max W hW
  rw [bitLen_le (by omega), Nat.pow_mul]
  show n.toNat < 256 ^ W
  rw [pow_cast] at h
  omega
/-- Put's inner loop: one number's bytes. -/
theorem put_l1 (W : Nat) (hW : W ≤ 8) (l : List Int) (b0 : List Int) (i : Int) (r : List Int × Int) (d : Nat) : ∀ (b : List Int) (n : Int) (q : Nat), q ≤ W → W - q = d → 0 ≤ n → n ≤ 18446744073709551615 → b.length + d ≤ 1000000 → b ++ leI d n = b0 →
    (∃ K, ∀ k, K ≤ k → ends_Put.l0 k (W : Int) b0 l (l.length : Int) (wrap64 (i + 1)) = some r) →
    ∃ K, ∀ k, K ≤ k → ends_Put.l1 k (W : Int) b n l (l.length : Int) i (W : Int) (q : Int) = some r := by
  induction d with
  | zero =>
    rintro b n q hq hd h0 h1 hb he ⟨K, hK⟩
    refine ⟨K + 1, fun k hk => ?_⟩
    obtain ⟨k, rfl⟩ : ∃ m, k = m + 1 := ⟨k - 1, by omega⟩
    have e : ¬ ((q : Int) < (W : Int)) := by omega
    simp only [ends_Put.l1]
    rw [if_neg e]
    have : b = b0 := by rw [← he]; simp [leI]
    rw [this]
    exact hK k (by omega)
  | succ d ih =>
    rintro b n q hq hd h0 h1 hb he hK
    have e : (q : Int) < (W : Int) := by omega
    obtain ⟨K, hK'⟩ := ih (b ++ [n % 256]) (n / 256) (q + 1) (by omega) (by omega) (by omega) (by omega) (by rw [List.length_append, List.length_singleton]; omega) (by rw [← he, List.append_assoc]; rfl) hK
    refine ⟨K + 1, fun k hk => ?_⟩
    obtain ⟨k, rfl⟩ : ∃ m, k = m + 1 := ⟨k - 1, by omega⟩
    simp only [ends_Put.l1]
    rw [if_pos e, if_pos (by omega), show wrap64 ((q : Int) + 1) = ((q + 1 : Nat) : Int) by unfold wrap64; omega]
    exact hK' k (by omega)
theorem len_f (n : Int) (h0 : 0 ≤ n) (h1 : n ≤ 18446744073709551615) : bits_Len64.f n = some ((Lib.bitLen n.toNat : Nat) : Int) := by
  unfold bits_Len64.f; rw [if_pos ⟨h0, h1⟩]
theorem put_l0_step (k W i : Nat) (b l : List Int) (hlt : i < l.length) (hW : W ≤ 8) (t : Nat) (ht : t ≤ 8 * W) (n : Int) (hn : l[i] = n) (hlen : bits_Len64.f n = some (t : Int)) :
    ends_Put.l0 (k + 1) (W : Int) b l (l.length : Int) (i : Int) = ends_Put.l1 k (W : Int) b n l (l.length : Int) (i : Int) (W : Int) 0 := by
  have e : (i : Int) < (l.length : Int) := by omega
  have hrd : rd l (i : Int) = n := by unfold rd; rw [List.getD_eq_getElem?_getD, Int.toNat_natCast, List.getElem?_eq_getElem hlt, hn]; rfl
  have hw : wrap64 (8 * (W : Int)) = 8 * (W : Int) := by unfold wrap64; omega
  simp only [ends_Put.l0]
  have hno : ¬ ((t : Int) > 8 * (W : Int)) := by omega
  rw [if_pos e, if_pos (by omega), if_pos e, hrd, hlen, Option.bind_some, hw]
  exact if_neg hno
/-- Put's outer loop: all numbers fit. -/
theorem put_l0 (W : Nat) (hW : W ≤ 8) (l : List Int) (hl : ∀ n ∈ l, 0 ≤ n ∧ n < 256 ^ W) (d : Nat) : ∀ (b : List Int) (i : Nat), i ≤ l.length → l.length - i = d → b.length + W * d ≤ 1000000 → l.length ≤ 1000000 →
    ∃ K, ∀ k, K ≤ k → ends_Put.l0 k (W : Int) b l (l.length : Int) (i : Int) = some (b ++ packI W (l.drop i), 0) := by
  induction d with
  | zero =>
    intro b i hi hd hb hll
    refine ⟨1, fun k hk => ?_⟩
    obtain ⟨k, rfl⟩ : ∃ m, k = m + 1 := ⟨k - 1, by omega⟩
    have e : ¬ ((i : Int) < (l.length : Int)) := by omega
    simp only [ends_Put.l0]
    rw [if_neg e, List.drop_eq_nil_of_le (by omega)]; simp [packI]
  | succ d ih =>
    intro b i hi hd hb hll
    have hlt : i < l.length := by omega
    have e : (i : Int) < (l.length : Int) := by omega
    obtain ⟨n0, n1⟩ := hl l[i] (List.getElem_mem hlt)
    have hmul : W * (d + 1) = W * d + W := by rw [Nat.mul_add, Nat.mul_one]
    have hnext := ih (b ++ leI W l[i]) (i + 1) (by omega) (by omega) (by rw [List.length_append, leI_length]; omega) hll
    have hwr : (((i + 1 : Nat) : Int)) = wrap64 ((i : Int) + 1) := by unfold wrap64; omega
    rw [hwr] at hnext
    have hmax := pow_max W hW
    have hn2 : l[i] ≤ 18446744073709551615 := Int.le_of_lt_add_one (Int.lt_of_lt_of_le n1 hmax)
    obtain ⟨K, hK⟩ := put_l1 W hW l (b ++ leI W l[i]) (i : Int) _ W b l[i] 0 (Nat.zero_le _) (Nat.sub_zero _) n0 hn2 (by omega) rfl hnext
    refine ⟨K + 1, fun k hk => ?_⟩
    obtain ⟨k, rfl⟩ : ∃ m, k = m + 1 := ⟨k - 1, by omega⟩
    rw [put_l0_step k W i b l hlt hW _ (fit_len W l[i] n0 n1 hW) _ rfl (len_f _ n0 hn2)]
    refine (hK k (by omega)).trans ?_
    unfold packI
    rw [flat_drop _ l i hlt, List.append_assoc]
theorem ends_put (W : Nat) (hW : W = 1 ∨ W = 2 ∨ W = 4 ∨ W = 8) (b l : List Int) (hl : ∀ n ∈ l, 0 ≤ n ∧ n < 256 ^ W) (hb : b.length + W * l.length ≤ 1000000) :
    ∃ K, ∀ k, K ≤ k → ends_Put.f k b (W : Int) l = some (b ++ packI W l, 0) := by
  have hll : l.length ≤ 1000000 := by rcases hW with rfl | rfl | rfl | rfl <;> omega
  obtain ⟨K, hK⟩ := put_l0 W (by omega) l hl l.length b 0 (by omega) (by omega) hb hll
  refine ⟨K, fun k hk => ?_⟩
  unfold ends_Put.f ends_right.f
  have hr : wideB (W : Int) = true := by rcases hW with rfl | rfl | rfl | rfl <;> decide
  rw [hr]
  simp only [Option.bind_some, if_true]
  rw [show slices_Clone_byte_byte.f b = some b by unfold slices_Clone_byte_byte.f; rw [if_pos (by omega)]]
  simp only [Option.bind_some]
  have := hK k hk
  rwa [show (((0 : Nat)) : Int) = 0 from rfl, List.drop_zero] at this
/-- The document's bytes of a number. -/
theorem ref_bytes_loop (W : Nat) (hW : W ≤ 8) (d : Nat) : ∀ (n : Int) (out : List Int), 0 ≤ n → n ≤ 18446744073709551615 → out.length + d = W →
    ∃ K, ∀ k, K ≤ k → understudyref01_Bytes.l0 k n (W : Int) out = some (out ++ leI d n, decide (n / 256 ^ d = 0)) := by
  induction d with
  | zero =>
    intro n out h0 h1 ho
    refine ⟨1, fun k hk => ?_⟩
    obtain ⟨k, rfl⟩ : ∃ m, k = m + 1 := ⟨k - 1, by omega⟩
    have e : ¬ ((out.length : Int) < (W : Int)) := by omega
    simp only [understudyref01_Bytes.l0]
    rw [if_neg e]
    simp only [leI, List.append_nil, Int.pow_zero, Int.ediv_one]
    congr 2
  | succ d ih =>
    intro n out h0 h1 ho
    have e : (out.length : Int) < (W : Int) := by omega
    obtain ⟨K, hK⟩ := ih (n / 256) (out ++ [n % 256]) (by omega) (by omega) (by rw [List.length_append, List.length_singleton]; omega)
    refine ⟨K + 1, fun k hk => ?_⟩
    obtain ⟨k, rfl⟩ : ∃ m, k = m + 1 := ⟨k - 1, by omega⟩
    simp only [understudyref01_Bytes.l0]
    have hm : Int.tmod n 256 % 256 = n % 256 := by rw [Int.tmod_eq_emod_of_nonneg h0]; omega
    have hd : IntKind.u64.wrap (Int.tdiv n 256) = n / 256 := by rw [Int.tdiv_eq_ediv_of_nonneg h0]; exact u64_keep (by omega) (by omega)
    rw [if_pos e, if_pos (by omega), hm, hd, hK k (by omega), List.append_assoc, Int.ediv_ediv_of_nonneg (by decide), Int.pow_succ, Int.mul_comm]
    rfl
theorem ref_bytes (W : Nat) (hW : W ≤ 8) (n : Int) (h0 : 0 ≤ n) (h1 : n ≤ 18446744073709551615) : ∃ K, ∀ k, K ≤ k → understudyref01_Bytes.f k n (W : Int) = some (leI W n, decide (n / 256 ^ W = 0)) := by
  obtain ⟨K, hK⟩ := ref_bytes_loop W hW W n [] h0 h1 (by simp)
  exact ⟨K, fun k hk => by unfold understudyref01_Bytes.f; rw [hK k hk]; rfl⟩
def fieldsI (l : List (S55)) : List Int := (l.map fun x => leI x.f0.toNat x.f1).flatten
theorem fields_loop (l : List (S55)) (hl : ∀ x ∈ l, 0 ≤ x.f0 ∧ x.f0 ≤ 8 ∧ 0 ≤ x.f1 ∧ x.f1 ≤ 18446744073709551615) (hll : l.length ≤ 1000) (d : Nat) : ∀ (out : List Int) (i : Nat), i ≤ l.length → l.length - i = d → out.length + 8 * d ≤ 1000000 →
    ∃ K, ∀ k, K ≤ k → understudyref01_Fields.l0 k out l (l.length : Int) (i : Int) = some (out ++ fieldsI (l.drop i)) := by
  induction d with
  | zero =>
    intro out i hi hd ho
    refine ⟨1, fun k hk => ?_⟩
    obtain ⟨k, rfl⟩ : ∃ m, k = m + 1 := ⟨k - 1, by omega⟩
    have e : ¬ ((i : Int) < (l.length : Int)) := by omega
    simp only [understudyref01_Fields.l0]
    rw [if_neg e, List.drop_eq_nil_of_le (by omega)]; simp [fieldsI]
  | succ d ih =>
    intro out i hi hd ho
    have hlt : i < l.length := by omega
    have e : (i : Int) < (l.length : Int) := by omega
    have hrd : rd_T55 l (i : Int) = l[i] := by unfold rd_T55; rw [List.getD_eq_getElem?_getD, Int.toNat_natCast, List.getElem?_eq_getElem hlt]; rfl
    obtain ⟨a0, a1, a2, a3⟩ := hl l[i] (List.getElem_mem hlt)
    obtain ⟨W, hW⟩ := Int.eq_ofNat_of_zero_le a0
    obtain ⟨K1, hK1⟩ := ref_bytes W (by omega) l[i].f1 a2 a3
    obtain ⟨K2, hK2⟩ := ih (out ++ leI W l[i].f1) (i + 1) (by omega) (by omega) (by rw [List.length_append, leI_length]; omega)
    refine ⟨K1 + K2 + 1, fun k hk => ?_⟩
    obtain ⟨k, rfl⟩ : ∃ m, k = m + 1 := ⟨k - 1, by omega⟩
    simp only [understudyref01_Fields.l0]
    rw [if_pos e, if_pos (by omega), if_pos e, hrd, hW, show wrap64 ((W : Nat) : Int) = (W : Int) by unfold wrap64; omega, hK1 k (by omega)]
    simp only [Option.bind_some]
    rw [if_pos (by rw [leI_length]; omega), show wrap64 ((i : Int) + 1) = ((i + 1 : Nat) : Int) by unfold wrap64; omega, hK2 k (by omega)]
    unfold fieldsI
    rw [flat_drop _ l i hlt, List.append_assoc, hW]; rfl
theorem ref_fields (l : List (S55)) (hl : ∀ x ∈ l, 0 ≤ x.f0 ∧ x.f0 ≤ 8 ∧ 0 ≤ x.f1 ∧ x.f1 ≤ 18446744073709551615) (hll : l.length ≤ 1000) : ∃ K, ∀ k, K ≤ k → understudyref01_Fields.f k l = some (fieldsI l) := by
  obtain ⟨K, hK⟩ := fields_loop l hl hll l.length [] 0 (by omega) (by omega) (by simp; omega)
  exact ⟨K, fun k hk => by unfold understudyref01_Fields.f; have := hK k hk; rwa [show (((0 : Nat)) : Int) = 0 from rfl, List.drop_zero, List.nil_append] at this⟩
/-- Labels as bytes. -/
def labelsI (l : List (S24)) : List Int := (l.map fun x => leI 4 x.f0 ++ leI 4 x.f1).flatten
theorem label_put_loop (l : List (S24)) (hl : ∀ x ∈ l, G24 x) (hll : l.length ≤ 100) (d : Nat) : ∀ (b : List Int) (i : Nat), i ≤ l.length → l.length - i = d → b.length + 8 * d ≤ 100000 →
    ∃ K, ∀ k, K ≤ k → label_Put.l0 k b l (l.length : Int) (i : Int) = some (b ++ labelsI (l.drop i)) := by
  induction d with
  | zero =>
    intro b i hi hd hb
    refine ⟨1, fun k hk => ?_⟩
    obtain ⟨k, rfl⟩ : ∃ m, k = m + 1 := ⟨k - 1, by omega⟩
    have e : ¬ ((i : Int) < (l.length : Int)) := by omega
    simp only [label_Put.l0]
    rw [if_neg e, List.drop_eq_nil_of_le (by omega)]; simp [labelsI]
  | succ d ih =>
    intro b i hi hd hb
    have hlt : i < l.length := by omega
    have e : (i : Int) < (l.length : Int) := by omega
    have hrd : rd_T24 l (i : Int) = l[i] := by unfold rd_T24; rw [List.getD_eq_getElem?_getD, Int.toNat_natCast, List.getElem?_eq_getElem hlt]; rfl
    obtain ⟨⟨a0, a1⟩, a2, a3⟩ := hl l[i] (List.getElem_mem hlt)
    obtain ⟨K1, hK1⟩ := ends_put 4 (by omega) b [l[i].f0, l[i].f1] (by
      intro n hn
      simp only [List.mem_cons, List.not_mem_nil, or_false] at hn
      rcases hn with rfl | rfl
      · exact ⟨a0, by show _ < (4294967296 : Int); omega⟩
      · exact ⟨a2, by show _ < (4294967296 : Int); omega⟩) (by simp; omega)
    have hp : packI 4 [l[i].f0, l[i].f1] = leI 4 l[i].f0 ++ leI 4 l[i].f1 := by simp [packI]
    rw [hp] at hK1
    obtain ⟨K2, hK2⟩ := ih (b ++ (leI 4 l[i].f0 ++ leI 4 l[i].f1)) (i + 1) (by omega) (by omega) (by rw [List.length_append, List.length_append, leI_length, leI_length]; omega)
    refine ⟨K1 + K2 + 1, fun k hk => ?_⟩
    obtain ⟨k, rfl⟩ : ∃ m, k = m + 1 := ⟨k - 1, by omega⟩
    simp only [label_Put.l0]
    rw [if_pos e, if_pos (by omega), if_pos e, hrd, u64_keep a0 (by omega), u64_keep a2 (by omega)]
    rw [show ((4 : Int)) = ((4 : Nat) : Int) from rfl, hK1 k (by omega)]
    simp only [Option.bind_some]
    rw [show wrap64 ((i : Int) + 1) = ((i + 1 : Nat) : Int) by unfold wrap64; omega, hK2 k (by omega)]
    unfold labelsI
    rw [flat_drop _ l i hlt, List.append_assoc]
theorem label_put (b : List Int) (l : List (S24)) (hl : ∀ x ∈ l, G24 x) (hll : l.length ≤ 100) (hb : b.length ≤ 90000) : ∃ K, ∀ k, K ≤ k → label_Put.f k b l = some (b ++ labelsI l) := by
  obtain ⟨K, hK⟩ := label_put_loop l hl hll l.length b 0 (by omega) (by omega) (by omega)
  refine ⟨K, fun k hk => ?_⟩
  unfold label_Put.f
  rw [show slices_Clone_byte_byte.f b = some b by unfold slices_Clone_byte_byte.f; rw [if_pos (by omega)]]
  simp only [Option.bind_some]
  have := hK k hk
  rwa [show (((0 : Nat)) : Int) = 0 from rfl, List.drop_zero] at this
theorem ref_put_loop (l : List (S24)) (hl : ∀ x ∈ l, G24 x) (hll : l.length ≤ 100) (d : Nat) : ∀ (b : List Int) (i : Nat), i ≤ l.length → l.length - i = d → b.length + 8 * d ≤ 100000 →
    ∃ K, ∀ k, K ≤ k → understudyref03_Put.l0 k b l (l.length : Int) (i : Int) = some (b ++ labelsI (l.drop i)) := by
  induction d with
  | zero =>
    intro b i hi hd hb
    refine ⟨1, fun k hk => ?_⟩
    obtain ⟨k, rfl⟩ : ∃ m, k = m + 1 := ⟨k - 1, by omega⟩
    have e : ¬ ((i : Int) < (l.length : Int)) := by omega
    simp only [understudyref03_Put.l0]
    rw [if_neg e, List.drop_eq_nil_of_le (by omega)]; simp [labelsI]
  | succ d ih =>
    intro b i hi hd hb
    have hlt : i < l.length := by omega
    have e : (i : Int) < (l.length : Int) := by omega
    have hrd : rd_T24 l (i : Int) = l[i] := by unfold rd_T24; rw [List.getD_eq_getElem?_getD, Int.toNat_natCast, List.getElem?_eq_getElem hlt]; rfl
    obtain ⟨⟨a0, a1⟩, a2, a3⟩ := hl l[i] (List.getElem_mem hlt)
    obtain ⟨K1, hK1⟩ := ref_fields [⟨4, l[i].f0⟩, ⟨4, l[i].f1⟩] (by
      intro x hx
      simp only [List.mem_cons, List.not_mem_nil, or_false] at hx
      rcases hx with rfl | rfl
      · exact ⟨by show (0 : Int) ≤ 4; decide, by show (4 : Int) ≤ 8; decide, a0, by show l[i].f0 ≤ _; omega⟩
      · exact ⟨by show (0 : Int) ≤ 4; decide, by show (4 : Int) ≤ 8; decide, a2, by show l[i].f1 ≤ _; omega⟩) (by simp)
    have hp : fieldsI [⟨4, l[i].f0⟩, ⟨4, l[i].f1⟩] = leI 4 l[i].f0 ++ leI 4 l[i].f1 := by simp [fieldsI]
    rw [hp] at hK1
    obtain ⟨K2, hK2⟩ := ih (b ++ (leI 4 l[i].f0 ++ leI 4 l[i].f1)) (i + 1) (by omega) (by omega) (by rw [List.length_append, List.length_append, leI_length, leI_length]; omega)
    refine ⟨K1 + K2 + 1, fun k hk => ?_⟩
    obtain ⟨k, rfl⟩ : ∃ m, k = m + 1 := ⟨k - 1, by omega⟩
    simp only [understudyref03_Put.l0]
    rw [if_pos e, if_pos (by omega), if_pos e, hrd, u64_keep a0 (by omega), u64_keep a2 (by omega), hK1 k (by omega)]
    simp only [Option.bind_some]
    rw [if_pos (by rw [List.length_append, leI_length, leI_length]; omega), show wrap64 ((i : Int) + 1) = ((i + 1 : Nat) : Int) by unfold wrap64; omega, hK2 k (by omega)]
    unfold labelsI
    rw [flat_drop _ l i hlt, List.append_assoc]
theorem ref_put (b : List Int) (l : List (S24)) (hl : ∀ x ∈ l, G24 x) (hll : l.length ≤ 100) (hb : b.length ≤ 90000) : ∃ K, ∀ k, K ≤ k → understudyref03_Put.f k b l = some (b ++ labelsI l) := by
  obtain ⟨K, hK⟩ := ref_put_loop l hl hll l.length b 0 (by omega) (by omega) (by omega)
  refine ⟨K, fun k hk => ?_⟩
  unfold understudyref03_Put.f
  simp only [Option.bind_some, List.nil_append]
  rw [if_pos (by simp; omega)]
  have := hK k hk
  rwa [show (((0 : Nat)) : Int) = 0 from rfl, List.drop_zero] at this
theorem pure_law (y0 : List Int) (_g0 : (y0.length ≤ 9223372036854775807 ∧ ∀ z1 ∈ y0, (0 ≤ z1 ∧ z1 ≤ 255))) (y1 : List (S24)) (g1 : (y1.length ≤ 9223372036854775807 ∧ ∀ z1 ∈ y1, G24 z1)) : ∃ k, understudylaw03_LabelPuts.f k y0 y1 = some true := by
  by_cases h1 : (y0.length : Int) > 200
  · refine ⟨5, ?_⟩
    unfold understudylaw03_LabelPuts.f
    rw [show understudylaw03_labelAlive.f 5 = some true from alive 2]
    simp only [Option.bind_some, if_true]
    rw [if_pos h1]; simp [understudylaw03_LabelPuts.j0]
  · by_cases h2 : (y1.length : Int) > 100
    · refine ⟨5, ?_⟩
      unfold understudylaw03_LabelPuts.f
      rw [show understudylaw03_labelAlive.f 5 = some true from alive 2]
      simp only [Option.bind_some, if_true]
      rw [if_neg h1, decide_eq_true h2]; simp [understudylaw03_LabelPuts.j0]
    · obtain ⟨K1, hK1⟩ := label_put y0 y1 g1.2 (by omega) (by omega)
      obtain ⟨K2, hK2⟩ := ref_put y0 y1 g1.2 (by omega) (by omega)
      refine ⟨(K1 + K2) + 3 + 1, ?_⟩
      unfold understudylaw03_LabelPuts.f
      rw [show understudylaw03_labelAlive.f (K1 + K2 + 3 + 1) = some true from alive (K1 + K2 + 1)]
      simp only [Option.bind_some, if_true]
      rw [if_neg h1, decide_eq_false h2]
      have e1 := hK1 (K1 + K2 + 3) (by omega)
      have e2 := hK2 (K1 + K2 + 3) (by omega)
      generalize K1 + K2 + 3 = k at *
      simp only [understudylaw03_LabelPuts.j0, Bool.false_eq_true, if_false, Option.bind_some, List.nil_append]
      rw [if_pos (by simp; omega), e1]
      simp only [Option.bind_some]
      rw [e2]
      simp
end Go.Proofs.YthohdcnhnopafaaDoor.PLabelPuts
