/- RecordApart: the plain law. -/
import Derived.Test.YtkiiangookibnaaArgRecordApart
import Derived.Laws.BitsAllLaws
import Derived.Lib.Bytes
namespace Go.Proofs.Ytkiiangookibnaa.PRecordApart
open Go.RowKit Go.Proofs.YtkiiangookibnaaW.PrintWords Go.Proofs.YtkiiangookibnaaW.PrintLast Go.Proofs.YtkiiangookibnaaW.PrintMore
/-- The lowest W bytes of a number, the lowest first. -/
def leI : Nat → Int → List Int
  | 0, _ => []
  | k + 1, n => n % 256 :: leI k (n / 256)
theorem leI_length : ∀ (k : Nat) (n : Int), (leI k n).length = k
  | 0, _ => rfl
  | k + 1, n => by unfold leI; rw [List.length_cons, leI_length]
theorem flat_drop {α : Type} (f : α → List Int) (l : List α) (i : Nat) (h : i < l.length) : ((l.drop i).map f).flatten = f l[i] ++ ((l.drop (i + 1)).map f).flatten := by
  rw [List.drop_eq_getElem_cons h]; rfl
def packI (W : Nat) (l : List Int) : List Int := (l.map fun n => leI W n).flatten
theorem packI_length (W : Nat) (l : List Int) : (packI W l).length = W * l.length := by
  unfold packI
  induction l with
  | nil => simp
  | cons n l ih => simp only [List.map_cons, List.flatten_cons, List.length_append, leI_length, ih, List.length_cons]; rw [Nat.mul_add, Nat.mul_one, Nat.add_comm]
theorem bitLenAux_le : ∀ (f x k : Nat), x < 2 ^ f → (Lib.bitLenAux f x ≤ k ↔ x < 2 ^ k)
  | 0, x, k, h => by
    have : x = 0 := by simpa using h
    subst this
    simp [Lib.bitLenAux, Nat.two_pow_pos]
  | f + 1, x, k, h => by
    unfold Lib.bitLenAux
    split
    · rename_i h0; subst h0; simp [Nat.two_pow_pos]
    · rename_i h0
      cases k with
      | zero => simp; omega
      | succ k =>
        have := bitLenAux_le f (x / 2) k (by rw [Nat.pow_succ] at h; omega)
        rw [Nat.pow_succ]
        omega
theorem bitLen_le {n : Nat} (h : n < 2 ^ 64) (k : Nat) : Lib.bitLen n ≤ k ↔ n < 2 ^ k := bitLenAux_le 64 n k h
theorem u64_keep {n : Int} (h0 : 0 ≤ n) (h1 : n ≤ 18446744073709551615) : IntKind.u64.wrap n = n := by
  simp [IntKind.wrap, IntKind.signed, IntKind.bits]; omega
theorem pow_cast (W : Nat) : (256 : Int) ^ W = ((256 ^ W : Nat) : Int) := by rw [Int.natCast_pow]; rfl
theorem pow_max (W : Nat) (h : W ≤ 8) : (256 : Int) ^ W ≤ 18446744073709551616 := by
  rw [pow_cast]
  have h1 : 256 ^ W ≤ 256 ^ 8 := Nat.pow_le_pow_right (by decide) h
  have h2 : 256 ^ 8 = 18446744073709551616 := by decide
  rw [h2] at h1
  omega
theorem fit_len (W : Nat) (n : Int) (h0 : 0 ≤ n) (h : n < 256 ^ W) (hW : W ≤ 8) : Lib.bitLen n.toNat ≤ 8 * W := by
  have h2 := pow_max W hW
  rw [bitLen_le (by omega), Nat.pow_mul]
  show n.toNat < 256 ^ W
  rw [pow_cast] at h
  omega
/-- Put's inner loop: one number's bytes. -/
theorem put_l1 (W : Nat) (hW : W ≤ 8) (l : List Int) (b0 : List Int) (i : Int) (r : List Int × Int) (d : Nat) : ∀ (b : List Int) (n : Int) (q : Nat), q ≤ W → W - q = d → 0 ≤ n → n ≤ 18446744073709551615 → b.length + d ≤ 1000000 → b ++ leI d n = b0 →
    (∃ K, ∀ k, K ≤ k → ends_Put.l0 k (W : Int) b0 l (l.length : Int) (wrap64 (i + 1)) = some r) →
    ∃ K, ∀ k, K ≤ k → ends_Put.l1 k (W : Int) b n l (l.length : Int) i (W : Int) (q : Int) = some r := by
  induction d with
  | zero =>
    rintro b n q hq hd h0 h1 hb he ⟨K, hK⟩
    refine ⟨K + 1, fun k hk => ?_⟩
    obtain ⟨k, rfl⟩ : ∃ m, k = m + 1 := ⟨k - 1, by omega⟩
    have e : ¬ ((q : Int) < (W : Int)) := by omega
    simp only [ends_Put.l1]
    rw [if_neg e]
    have : b = b0 := by rw [← he]; simp [leI]
    rw [this]
    exact hK k (by omega)
  | succ d ih =>
    rintro b n q hq hd h0 h1 hb he hK
    have e : (q : Int) < (W : Int) := by omega
    obtain ⟨K, hK'⟩ := ih (b ++ [n % 256]) (n / 256) (q + 1) (by omega) (by omega) (by omega) (by omega) (by rw [List.length_append, List.length_singleton]; omega) (by rw [← he, List.append_assoc]; rfl) hK
    refine ⟨K + 1, fun k hk => ?_⟩
    obtain ⟨k, rfl⟩ : ∃ m, k = m + 1 := ⟨k - 1, by omega⟩
    simp only [ends_Put.l1]
    rw [if_pos e, if_pos (by omega), show wrap64 ((q : Int) + 1) = ((q + 1 : Nat) : Int) by unfold wrap64; omega]
    exact hK' k (by omega)
theorem len_f (n : Int) (h0 : 0 ≤ n) (h1 : n ≤ 18446744073709551615) : bits_Len64.f n = some ((Lib.bitLen n.toNat : Nat) : Int) := by
  unfold bits_Len64.f; rw [if_pos ⟨h0, h1⟩]
theorem put_l0_step (k W i : Nat) (b l : List Int) (hlt : i < l.length) (hW : W ≤ 8) (t : Nat) (ht : t ≤ 8 * W) (n : Int) (hn : l[i] = n) (hlen : bits_Len64.f n = some (t : Int)) :
    ends_Put.l0 (k + 1) (W : Int) b l (l.length : Int) (i : Int) = ends_Put.l1 k (W : Int) b n l (l.length : Int) (i : Int) (W : Int) 0 := by
  have e : (i : Int) < (l.length : Int) := by omega
  have hrd : rd l (i : Int) = n := by unfold rd; rw [List.getD_eq_getElem?_getD, Int.toNat_natCast, List.getElem?_eq_getElem hlt, hn]; rfl
  have hw : wrap64 (8 * (W : Int)) = 8 * (W : Int) := by unfold wrap64; omega
  simp only [ends_Put.l0]
  have hno : ¬ ((t : Int) > 8 * (W : Int)) := by omega
  rw [if_pos e, if_pos (by omega), if_pos e, hrd, hlen, Option.bind_some, hw]
  exact if_neg hno
/-- Put's outer loop: all numbers fit. -/
theorem put_l0 (W : Nat) (hW : W ≤ 8) (l : List Int) (hl : ∀ n ∈ l, 0 ≤ n ∧ n < 256 ^ W) (d : Nat) : ∀ (b : List Int) (i : Nat), i ≤ l.length → l.length - i = d → b.length + W * d ≤ 1000000 → l.length ≤ 1000000 →
    ∃ K, ∀ k, K ≤ k → ends_Put.l0 k (W : Int) b l (l.length : Int) (i : Int) = some (b ++ packI W (l.drop i), 0) := by
  induction d with
  | zero =>
    intro b i hi hd hb hll
    refine ⟨1, fun k hk => ?_⟩
    obtain ⟨k, rfl⟩ : ∃ m, k = m + 1 := ⟨k - 1, by omega⟩
    have e : ¬ ((i : Int) < (l.length : Int)) := by omega
    simp only [ends_Put.l0]
    rw [if_neg e, List.drop_eq_nil_of_le (by omega)]; simp [packI]
  | succ d ih =>
    intro b i hi hd hb hll
    have hlt : i < l.length := by omega
    have e : (i : Int) < (l.length : Int) := by omega
    obtain ⟨n0, n1⟩ := hl l[i] (List.getElem_mem hlt)
    have hmul : W * (d + 1) = W * d + W := by rw [Nat.mul_add, Nat.mul_one]
    have hnext := ih (b ++ leI W l[i]) (i + 1) (by omega) (by omega) (by rw [List.length_append, leI_length]; omega) hll
    have hwr : (((i + 1 : Nat) : Int)) = wrap64 ((i : Int) + 1) := by unfold wrap64; omega
    rw [hwr] at hnext
    have hmax := pow_max W hW
    have hn2 : l[i] ≤ 18446744073709551615 := Int.le_of_lt_add_one (Int.lt_of_lt_of_le n1 hmax)
    obtain ⟨K, hK⟩ := put_l1 W hW l (b ++ leI W l[i]) (i : Int) _ W b l[i] 0 (Nat.zero_le _) (Nat.sub_zero _) n0 hn2 (by omega) rfl hnext
    refine ⟨K + 1, fun k hk => ?_⟩
    obtain ⟨k, rfl⟩ : ∃ m, k = m + 1 := ⟨k - 1, by omega⟩
    rw [put_l0_step k W i b l hlt hW _ (fit_len W l[i] n0 n1 hW) _ rfl (len_f _ n0 hn2)]
    refine (hK k (by omega)).trans ?_
    unfold packI
    rw [flat_drop _ l i hlt, List.append_assoc]
theorem ends_put (W : Nat) (hW : W = 1 ∨ W = 2 ∨ W = 4 ∨ W = 8) (b l : List Int) (hl : ∀ n ∈ l, 0 ≤ n ∧ n < 256 ^ W) (hb : b.length + W * l.length ≤ 1000000) :
    ∃ K, ∀ k, K ≤ k → ends_Put.f k b (W : Int) l = some (b ++ packI W l, 0) := by
  have hll : l.length ≤ 1000000 := by rcases hW with rfl | rfl | rfl | rfl <;> omega
  obtain ⟨K, hK⟩ := put_l0 W (by omega) l hl l.length b 0 (by omega) (by omega) hb hll
  refine ⟨K, fun k hk => ?_⟩
  unfold ends_Put.f ends_right.f
  have hr : wideB (W : Int) = true := by rcases hW with rfl | rfl | rfl | rfl <;> decide
  rw [hr]
  simp only [Option.bind_some, if_true]
  rw [show slices_Clone_byte_byte.f b = some b by unfold slices_Clone_byte_byte.f; rw [if_pos (by omega)]]
  simp only [Option.bind_some]
  have := hK k hk
  rwa [show (((0 : Nat)) : Int) = 0 from rfl, List.drop_zero] at this
/-- Labels as bytes. -/
def labelsI (l : List (S28)) : List Int := (l.map fun x => leI 4 x.f0 ++ leI 4 x.f1).flatten
theorem label_put_loop (l : List (S28)) (hl : ∀ x ∈ l, G28 x) (hll : l.length ≤ 100) (d : Nat) : ∀ (b : List Int) (i : Nat), i ≤ l.length → l.length - i = d → b.length + 8 * d ≤ 100000 →
    ∃ K, ∀ k, K ≤ k → label_Put.l0 k b l (l.length : Int) (i : Int) = some (b ++ labelsI (l.drop i)) := by
  induction d with
  | zero =>
    intro b i hi hd hb
    refine ⟨1, fun k hk => ?_⟩
    obtain ⟨k, rfl⟩ : ∃ m, k = m + 1 := ⟨k - 1, by omega⟩
    have e : ¬ ((i : Int) < (l.length : Int)) := by omega
    simp only [label_Put.l0]
    rw [if_neg e, List.drop_eq_nil_of_le (by omega)]; simp [labelsI]
  | succ d ih =>
    intro b i hi hd hb
    have hlt : i < l.length := by omega
    have e : (i : Int) < (l.length : Int) := by omega
    have hrd : rd_T28 l (i : Int) = l[i] := by unfold rd_T28; rw [List.getD_eq_getElem?_getD, Int.toNat_natCast, List.getElem?_eq_getElem hlt]; rfl
    obtain ⟨⟨a0, a1⟩, a2, a3⟩ := hl l[i] (List.getElem_mem hlt)
    obtain ⟨K1, hK1⟩ := ends_put 4 (by omega) b [l[i].f0, l[i].f1] (by
      intro n hn
      simp only [List.mem_cons, List.not_mem_nil, or_false] at hn
      rcases hn with rfl | rfl
      · exact ⟨a0, by show _ < (4294967296 : Int); omega⟩
      · exact ⟨a2, by show _ < (4294967296 : Int); omega⟩) (by simp; omega)
    have hp : packI 4 [l[i].f0, l[i].f1] = leI 4 l[i].f0 ++ leI 4 l[i].f1 := by simp [packI]
    rw [hp] at hK1
    obtain ⟨K2, hK2⟩ := ih (b ++ (leI 4 l[i].f0 ++ leI 4 l[i].f1)) (i + 1) (by omega) (by omega) (by rw [List.length_append, List.length_append, leI_length, leI_length]; omega)
    refine ⟨K1 + K2 + 1, fun k hk => ?_⟩
    obtain ⟨k, rfl⟩ : ∃ m, k = m + 1 := ⟨k - 1, by omega⟩
    simp only [label_Put.l0]
    rw [if_pos e, if_pos (by omega), if_pos e, hrd, u64_keep a0 (by omega), u64_keep a2 (by omega)]
    rw [show ((4 : Int)) = ((4 : Nat) : Int) from rfl, hK1 k (by omega)]
    simp only [Option.bind_some]
    rw [show wrap64 ((i : Int) + 1) = ((i + 1 : Nat) : Int) by unfold wrap64; omega, hK2 k (by omega)]
    unfold labelsI
    rw [flat_drop _ l i hlt, List.append_assoc]
theorem label_put (b : List Int) (l : List (S28)) (hl : ∀ x ∈ l, G28 x) (hll : l.length ≤ 100) (hb : b.length ≤ 90000) : ∃ K, ∀ k, K ≤ k → label_Put.f k b l = some (b ++ labelsI l) := by
  obtain ⟨K, hK⟩ := label_put_loop l hl hll l.length b 0 (by omega) (by omega) (by omega)
  refine ⟨K, fun k hk => ?_⟩
  unfold label_Put.f
  rw [show slices_Clone_byte_byte.f b = some b by unfold slices_Clone_byte_byte.f; rw [if_pos (by omega)]]
  simp only [Option.bind_some]
  have := hK k hk
  rwa [show (((0 : Nat)) : Int) = 0 from rfl, List.drop_zero] at this
/-! What holds for all large k. -/
def Ev (p : Nat → Prop) : Prop := ∃ K, ∀ k, K ≤ k → p k
theorem Ev.all {p : Nat → Prop} (h : ∀ k, p k) : Ev p := ⟨0, fun k _ => h k⟩
theorem Ev.and {p q : Nat → Prop} (h : Ev p) (h2 : Ev q) : Ev fun k => p k ∧ q k := by
  obtain ⟨K, h⟩ := h
  obtain ⟨K2, h2⟩ := h2
  exact ⟨K + K2, fun k hk => ⟨h k (by omega), h2 k (by omega)⟩⟩
theorem Ev.mp {p q : Nat → Prop} (h : Ev p) (hi : ∀ k, p k → q k) : Ev q := by
  obtain ⟨K, h⟩ := h
  exact ⟨K, fun k hk => hi k (h k hk)⟩
theorem Ev.now {p : Nat → Prop} (h : Ev p) : ∃ k, p k := by obtain ⟨K, h⟩ := h; exact ⟨K, h K (Nat.le_refl _)⟩
theorem Ev.succ {p : Nat → Prop} (h : Ev p) : Ev fun k => ∃ j, k = j + 1 ∧ p j := by
  obtain ⟨K, h⟩ := h
  exact ⟨K + 1, fun k hk => ⟨k - 1, by omega, h _ (by omega)⟩⟩
theorem Ev.bind {α β : Type} {f : Nat → Option α} {g : Nat → α → Option β} {a : α} {b : β} (hf : Ev fun k => f k = some a) (hg : Ev fun k => g k a = some b) : Ev fun k => (f k).bind (g k) = some b :=
  (hf.and hg).mp fun k h => by rw [h.1]; exact h.2
/-! Numbers of bytes. -/
def leN : List UInt8 → Nat
  | [] => 0
  | c :: r => c.toNat + 256 * leN r
theorem leN_lt : ∀ (l : List UInt8), leN l < 256 ^ l.length
  | [] => by simp [leN]
  | c :: r => by
    have h1 := leN_lt r
    have h2 := c.toNat_lt
    rw [List.length_cons, Nat.pow_succ]
    unfold leN
    omega
theorem or_nat (a b : Nat) (hb : b < 256) : a * 256 ||| b = a * 256 + b := by
  have := Nat.two_pow_add_eq_or_of_lt (i := 8) hb a
  rw [Nat.mul_comm a 256]
  exact this.symm
theorem step_nat (n : Nat) (x : Int × UInt8) (h : n < 72057594037927936) : numStep (n : Int) x = ((x.2.toNat + 256 * n : Nat) : Int) := by
  have h2 := x.2.toNat_lt
  unfold numStep
  have e1 : IntKind.u64.wrap ((n : Int) * 256) = ((n * 256 : Nat) : Int) := by
    rw [IntKind.wrap_u64]; omega
  have e2 : IntKind.u64.wrap (bv x.2) = ((x.2.toNat : Nat) : Int) := by
    unfold bv; rw [IntKind.wrap_u64]; omega
  rw [e1, e2, u64_or_nat _ _ (by omega) (by omega), or_nat _ _ h2]
  omega
theorem numOf_snds (l : List (Int × UInt8)) (r : List UInt8) (h : l.map (·.2) = r.reverse) (hr : r.length ≤ 8) : numOf l = (leN r : Int) := by
  induction r generalizing l with
  | nil =>
    have : l = [] := by simpa using h
    subst this; rfl
  | cons c r ih =>
    rw [List.reverse_cons] at h
    obtain ⟨l1, l2, rfl, h1, h2⟩ := List.map_eq_append_iff.1 h
    match l2, h2 with
    | [x], h2 =>
      have hx : x.2 = c := by simpa using h2
      have hr2 : r.length ≤ 7 := by simp at hr; omega
      rw [numOf_snoc, ih l1 h1 (by omega), step_nat, hx]
      · rfl
      · have h3 := leN_lt r
        have h4 : 256 ^ r.length ≤ 256 ^ 7 := Nat.pow_le_pow_right (by decide) hr2
        omega
theorem back_snds (xs : List UInt8) : (upto (backAt xs) xs.length).map (·.2) = xs.reverse := by
  apply List.ext_getElem
  · simp [upto]
  · intro i h1 h2
    have h3 : i < xs.length := by simpa [upto] using h1
    simp [upto, backAt, List.getElem_reverse]
    rw [List.getElem?_eq_getElem (by omega)]
    rfl
theorem numB_eq (xs : List UInt8) (h : xs.length ≤ 8) : numB xs = (leN xs : Int) := numOf_snds _ _ (back_snds xs) h
theorem numB_bound (xs : List UInt8) (W : Nat) (h : xs.length ≤ W) (hW : W ≤ 8) : 0 ≤ numB xs ∧ numB xs < 256 ^ W := by
  rw [numB_eq xs (by omega)]
  have h1 := leN_lt xs
  have h2 : 256 ^ xs.length ≤ 256 ^ W := Nat.pow_le_pow_right (by decide) h
  rw [pow_cast]
  omega
theorem rn_bound (W : Nat) (hW : W ≤ 8) (s : Rs) : 0 ≤ rn (W : Int) s ∧ rn (W : Int) s < 256 ^ W := by
  unfold rn
  refine numB_bound _ W ?_ hW
  unfold takeOut
  split
  · simp
  · rw [List.length_take]; omega
theorem leN_toB : ∀ (W : Nat) (x : Int), 0 ≤ x → x < 256 ^ W → (leN (toB (leI W x)) : Int) = x
  | 0, x, h0, h1 => by have : x = 0 := by simp at h1; omega
                       subst this; rfl
  | W + 1, x, h0, h1 => by
    have ih := leN_toB W (x / 256) (by omega) (by rw [Int.pow_succ] at h1; omega)
    unfold leI toB
    rw [List.map_cons]
    unfold leN
    rw [UInt8.toNat_ofNat']
    have : (leN (List.map (fun x => UInt8.ofNat x.toNat) (leI W (x / 256))) : Int) = x / 256 := ih
    omega
theorem take_toB (W : Nat) (x : Int) (rest : List Int) : (toB (leI W x ++ rest)).take W = toB (leI W x) ∧ (toB (leI W x ++ rest)).drop W = toB rest := by
  rw [toB_append]
  have hl : (toB (leI W x)).length = W := by rw [toB_length, leI_length]
  exact ⟨by rw [List.take_append_of_le_length (by omega), List.take_of_length_le (by omega)], by rw [List.drop_append_of_le_length (by omega), List.drop_of_length_le (by omega), List.nil_append]⟩
theorem notbad (W : Nat) (xs : List UInt8) (hw : Go.Proofs.Ytkiiangookibnaa.wideB (W : Int) = true) (h : W ≤ xs.length) : takeBad xs (false || !Go.Proofs.Ytkiiangookibnaa.wideB (W : Int)) (W : Int) = false := by
  unfold takeBad
  rw [hw]
  simp only [Bool.not_true, Bool.or_self, Bool.false_or, Bool.or_eq_false_iff, decide_eq_false_iff_not]
  omega
theorem rn_put (W : Nat) (hw : Go.Proofs.Ytkiiangookibnaa.wideB (W : Int) = true) (hW : W ≤ 8) (x : Int) (h0 : 0 ≤ x) (h1 : x < 256 ^ W) (rest : List Int) : rn (W : Int) (toB (leI W x ++ rest), false) = x := by
  have hb := notbad W (toB (leI W x ++ rest)) hw (by rw [toB_length, List.length_append, leI_length]; omega)
  unfold rn takeOut
  dsimp only
  rw [hb]
  simp only [Bool.false_eq_true, if_false, Int.toNat_natCast]
  rw [(take_toB W x rest).1, numB_eq _ (by rw [toB_length, leI_length]; exact hW), leN_toB W x h0 h1]
theorem rs_put (W : Nat) (hw : Go.Proofs.Ytkiiangookibnaa.wideB (W : Int) = true) (x : Int) (rest : List Int) : rs (W : Int) (toB (leI W x ++ rest), false) = (toB rest, false) := by
  have hb := notbad W (toB (leI W x ++ rest)) hw (by rw [toB_length, List.length_append, leI_length]; omega)
  unfold rs takeRest
  dsimp only
  rw [hb]
  simp only [Bool.false_eq_true, if_false, Int.toNat_natCast]
  rw [(take_toB W x rest).2]
theorem isB_leI : ∀ (W : Nat) (x : Int), isB (leI W x) = true
  | 0, _ => rfl
  | W + 1, x => by
    have ih := isB_leI W (x / 256)
    rw [isB_iff] at ih ⊢
    intro y hy
    unfold leI at hy
    rcases List.mem_cons.1 hy with rfl | hy
    · omega
    · exact ih y hy
theorem isB_append (a b : List Int) : isB (a ++ b) = (isB a && isB b) := by unfold isB; rw [List.all_append]
/-! A record as bytes. -/
def encSnap (x : S48) : List Int := leI 4 x.f0.f0 ++ (leI 4 x.f0.f1 ++ (leI 1 (x.f1 + 1) ++ leI 4 x.f2))
def encSnaps : List S48 → List Int
  | [] => []
  | x :: l => encSnap x ++ encSnaps l
def encT (y : S34) : List Int := leI 8 y.f7.f0 ++ (leI 4 y.f7.f1.f0 ++ (leI 4 y.f7.f1.f1 ++ (leI 4 y.f7.f2.f0 ++ (leI 4 y.f7.f2.f1 ++ (leI 1 y.f7.f3 ++ (leI 1 y.f7.f4 ++ (leI 1 (y.f7.f5 + 1) ++ [])))))))
def encR (y : S34) : List Int := leI 4 y.f0 ++ (leI 1 (flagB y.f1) ++ (leI 4 y.f2 ++ (leI 4 y.f3 ++ (leI 1 (y.f4 + 1) ++ (leI 4 y.f5.f0 ++ (leI 4 y.f5.f1 ++ (leI 1 (y.f6.length : Int) ++ (encSnaps y.f6 ++ encT y))))))))
theorem encSnap_length (x : S48) : (encSnap x).length = 13 := by unfold encSnap; simp [leI_length]
theorem encSnaps_length : ∀ l : List S48, (encSnaps l).length = 13 * l.length
  | [] => rfl
  | x :: l => by unfold encSnaps; rw [List.length_append, encSnap_length, encSnaps_length l, List.length_cons]; omega
theorem encR_length (y : S34) : (encR y).length = 50 + 13 * y.f6.length := by unfold encR encT; simp [leI_length, encSnaps_length]; omega
structure GSnap (x : S48) : Prop where
  l : G28 x.f0
  p : -1 ≤ x.f1 ∧ x.f1 < 240
  n : 0 ≤ x.f2 ∧ x.f2 < 4294967296
structure Gd (y : S34) : Prop where
  h0 : 0 ≤ y.f0 ∧ y.f0 < 4294967296
  h2 : 0 ≤ y.f2 ∧ y.f2 < 4294967296
  h3 : 0 ≤ y.f3 ∧ y.f3 < 4294967296
  h4 : -1 ≤ y.f4 ∧ y.f4 < 240
  h5 : G28 y.f5
  hl : y.f6.length ≤ 8
  hs : ∀ x ∈ y.f6, GSnap x
  h70 : 0 ≤ y.f7.f0 ∧ y.f7.f0 < 18446744073709551616
  h71 : G28 y.f7.f1
  h72 : G28 y.f7.f2
  h73 : 0 ≤ y.f7.f3 ∧ y.f7.f3 < 256
  h74 : 0 ≤ y.f7.f4 ∧ y.f7.f4 < 256
  h75 : -1 ≤ y.f7.f5 ∧ y.f7.f5 < 240
theorem wput_ev (W : Nat) (hW : W = 1 ∨ W = 2 ∨ W = 4 ∨ W = 8) (b l : List Int) (hl : ∀ n ∈ l, 0 ≤ n ∧ n < 256 ^ W) (hb : b.length + W * l.length ≤ 1000000) : Ev fun k => wput k b (W : Int) l = some (b ++ packI W l) := by
  obtain ⟨K, h⟩ := ends_put W hW b l hl hb
  refine ⟨K, fun k hk => ?_⟩
  show (ends_Put.f k b (W : Int) l).bind _ = _
  rw [h k hk]
  rfl
theorem packI_one (W : Nat) (x : Int) : packI W [x] = leI W x := by unfold packI; simp
theorem uw_keep {x : Int} (h0 : 0 ≤ x) (h1 : x < 18446744073709551616) : uw x = x := u64_keep h0 (by omega)
theorem upP_keep {x : Int} (h0 : -1 ≤ x) (h1 : x < 240) : upP x = x + 1 := by
  unfold upP
  rw [show wrap64 (x + 1) = x + 1 by unfold wrap64; omega]
  exact u64_keep (by omega) (by omega)
theorem labelsI_one (x : S28) : labelsI [x] = leI 4 x.f0 ++ leI 4 x.f1 := by unfold labelsI; simp
theorem p256_1 : (256 : Int) ^ 1 = 256 := by decide
theorem p256_4 : (256 : Int) ^ 4 = 4294967296 := by decide
theorem p256_8 : (256 : Int) ^ 8 = 18446744073709551616 := by decide
theorem wput1 (W : Nat) (hW : W = 1 ∨ W = 2 ∨ W = 4 ∨ W = 8) (b : List Int) (x : Int) (h0 : 0 ≤ x) (h1 : x < 256 ^ W) (hb : b.length ≤ 1000) : Ev fun k => wput k b (W : Int) [x] = some (b ++ leI W x) := by
  have := wput_ev W hW b [x] (fun n hn => by rw [List.mem_singleton] at hn; subst hn; exact ⟨h0, h1⟩) (by simp; omega)
  rwa [packI_one] at this
theorem rbl_ev : ∀ (l : List S48) (b : List Int), (∀ x ∈ l, GSnap x) → b.length + 13 * l.length ≤ 500 → Ev fun k => rbl k b l = some (b ++ encSnaps l)
  | [], b, _, _ => Ev.all fun k => by unfold rbl encSnaps; rw [List.append_nil]
  | x :: l, b, hg, hb => by
    have g := hg x List.mem_cons_self
    rw [List.length_cons] at hb
    have h1 : Ev fun k => label_Put.f k b [x.f0] = some (b ++ labelsI [x.f0]) := label_put b [x.f0] (fun z hz => by rw [List.mem_singleton] at hz; subst hz; exact g.l) (by simp) (by omega)
    rw [labelsI_one] at h1
    have h2 := wput1 1 (by omega) (b ++ (leI 4 x.f0.f0 ++ leI 4 x.f0.f1)) (x.f1 + 1) (by have := g.p; omega) (by rw [p256_1]; have := g.p; omega) (by simp [leI_length]; omega)
    have h3 := wput1 4 (by omega) (b ++ (leI 4 x.f0.f0 ++ leI 4 x.f0.f1) ++ leI 1 (x.f1 + 1)) x.f2 g.n.1 (by rw [p256_4]; exact g.n.2) (by simp [leI_length]; omega)
    have h4 := rbl_ev l (b ++ (leI 4 x.f0.f0 ++ leI 4 x.f0.f1) ++ leI 1 (x.f1 + 1) ++ leI 4 x.f2) (fun z hz => hg z (List.mem_cons_of_mem _ hz)) (by simp [leI_length]; omega)
    have e : b ++ (leI 4 x.f0.f0 ++ leI 4 x.f0.f1) ++ leI 1 (x.f1 + 1) ++ leI 4 x.f2 ++ encSnaps l = b ++ encSnaps (x :: l) := by
      show _ = b ++ (encSnap x ++ encSnaps l)
      unfold encSnap
      simp only [List.append_assoc]
    rw [e] at h4
    refine (h1.and (h2.and (h3.and h4))).mp fun k ⟨a1, a2, a3, a4⟩ => ?_
    unfold rbl
    refine Option.bind_eq_some_iff.2 ⟨_, a1, ?_⟩
    rw [upP_keep g.p.1 g.p.2, uw_keep g.n.1 (by have := g.n.2; omega)]
    refine Option.bind_eq_some_iff.2 ⟨_, a2, ?_⟩
    refine Option.bind_eq_some_iff.2 ⟨_, a3, ?_⟩
    exact a4
theorem flagB_bound (b : Bool) : 0 ≤ flagB b ∧ flagB b < 2 := by unfold flagB; split <;> omega
theorem rbytes_ev (y : S34) (g : Gd y) : Ev fun k => rbytes k y.f0 y.f1 y.f2 y.f3 y.f4 y.f5.f0 y.f5.f1 y.f6 y.f7.f0 y.f7.f1.f0 y.f7.f1.f1 y.f7.f2.f0 y.f7.f2.f1 y.f7.f3 y.f7.f4 y.f7.f5 = some (encR y) := by
  have hfl := flagB_bound y.f1
  obtain ⟨b1, e1⟩ : ∃ b1, b1 = leI 4 y.f0 := ⟨_, rfl⟩
  have h1 := wput1 4 (by omega) [] y.f0 g.h0.1 (by rw [p256_4]; exact g.h0.2) (by simp)
  rw [List.nil_append, ← e1] at h1
  have l1 : b1.length = 4 := by rw [e1, leI_length]
  obtain ⟨b2, e2⟩ : ∃ b2, b2 = b1 ++ leI 1 (flagB y.f1) := ⟨_, rfl⟩
  have h2 := wput1 1 (by omega) b1 (flagB y.f1) hfl.1 (by rw [p256_1]; omega) (by omega)
  rw [← e2] at h2
  have l2 : b2.length = 5 := by rw [e2, List.length_append, leI_length, l1]
  obtain ⟨b3, e3⟩ : ∃ b3, b3 = b2 ++ (leI 4 y.f2 ++ leI 4 y.f3) := ⟨_, rfl⟩
  have h3 := wput_ev 4 (by omega) b2 [y.f2, y.f3] (fun n hn => by
    simp only [List.mem_cons, List.not_mem_nil, or_false] at hn
    rw [p256_4]
    rcases hn with rfl | rfl
    · exact g.h2
    · exact g.h3) (by simp; omega)
  rw [show packI 4 [y.f2, y.f3] = leI 4 y.f2 ++ leI 4 y.f3 by unfold packI; simp, ← e3] at h3
  have l3 : b3.length = 13 := by rw [e3, List.length_append, List.length_append, leI_length, leI_length, l2]
  obtain ⟨b4, e4⟩ : ∃ b4, b4 = b3 ++ leI 1 (y.f4 + 1) := ⟨_, rfl⟩
  have h4 := wput1 1 (by omega) b3 (y.f4 + 1) (by have := g.h4; omega) (by rw [p256_1]; have := g.h4; omega) (by omega)
  rw [← e4] at h4
  have l4 : b4.length = 14 := by rw [e4, List.length_append, leI_length, l3]
  obtain ⟨b5, e5⟩ : ∃ b5, b5 = b4 ++ (leI 4 y.f5.f0 ++ leI 4 y.f5.f1) := ⟨_, rfl⟩
  have h5 : Ev fun k => label_Put.f k b4 [y.f5] = some (b4 ++ labelsI [y.f5]) := label_put b4 [y.f5] (fun z hz => by rw [List.mem_singleton] at hz; subst hz; exact g.h5) (by simp) (by omega)
  rw [labelsI_one, ← e5] at h5
  have l5 : b5.length = 22 := by rw [e5, List.length_append, List.length_append, leI_length, leI_length, l4]
  have hn := g.hl
  obtain ⟨b6, e6⟩ : ∃ b6, b6 = b5 ++ leI 1 (y.f6.length : Int) := ⟨_, rfl⟩
  have h6 := wput1 1 (by omega) b5 (y.f6.length : Int) (by omega) (by rw [p256_1]; omega) (by omega)
  rw [← e6] at h6
  have l6 : b6.length = 23 := by rw [e6, List.length_append, leI_length, l5]
  obtain ⟨b7, e7⟩ : ∃ b7, b7 = b6 ++ encSnaps y.f6 := ⟨_, rfl⟩
  have h7 := rbl_ev y.f6 b6 g.hs (by omega)
  rw [← e7] at h7
  have l7 : b7.length = 23 + 13 * y.f6.length := by rw [e7, List.length_append, encSnaps_length, l6]
  obtain ⟨b8, e8⟩ : ∃ b8, b8 = b7 ++ leI 8 y.f7.f0 := ⟨_, rfl⟩
  have h8 := wput1 8 (by omega) b7 y.f7.f0 g.h70.1 (by rw [p256_8]; exact g.h70.2) (by omega)
  rw [← e8] at h8
  have l8 : b8.length = 31 + 13 * y.f6.length := by rw [e8, List.length_append, leI_length, l7]; omega
  obtain ⟨b9, e9⟩ : ∃ b9, b9 = b8 ++ (leI 4 y.f7.f1.f0 ++ leI 4 y.f7.f1.f1 ++ (leI 4 y.f7.f2.f0 ++ leI 4 y.f7.f2.f1)) := ⟨_, rfl⟩
  have h9 : Ev fun k => label_Put.f k b8 [y.f7.f1, y.f7.f2] = some (b8 ++ labelsI [y.f7.f1, y.f7.f2]) := label_put b8 [y.f7.f1, y.f7.f2] (fun z hz => by
    simp only [List.mem_cons, List.not_mem_nil, or_false] at hz
    rcases hz with rfl | rfl
    · exact g.h71
    · exact g.h72) (by simp) (by omega)
  rw [show labelsI [y.f7.f1, y.f7.f2] = leI 4 y.f7.f1.f0 ++ leI 4 y.f7.f1.f1 ++ (leI 4 y.f7.f2.f0 ++ leI 4 y.f7.f2.f1) by unfold labelsI; simp, ← e9] at h9
  have l9 : b9.length = 47 + 13 * y.f6.length := by rw [e9]; simp only [List.length_append, leI_length, l8]; omega
  have h10 := wput_ev 1 (by omega) b9 [y.f7.f3, y.f7.f4, y.f7.f5 + 1] (fun n hn => by
    simp only [List.mem_cons, List.not_mem_nil, or_false] at hn
    rw [p256_1]
    rcases hn with rfl | rfl | rfl
    · exact g.h73
    · exact g.h74
    · have := g.h75; omega) (by simp; omega)
  have e10 : b9 ++ packI 1 [y.f7.f3, y.f7.f4, y.f7.f5 + 1] = encR y := by
    rw [e9, e8, e7, e6, e5, e4, e3, e2, e1]
    unfold packI encR encT
    simp only [List.map_cons, List.map_nil, List.flatten_cons, List.flatten_nil, List.append_assoc, List.append_nil]
  rw [e10] at h10
  refine ((h1.and (h2.and (h3.and (h4.and h5)))).and (h6.and (h7.and (h8.and (h9.and h10))))).mp fun k ⟨⟨a1, a2, a3, a4, a5⟩, a6, a7, a8, a9, a10⟩ => ?_
  unfold rbytes
  have k0 := g.h0
  have k2 := g.h2
  have k3 := g.h3
  have k73 := g.h73
  have k74 := g.h74
  rw [uw_keep k0.1 (by omega)]
  refine Option.bind_eq_some_iff.2 ⟨b1, a1, ?_⟩
  refine Option.bind_eq_some_iff.2 ⟨b2, a2, ?_⟩
  rw [uw_keep k2.1 (by omega), uw_keep k3.1 (by omega)]
  refine Option.bind_eq_some_iff.2 ⟨b3, a3, ?_⟩
  rw [upP_keep g.h4.1 g.h4.2]
  refine Option.bind_eq_some_iff.2 ⟨b4, a4, ?_⟩
  refine Option.bind_eq_some_iff.2 ⟨b5, a5, ?_⟩
  rw [uw_keep (x := (y.f6.length : Int)) (by omega) (by omega)]
  refine Option.bind_eq_some_iff.2 ⟨b6, a6, ?_⟩
  refine Option.bind_eq_some_iff.2 ⟨b7, a7, ?_⟩
  refine Option.bind_eq_some_iff.2 ⟨b8, a8, ?_⟩
  refine Option.bind_eq_some_iff.2 ⟨b9, a9, ?_⟩
  rw [uw_keep k73.1 (by omega), uw_keep k74.1 (by omega), upP_keep g.h75.1 g.h75.2]
  exact a10
/-! A record out of bytes. -/
def dec (xs : List UInt8) : S34 :=
  ⟨u32w (rn 4 (xs, false)), rn 1 (rs 4 (xs, false)) == 1, u32w (rn 4 (rs 1 (rs 4 (xs, false)))), u32w (rn 4 (rs 4 (rs 1 (rs 4 (xs, false))))), pg (rn 1 (rs 4 (rs 4 (rs 1 (rs 4 (xs, false)))))), ⟨u32w (rn 4 (rs 1 (rs 4 (rs 4 (rs 1 (rs 4 (xs, false))))))), u32w (rn 4 (rs 4 (rs 1 (rs 4 (rs 4 (rs 1 (rs 4 (xs, false))))))))⟩, LQ xs,
   ⟨rn 8 (SQ xs), ⟨u32w (rn 4 (rs 8 (SQ xs))), u32w (rn 4 (rs 4 (rs 8 (SQ xs))))⟩, ⟨u32w (rn 4 (rs 4 (rs 4 (rs 8 (SQ xs))))), u32w (rn 4 (rs 4 (rs 4 (rs 4 (rs 8 (SQ xs))))))⟩, wrap64 (rn 1 (rs 4 (rs 4 (rs 4 (rs 4 (rs 8 (SQ xs))))))), wrap64 (rn 1 (rs 1 (rs 4 (rs 4 (rs 4 (rs 4 (rs 8 (SQ xs)))))))), pg (rn 1 (rs 1 (rs 1 (rs 4 (rs 4 (rs 4 (rs 4 (rs 8 (SQ xs)))))))))⟩⟩
def BytesS (k : Nat) (y : S34) : Option (List Int × Int) := record_Bytes.f k y.f0 y.f1 y.f2 y.f3 y.f4 y.f5.f0 y.f5.f1 y.f6 y.f7.f0 y.f7.f1.f0 y.f7.f1.f1 y.f7.f2.f0 y.f7.f2.f1 y.f7.f3 y.f7.f4 y.f7.f5
def RightS (k : Nat) (y : S34) : Option Bool := record_Right.f k y.f0 y.f1 y.f2 y.f3 y.f4 y.f5.f0 y.f5.f1 y.f6 y.f7.f0 y.f7.f1.f0 y.f7.f1.f1 y.f7.f2.f0 y.f7.f2.f1 y.f7.f3 y.f7.f4 y.f7.f5
def tupE (y : S34) (e : Int) : Int × Bool × Int × Int × Int × Int × Int × List (S48) × Int × Int × Int × Int × Int × Int × Int × Int × Int := (y.f0, y.f1, y.f2, y.f3, y.f4, y.f5.f0, y.f5.f1, y.f6, y.f7.f0, y.f7.f1.f0, y.f7.f1.f1, y.f7.f2.f0, y.f7.f2.f1, y.f7.f3, y.f7.f4, y.f7.f5, e)
def zeroS : S34 := ⟨0, false, 0, 0, 0, ⟨0, 0⟩, [], ⟨0, ⟨0, 0⟩, ⟨0, 0⟩, 0, 0, 0⟩⟩
theorem rread_eq (k : Nat) (xs : List UInt8) (l0 : List Int) : rread k xs l0 = (BytesS k (dec xs)).bind fun r => if r.2 = 0 then ((slices_Equal_byte_byte.f k r.1 l0).bind fun t => if t = true then some (tupE (dec xs) 0) else some (tupE zeroS 141)) else some (tupE zeroS 141) := by unfold rread BytesS dec tupE zeroS; rfl
theorem u32w_keep {x : Int} (h : 0 ≤ x ∧ x < 4294967296) : u32w x = x := by unfold u32w; omega
theorem pg_keep {x : Int} (h : -1 ≤ x ∧ x < 240) : pg (x + 1) = x := by
  unfold pg
  rw [show wrap64 (x + 1) = x + 1 by unfold wrap64; omega]
  unfold wrap64; omega
theorem w1 : Go.Proofs.Ytkiiangookibnaa.wideB ((1 : Nat) : Int) = true := by decide
theorem w4 : Go.Proofs.Ytkiiangookibnaa.wideB ((4 : Nat) : Int) = true := by decide
theorem w8 : Go.Proofs.Ytkiiangookibnaa.wideB ((8 : Nat) : Int) = true := by decide
theorem rn1 (x : Int) (h0 : 0 ≤ x ∧ x < 256) (rest : List Int) : rn 1 (toB (leI 1 x ++ rest), false) = x := rn_put 1 w1 (by omega) x h0.1 (by rw [p256_1]; exact h0.2) rest
theorem rn4 (x : Int) (h0 : 0 ≤ x ∧ x < 4294967296) (rest : List Int) : rn 4 (toB (leI 4 x ++ rest), false) = x := rn_put 4 w4 (by omega) x h0.1 (by rw [p256_4]; exact h0.2) rest
theorem rn8 (x : Int) (h0 : 0 ≤ x ∧ x < 18446744073709551616) (rest : List Int) : rn 8 (toB (leI 8 x ++ rest), false) = x := rn_put 8 w8 (by omega) x h0.1 (by rw [p256_8]; exact h0.2) rest
theorem rs1 (x : Int) (rest : List Int) : rs 1 (toB (leI 1 x ++ rest), false) = (toB rest, false) := rs_put 1 w1 x rest
theorem rs4 (x : Int) (rest : List Int) : rs 4 (toB (leI 4 x ++ rest), false) = (toB rest, false) := rs_put 4 w4 x rest
theorem rs8 (x : Int) (rest : List Int) : rs 8 (toB (leI 8 x ++ rest), false) = (toB rest, false) := rs_put 8 w8 x rest
theorem glab (x : S28) (h : G28 x) : (0 ≤ x.f0 ∧ x.f0 < 4294967296) ∧ (0 ≤ x.f1 ∧ x.f1 < 4294967296) := by obtain ⟨⟨a, b⟩, c, d⟩ := h; exact ⟨⟨a, by omega⟩, c, by omega⟩
theorem rsnap_enc (x : S48) (g : GSnap x) (rest : List Int) : rsnap (toB (encSnap x ++ rest), false) = (x, (toB rest, false)) := by
  have hl := glab x.f0 g.l
  have hp := g.p
  have e : encSnap x ++ rest = leI 4 x.f0.f0 ++ (leI 4 x.f0.f1 ++ (leI 1 (x.f1 + 1) ++ (leI 4 x.f2 ++ rest))) := by unfold encSnap; simp only [List.append_assoc]
  rw [e]
  unfold rsnap
  rw [rs4, rs4, rs1, rs4, rn4 _ hl.1, rn4 _ hl.2, rn1 _ (by omega), rn4 _ g.n, u32w_keep hl.1, u32w_keep hl.2, u32w_keep g.n, pg_keep hp]
theorem rsnapN_enc (l : List S48) (g : ∀ x ∈ l, GSnap x) (rest : List Int) : ∀ j, j ≤ l.length → rsnapN j (toB (encSnaps l ++ rest), false) = (l.take j, (toB (encSnaps (l.drop j) ++ rest), false))
  | 0, _ => by unfold rsnapN; simp
  | j + 1, hj => by
    have ih := rsnapN_enc l g rest j (by omega)
    unfold rsnapN
    rw [ih]
    dsimp only
    have hd : l.drop j = l[j] :: l.drop (j + 1) := List.drop_eq_getElem_cons (by omega)
    rw [hd]
    have e : encSnaps (l[j] :: l.drop (j + 1)) ++ rest = encSnap l[j] ++ (encSnaps (l.drop (j + 1)) ++ rest) := by
      show encSnap l[j] ++ encSnaps (l.drop (j + 1)) ++ rest = _
      rw [List.append_assoc]
    rw [e, rsnap_enc _ (g _ (List.getElem_mem _))]
    dsimp only
    rw [List.take_succ_eq_append_getElem (by omega)]
theorem dec_enc (y : S34) (g : Gd y) : dec (toB (encR y)) = y := by
  have hfl := flagB_bound y.f1
  have l5 := glab y.f5 g.h5
  have l71 := glab y.f7.f1 g.h71
  have l72 := glab y.f7.f2 g.h72
  have h4 := g.h4
  have h75 := g.h75
  have hn := g.hl
  have hS : rsnapN y.f6.length (toB (encSnaps y.f6 ++ encT y), false) = (y.f6, (toB (encT y), false)) := by
    rw [rsnapN_enc y.f6 g.hs (encT y) y.f6.length (Nat.le_refl _), List.take_length, List.drop_length]
    rfl
  have h6 : S6 (toB (encR y)) = (toB (leI 1 (y.f6.length : Int) ++ (encSnaps y.f6 ++ encT y)), false) := by
    unfold S6 encR
    rw [rs4, rs1, rs4, rs4, rs1, rs4, rs4]
  have hmn : (mn (rn 1 (S6 (toB (encR y)))) 8).toNat = y.f6.length := by
    rw [h6, rn1 _ (by omega)]
    unfold mn
    split <;> omega
  have hSQ : SQ (toB (encR y)) = (toB (encT y), false) := by
    unfold SQ
    rw [hmn, h6, rs1, hS]
  have hLQ : LQ (toB (encR y)) = y.f6 := by
    unfold LQ
    rw [hmn, h6, rs1, hS]
  unfold dec
  rw [hSQ, hLQ]
  unfold encR encT
  rw [rs4, rs1, rs4, rs4, rs1, rs4, rs8, rs4, rs4, rs4, rs4, rs1, rs1]
  rw [rn4 _ g.h0, rn1 _ ⟨hfl.1, by omega⟩, rn4 _ g.h2, rn4 _ g.h3, rn1 _ (by omega), rn4 _ l5.1, rn4 _ l5.2, rn8 _ g.h70, rn4 _ l71.1, rn4 _ l71.2, rn4 _ l72.1, rn4 _ l72.2, rn1 _ g.h73, rn1 _ g.h74, rn1 _ (by omega)]
  rw [u32w_keep g.h0, u32w_keep g.h2, u32w_keep g.h3, u32w_keep l5.1, u32w_keep l5.2, u32w_keep l71.1, u32w_keep l71.2, u32w_keep l72.1, u32w_keep l72.2, pg_keep h4, pg_keep h75]
  have e3 : wrap64 y.f7.f3 = y.f7.f3 := by have := g.h73; unfold wrap64; omega
  have e4 : wrap64 y.f7.f4 = y.f7.f4 := by have := g.h74; unfold wrap64; omega
  have ef : (flagB y.f1 == 1) = y.f1 := by unfold flagB; cases y.f1 <;> rfl
  rw [e3, e4, ef]
theorem isB_encSnaps : ∀ l : List S48, isB (encSnaps l) = true
  | [] => rfl
  | x :: l => by unfold encSnaps encSnap; simp only [isB_append, isB_leI, isB_encSnaps l, Bool.and_self]
theorem isB_encR (y : S34) : isB (encR y) = true := by
  unfold encR encT
  simp only [isB_append, isB_leI, isB_encSnaps, Bool.true_and]
  rfl
/-! Right, plain. -/
structure Ty (y : S34) : Prop where
  h0 : 0 ≤ y.f0 ∧ y.f0 < 4294967296
  h2 : 0 ≤ y.f2 ∧ y.f2 < 4294967296
  h3 : 0 ≤ y.f3 ∧ y.f3 < 4294967296
  h5 : G28 y.f5
  hs : ∀ x ∈ y.f6, G28 x.f0 ∧ 0 ≤ x.f2 ∧ x.f2 < 4294967296
  h70 : 0 ≤ y.f7.f0 ∧ y.f7.f0 < 18446744073709551616
  h71 : G28 y.f7.f1
  h72 : G28 y.f7.f2
theorem cmp_total (a b : Int) : ∃ t, cmp_Compare_uint32.f a b = some t := by
  unfold cmp_Compare_uint32.f cmp_isNaN_uint32.f
  simp only [Option.bind_some]
  repeat' split
  all_goals exact ⟨_, rfl⟩
theorem or_total (a b : Int) : ∃ t, ∀ k, cmp_Or_int.f (k + 3) [a, b] = some t := by
  by_cases ha : a = 0
  · by_cases hb : b = 0
    · exact ⟨0, fun k => by simp [cmp_Or_int.f, cmp_Or_int.l0, rd, wrap64, ha, hb]⟩
    · exact ⟨b, fun k => by simp [cmp_Or_int.f, cmp_Or_int.l0, rd, wrap64, ha, hb]⟩
  · exact ⟨a, fun k => by simp [cmp_Or_int.f, cmp_Or_int.l0, rd, ha]⟩
theorem compare_total (a b c d : Int) : ∃ t, Ev fun k => label_Compare.f k a b c d = some t := by
  obtain ⟨t1, h1⟩ := cmp_total a c
  obtain ⟨t2, h2⟩ := cmp_total b d
  obtain ⟨t, h3⟩ := or_total t1 t2
  refine ⟨t, 3, fun k hk => ?_⟩
  obtain ⟨j, rfl⟩ : ∃ j, k = j + 3 := ⟨k - 3, by omega⟩
  unfold label_Compare.f
  rw [h1, h2]
  simp only [Option.bind_some]
  rw [h3 j]
  rfl
theorem root_f (a : Int) : ∃ t, record_root.f a = some t ∧ (t = true → -1 ≤ a ∧ a < 240) := by
  unfold record_root.f
  split
  · rename_i h; exact ⟨_, rfl, fun h2 => ⟨h, of_decide_eq_true h2⟩⟩
  · exact ⟨_, rfl, fun h2 => by cases h2⟩
theorem lright_total (a b : Int) : ∃ t, label_Right.f a b = some t := by
  unfold label_Right.f
  split <;> exact ⟨_, rfl⟩
theorem snaps_loop (l : List S48) (hl : l.length ≤ 8) (a0 a1 : Int) (d : Nat) : ∀ (i : Nat) (b : Bool) (c0 c1 : Int), i ≤ l.length → l.length - i = d →
    ∃ t, (Ev fun k => record_snaps.l0 k b l (l.length : Int) (i : Int) a0 a1 c0 c1 = some t) ∧ (t = true → ∀ j (hj : j < l.length), i ≤ j → -1 ≤ l[j].f1 ∧ l[j].f1 < 240) := by
  induction d with
  | zero =>
    intro i b c0 c1 hi hd
    refine ⟨b, ⟨1, fun k hk => ?_⟩, fun _ j hj hij => by omega⟩
    obtain ⟨k, rfl⟩ : ∃ m, k = m + 1 := ⟨k - 1, by omega⟩
    simp only [record_snaps.l0]
    rw [if_neg (by omega)]
  | succ d ih =>
    intro i b c0 c1 hi hd
    have hlt : i < l.length := by omega
    have hrd : rd_T48 l (i : Int) = l[i] := by unfold rd_T48; rw [List.getD_eq_getElem?_getD, Int.toNat_natCast, List.getElem?_eq_getElem hlt]; rfl
    have hw : wrap64 ((i : Int) + 1) = ((i + 1 : Nat) : Int) := by unfold wrap64; omega
    obtain ⟨t1, h1⟩ := lright_total l[i].f0.f0 l[i].f0.f1
    obtain ⟨t2, h2⟩ := compare_total l[i].f0.f0 l[i].f0.f1 c0 c1
    obtain ⟨t3, h3, h3r⟩ := root_f l[i].f1
    have step : ∀ k, record_snaps.l0 (k + 1) b l (l.length : Int) (i : Int) a0 a1 c0 c1 = (some t1).bind fun t117 => if t117 = true then ((label_Compare.f k l[i].f0.f0 l[i].f0.f1 c0 c1).bind fun t118 => if t118 ≤ 0 then some false else ((some t3).bind fun t119 => if t119 = true then (if b = true then record_snaps.l0 k true l (l.length : Int) ((i + 1 : Nat) : Int) a0 a1 l[i].f0.f0 l[i].f0.f1 else record_snaps.l0 k (l[i].f0.f0 == a0 && l[i].f0.f1 == a1) l (l.length : Int) ((i + 1 : Nat) : Int) a0 a1 l[i].f0.f0 l[i].f0.f1) else some false)) else some false := by
      intro k
      simp only [record_snaps.l0]
      rw [if_pos (by omega), if_pos (by omega), if_pos (by omega), hrd, h1, h3, hw]
    cases t1 with
    | false =>
      refine ⟨false, ⟨1, fun k hk => ?_⟩, fun h => by cases h⟩
      obtain ⟨k, rfl⟩ : ∃ m, k = m + 1 := ⟨k - 1, by omega⟩
      rw [step]; rfl
    | true =>
      by_cases hc : t2 ≤ 0
      · refine ⟨false, h2.succ.mp fun k ⟨j, hj, h⟩ => ?_, fun h => by cases h⟩
        subst hj
        rw [step, Option.bind_some, if_pos rfl, h, Option.bind_some, if_pos hc]
      · cases t3 with
        | false =>
          refine ⟨false, h2.succ.mp fun k ⟨j, hj, h⟩ => ?_, fun h => by cases h⟩
          subst hj
          rw [step, Option.bind_some, if_pos rfl, h, Option.bind_some, if_neg hc]; rfl
        | true =>
          cases b with
          | true =>
            obtain ⟨t, hE, hT⟩ := ih (i + 1) true l[i].f0.f0 l[i].f0.f1 (by omega) (by omega)
            refine ⟨t, (h2.and hE).succ.mp fun k ⟨j, hj, h, h'⟩ => ?_, fun ht j hj hij => ?_⟩
            · subst hj
              rw [step, Option.bind_some, if_pos rfl, h, Option.bind_some, if_neg hc, Option.bind_some, if_pos rfl, if_pos rfl, h']
            · by_cases hji : j = i
              · subst hji; exact h3r rfl
              · exact hT ht j hj (by omega)
          | false =>
            obtain ⟨t, hE, hT⟩ := ih (i + 1) (l[i].f0.f0 == a0 && l[i].f0.f1 == a1) l[i].f0.f0 l[i].f0.f1 (by omega) (by omega)
            refine ⟨t, (h2.and hE).succ.mp fun k ⟨j, hj, h, h'⟩ => ?_, fun ht j hj hij => ?_⟩
            · subst hj
              rw [step, Option.bind_some, if_pos rfl, h, Option.bind_some, if_neg hc, Option.bind_some, if_pos rfl, if_neg (by decide), h']
            · by_cases hji : j = i
              · subst hji; exact h3r rfl
              · exact hT ht j hj (by omega)
theorem snaps_total (l : List S48) (a0 a1 : Int) : ∃ t, (Ev fun k => record_snaps.f k l a0 a1 = some t) ∧ (t = true → l.length ≤ 8 ∧ ∀ x ∈ l, -1 ≤ x.f1 ∧ x.f1 < 240) := by
  by_cases h8 : (l.length : Int) > 8
  · exact ⟨false, Ev.all fun k => by unfold record_snaps.f; rw [if_pos h8], fun h => by cases h⟩
  · obtain ⟨t, hE, hT⟩ := snaps_loop l (by omega) a0 a1 l.length 0 (a0 == 0 && (a1 == 0)) 0 0 (by omega) (by omega)
    refine ⟨t, hE.mp fun k h => by unfold record_snaps.f; rw [if_neg h8]; exact h, fun ht => ⟨by omega, fun x hx => ?_⟩⟩
    obtain ⟨j, hj, rfl⟩ := List.getElem_of_mem hx
    exact hT ht j hj (Nat.zero_le _)
theorem stage_total (a0 a1 a2 a3 a4 a5 a6 a7 : Int) : ∃ t, record_stage.f a0 a1 a2 a3 a4 a5 a6 a7 = some t ∧ (t = true → (0 ≤ a5 ∧ a5 < 256) ∧ (0 ≤ a6 ∧ a6 < 256) ∧ (-1 ≤ a7 ∧ a7 < 240)) := by
  obtain ⟨t1, h1⟩ := lright_total a1 a2
  obtain ⟨t2, h2⟩ := lright_total a3 a4
  obtain ⟨t3, h3, h3r⟩ := root_f a7
  unfold record_stage.f record_Empty.f
  rw [h1, h2, h3]
  simp only [Option.bind_some]
  split
  · rename_i h
    simp only [Bool.and_eq_true, beq_iff_eq] at h
    exact ⟨_, rfl, fun _ => by omega⟩
  · split
    · split
      · split
        · split
          · split
            · split
              · split
                · exact ⟨_, rfl, fun h => by have := h3r h; omega⟩
                · exact ⟨_, rfl, fun h => by cases h⟩
              · exact ⟨_, rfl, fun h => by cases h⟩
            · exact ⟨_, rfl, fun h => by cases h⟩
          · exact ⟨_, rfl, fun h => by cases h⟩
        · exact ⟨_, rfl, fun h => by cases h⟩
      · exact ⟨_, rfl, fun h => by cases h⟩
    · exact ⟨_, rfl, fun h => by cases h⟩
theorem right_total (y : S34) (ty : Ty y) : ∃ t, (Ev fun k => RightS k y = some t) ∧ (t = true → Gd y) := by
  obtain ⟨t1, h1, h1r⟩ := root_f y.f4
  obtain ⟨t2, h2, h2r⟩ := snaps_total y.f6 y.f5.f0 y.f5.f1
  obtain ⟨t3, h3, h3r⟩ := stage_total y.f7.f0 y.f7.f1.f0 y.f7.f1.f1 y.f7.f2.f0 y.f7.f2.f1 y.f7.f3 y.f7.f4 y.f7.f5
  by_cases c : t1 = true ∧ t2 = true ∧ t3 = true
  · obtain ⟨rfl, rfl, rfl⟩ := c
    obtain ⟨h8, hp⟩ := h2r rfl
    obtain ⟨k1, k2, k3⟩ := h3r rfl
    have g : Gd y := ⟨ty.h0, ty.h2, ty.h3, h1r rfl, ty.h5, h8, fun x hx => ⟨(ty.hs x hx).1, hp x hx, (ty.hs x hx).2⟩, ty.h70, ty.h71, ty.h72, k1, k2, k3⟩
    by_cases d : y.f0 ≥ 1 ∧ y.f0 ≤ 1048576 ∧ y.f2 ≤ 1073741824 ∧ y.f3 ≤ 1048576
    · obtain ⟨d1, d2, d3, d4⟩ := d
      refine ⟨true, h2.mp fun k hk => ?_, fun _ => g⟩
      unfold RightS record_Right.f
      rw [if_pos d1, if_pos d2, if_pos d3, if_pos d4, h1, Option.bind_some, if_pos rfl, hk, Option.bind_some, if_pos rfl, h3]; rfl
    · refine ⟨false, Ev.all fun k => ?_, fun h => by cases h⟩
      unfold RightS record_Right.f
      repeat' split
      all_goals first | rfl | (exfalso; omega)
  · refine ⟨false, h2.mp fun k hk => ?_, fun h => by cases h⟩
    unfold RightS record_Right.f
    rw [h1, hk, h3]
    simp only [Option.bind_some]
    cases t1 <;> cases t2 <;> cases t3 <;> simp_all
theorem bytes_total (y : S34) (ty : Ty y) : ∃ t, (Ev fun k => RightS k y = some t) ∧ (t = true → Gd y) ∧ (Ev fun k => BytesS k y = some (if t = true then (encR y, 0) else ([], 141))) := by
  obtain ⟨t, h1, h2⟩ := right_total y ty
  refine ⟨t, h1, h2, ?_⟩
  cases t with
  | false =>
    refine h1.mp fun k hk => ?_
    unfold BytesS record_Bytes.f
    unfold RightS at hk
    rw [hk]; rfl
  | true =>
    refine (h1.and (rbytes_ev y (h2 rfl))).mp fun k ⟨hk, hb⟩ => ?_
    unfold BytesS record_Bytes.f
    unfold RightS at hk
    rw [hk, Option.bind_some, if_pos rfl, hb]; rfl
/-! Slices' equality. -/
theorem eq_loop (a b : List Int) (he : a.length = b.length) (hm : a.length ≤ 1000000) (d : Nat) : ∀ (i : Nat), i ≤ a.length → a.length - i = d → Ev fun k => slices_Equal_byte_byte.l0 k a b (a.length : Int) (i : Int) = some (decide (a.drop i = b.drop i)) := by
  induction d with
  | zero =>
    intro i hi hd
    refine ⟨1, fun k hk => ?_⟩
    obtain ⟨k, rfl⟩ : ∃ m, k = m + 1 := ⟨k - 1, by omega⟩
    simp only [slices_Equal_byte_byte.l0]
    rw [if_neg (by omega), List.drop_eq_nil_of_le (by omega), List.drop_eq_nil_of_le (by omega)]
    rfl
  | succ d ih =>
    intro i hi hd
    have hlt : i < a.length := by omega
    have hlt2 : i < b.length := by omega
    have e1 : rd a (i : Int) = a[i] := by unfold rd; rw [List.getD_eq_getElem?_getD, Int.toNat_natCast, List.getElem?_eq_getElem hlt]; rfl
    have e2 : rd b (i : Int) = b[i] := by unfold rd; rw [List.getD_eq_getElem?_getD, Int.toNat_natCast, List.getElem?_eq_getElem hlt2]; rfl
    refine (ih (i + 1) (by omega) (by omega)).succ.mp fun k ⟨j, hj, h⟩ => ?_
    subst hj
    simp only [slices_Equal_byte_byte.l0]
    rw [if_pos (by omega), if_pos (by omega), if_pos (by omega), if_pos (by omega), e1, e2, show wrap64 ((i : Int) + 1) = ((i + 1 : Nat) : Int) by unfold wrap64; omega, h]
    have e : (a.drop i = b.drop i) ↔ (a[i] = b[i] ∧ a.drop (i + 1) = b.drop (i + 1)) := by rw [List.drop_eq_getElem_cons hlt, List.drop_eq_getElem_cons hlt2, List.cons.injEq]
    by_cases hab : a[i] = b[i]
    · rw [if_pos hab]
      exact congrArg some (decide_eq_decide.2 ⟨fun h => e.2 ⟨hab, h⟩, fun h => (e.1 h).2⟩)
    · rw [if_neg hab]
      exact congrArg some (decide_eq_false (fun h => hab (e.1 h).1)).symm
theorem equal_f (a b : List Int) (hm : a.length ≤ 1000000) : Ev fun k => slices_Equal_byte_byte.f k a b = some (decide (a = b)) := by
  by_cases he : a.length = b.length
  · refine (eq_loop a b he hm a.length 0 (by omega) (by omega)).mp fun k h => ?_
    unfold slices_Equal_byte_byte.f
    rw [if_pos (by omega)]
    exact h
  · refine Ev.all fun k => ?_
    unfold slices_Equal_byte_byte.f
    rw [if_neg (by omega)]
    have : a ≠ b := fun h => he (by rw [h])
    simp [this]
/-! Same, plain. -/
theorem snap_loop (a b : List S48) (he : a.length = b.length) (hm : a.length ≤ 1000000) (d : Nat) : ∀ (i : Nat), i ≤ a.length → a.length - i = d → ∃ t, (Ev fun k => api_Snap.l0 k a b (a.length : Int) (i : Int) = some t) ∧ (t = true ↔ a.drop i = b.drop i) := by
  induction d with
  | zero =>
    intro i hi hd
    refine ⟨true, ⟨1, fun k hk => ?_⟩, ?_⟩
    · obtain ⟨k, rfl⟩ : ∃ m, k = m + 1 := ⟨k - 1, by omega⟩
      simp only [api_Snap.l0]
      rw [if_neg (by omega)]
    · rw [List.drop_eq_nil_of_le (by omega), List.drop_eq_nil_of_le (by omega)]; simp
  | succ d ih =>
    intro i hi hd
    have hlt : i < a.length := by omega
    have hlt2 : i < b.length := by omega
    have e1 : rd_T48 a (i : Int) = a[i] := by unfold rd_T48; rw [List.getD_eq_getElem?_getD, Int.toNat_natCast, List.getElem?_eq_getElem hlt]; rfl
    have e2 : rd_T48 b (i : Int) = b[i] := by unfold rd_T48; rw [List.getD_eq_getElem?_getD, Int.toNat_natCast, List.getElem?_eq_getElem hlt2]; rfl
    have e : (a.drop i = b.drop i) ↔ (a[i] = b[i] ∧ a.drop (i + 1) = b.drop (i + 1)) := by rw [List.drop_eq_getElem_cons hlt, List.drop_eq_getElem_cons hlt2, List.cons.injEq]
    have hc : ((((!(a[i].f0.f0 == b[i].f0.f0) || !(a[i].f0.f1 == b[i].f0.f1)) || (!(a[i].f1 == b[i].f1) || !(a[i].f2 == b[i].f2)))) = true) ↔ ¬ (a[i] = b[i]) := by
      generalize a[i] = u
      generalize b[i] = v
      obtain ⟨⟨u1, u2⟩, u3, u4⟩ := u
      obtain ⟨⟨v1, v2⟩, v3, v4⟩ := v
      simp only [S48.mk.injEq, S28.mk.injEq, Bool.or_eq_true, Bool.not_eq_true', beq_eq_false_iff_ne]
      omega
    obtain ⟨t, hE, hT⟩ := ih (i + 1) (by omega) (by omega)
    by_cases hab : a[i] = b[i]
    · refine ⟨t, hE.succ.mp fun k ⟨j, hj, h⟩ => ?_, ?_⟩
      · subst hj
        simp only [api_Snap.l0]
        rw [if_pos (by omega), if_pos (by omega), if_pos (by omega), if_pos (by omega), e1, e2, if_neg (fun h => hc.1 h hab), show wrap64 ((i : Int) + 1) = ((i + 1 : Nat) : Int) by unfold wrap64; omega, h]
      · rw [hT, e]; exact ⟨fun h => ⟨hab, h⟩, fun h => h.2⟩
    · refine ⟨false, ⟨1, fun k hk => ?_⟩, ⟨fun h => (by cases h), fun h => absurd (e.1 h).1 hab⟩⟩
      obtain ⟨k, rfl⟩ : ∃ m, k = m + 1 := ⟨k - 1, by omega⟩
      simp only [api_Snap.l0]
      rw [if_pos (by omega), if_pos (by omega), if_pos (by omega), if_pos (by omega), e1, e2, if_pos (hc.2 hab)]
theorem snap_f (a b : List S48) (hm : a.length ≤ 1000000) : ∃ t, (Ev fun k => api_Snap.f k a b = some t) ∧ (t = true ↔ a = b) := by
  by_cases he : a.length = b.length
  · obtain ⟨t, hE, hT⟩ := snap_loop a b he hm a.length 0 (by omega) (by omega)
    refine ⟨t, hE.mp fun k h => ?_, by rw [hT]; simp⟩
    unfold api_Snap.f
    rw [if_pos (by omega)]
    exact h
  · refine ⟨false, Ev.all fun k => ?_, ⟨fun h => (by cases h), fun h => absurd (by rw [h]) he⟩⟩
    unfold api_Snap.f
    rw [if_neg (by omega)]
def SameS (k : Nat) (y z : S34) : Option Bool := record_Same.f k y.f0 y.f1 y.f2 y.f3 y.f4 y.f5.f0 y.f5.f1 y.f6 y.f7.f0 y.f7.f1.f0 y.f7.f1.f1 y.f7.f2.f0 y.f7.f2.f1 y.f7.f3 y.f7.f4 y.f7.f5 z.f0 z.f1 z.f2 z.f3 z.f4 z.f5.f0 z.f5.f1 z.f6 z.f7.f0 z.f7.f1.f0 z.f7.f1.f1 z.f7.f2.f0 z.f7.f2.f1 z.f7.f3 z.f7.f4 z.f7.f5
def tailS (y z : S34) : Bool := sameTail y.f0 y.f1 y.f2 y.f3 y.f4 y.f5.f0 y.f5.f1 y.f6 y.f7.f0 y.f7.f1.f0 y.f7.f1.f1 y.f7.f2.f0 y.f7.f2.f1 y.f7.f3 y.f7.f4 y.f7.f5 z.f0 z.f1 z.f2 z.f3 z.f4 z.f5.f0 z.f5.f1 z.f6 z.f7.f0 z.f7.f1.f0 z.f7.f1.f1 z.f7.f2.f0 z.f7.f2.f1 z.f7.f3 z.f7.f4 z.f7.f5
theorem same_f (y z : S34) (hm : y.f6.length ≤ 1000000) : ∃ t, (Ev fun k => SameS k y z = some t) ∧ (t = true ↔ y = z) := by
  obtain ⟨t, hE, hT⟩ := snap_f y.f6 z.f6 hm
  cases t with
  | false =>
    refine ⟨false, hE.mp fun k h => ?_, ⟨fun h => (by cases h), fun h => by rw [h] at hT; exact hT.2 rfl⟩⟩
    unfold SameS record_Same.f
    rw [h]; rfl
  | true =>
    have h6 := hT.1 rfl
    refine ⟨tailS y z, hE.mp fun k h => ?_, ?_⟩
    · unfold SameS record_Same.f
      rw [h, Option.bind_some, if_pos rfl]; rfl
    · obtain ⟨y0, y1, y2, y3, y4, ⟨y50, y51⟩, y6, y70, ⟨y71, y72⟩, ⟨y73, y74⟩, y75, y76, y77⟩ := y
      obtain ⟨z0, z1, z2, z3, z4, ⟨z50, z51⟩, z6, z70, ⟨z71, z72⟩, ⟨z73, z74⟩, z75, z76, z77⟩ := z
      unfold tailS sameTail
      simp only [S34.mk.injEq, S32.mk.injEq, S28.mk.injEq, Bool.and_eq_true, beq_iff_eq]
      dsimp only at h6
      constructor
      · intro h; exact ⟨h.1, h.2.1, h.2.2.1, h.2.2.2.1, h.2.2.2.2.1, h.2.2.2.2.2.1, h6, h.2.2.2.2.2.2.1, h.2.2.2.2.2.2.2.1, h.2.2.2.2.2.2.2.2.1, h.2.2.2.2.2.2.2.2.2.1, h.2.2.2.2.2.2.2.2.2.2.1, h.2.2.2.2.2.2.2.2.2.2.2⟩
      · intro h; exact ⟨h.1, h.2.1, h.2.2.1, h.2.2.2.1, h.2.2.2.2.1, h.2.2.2.2.2.1, h.2.2.2.2.2.2.2.1, h.2.2.2.2.2.2.2.2.1, h.2.2.2.2.2.2.2.2.2.1, h.2.2.2.2.2.2.2.2.2.2.1, h.2.2.2.2.2.2.2.2.2.2.2.1, h.2.2.2.2.2.2.2.2.2.2.2.2⟩
/-! Read, plain. -/
theorem u32w_bound (x : Int) : 0 ≤ u32w x ∧ u32w x < 4294967296 := by unfold u32w; omega
theorem glab_of {a b : Int} (ha : 0 ≤ a ∧ a < 4294967296) (hb : 0 ≤ b ∧ b < 4294967296) : G28 ⟨a, b⟩ := ⟨⟨ha.1, by show a ≤ _; omega⟩, hb.1, by show b ≤ _; omega⟩
theorem rsnapN_ty (s : Rs) : ∀ j, ∀ x ∈ (rsnapN j s).1, G28 x.f0 ∧ 0 ≤ x.f2 ∧ x.f2 < 4294967296
  | 0, x, hx => by unfold rsnapN at hx; cases hx
  | j + 1, x, hx => by
    unfold rsnapN at hx
    dsimp only at hx
    rcases List.mem_append.1 hx with h | h
    · exact rsnapN_ty s j x h
    · rw [List.mem_singleton] at h
      subst h
      exact ⟨glab_of (u32w_bound _) (u32w_bound _), u32w_bound _⟩
theorem dec_ty (xs : List UInt8) : Ty (dec xs) :=
  ⟨u32w_bound _, u32w_bound _, u32w_bound _, glab_of (u32w_bound _) (u32w_bound _), rsnapN_ty _ _, by have := rn_bound 8 (by omega) (SQ xs); rw [p256_8] at this; exact this, glab_of (u32w_bound _) (u32w_bound _), glab_of (u32w_bound _) (u32w_bound _)⟩
theorem zero_ty : Ty zeroS := ⟨by decide, by decide, by decide, glab_of (by decide) (by decide), fun x hx => (by cases hx), by decide, glab_of (by decide) (by decide), glab_of (by decide) (by decide)⟩
theorem enc_small (y : S34) (g : Gd y) : (encR y).length ≤ 186 := by rw [encR_length]; have := g.hl; omega
theorem read_eq (k : Nat) (l : List Int) (hb : isB l = true) (hl : l.length ≤ 1000000) : record_Read.f k l = rread k (toB l) l := by unfold record_Read.f; rw [if_pos ⟨hb, by omega⟩]
theorem read_total (l : List Int) (hb : isB l = true) (hl : l.length ≤ 1000000) : ∃ y e, (Ev fun k => record_Read.f k l = some (tupE y e)) ∧ Ty y ∧ (e = 0 → Ev fun k => BytesS k y = some (l, 0)) := by
  obtain ⟨t, h1, h2, h3⟩ := bytes_total (dec (toB l)) (dec_ty _)
  cases t with
  | false =>
    refine ⟨zeroS, 141, h3.mp fun k h => ?_, zero_ty, fun h => by cases h⟩
    rw [read_eq k l hb hl, rread_eq, h]; rfl
  | true =>
    have hs := enc_small _ (h2 rfl)
    have h4 := equal_f (encR (dec (toB l))) l (by omega)
    by_cases he : encR (dec (toB l)) = l
    · refine ⟨dec (toB l), 0, (h3.and h4).mp fun k ⟨h, h'⟩ => ?_, dec_ty _, fun _ => h3.mp fun k h => ?_⟩
      · rw [read_eq k l hb hl, rread_eq, h, Option.bind_some, if_pos rfl]
        dsimp only
        rw [if_pos rfl, h', Option.bind_some, if_pos (by simp [he])]
      · rw [h, if_pos rfl, he]
    · refine ⟨zeroS, 141, (h3.and h4).mp fun k ⟨h, h'⟩ => ?_, zero_ty, fun h => by cases h⟩
      rw [read_eq k l hb hl, rread_eq, h, Option.bind_some, if_pos rfl]
      dsimp only
      rw [if_pos rfl, h', Option.bind_some, if_neg (by simp [he])]
theorem read_enc (y : S34) (g : Gd y) (h : Ev fun k => BytesS k y = some (encR y, 0)) : Ev fun k => record_Read.f k (encR y) = some (tupE y 0) := by
  have hs := enc_small y g
  refine (h.and (equal_f (encR y) (encR y) (by omega))).mp fun k ⟨a, b⟩ => ?_
  rw [read_eq k _ (isB_encR y) (by omega), rread_eq, dec_enc y g, a, Option.bind_some]
  dsimp only
  rw [if_pos rfl, b, Option.bind_some, if_pos (by simp)]
theorem g_ty (y : S34) (g : G34 y) : Ty y := by
  obtain ⟨h0, -, h2, h3, -, h5, ⟨-, h6⟩, h70, h71, h72, -⟩ := g
  exact ⟨⟨h0.1, by omega⟩, ⟨h2.1, by omega⟩, ⟨h3.1, by omega⟩, h5, fun x hx => by obtain ⟨a, -, b⟩ := h6 x hx; exact ⟨a, b.1, by omega⟩, ⟨h70.1, by omega⟩, h71, h72⟩
theorem alive_ev : Ev fun k => understudylaw14_recordAlive.f k = some true := by
  refine ⟨100, fun k hk => ?_⟩
  induction k with
  | zero => omega
  | succ k ih =>
    by_cases h : 100 ≤ k
    · exact understudylaw14_recordAlive.mono k _ (ih h)
    · obtain rfl : k = 99 := by omega
      kernel_rfl
theorem pure_law (y0 : S34) (g0 : G34 y0) (y1 : S34) (g1 : G34 y1) : ∃ k, understudylaw14_RecordApart.f k y0.f0 y0.f1 y0.f2 y0.f3 y0.f4 y0.f5.f0 y0.f5.f1 y0.f6 y0.f7.f0 y0.f7.f1.f0 y0.f7.f1.f1 y0.f7.f2.f0 y0.f7.f2.f1 y0.f7.f3 y0.f7.f4 y0.f7.f5 y1.f0 y1.f1 y1.f2 y1.f3 y1.f4 y1.f5.f0 y1.f5.f1 y1.f6 y1.f7.f0 y1.f7.f1.f0 y1.f7.f1.f1 y1.f7.f2.f0 y1.f7.f2.f1 y1.f7.f3 y1.f7.f4 y1.f7.f5 = some true := by
  refine Ev.now ?_
  have ha := alive_ev
  by_cases hbig : 30 < (y0.f6.length : Int) ∨ 30 < (y1.f6.length : Int)
  · refine ha.mp fun k a => ?_
    unfold understudylaw14_RecordApart.f
    rw [a, Option.bind_some, if_pos rfl, if_pos hbig]
  · obtain ⟨t0, r0, w0, b0⟩ := bytes_total y0 (g_ty y0 g0)
    obtain ⟨t1, r1, w1_, b1⟩ := bytes_total y1 (g_ty y1 g1)
    cases t0 with
    | false =>
      refine (ha.and r0).mp fun k ⟨a, b⟩ => ?_
      unfold understudylaw14_RecordApart.f
      rw [a, Option.bind_some, if_pos rfl, if_neg hbig]
      refine Option.bind_eq_some_iff.2 ⟨_, b, ?_⟩
      rw [if_neg (by decide)]
    | true =>
      cases t1 with
      | false =>
        refine (ha.and (r0.and r1)).mp fun k ⟨a, b, c⟩ => ?_
        unfold understudylaw14_RecordApart.f
        rw [a, Option.bind_some, if_pos rfl, if_neg hbig]
        refine Option.bind_eq_some_iff.2 ⟨_, b, ?_⟩
        rw [if_pos rfl]
        refine Option.bind_eq_some_iff.2 ⟨_, c, ?_⟩
        rw [if_neg (by decide)]
      | true =>
        have g := w0 rfl
        have g' := w1_ rfl
        obtain ⟨t, h4, h5⟩ := same_f y0 y1 (by have := g.hl; omega)
        have hx : ((strOfNums (encR y0)).toList == (strOfNums (encR y1)).toList) = t := by
          have hi : (strOfNums (encR y0)).toList = (strOfNums (encR y1)).toList ↔ y0 = y1 := by
            constructor
            · intro h
              rw [Lib.strOfNums_toList, Lib.strOfNums_toList] at h
              have h' : toB (encR y0) = toB (encR y1) := h
              rw [← dec_enc y0 g, ← dec_enc y1 g', h']
            · intro h; rw [h]
          cases t with
          | true => rw [beq_iff_eq]; exact hi.2 (h5.1 rfl)
          | false => rw [beq_eq_false_iff_ne]; intro h; have := h5.2 (hi.1 h); cases this
        refine (ha.and (r0.and (r1.and (b0.and (b1.and h4))))).mp fun k ⟨a, b, c, d, e, f⟩ => ?_
        unfold understudylaw14_RecordApart.f
        rw [a, Option.bind_some, if_pos rfl, if_neg hbig]
        refine Option.bind_eq_some_iff.2 ⟨_, b, ?_⟩
        rw [if_pos rfl]
        refine Option.bind_eq_some_iff.2 ⟨_, c, ?_⟩
        rw [if_pos rfl]
        have d' : BytesS k y0 = some (encR y0, 0) := d
        have e' : BytesS k y1 = some (encR y1, 0) := e
        refine Option.bind_eq_some_iff.2 ⟨_, d', ?_⟩
        refine Option.bind_eq_some_iff.2 ⟨_, e', ?_⟩
        refine Option.bind_eq_some_iff.2 ⟨_, f, ?_⟩
        have hl := g.hl
        exact if_pos ⟨rfl, rfl, hx, by dsimp only; rw [encR_length]; unfold wrap64; omega⟩
end Go.Proofs.Ytkiiangookibnaa.PRecordApart
