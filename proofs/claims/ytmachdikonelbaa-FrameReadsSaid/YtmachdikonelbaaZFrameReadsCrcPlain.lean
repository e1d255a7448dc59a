/- The CRC as plain Lean: bit and byte steps are linear and one to one; a seal's sum is nought. No Go in sight. -/
namespace Go.Proofs.Ytmachdikonelbaa.Crc
abbrev W := BitVec 32
def P : W := 0x04c11db7#32
def bit (s : W) : W := (s <<< 1) ^^^ (if s.msb then P else 0#32)
def bits8 (s : W) : W := bit (bit (bit (bit (bit (bit (bit (bit s)))))))
def up (c : BitVec 8) : W := c.setWidth 32 <<< 24
def step (s : W) (c : BitVec 8) : W := bits8 (s ^^^ up c)
def sum (s : W) (l : List (BitVec 8)) : W := l.foldl step s
theorem ite_xor (a b : Bool) : (if a ^^ b then P else 0#32) = (if a then P else 0#32) ^^^ (if b then P else 0#32) := by
  cases a <;> cases b <;> simp
theorem bit_xor (a b : W) : bit (a ^^^ b) = bit a ^^^ bit b := by
  unfold bit
  rw [BitVec.msb_xor, ite_xor, BitVec.shiftLeft_xor_distrib]
  ac_rfl
theorem bits8_xor (a b : W) : bits8 (a ^^^ b) = bits8 a ^^^ bits8 b := by
  unfold bits8
  rw [bit_xor, bit_xor, bit_xor, bit_xor, bit_xor, bit_xor, bit_xor, bit_xor]
def back (s : W) : W := if s.getLsbD 0 then ((s ^^^ P) >>> 1) ||| 0x80000000#32 else s >>> 1
theorem shl_shr (s : W) : (s <<< 1) >>> 1 = s &&& 0x7fffffff#32 := by
  apply BitVec.eq_of_getLsbD_eq
  intro i hi
  have e : (0x7fffffff#32).getLsbD i = decide (i < 31) := by
    revert hi; revert i; decide
  simp only [BitVec.getLsbD_ushiftRight, BitVec.getLsbD_shiftLeft, BitVec.getLsbD_and, e]
  by_cases h : i < 31
  · have : 1 + i - 1 = i := by omega
    simp [h, this]; omega
  · simp [h]; omega
theorem bit_low (s : W) : (bit s).getLsbD 0 = s.msb := by
  unfold bit
  rw [BitVec.getLsbD_xor, BitVec.getLsbD_shiftLeft]
  cases s.msb <;> simp [P]
theorem and_or_msb (s : W) (h : s.msb = true) : (s &&& 0x7fffffff#32) ||| 0x80000000#32 = s := by
  apply BitVec.eq_of_getLsbD_eq
  intro i hi
  have e : (0x7fffffff#32).getLsbD i = decide (i < 31) := by
    revert hi; revert i; decide
  have e' : (0x80000000#32).getLsbD i = decide (i = 31) := by
    clear e; revert hi; revert i; decide
  simp only [BitVec.getLsbD_or, BitVec.getLsbD_and, e, e']
  by_cases h1 : i = 31
  · subst h1
    simpa [BitVec.msb_eq_getLsbD_last] using h.symm
  · have : i < 31 := by omega
    simp [h1, this]
theorem and_msb_false (s : W) (h : s.msb = false) : s &&& 0x7fffffff#32 = s := by
  apply BitVec.eq_of_getLsbD_eq
  intro i hi
  have e : (0x7fffffff#32).getLsbD i = decide (i < 31) := by
    revert hi; revert i; decide
  simp only [BitVec.getLsbD_and, e]
  by_cases h1 : i = 31
  · subst h1
    simpa [BitVec.msb_eq_getLsbD_last] using h
  · have : i < 31 := by omega
    simp [this]
theorem back_bit (s : W) : back (bit s) = s := by
  unfold back
  rw [bit_low]
  cases h : s.msb
  · simp only [Bool.false_eq_true, if_false]
    unfold bit
    simp only [h, Bool.false_eq_true, if_false]
    rw [BitVec.xor_zero, shl_shr, and_msb_false s h]
  · simp only [if_true]
    unfold bit
    simp only [h, if_true]
    rw [BitVec.xor_assoc, BitVec.xor_self, BitVec.xor_zero, shl_shr, and_or_msb s h]
theorem bit_inj {a b : W} (h : bit a = bit b) : a = b := by rw [← back_bit a, h, back_bit]
theorem bits8_inj {a b : W} (h : bits8 a = bits8 b) : a = b := by
  unfold bits8 at h
  exact bit_inj (bit_inj (bit_inj (bit_inj (bit_inj (bit_inj (bit_inj (bit_inj h)))))))
end Go.Proofs.Ytmachdikonelbaa.Crc
namespace Go.Proofs.Ytmachdikonelbaa.Crc
theorem bit_low_shift (s : W) (h : s.msb = false) : bit s = s <<< 1 := by
  unfold bit; simp [h]
theorem shl_msb (s : W) (k : Nat) (hk : k < 32) : (s <<< k).msb = s.getLsbD (31 - k) := by
  rw [BitVec.msb_eq_getLsbD_last, BitVec.getLsbD_shiftLeft]
  have : ¬ (32 - 1 < k) := by omega
  simp [this]
theorem bits8_low (s : W) (h : ∀ i, 24 ≤ i → s.getLsbD i = false) : bits8 s = s <<< 8 := by
  have e : ∀ k, k < 8 → bit (s <<< k) = s <<< (k + 1) := fun k hk => by
    rw [bit_low_shift _ (by rw [shl_msb s k (by omega)]; exact h _ (by omega)), BitVec.shiftLeft_add]
  unfold bits8
  have e0 := e 0 (by omega)
  rw [BitVec.shiftLeft_zero] at e0
  rw [e0, e 1 (by omega), e 2 (by omega), e 3 (by omega), e 4 (by omega), e 5 (by omega), e 6 (by omega), e 7 (by omega)]
def word (a b c d : BitVec 8) : W := up a ^^^ up b >>> 8 ^^^ up c >>> 16 ^^^ up d >>> 24
theorem bits8_split (u v : W) (h : ∀ i, 24 ≤ i → v.getLsbD i = false) : bits8 (u ^^^ v) = bits8 u ^^^ v <<< 8 := by
  rw [bits8_xor, bits8_low v h]
theorem sh_high (c : BitVec 8) (k i : Nat) (hk : 8 ≤ k) (h : 24 ≤ i) : (up c >>> k).getLsbD i = false := by
  unfold up; rw [BitVec.getLsbD_ushiftRight, BitVec.getLsbD_shiftLeft]
  by_cases h1 : k + i < 32
  · omega
  · simp [h1]
theorem sh_back (c : BitVec 8) (k : Nat) (h : 8 ≤ k) (h2 : k ≤ 24) : (up c >>> k) <<< 8 = up c >>> (k - 8) := by
  unfold up
  apply BitVec.eq_of_getLsbD_eq
  intro i hi
  simp only [BitVec.getLsbD_shiftLeft, BitVec.getLsbD_ushiftRight, BitVec.getLsbD_setWidth]
  by_cases h1 : i < 8
  · have h3 : k - 8 + i < 24 := by omega
    simp [h1, h3]
  · have h3 : k + (i - 8) = k - 8 + i := by omega
    simp [h1, h3, hi]
theorem xor5 (s t x y z : W) : s ^^^ (t ^^^ x ^^^ y ^^^ z) = (s ^^^ t) ^^^ (x ^^^ y ^^^ z) := by ac_rfl
theorem word_step (s : W) (a b c d : BitVec 8) : bits8 (s ^^^ word a b c d) = step s a ^^^ word b c d 0#8 := by
  have e : s ^^^ word a b c d = (s ^^^ up a) ^^^ (up b >>> 8 ^^^ up c >>> 16 ^^^ up d >>> 24) := by
    unfold word; exact xor5 _ _ _ _ _
  rw [e, bits8_split _ _ (fun i hi => by rw [BitVec.getLsbD_xor, BitVec.getLsbD_xor, sh_high b 8 i (by omega) hi, sh_high c 16 i (by omega) hi, sh_high d 24 i (by omega) hi]; rfl)]
  rw [BitVec.shiftLeft_xor_distrib, BitVec.shiftLeft_xor_distrib, sh_back b 8 (by omega) (by omega), sh_back c 16 (by omega) (by omega), sh_back d 24 (by omega) (by omega)]
  have z : up 0#8 >>> 24 = 0#32 := by decide
  unfold step word
  rw [z]
  simp
theorem word_zero : word 0#8 0#8 0#8 0#8 = 0#32 := by decide
theorem sum4 (s : W) (a b c d : BitVec 8) : sum s [a, b, c, d] = bits8 (bits8 (bits8 (bits8 (s ^^^ word a b c d)))) := by
  rw [word_step, word_step, word_step, word_step, word_zero, BitVec.xor_zero]; rfl
theorem sum4_zero (s : W) (a b c d : BitVec 8) : sum s [a, b, c, d] = 0#32 ↔ word a b c d = s := by
  rw [sum4]
  constructor
  · intro h
    have z : bits8 (bits8 (bits8 (bits8 0#32))) = 0#32 := by decide
    have := bits8_inj (bits8_inj (bits8_inj (bits8_inj (h.trans z.symm))))
    have k := congrArg (s ^^^ ·) this
    simpa [← BitVec.xor_assoc] using k
  · intro h
    rw [h, BitVec.xor_self]; decide
def tail (s : W) : List (BitVec 8) := [(s >>> 24).setWidth 8, (s >>> 16).setWidth 8, (s >>> 8).setWidth 8, s.setWidth 8]
theorem word_tail (s : W) : word ((s >>> 24).setWidth 8) ((s >>> 16).setWidth 8) ((s >>> 8).setWidth 8) (s.setWidth 8) = s := by
  apply BitVec.eq_of_getLsbD_eq
  intro i hi
  unfold word up
  simp only [BitVec.getLsbD_xor, BitVec.getLsbD_ushiftRight, BitVec.getLsbD_shiftLeft, BitVec.getLsbD_setWidth]
  by_cases h1 : i < 8
  · have : ¬ (8 + i - 24 < 8 ∧ ¬ (8 + i < 24)) := by omega
    simp [h1, show i < 24 by omega, show 8 + i < 24 by omega, show 16 + i < 24 by omega, show ¬ (24 + i < 24) by omega, show 24 + i < 32 by omega, show 24 + i - 24 = i by omega]; omega
  · by_cases h2 : i < 16
    · simp [show i < 24 by omega, show 8 + i < 24 by omega, show ¬ (16 + i < 24) by omega, show 16 + i < 32 by omega, show 16 + i - 24 < 8 by omega, show ¬ (24 + i < 32) by omega, show 8 + (16 + i - 24) = i by omega]; omega
    · by_cases h3 : i < 24
      · simp [h3, show ¬ (8 + i < 24) by omega, show 8 + i < 32 by omega, show 8 + i - 24 < 8 by omega, show ¬ (16 + i < 32) by omega, show ¬ (24 + i < 32) by omega, show 16 + (8 + i - 24) = i by omega]; omega
      · simp [h3, hi, show i - 24 < 8 by omega, show ¬ (8 + i < 32) by omega, show ¬ (16 + i < 32) by omega, show ¬ (24 + i < 32) by omega, show 24 + (i - 24) = i by omega]; omega
theorem word_inj {a b c d a' b' c' d' : BitVec 8} (h : word a b c d = word a' b' c' d') : a = a' ∧ b = b' ∧ c = c' ∧ d = d' := by
  have bitsof : ∀ (a b c d : BitVec 8) (i : Nat), i < 32 → (word a b c d).getLsbD i = if i < 8 then d.getLsbD i else if i < 16 then c.getLsbD (i - 8) else if i < 24 then b.getLsbD (i - 16) else a.getLsbD (i - 24) := by
    intro a b c d i hi
    unfold word up
    simp only [BitVec.getLsbD_xor, BitVec.getLsbD_ushiftRight, BitVec.getLsbD_shiftLeft, BitVec.getLsbD_setWidth]
    by_cases h1 : i < 8
    · simp [h1, show i < 24 by omega, show 8 + i < 24 by omega, show 16 + i < 24 by omega, show ¬ (24 + i < 24) by omega, show 24 + i < 32 by omega, show 24 + i - 24 = i by omega]
      intro; omega
    · by_cases h2 : i < 16
      · simp [h1, h2, show i < 24 by omega, show 8 + i < 24 by omega, show ¬ (16 + i < 24) by omega, show 16 + i < 32 by omega, show 16 + i - 24 = i - 8 by omega, show ¬ (24 + i < 32) by omega]
        intro; omega
      · by_cases h3 : i < 24
        · simp [h1, h2, h3, show ¬ (8 + i < 24) by omega, show 8 + i < 32 by omega, show 8 + i - 24 = i - 16 by omega, show ¬ (16 + i < 32) by omega, show ¬ (24 + i < 32) by omega]
          intro; omega
        · simp [h1, h2, h3, hi, show ¬ (8 + i < 32) by omega, show ¬ (16 + i < 32) by omega, show ¬ (24 + i < 32) by omega]
          intro; omega
  refine ⟨?_, ?_, ?_, ?_⟩ <;> apply BitVec.eq_of_getLsbD_eq <;> intro i hi
  · have := congrArg (fun w => w.getLsbD (i + 24)) h
    simp only [bitsof _ _ _ _ (i + 24) (by omega), show ¬ (i + 24 < 8) by omega, show ¬ (i + 24 < 16) by omega, show ¬ (i + 24 < 24) by omega, if_false, Nat.add_sub_cancel] at this
    exact this
  · have := congrArg (fun w => w.getLsbD (i + 16)) h
    simp only [bitsof _ _ _ _ (i + 16) (by omega), show ¬ (i + 16 < 8) by omega, show ¬ (i + 16 < 16) by omega, show (i + 16 < 24) by omega, if_false, if_true, Nat.add_sub_cancel] at this
    exact this
  · have := congrArg (fun w => w.getLsbD (i + 8)) h
    simp only [bitsof _ _ _ _ (i + 8) (by omega), show ¬ (i + 8 < 8) by omega, show (i + 8 < 16) by omega, if_false, if_true, Nat.add_sub_cancel] at this
    exact this
  · have := congrArg (fun w => w.getLsbD i) h
    simp only [bitsof _ _ _ _ i (by omega), show (i < 8) by omega, if_true] at this
    exact this
theorem tail_iff (s : W) (a b c d : BitVec 8) : sum s [a, b, c, d] = 0#32 ↔ [a, b, c, d] = tail s := by
  rw [sum4_zero]
  constructor
  · intro h
    obtain ⟨rfl, rfl, rfl, rfl⟩ := word_inj (h.trans (word_tail s).symm)
    rfl
  · intro h
    unfold tail at h
    injection h with h1 h
    injection h with h2 h
    injection h with h3 h
    injection h with h4 h
    rw [h1, h2, h3, h4, word_tail]
end Go.Proofs.Ytmachdikonelbaa.Crc
