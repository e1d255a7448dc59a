/- The CRC as plain Lean: bit and byte steps are linear and one to one; a seal's sum is nought. No Go in sight. -/
namespace Go.Proofs.Ytenlkobjldhfgaa.Crc
abbrev W := BitVec 32
def P : W := 0x04c11db7#32
def bit (s : W) : W := (s <<< 1) ^^^ (if s.msb then P else 0#32)
def bits8 (s : W) : W := bit (bit (bit (bit (bit (bit (bit (bit s)))))))
def up (c : BitVec 8) : W := c.setWidth 32 <<< 24
def step (s : W) (c : BitVec 8) : W := bits8 (s ^^^ up c)
theorem ite_xor (a b : Bool) : (if a ^^ b then P else 0#32) = (if a then P else 0#32) ^^^ (if b then P else 0#32) := by
 cases a <;> cases b <;> simp
theorem bit_xor (a b : W) : bit (a ^^^ b) = bit a ^^^ bit b := by
 unfold bit
 rw [BitVec.msb_xor, ite_xor, BitVec.shiftLeft_xor_distrib]
 ac_rfl
theorem bits8_xor (a b : W) : bits8 (a ^^^ b) = bits8 a ^^^ bits8 b := by
 unfold bits8
 rw [bit_xor, bit_xor, bit_xor, bit_xor, bit_xor, bit_xor, bit_xor, bit_xor]
end Go.Proofs.Ytenlkobjldhfgaa.Crc
namespace Go.Proofs.Ytenlkobjldhfgaa.Crc
def tail (s : W) : List (BitVec 8) := [(s >>> 24).setWidth 8, (s >>> 16).setWidth 8, (s >>> 8).setWidth 8, s.setWidth 8]
end Go.Proofs.Ytenlkobjldhfgaa.Crc
