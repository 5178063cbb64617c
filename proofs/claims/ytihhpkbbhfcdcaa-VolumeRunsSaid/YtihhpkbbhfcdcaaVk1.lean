/- THE SUM: by bits and by nibbles: plain words. -/
import Derived.Test.YtihhpkbbhfcdcaaVn2
import Derived.Test.YtihhpkbbhfcdcaaSx14
set_option linter.unusedVariables false
set_option linter.unusedSimpArgs false
set_option maxRecDepth 100000
namespace Go.Proofs.Ytihhpkbbhfcdcaa
open Go Go.Sx Go.Proofs
def poly : BitVec 32 := 0x82f63b78#32
def stepB (s : BitVec 32) : BitVec 32 := if s.getLsbD 0 = true then (s >>> 1) ^^^ poly else s >>> 1
def nibT : List (BitVec 32) := [0x00000000#32, 0x105ec76f#32, 0x20bd8ede#32, 0x30e349b1#32, 0x417b1dbc#32, 0x5125dad3#32, 0x61c69362#32, 0x7198540d#32, 0x82f63b78#32, 0x92a8fc17#32, 0xa24bb5a6#32, 0xb21572c9#32, 0xc38d26c4#32, 0xd3d3e1ab#32, 0xe330a81a#32, 0xf36e6f75#32]
def nibB (i : BitVec 32) : BitVec 32 := nibT.getD i.toNat 0
theorem stepB_xor (a b : BitVec 32) : stepB (a ^^^ b) = stepB a ^^^ stepB b := by
  unfold stepB
  rw [BitVec.getLsbD_xor, BitVec.ushiftRight_xor_distrib]
  have e : ∀ x : BitVec 32, poly ^^^ (x ^^^ poly) = x := fun x => by rw [BitVec.xor_comm x, ← BitVec.xor_assoc, BitVec.xor_self, BitVec.zero_xor]
  cases a.getLsbD 0 <;> cases b.getLsbD 0
  · simp
  · simp [BitVec.xor_assoc]
  · simp only [Bool.xor_false, if_true, Bool.false_eq_true, if_false]
    rw [BitVec.xor_assoc, BitVec.xor_assoc, BitVec.xor_comm poly]
  · simp only [Bool.xor_true, Bool.not_true, Bool.false_eq_true, if_false, if_true]
    rw [BitVec.xor_assoc, e]
theorem stepB_even {t : BitVec 32} (k : Nat) (h : t.toNat < 2 ^ (32 - (k + 1))) : stepB (t <<< (k + 1)) = t <<< k := by
  have h0 : (t <<< (k + 1)).getLsbD 0 = false := by simp
  unfold stepB
  rw [h0]
  simp only [Bool.false_eq_true, if_false]
  apply BitVec.eq_of_toNat_eq
  have hk : k + 1 ≤ 32 ∨ 32 < k + 1 := by omega
  rw [BitVec.toNat_ushiftRight, BitVec.toNat_shiftLeft, BitVec.toNat_shiftLeft, Nat.shiftLeft_eq, Nat.shiftLeft_eq, Nat.shiftRight_eq_div_pow]
  rcases hk with hk | hk
  · have hp : 2 ^ (32 - (k + 1)) * 2 ^ (k + 1) = 2 ^ 32 := by rw [← Nat.pow_add]; congr 1; omega
    have h1 : t.toNat * 2 ^ (k + 1) < 2 ^ 32 := by rw [← hp]; exact Nat.mul_lt_mul_of_pos_right h (Nat.pow_pos (by decide))
    have h2 : t.toNat * 2 ^ k < 2 ^ 32 := by
      refine Nat.lt_of_le_of_lt (Nat.mul_le_mul_left _ ?_) h1
      exact Nat.pow_le_pow_right (by decide) (by omega)
    rw [Nat.mod_eq_of_lt h1, Nat.mod_eq_of_lt h2, Nat.pow_succ, ← Nat.mul_assoc]
    simp
  · have : t.toNat = 0 := by
      rw [show 32 - (k + 1) = 0 by omega] at h
      omega
    rw [this]; simp
theorem nib16 : ∀ l : BitVec 4, stepB (stepB (stepB (stepB (l.zeroExtend 32)))) = nibB (l.zeroExtend 32) := by decide +kernel
theorem nib_step (s : BitVec 32) : (s >>> 4) ^^^ nibB (s &&& 15#32) = stepB (stepB (stepB (stepB s))) := by
  have hs : s = ((s >>> 4) <<< 4) ^^^ (s &&& 15#32) := by
    apply BitVec.eq_of_getLsbD_eq
    intro i hi
    rw [BitVec.getLsbD_xor, BitVec.getLsbD_shiftLeft, BitVec.getLsbD_ushiftRight, BitVec.getLsbD_and]
    by_cases h4 : i < 4
    · have : (15#32).getLsbD i = true := by
        rcases (show i = 0 ∨ i = 1 ∨ i = 2 ∨ i = 3 by omega) with rfl | rfl | rfl | rfl <;> decide
      simp [h4, this]
    · have : (15#32).getLsbD i = false := by
        have : (15#32).toNat < 2 ^ 4 := by decide
        rw [← BitVec.testBit_toNat]
        exact Nat.testBit_lt_two_pow (Nat.lt_of_lt_of_le this (Nat.pow_le_pow_right (by decide) (by omega)))
      rw [this, Bool.and_false, Bool.xor_false, show 4 + (i - 4) = i by omega]
      simp [h4, hi]
  have ht : (s >>> 4).toNat < 2 ^ 28 := by
    rw [BitVec.toNat_ushiftRight, Nat.shiftRight_eq_div_pow]
    have := s.isLt
    omega
  have e4 : stepB (stepB (stepB (stepB ((s >>> 4) <<< 4)))) = s >>> 4 := by
    rw [stepB_even 3 ht, stepB_even 2 (Nat.lt_of_lt_of_le ht (by decide)), stepB_even 1 (Nat.lt_of_lt_of_le ht (by decide)), stepB_even 0 (Nat.lt_of_lt_of_le ht (by decide)), BitVec.shiftLeft_zero]
  have el : s &&& 15#32 = ((s.truncate 4 : BitVec 4)).zeroExtend 32 := by
    apply BitVec.eq_of_toNat_eq
    simp
    have : s.toNat &&& 15 = s.toNat % 2 ^ 4 := Nat.and_two_pow_sub_one_eq_mod s.toNat 4
    omega
  conv => rhs; rw [hs]
  rw [stepB_xor, stepB_xor, stepB_xor, stepB_xor, e4, el, nib16]
end Go.Proofs.Ytihhpkbbhfcdcaa
