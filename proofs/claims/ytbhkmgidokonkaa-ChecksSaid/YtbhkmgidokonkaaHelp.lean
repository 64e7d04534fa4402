/- Lemmas on numbers: a whole number's bits under a mask, a number cut off at the limits, the bounds of a product. -/
import Derived.RowKit
import Derived.Laws.BitsLemmas
namespace Go.Proofs.Ytbhkmgidokonkaa
open Go Go.RowKit
theorem toNat_ofInt64 (x : Int) : (BitVec.ofInt 64 x).toNat = (x % 18446744073709551616).toNat := by
  rw [BitVec.toNat_ofInt]; rfl
theorem i64_and (x y : Int) : Go.bits .and .i64 x y = wrap64 (((x % 18446744073709551616).toNat &&& (y % 18446744073709551616).toNat : Nat) : Int) := by
  show IntKind.i64.wrap (((BitVec.ofInt 64 x &&& BitVec.ofInt 64 y).toNat : Nat) : Int) = _
  rw [BitVec.toNat_and, toNat_ofInt64, toNat_ofInt64, IntKind.wrap_i64]; rfl
theorem i64_or (x y : Int) : Go.bits .or .i64 x y = wrap64 (((x % 18446744073709551616).toNat ||| (y % 18446744073709551616).toNat : Nat) : Int) := by
  show IntKind.i64.wrap (((BitVec.ofInt 64 x ||| BitVec.ofInt 64 y).toNat : Nat) : Int) = _
  rw [BitVec.toNat_or, toNat_ofInt64, toNat_ofInt64, IntKind.wrap_i64]; rfl
theorem i64_xor (x y : Int) : Go.bits .xor .i64 x y = wrap64 (((x % 18446744073709551616).toNat ^^^ (y % 18446744073709551616).toNat : Nat) : Int) := by
  show IntKind.i64.wrap (((BitVec.ofInt 64 x ^^^ BitVec.ofInt 64 y).toNat : Nat) : Int) = _
  rw [BitVec.toNat_xor, toNat_ofInt64, toNat_ofInt64, IntKind.wrap_i64]; rfl
theorem and_mask (x : Int) (i : Nat) (hi : i ≤ 62) (m : Int) (hm : m = 2 ^ i - 1) : Go.bits .and .i64 x m = x % 2 ^ i := by
  subst hm
  have hp : (0 : Int) < 2 ^ i := Int.pow_pos (by decide)
  obtain ⟨j, hj⟩ : ∃ j, 62 = i + j := ⟨62 - i, by omega⟩
  have hp2 : (0 : Int) < 2 ^ j := Int.pow_pos (by decide)
  have hprod : (2 : Int) ^ i * 2 ^ j = 4611686018427387904 := by
    rw [← Int.pow_add, ← hj]; rfl
  have hle : (2 : Int) ^ i ≤ 4611686018427387904 := by
    have := Int.mul_le_mul_of_nonneg_left (show (1 : Int) ≤ 2 ^ j by omega) (show (0 : Int) ≤ 2 ^ i by omega)
    omega
  have h1 : ((2 : Int) ^ i - 1) % 18446744073709551616 = 2 ^ i - 1 := Int.emod_eq_of_lt (by omega) (by omega)
  have h2 : ((2 : Int) ^ i - 1).toNat = 2 ^ i - 1 := by
    have : ((2 : Int) ^ i - 1) = ((2 ^ i - 1 : Nat) : Int) := by
      rw [Int.natCast_sub (Nat.two_pow_pos i)]; simp
    rw [this]; exact Int.toNat_natCast _
  rw [i64_and, h1, h2, Nat.and_two_pow_sub_one_eq_mod]
  have h3 : (((x % 18446744073709551616).toNat % 2 ^ i : Nat) : Int) = x % 2 ^ i := by
    rw [Int.natCast_emod, Int.toNat_of_nonneg (Int.emod_nonneg _ (by decide))]
    rw [Int.natCast_pow]
    exact Int.emod_emod_of_dvd x (show ((2:Int)^i) ∣ 18446744073709551616 from by
      exact ⟨2 ^ j * 4, by rw [← Int.mul_assoc, hprod]; rfl⟩)
  rw [h3]
  have := Int.emod_nonneg x (show (2:Int)^i ≠ 0 by omega)
  have := Int.emod_lt_of_pos x hp
  unfold wrap64; omega
def okI (a : Int) : Prop := -1073741824 ≤ a ∧ a ≤ 1073741824
def cutI (x : Int) : Int := if x > 1073741824 then 1073741824 else if x < -1073741824 then -1073741824 else x
instance (a : Int) : Decidable (okI a) := inferInstanceAs (Decidable (_ ∧ _))
theorem cutI_ok (x : Int) : okI (cutI x) := by unfold cutI okI; split <;> (try split) <;> omega
theorem cutI_of (x : Int) (h : okI x) : cutI x = x := by unfold okI at h; unfold cutI; rw [if_neg (by omega), if_neg (by omega)]
theorem mul_abs (M N a b : Int) (hM : 0 ≤ M) (h1 : -M ≤ a) (h2 : a ≤ M) (h3 : -N ≤ b) (h4 : b ≤ N) : -(M * N) ≤ a * b ∧ a * b ≤ M * N := by
  have hN : 0 ≤ N := by omega
  rcases Int.le_total 0 a with ha | ha <;> rcases Int.le_total 0 b with hb | hb
  · have := Int.mul_le_mul h2 h4 hb hM
    have := Int.mul_nonneg ha hb
    have := Int.mul_nonneg hM hN
    omega
  · have := Int.mul_le_mul h2 (show -b ≤ N by omega) (show 0 ≤ -b by omega) hM
    have := Int.mul_nonneg ha (show 0 ≤ -b by omega)
    have := Int.mul_nonneg hM hN
    rw [Int.mul_neg] at *
    omega
  · have := Int.mul_le_mul (show -a ≤ M by omega) h4 hb hM
    have := Int.mul_nonneg (show 0 ≤ -a by omega) hb
    have := Int.mul_nonneg hM hN
    rw [Int.neg_mul] at *
    omega
  · have := Int.mul_le_mul (show -a ≤ M by omega) (show -b ≤ N by omega) (show 0 ≤ -b by omega) hM
    have := Int.mul_nonneg (show 0 ≤ -a by omega) (show 0 ≤ -b by omega)
    have := Int.mul_nonneg hM hN
    rw [Int.neg_mul_neg] at *
    omega
theorem mul_okI {a b : Int} (ha : okI a) (hb : okI b) : -1152921504606846976 ≤ a * b ∧ a * b ≤ 1152921504606846976 :=
  mul_abs 1073741824 1073741824 a b (by decide) ha.1 ha.2 hb.1 hb.2
theorem wrap_id (x : Int) (h1 : -9223372036854775808 ≤ x) (h2 : x ≤ 9223372036854775807) : wrap64 x = x := by unfold wrap64; omega
theorem bd64 {a : Int} (h : (Lit.int .i64 a).wf = true) : -9223372036854775808 ≤ a ∧ a ≤ 9223372036854775807 := by
  have h' : (decide (IntKind.i64.min ≤ a) && decide (a ≤ IntKind.i64.max)) = true := h
  rw [Bool.and_eq_true, decide_eq_true_eq, decide_eq_true_eq] at h'
  exact h'
end Go.Proofs.Ytbhkmgidokonkaa
