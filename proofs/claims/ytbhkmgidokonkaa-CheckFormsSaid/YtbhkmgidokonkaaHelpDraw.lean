/- Lemmas on numbers: the draw's steps as plain sums, products and remainders, and their bounds. -/
import Derived.Test.YtbhkmgidokonkaaHelp
import Derived.Laws.BitsAllLaws
namespace Go.Proofs.Ytbhkmgidokonkaa
open Go Go.RowKit
theorem xor_i64 (x y : Int) (h1 : 0 ≤ x) (h2 : x < 2147483648) (h3 : 0 ≤ y) (h4 : y < 2147483648) : Go.bits .xor .i64 x y = ((x.toNat ^^^ y.toNat : Nat) : Int) := by
  rw [i64_xor, Int.emod_eq_of_lt h1 (by omega), Int.emod_eq_of_lt h3 (by omega)]
  have : x.toNat ^^^ y.toNat < 2 ^ 31 := Nat.xor_lt_two_pow (by omega) (by omega)
  exact wrap_id _ (by omega) (by omega)
theorem xor_u64 (x y : Int) (h1 : 0 ≤ x) (h2 : x < 2147483648) (h3 : 0 ≤ y) (h4 : y < 2147483648) : Go.bits .xor .u64 x y = ((x.toNat ^^^ y.toNat : Nat) : Int) :=
  u64_xor x y h1 (by omega) h3 (by omega)
theorem wrap_u64_eq (x : Int) : IntKind.u64.wrap x = x % 18446744073709551616 := by
  unfold IntKind.wrap
  have h : (IntKind.u64.signed && decide (x % 2 ^ IntKind.u64.bits ≥ 2 ^ (IntKind.u64.bits - 1))) = false := rfl
  show (if (IntKind.u64.signed && decide (x % 2 ^ IntKind.u64.bits ≥ 2 ^ (IntKind.u64.bits - 1))) = true then _ else x % 2 ^ IntKind.u64.bits) = _
  rw [h, if_neg (by decide)]
  rfl
theorem wrap_u64 (x : Int) (h1 : 0 ≤ x) (h2 : x < 18446744073709551616) : IntKind.u64.wrap x = x := by
  rw [wrap_u64_eq]; exact Int.emod_eq_of_lt h1 h2
theorem and_u64 (x : Int) (i : Nat) (hi : i ≤ 64) (m : Int) (hm : m = 2 ^ i - 1) (h1 : 0 ≤ x) (h2 : x < 18446744073709551616) : Go.bits .and .u64 x m = x % 2 ^ i := by
  subst hm
  exact bits_mask .u64 64 (by decide) (fun n h1 h2 => wrap_u64 n h1 h2) i hi x h1 h2
theorem wrap_u64_bd (x : Int) : 0 ≤ IntKind.u64.wrap x := by
  rw [wrap_u64_eq]
  exact Int.emod_nonneg _ (by decide)
theorem tmod_pos (x y : Int) (h : 0 ≤ x) : Int.tmod x y = x % y := Int.tmod_eq_emod_of_nonneg h
theorem tdiv_pos (x y : Int) (h : 0 ≤ x) : Int.tdiv x y = x / y := Int.tdiv_eq_ediv_of_nonneg h
def xrI (x : Int) : Int := ((x.toNat ^^^ (x / 32768).toNat : Nat) : Int)
theorem xrI_bd (x : Int) (h1 : 0 ≤ x) (h2 : x < 2147483648) : 0 ≤ xrI x ∧ xrI x < 2147483648 := by
  have : x.toNat ^^^ (x / 32768).toNat < 2 ^ 31 := Nat.xor_lt_two_pow (by omega) (by omega)
  unfold xrI; omega
theorem xrI_i64 (x : Int) (h1 : 0 ≤ x) (h2 : x < 2147483648) : Go.bits .xor .i64 x (x / 32768) = xrI x := xor_i64 x _ h1 h2 (by omega) (by omega)
theorem xrI_u64 (x : Int) (h1 : 0 ≤ x) (h2 : x < 2147483648) : Go.bits .xor .u64 x (x / 32768) = xrI x := xor_u64 x _ h1 h2 (by omega) (by omega)
def mixI (x : Int) : Int := (xrI x * 1103515 + 12345) % 2147483648
theorem mixI_bd (x : Int) : 0 ≤ mixI x ∧ mixI x < 2147483648 := by unfold mixI; omega
def x0I (s k : Int) : Int := (40503 * s + 30011 * k + 12345) % 2147483648
theorem x0I_bd (s k : Int) : 0 ≤ x0I s k ∧ x0I s k < 2147483648 := by unfold x0I; omega
def drawI (s k : Int) : Int := mixI (mixI (mixI (x0I s k))) / 256 % 65536
theorem drawI_bd (s k : Int) : 0 ≤ drawI s k ∧ drawI s k < 65536 := by unfold drawI; omega
def okS (s : Int) : Prop := 0 ≤ s ∧ s ≤ 65535
def okK (k : Int) : Prop := 0 ≤ k ∧ k ≤ 1048576
instance (a : Int) : Decidable (okS a) := inferInstanceAs (Decidable (_ ∧ _))
instance (a : Int) : Decidable (okK a) := inferInstanceAs (Decidable (_ ∧ _))
theorem mix_i64 (x : Int) (h1 : 0 ≤ x) (h2 : x < 2147483648) : Go.bits .and .i64 (wrap64 (wrap64 (Go.bits .xor .i64 x (x / 32768) * 1103515) + 12345)) 2147483647 = mixI x := by
  have := xrI_bd x h1 h2
  rw [xrI_i64 x h1 h2, wrap_id (xrI x * 1103515) (by omega) (by omega), wrap_id (xrI x * 1103515 + 12345) (by omega) (by omega)]
  exact and_mask _ 31 (by decide) _ (by decide)
theorem mix_tmod (x : Int) (h1 : 0 ≤ x) (h2 : x < 2147483648) : Int.tmod (wrap64 (wrap64 (Go.bits .xor .i64 x (x / 32768) * 1103515) + 12345)) 2147483648 = mixI x := by
  have := xrI_bd x h1 h2
  rw [xrI_i64 x h1 h2, wrap_id (xrI x * 1103515) (by omega) (by omega), wrap_id (xrI x * 1103515 + 12345) (by omega) (by omega)]
  exact tmod_pos _ _ (by omega)
theorem mix_u64 (x : Int) (h1 : 0 ≤ x) (h2 : x < 2147483648) : Go.bits .and .u64 (IntKind.u64.wrap (IntKind.u64.wrap (Go.bits .xor .u64 x (x / 32768) * 1103515) + 12345)) 2147483647 = mixI x := by
  have := xrI_bd x h1 h2
  rw [xrI_u64 x h1 h2, wrap_u64 (xrI x * 1103515) (by omega) (by omega), wrap_u64 (xrI x * 1103515 + 12345) (by omega) (by omega)]
  exact and_u64 _ 31 (by decide) _ (by decide) (by omega) (by omega)
theorem x0_i64 (s k : Int) (hs : okS s) (hk : okK k) : wrap64 (wrap64 (wrap64 (40503 * s) + wrap64 (30011 * k)) + 12345) = 40503 * s + 30011 * k + 12345 := by
  unfold okS at hs; unfold okK at hk
  rw [wrap_id (40503 * s) (by omega) (by omega), wrap_id (30011 * k) (by omega) (by omega), wrap_id (40503 * s + 30011 * k) (by omega) (by omega), wrap_id _ (by omega) (by omega)]
theorem x0_and (s k : Int) (hs : okS s) (hk : okK k) : Go.bits .and .i64 (wrap64 (wrap64 (wrap64 (40503 * s) + wrap64 (30011 * k)) + 12345)) 2147483647 = x0I s k := by
  rw [x0_i64 s k hs hk]; exact and_mask _ 31 (by decide) _ (by decide)
theorem x0_tmod (s k : Int) (hs : okS s) (hk : okK k) : Int.tmod (wrap64 (wrap64 (wrap64 (40503 * s) + wrap64 (30011 * k)) + 12345)) 2147483648 = x0I s k := by
  rw [x0_i64 s k hs hk]; unfold okS at hs; unfold okK at hk; exact tmod_pos _ _ (by omega)
theorem x0_u64 (s k : Int) (hs : okS s) (hk : okK k) : Go.bits .and .u64 (IntKind.u64.wrap (wrap64 (wrap64 (wrap64 (40503 * s) + wrap64 (30011 * k)) + 12345))) 2147483647 = x0I s k := by
  rw [x0_i64 s k hs hk]; unfold okS at hs; unfold okK at hk
  rw [wrap_u64 _ (by omega) (by omega)]; exact and_u64 _ 31 (by decide) _ (by decide) (by omega) (by omega)
def pickI (s k b : Int) : Int := drawI s k * b / 65536
theorem pickI_bd (s k b : Int) (h1 : 1 ≤ b) : 0 ≤ pickI s k b ∧ pickI s k b < b := by
  have hd := drawI_bd s k
  unfold pickI
  have h3 : 0 ≤ drawI s k * b := Int.mul_nonneg hd.1 (by omega)
  have h4 : drawI s k * b ≤ 65535 * b := Int.mul_le_mul_of_nonneg_right (by omega) (by omega)
  omega
theorem pick_mul (s k b : Int) (h1 : 1 ≤ b) (h2 : b ≤ 65536) : 0 ≤ drawI s k * b ∧ drawI s k * b ≤ 4294967296 := by
  have hd := drawI_bd s k
  have h3 : 0 ≤ drawI s k * b := Int.mul_nonneg hd.1 (by omega)
  have h4 : drawI s k * b ≤ 65535 * b := Int.mul_le_mul_of_nonneg_right (by omega) (by omega)
  omega
theorem pick_tdiv (s k b : Int) (h1 : 1 ≤ b) (h2 : b ≤ 65536) : wrap64 (Int.tdiv (wrap64 (drawI s k * b)) 65536) = pickI s k b := by
  have h := pick_mul s k b h1 h2
  unfold pickI
  rw [wrap_id (drawI s k * b) (by omega) (by omega), tdiv_pos _ _ h.1]
  exact wrap_id _ (by omega) (by omega)
theorem pick_ediv (s k b : Int) (h1 : 1 ≤ b) (h2 : b ≤ 65536) : wrap64 (drawI s k * b) / 65536 = pickI s k b := by
  have h := pick_mul s k b h1 h2
  unfold pickI
  rw [wrap_id (drawI s k * b) (by omega) (by omega)]
end Go.Proofs.Ytbhkmgidokonkaa
