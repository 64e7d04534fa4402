/- P1.1: for every two int values, cut to 20 bits: a product of package fix is the greatest whole number not above the true one. No condition. -/
import Derived.Test.YtagfhnhakefnpaaPFixFloorx1
import Derived.Test.YtagfhnhakefnpaaHelp
namespace Go.Proofs.Ytagfhnhakefnpaa.Pure
open Go.RowKit Go.Proofs.Ytagfhnhakefnpaa Go.Proofs.Ytagfhnhakefnpaa.PFixFloor Go.Proofs.YtagfhnhakefnpaaW.PrintWords Go.Proofs.YtagfhnhakefnpaaW.PrintLast Go.Proofs.YtagfhnhakefnpaaW.PrintMore

theorem may_eq (a : Int) : fix_May.f a = some (decide (okI a)) := by
  unfold fix_May.f okI
  by_cases h : a ≥ -1073741824
  · rw [if_pos h]; refine congrArg some (decide_eq_decide.2 ?_); omega
  · rw [if_neg h]; refine congrArg some (Eq.symm (decide_eq_false ?_)); omega
theorem cut_eq (x : Int) : fix_Cut.f x = some (cutI x) := by
  unfold fix_Cut.f cutI mn mx
  congr 1
  split <;> split <;> (try split) <;> omega
theorem and_eq (a b : Int) (h1 : -9223372036854775808 ≤ a + b) (h2 : a + b ≤ 9223372036854775807) : fix_And.f a b = some (cutI (a + b)) := by
  unfold fix_And.f; rw [cut_eq, wrap_id _ h1 h2]; rfl
theorem times_eq (a b : Int) (ha : okI a) (hb : okI b) : fix_Times.f a b = some (cutI (a * b / 65536)) := by
  have := mul_okI ha hb
  unfold fix_Times.f; rw [cut_eq, wrap_id _ (by omega) (by omega)]; rfl
theorem add_ok (a b : Int) (ha : okI a) (hb : okI b) : fix_Add.f a b = some (cutI (a + b), 0) := by
  unfold fix_Add.f; rw [may_eq, may_eq, decide_eq_true ha, decide_eq_true hb]
  unfold okI at ha hb
  simp only [Option.bind_some, if_true]; rw [and_eq _ _ (by omega) (by omega)]; rfl
theorem add_bad (a b : Int) (h : ¬ (okI a ∧ okI b)) : fix_Add.f a b = some (0, 100) := by
  unfold fix_Add.f; rw [may_eq, may_eq]
  by_cases ha : okI a
  · have hb : ¬ okI b := fun hb => h ⟨ha, hb⟩
    simp [ha, hb]
  · simp [ha]
theorem mul_ok (a b : Int) (ha : okI a) (hb : okI b) : fix_Mul.f a b = some (cutI (a * b / 65536), 0) := by
  unfold fix_Mul.f; rw [may_eq, may_eq, decide_eq_true ha, decide_eq_true hb]
  simp only [Option.bind_some, if_true]; rw [times_eq _ _ ha hb]; rfl
theorem mul_bad (a b : Int) (h : ¬ (okI a ∧ okI b)) : fix_Mul.f a b = some (0, 100) := by
  unfold fix_Mul.f; rw [may_eq, may_eq]
  by_cases ha : okI a
  · have hb : ¬ okI b := fun hb => h ⟨ha, hb⟩
    simp [ha, hb]
  · simp [ha]
theorem num_eq (x : Int) : grafterlaw0_Num.f x = some x := by unfold grafterlaw0_Num.f; first | rfl | (rw [wrap_id]; omega)
theorem awake_eq : grafterlaw1_awake.f = some true := by decide +kernel

theorem FixFloor : grafterlaw1_FixFloor.Pure := by
  intro a b wa wb
  unfold grafterlaw1_FixFloor.f
  rw [awake_eq, and_mask a 20 (by decide) 1048575 (by decide), and_mask b 20 (by decide) 1048575 (by decide)]
  rw [wrap_id (a % 2 ^ 20 - 524288) (by omega) (by omega), wrap_id (b % 2 ^ 20 - 524288) (by omega) (by omega)]
  obtain ⟨x, hx⟩ : ∃ x, a % 2 ^ 20 - 524288 = x := ⟨_, rfl⟩
  obtain ⟨y, hy⟩ : ∃ y, b % 2 ^ 20 - 524288 = y := ⟨_, rfl⟩
  have hx1 : -524288 ≤ x ∧ x ≤ 524288 := by omega
  have hy1 : -524288 ≤ y ∧ y ≤ 524288 := by omega
  rw [hx, hy]; clear hx hy
  rw [mul_ok x y (by unfold okI; omega) (by unfold okI; omega)]
  have hm := mul_abs 524288 524288 x y (by decide) hx1.1 hx1.2 hy1.1 hy1.2
  obtain ⟨m, hm'⟩ : ∃ m, x * y = m := ⟨_, rfl⟩
  rw [hm'] at hm ⊢
  rw [cutI_of (m / 65536) (by unfold okI; omega)]
  simp only [Option.bind_some, if_true, num_eq]
  rw [wrap_id m (by omega) (by omega), wrap_id (65536 * (m / 65536)) (by omega) (by omega), wrap_id (m / 65536 + 1) (by omega) (by omega), wrap_id (65536 * (m / 65536 + 1)) (by omega) (by omega)]
  rw [if_pos (by omega), decide_eq_true (by omega)]

end Go.Proofs.Ytagfhnhakefnpaa.Pure
