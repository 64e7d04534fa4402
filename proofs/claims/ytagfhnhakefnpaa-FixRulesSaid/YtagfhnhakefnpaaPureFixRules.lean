/- P1.1: for every two int values, cut to 21 bits: sums and products of package fix do not hang on their row, One turns nothing, 0 makes 0, a sum with the opposite is 0. No condition. -/
import Derived.Test.YtagfhnhakefnpaaPFixRulesx1
import Derived.Test.YtagfhnhakefnpaaHelp
namespace Go.Proofs.Ytagfhnhakefnpaa.Pure
open Go.RowKit Go.Proofs.Ytagfhnhakefnpaa Go.Proofs.Ytagfhnhakefnpaa.PFixRules Go.Proofs.YtagfhnhakefnpaaW.PrintWords Go.Proofs.YtagfhnhakefnpaaW.PrintLast Go.Proofs.YtagfhnhakefnpaaW.PrintMore

theorem may_eq (a : Int) : fix_May.f a = some (decide (okI a)) := by
  unfold fix_May.f okI
  by_cases h : a ≥ -1073741824
  · rw [if_pos h]; refine congrArg some (decide_eq_decide.2 ?_); omega
  · rw [if_neg h]; refine congrArg some (Eq.symm (decide_eq_false ?_)); omega
theorem cut_eq (x : Int) : fix_Cut.f x = some (cutI x) := by
  unfold fix_Cut.f cutI mn mx
  congr 1
  split <;> split <;> (try split) <;> omega
theorem and_eq (a b : Int) (h1 : -9223372036854775808 ≤ a + b) (h2 : a + b ≤ 9223372036854775807) : fix_And.f a b = some (cutI (a + b)) := by
  unfold fix_And.f; rw [cut_eq, wrap_id _ h1 h2]; rfl
theorem times_eq (a b : Int) (ha : okI a) (hb : okI b) : fix_Times.f a b = some (cutI (a * b / 65536)) := by
  have := mul_okI ha hb
  unfold fix_Times.f; rw [cut_eq, wrap_id _ (by omega) (by omega)]; rfl
theorem add_ok (a b : Int) (ha : okI a) (hb : okI b) : fix_Add.f a b = some (cutI (a + b), 0) := by
  unfold fix_Add.f; rw [may_eq, may_eq, decide_eq_true ha, decide_eq_true hb]
  unfold okI at ha hb
  simp only [Option.bind_some, if_true]; rw [and_eq _ _ (by omega) (by omega)]; rfl
theorem add_bad (a b : Int) (h : ¬ (okI a ∧ okI b)) : fix_Add.f a b = some (0, 100) := by
  unfold fix_Add.f; rw [may_eq, may_eq]
  by_cases ha : okI a
  · have hb : ¬ okI b := fun hb => h ⟨ha, hb⟩
    simp [ha, hb]
  · simp [ha]
theorem mul_ok (a b : Int) (ha : okI a) (hb : okI b) : fix_Mul.f a b = some (cutI (a * b / 65536), 0) := by
  unfold fix_Mul.f; rw [may_eq, may_eq, decide_eq_true ha, decide_eq_true hb]
  simp only [Option.bind_some, if_true]; rw [times_eq _ _ ha hb]; rfl
theorem mul_bad (a b : Int) (h : ¬ (okI a ∧ okI b)) : fix_Mul.f a b = some (0, 100) := by
  unfold fix_Mul.f; rw [may_eq, may_eq]
  by_cases ha : okI a
  · have hb : ¬ okI b := fun hb => h ⟨ha, hb⟩
    simp [ha, hb]
  · simp [ha]
theorem num_eq (x : Int) : grafterlaw0_Num.f x = some x := by unfold grafterlaw0_Num.f; first | rfl | (rw [wrap_id]; omega)
theorem awake_eq : grafterlaw1_awake.f = some true := by decide +kernel

theorem FixRules : grafterlaw1_FixRules.Pure := by
  intro a b wa wb
  unfold grafterlaw1_FixRules.f
  rw [awake_eq, and_mask a 21 (by decide) 2097151 (by decide), and_mask b 21 (by decide) 2097151 (by decide)]
  rw [wrap_id (a % 2 ^ 21 - 1048576) (by omega) (by omega), wrap_id (b % 2 ^ 21 - 1048576) (by omega) (by omega)]
  obtain ⟨x, hx⟩ : ∃ x, a % 2 ^ 21 - 1048576 = x := ⟨_, rfl⟩
  obtain ⟨y, hy⟩ : ∃ y, b % 2 ^ 21 - 1048576 = y := ⟨_, rfl⟩
  have hx1 : -1048576 ≤ x ∧ x ≤ 1048576 := by omega
  have hy1 : -1048576 ≤ y ∧ y ≤ 1048576 := by omega
  rw [hx, hy]; clear hx hy
  have ox : okI x := by unfold okI; omega
  have oy : okI y := by unfold okI; omega
  have oo : okI 65536 := by decide
  have o0 : okI 0 := by decide
  rw [wrap_id (-x) (by omega) (by omega)]
  have on : okI (-x) := by unfold okI; omega
  rw [add_ok x y ox oy, add_ok y x oy ox, mul_ok x y ox oy, mul_ok y x oy ox, mul_ok x 65536 ox oo, mul_ok 0 x o0 ox, add_ok x (-x) ox on]
  have e1 : cutI (x + y) = x + y := cutI_of _ (by unfold okI; omega)
  have e2 : cutI (y + x) = x + y := by rw [Int.add_comm y x]; exact e1
  have e3 : y * x = x * y := Int.mul_comm _ _
  have e4 : x * 65536 / 65536 = x := Int.mul_ediv_cancel _ (by decide)
  have e5 : cutI x = x := cutI_of _ ox
  have e6 : (0 : Int) * x / 65536 = 0 := by rw [Int.zero_mul]; rfl
  have e7 : cutI (x + -x) = 0 := by rw [show x + -x = 0 by omega]; rfl
  have e8 : wrap64 (x + y) = x + y := wrap_id _ (by omega) (by omega)
  have e9 : cutI 0 = 0 := rfl
  simp [num_eq, e1, e2, e3, e4, e5, e7, e8, e9]

end Go.Proofs.Ytagfhnhakefnpaa.Pure
