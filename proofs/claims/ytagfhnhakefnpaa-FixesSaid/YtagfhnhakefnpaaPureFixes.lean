/- P1.1: for every two numbers, of any int value, Add, Mul and May of package fix answer what the document's reference answers. No condition. -/
import Derived.Test.YtagfhnhakefnpaaPFixesx1
import Derived.Test.YtagfhnhakefnpaaHelp
namespace Go.Proofs.Ytagfhnhakefnpaa.Pure
open Go.RowKit Go.Proofs.Ytagfhnhakefnpaa Go.Proofs.Ytagfhnhakefnpaa.PFixes Go.Proofs.YtagfhnhakefnpaaW.PrintWords Go.Proofs.YtagfhnhakefnpaaW.PrintLast Go.Proofs.YtagfhnhakefnpaaW.PrintMore

theorem may_eq (a : Int) : fix_May.f a = some (decide (okI a)) := by
  unfold fix_May.f okI
  by_cases h : a ≥ -1073741824
  · rw [if_pos h]; refine congrArg some (decide_eq_decide.2 ?_); omega
  · rw [if_neg h]; refine congrArg some (Eq.symm (decide_eq_false ?_)); omega
theorem cut_eq (x : Int) : fix_Cut.f x = some (cutI x) := by
  unfold fix_Cut.f cutI mn mx
  congr 1
  split <;> split <;> (try split) <;> omega
theorem and_eq (a b : Int) (h1 : -9223372036854775808 ≤ a + b) (h2 : a + b ≤ 9223372036854775807) : fix_And.f a b = some (cutI (a + b)) := by
  unfold fix_And.f; rw [cut_eq, wrap_id _ h1 h2]; rfl
theorem times_eq (a b : Int) (ha : okI a) (hb : okI b) : fix_Times.f a b = some (cutI (a * b / 65536)) := by
  have := mul_okI ha hb
  unfold fix_Times.f; rw [cut_eq, wrap_id _ (by omega) (by omega)]; rfl
theorem add_ok (a b : Int) (ha : okI a) (hb : okI b) : fix_Add.f a b = some (cutI (a + b), 0) := by
  unfold fix_Add.f; rw [may_eq, may_eq, decide_eq_true ha, decide_eq_true hb]
  unfold okI at ha hb
  simp only [Option.bind_some, if_true]; rw [and_eq _ _ (by omega) (by omega)]; rfl
theorem add_bad (a b : Int) (h : ¬ (okI a ∧ okI b)) : fix_Add.f a b = some (0, 100) := by
  unfold fix_Add.f; rw [may_eq, may_eq]
  by_cases ha : okI a
  · have hb : ¬ okI b := fun hb => h ⟨ha, hb⟩
    simp [ha, hb]
  · simp [ha]
theorem mul_ok (a b : Int) (ha : okI a) (hb : okI b) : fix_Mul.f a b = some (cutI (a * b / 65536), 0) := by
  unfold fix_Mul.f; rw [may_eq, may_eq, decide_eq_true ha, decide_eq_true hb]
  simp only [Option.bind_some, if_true]; rw [times_eq _ _ ha hb]; rfl
theorem mul_bad (a b : Int) (h : ¬ (okI a ∧ okI b)) : fix_Mul.f a b = some (0, 100) := by
  unfold fix_Mul.f; rw [may_eq, may_eq]
  by_cases ha : okI a
  · have hb : ¬ okI b := fun hb => h ⟨ha, hb⟩
    simp [ha, hb]
  · simp [ha]
theorem num_eq (x : Int) : grafterlaw0_Num.f x = some x := by unfold grafterlaw0_Num.f; first | rfl | (rw [wrap_id]; omega)
theorem awake_eq : grafterlaw1_awake.f = some true := by decide +kernel

theorem upTo_eq (a b c : Int) : grafterref1_upTo.f a b c = some (decide (b ≤ a ∧ a ≤ c)) := by
  unfold grafterref1_upTo.f
  by_cases h : a ≥ b
  · rw [if_pos h]; refine congrArg some (decide_eq_decide.2 ?_); omega
  · rw [if_neg h]; refine congrArg some (Eq.symm (decide_eq_false ?_)); omega
theorem rmay_eq (a : Int) : grafterref1_FixMay.f a = some (decide (okI a)) := by
  unfold grafterref1_FixMay.f; rw [upTo_eq]; rfl
theorem within_eq (x : Int) : grafterref1_Within.f x (-1073741824) 1073741824 = some (cutI x) := by
  unfold grafterref1_Within.f cutI mn mx
  congr 1
  split <;> split <;> (try split) <;> omega
theorem radd_ok (a b : Int) (ha : okI a) (hb : okI b) : grafterref1_Add.f a b = some (cutI (a + b), 0) := by
  unfold grafterref1_Add.f grafterref1_Plus.f; rw [rmay_eq, rmay_eq, decide_eq_true ha, decide_eq_true hb]
  unfold okI at ha hb
  simp only [Option.bind_some, if_true]; rw [within_eq, wrap_id _ (by omega) (by omega)]; rfl
theorem radd_bad (a b : Int) (h : ¬ (okI a ∧ okI b)) : grafterref1_Add.f a b = some (0, 100) := by
  unfold grafterref1_Add.f; rw [rmay_eq, rmay_eq]
  by_cases ha : okI a
  · have hb : ¬ okI b := fun hb => h ⟨ha, hb⟩
    simp [ha, hb]
  · simp [ha]
theorem rmul_ok (a b : Int) (ha : okI a) (hb : okI b) : grafterref1_Mul.f a b = some (cutI (a * b / 65536), 0) := by
  have := mul_okI ha hb
  unfold grafterref1_Mul.f grafterref1_Times.f; rw [rmay_eq, rmay_eq, decide_eq_true ha, decide_eq_true hb]
  simp only [Option.bind_some, if_true]; rw [within_eq, wrap_id _ (by omega) (by omega)]; rfl
theorem rmul_bad (a b : Int) (h : ¬ (okI a ∧ okI b)) : grafterref1_Mul.f a b = some (0, 100) := by
  unfold grafterref1_Mul.f; rw [rmay_eq, rmay_eq]
  by_cases ha : okI a
  · have hb : ¬ okI b := fun hb => h ⟨ha, hb⟩
    simp [ha, hb]
  · simp [ha]

theorem Fixes : grafterlaw1_Fixes.Pure := by
  intro a b wa wb
  unfold grafterlaw1_Fixes.f
  rw [awake_eq, may_eq, rmay_eq]
  by_cases h : okI a ∧ okI b
  · rw [add_ok a b h.1 h.2, radd_ok a b h.1 h.2, mul_ok a b h.1 h.2, rmul_ok a b h.1 h.2]
    simp [num_eq]
  · rw [add_bad a b h, radd_bad a b h, mul_bad a b h, rmul_bad a b h]
    simp [num_eq]

end Go.Proofs.Ytagfhnhakefnpaa.Pure
