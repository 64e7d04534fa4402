/- P1.1: for every two int values, cut to 30 bits: at the ends the sums and products of package fix are cut off. No condition. -/
import Derived.Test.YtagfhnhakefnpaaPFixEndsx1
import Derived.Test.YtagfhnhakefnpaaHelp
namespace Go.Proofs.Ytagfhnhakefnpaa.Pure
open Go.RowKit Go.Proofs.Ytagfhnhakefnpaa Go.Proofs.Ytagfhnhakefnpaa.PFixEnds Go.Proofs.YtagfhnhakefnpaaW.PrintWords Go.Proofs.YtagfhnhakefnpaaW.PrintLast Go.Proofs.YtagfhnhakefnpaaW.PrintMore

theorem may_eq (a : Int) : fix_May.f a = some (decide (okI a)) := by
  unfold fix_May.f okI
  by_cases h : a ≥ -1073741824
  · rw [if_pos h]; refine congrArg some (decide_eq_decide.2 ?_); omega
  · rw [if_neg h]; refine congrArg some (Eq.symm (decide_eq_false ?_)); omega
theorem cut_eq (x : Int) : fix_Cut.f x = some (cutI x) := by
  unfold fix_Cut.f cutI mn mx
  congr 1
  split <;> split <;> (try split) <;> omega
theorem and_eq (a b : Int) (h1 : -9223372036854775808 ≤ a + b) (h2 : a + b ≤ 9223372036854775807) : fix_And.f a b = some (cutI (a + b)) := by
  unfold fix_And.f; rw [cut_eq, wrap_id _ h1 h2]; rfl
theorem times_eq (a b : Int) (ha : okI a) (hb : okI b) : fix_Times.f a b = some (cutI (a * b / 65536)) := by
  have := mul_okI ha hb
  unfold fix_Times.f; rw [cut_eq, wrap_id _ (by omega) (by omega)]; rfl
theorem add_ok (a b : Int) (ha : okI a) (hb : okI b) : fix_Add.f a b = some (cutI (a + b), 0) := by
  unfold fix_Add.f; rw [may_eq, may_eq, decide_eq_true ha, decide_eq_true hb]
  unfold okI at ha hb
  simp only [Option.bind_some, if_true]; rw [and_eq _ _ (by omega) (by omega)]; rfl
theorem add_bad (a b : Int) (h : ¬ (okI a ∧ okI b)) : fix_Add.f a b = some (0, 100) := by
  unfold fix_Add.f; rw [may_eq, may_eq]
  by_cases ha : okI a
  · have hb : ¬ okI b := fun hb => h ⟨ha, hb⟩
    simp [ha, hb]
  · simp [ha]
theorem mul_ok (a b : Int) (ha : okI a) (hb : okI b) : fix_Mul.f a b = some (cutI (a * b / 65536), 0) := by
  unfold fix_Mul.f; rw [may_eq, may_eq, decide_eq_true ha, decide_eq_true hb]
  simp only [Option.bind_some, if_true]; rw [times_eq _ _ ha hb]; rfl
theorem mul_bad (a b : Int) (h : ¬ (okI a ∧ okI b)) : fix_Mul.f a b = some (0, 100) := by
  unfold fix_Mul.f; rw [may_eq, may_eq]
  by_cases ha : okI a
  · have hb : ¬ okI b := fun hb => h ⟨ha, hb⟩
    simp [ha, hb]
  · simp [ha]
theorem num_eq (x : Int) : grafterlaw0_Num.f x = some x := by unfold grafterlaw0_Num.f; first | rfl | (rw [wrap_id]; omega)
theorem awake_eq : grafterlaw1_awake.f = some true := by decide +kernel

theorem FixEnds : grafterlaw1_FixEnds.Pure := by
  intro a b wa wb
  unfold grafterlaw1_FixEnds.f
  rw [awake_eq, and_mask a 30 (by decide) 1073741823 (by decide), and_mask b 30 (by decide) 1073741823 (by decide)]
  obtain ⟨x, hx⟩ : ∃ x, a % 2 ^ 30 = x := ⟨_, rfl⟩
  obtain ⟨y, hy⟩ : ∃ y, b % 2 ^ 30 = y := ⟨_, rfl⟩
  have hx1 : 0 ≤ x ∧ x ≤ 1073741823 := by omega
  have hy1 : 0 ≤ y ∧ y ≤ 1073741823 := by omega
  rw [hx, hy]; clear hx hy
  rw [wrap_id (1073741824 - x) (by omega) (by omega), wrap_id (-x) (by omega) (by omega), wrap_id (1073741824 - x + y) (by omega) (by omega)]
  have oM : okI 1073741824 := by decide
  have om : okI (-1073741824) := by decide
  have ox : okI (1073741824 - x) := by unfold okI; omega
  rw [add_ok (1073741824 - x) y ox (by unfold okI; omega), add_ok (-1073741824) (-x) om (by unfold okI; omega), mul_ok 1073741824 (1073741824 - x) oM ox, mul_ok (-1073741824) (1073741824 - x) om ox]
  have e1 : cutI (-1073741824 + -x) = -1073741824 := by unfold cutI; rw [if_neg (by omega)]; split <;> omega
  have e2 : cutI (1073741824 - x + y) = mn 1073741824 (1073741824 - x + y) := by
    unfold cutI mn
    split <;> (try split) <;> omega
  have e3 : 1073741824 * (1073741824 - x) / 65536 = 16384 * (1073741824 - x) := by omega
  have e4 : -1073741824 * (1073741824 - x) / 65536 = -(16384 * (1073741824 - x)) := by omega
  rw [e1, e2, e3, e4]
  simp only [Option.bind_some, if_true, num_eq]
  have e5 : (cutI (16384 * (1073741824 - x)) == 1073741824) = decide (1073741824 - x ≥ 65536) := by
    unfold cutI
    by_cases h : 1073741824 - x ≥ 65536
    · rw [decide_eq_true h]; refine beq_iff_eq.2 ?_; split <;> (try split) <;> omega
    · rw [decide_eq_false h]; refine beq_eq_false_iff_ne.2 ?_; split <;> (try split) <;> omega
  have e6 : (cutI (-(16384 * (1073741824 - x))) == -1073741824) = decide (1073741824 - x ≥ 65536) := by
    unfold cutI
    by_cases h : 1073741824 - x ≥ 65536
    · rw [decide_eq_true h]; refine beq_iff_eq.2 ?_; split <;> (try split) <;> omega
    · rw [decide_eq_false h]; refine beq_eq_false_iff_ne.2 ?_; split <;> (try split) <;> omega
  rw [e5, e6]
  simp

end Go.Proofs.Ytagfhnhakefnpaa.Pure
