/- P1.1: for every two int values: a number beyond the limits is refused by May, Add and Mul of package fix. No condition. -/
import Derived.Test.YtagfhnhakefnpaaPFixFormsx1
import Derived.Test.YtagfhnhakefnpaaHelp
namespace Go.Proofs.Ytagfhnhakefnpaa.Pure
open Go.RowKit Go.Proofs.Ytagfhnhakefnpaa Go.Proofs.Ytagfhnhakefnpaa.PFixForms Go.Proofs.YtagfhnhakefnpaaW.PrintWords Go.Proofs.YtagfhnhakefnpaaW.PrintLast Go.Proofs.YtagfhnhakefnpaaW.PrintMore

theorem may_eq (a : Int) : fix_May.f a = some (decide (okI a)) := by
  unfold fix_May.f okI
  by_cases h : a ≥ -1073741824
  · rw [if_pos h]; refine congrArg some (decide_eq_decide.2 ?_); omega
  · rw [if_neg h]; refine congrArg some (Eq.symm (decide_eq_false ?_)); omega
theorem cut_eq (x : Int) : fix_Cut.f x = some (cutI x) := by
  unfold fix_Cut.f cutI mn mx
  congr 1
  split <;> split <;> (try split) <;> omega
theorem and_eq (a b : Int) (h1 : -9223372036854775808 ≤ a + b) (h2 : a + b ≤ 9223372036854775807) : fix_And.f a b = some (cutI (a + b)) := by
  unfold fix_And.f; rw [cut_eq, wrap_id _ h1 h2]; rfl
theorem times_eq (a b : Int) (ha : okI a) (hb : okI b) : fix_Times.f a b = some (cutI (a * b / 65536)) := by
  have := mul_okI ha hb
  unfold fix_Times.f; rw [cut_eq, wrap_id _ (by omega) (by omega)]; rfl
theorem add_ok (a b : Int) (ha : okI a) (hb : okI b) : fix_Add.f a b = some (cutI (a + b), 0) := by
  unfold fix_Add.f; rw [may_eq, may_eq, decide_eq_true ha, decide_eq_true hb]
  unfold okI at ha hb
  simp only [Option.bind_some, if_true]; rw [and_eq _ _ (by omega) (by omega)]; rfl
theorem add_bad (a b : Int) (h : ¬ (okI a ∧ okI b)) : fix_Add.f a b = some (0, 100) := by
  unfold fix_Add.f; rw [may_eq, may_eq]
  by_cases ha : okI a
  · have hb : ¬ okI b := fun hb => h ⟨ha, hb⟩
    simp [ha, hb]
  · simp [ha]
theorem mul_ok (a b : Int) (ha : okI a) (hb : okI b) : fix_Mul.f a b = some (cutI (a * b / 65536), 0) := by
  unfold fix_Mul.f; rw [may_eq, may_eq, decide_eq_true ha, decide_eq_true hb]
  simp only [Option.bind_some, if_true]; rw [times_eq _ _ ha hb]; rfl
theorem mul_bad (a b : Int) (h : ¬ (okI a ∧ okI b)) : fix_Mul.f a b = some (0, 100) := by
  unfold fix_Mul.f; rw [may_eq, may_eq]
  by_cases ha : okI a
  · have hb : ¬ okI b := fun hb => h ⟨ha, hb⟩
    simp [ha, hb]
  · simp [ha]
theorem num_eq (x : Int) : grafterlaw0_Num.f x = some x := by unfold grafterlaw0_Num.f; first | rfl | (rw [wrap_id]; omega)
theorem awake_eq : grafterlaw1_awake.f = some true := by decide +kernel

theorem FixForms : grafterlaw1_FixForms.Pure := by
  intro a b wa wb
  unfold grafterlaw1_FixForms.f
  rw [awake_eq, and_mask a 1 (by decide) 1 (by decide), and_mask b 20 (by decide) 1048575 (by decide)]
  rw [wrap_id (1 + b % 2 ^ 20) (by omega) (by omega)]
  rw [wrap_id (-1073741824 - (1 + b % 2 ^ 20)) (by omega) (by omega), wrap_id (1073741824 + (1 + b % 2 ^ 20)) (by omega) (by omega)]
  obtain ⟨d, hd⟩ : ∃ d, 1 + b % 2 ^ 20 = d := ⟨_, rfl⟩
  have hd1 : 1 ≤ d := by omega
  rw [hd]; clear hd
  have main : ∀ x : Int, ¬ okI x → fix_Add.f x 5 = some (0, 100) ∧ fix_Add.f 5 x = some (0, 100) ∧ fix_Mul.f x 5 = some (0, 100) ∧ fix_Mul.f 5 x = some (0, 100) ∧ fix_May.f x = some false :=
    fun x h => ⟨add_bad _ _ fun k => h k.1, add_bad _ _ fun k => h k.2, mul_bad _ _ fun k => h k.1, mul_bad _ _ fun k => h k.2, by rw [may_eq, decide_eq_false h]⟩
  have h1 : ¬ okI (-1073741824 - d) := by unfold okI; omega
  have h2 : ¬ okI (1073741824 + d) := by unfold okI; omega
  obtain ⟨a1, a2, a3, a4, a5⟩ := main _ h1
  obtain ⟨b1, b2, b3, b4, b5⟩ := main _ h2
  have hk : a % 2 ^ 1 = 0 ∨ a % 2 ^ 1 = 1 := by omega
  rcases hk with e | e <;> rw [e] <;> simp [rd, num_eq, a1, a2, a3, a4, a5, b1, b2, b3, b4, b5]

end Go.Proofs.Ytagfhnhakefnpaa.Pure
