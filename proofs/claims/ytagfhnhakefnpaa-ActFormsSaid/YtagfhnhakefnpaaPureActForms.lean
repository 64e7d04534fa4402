/- P2.1: for every two int values: a number beyond the limits is refused by Of and Slope of package act. No condition. -/
import Derived.Test.YtagfhnhakefnpaaPActFormsx1
import Derived.Test.YtagfhnhakefnpaaHelp
namespace Go.Proofs.Ytagfhnhakefnpaa.Pure
open Go.RowKit Go.Proofs.Ytagfhnhakefnpaa Go.Proofs.Ytagfhnhakefnpaa.PActForms Go.Proofs.YtagfhnhakefnpaaW.PrintWords Go.Proofs.YtagfhnhakefnpaaW.PrintLast Go.Proofs.YtagfhnhakefnpaaW.PrintMore

theorem may_eq (a : Int) : fix_May.f a = some (decide (okI a)) := by
  unfold fix_May.f okI
  by_cases h : a ≥ -1073741824
  · rw [if_pos h]; refine congrArg some (decide_eq_decide.2 ?_); omega
  · rw [if_neg h]; refine congrArg some (Eq.symm (decide_eq_false ?_)); omega
def hardI (x : Int) : Int := if x > 65536 then 65536 else if x < -65536 then -65536 else x
def riseI (x : Int) : Int := if -65536 < x ∧ x < 65536 then 65536 else 0
theorem hard_eq (x : Int) : act_Hard.f x = some (hardI x) := by
  unfold act_Hard.f hardI mn mx
  congr 1
  split <;> split <;> (try split) <;> omega
theorem rise_eq (x : Int) : act_Rise.f x = some (riseI x) := by
  unfold act_Rise.f riseI
  by_cases h : x > -65536
  · rw [if_pos h]
    by_cases h2 : x < 65536
    · rw [if_pos h2, if_pos ⟨h, h2⟩]
    · rw [if_neg h2, if_neg (by omega)]
  · rw [if_neg h, if_neg (by omega)]
theorem of_ok (a : Int) (ha : okI a) : act_Of.f a = some (hardI a, 0) := by
  unfold act_Of.f; rw [may_eq, decide_eq_true ha]; simp [hard_eq]
theorem of_bad (a : Int) (h : ¬ okI a) : act_Of.f a = some (0, 200) := by
  unfold act_Of.f; rw [may_eq, decide_eq_false h]; simp
theorem slope_ok (a : Int) (ha : okI a) : act_Slope.f a = some (riseI a, 0) := by
  unfold act_Slope.f; rw [may_eq, decide_eq_true ha]; simp [rise_eq]
theorem slope_bad (a : Int) (h : ¬ okI a) : act_Slope.f a = some (0, 200) := by
  unfold act_Slope.f; rw [may_eq, decide_eq_false h]; simp
theorem num_eq (x : Int) : grafterlaw0_Num.f x = some x := rfl
theorem awake_eq : grafterlaw2_awake.f = some true := by decide +kernel

theorem ActForms : grafterlaw2_ActForms.Pure := by
  intro a b wa wb
  unfold grafterlaw2_ActForms.f
  rw [awake_eq, and_mask a 1 (by decide) 1 (by decide), and_mask b 20 (by decide) 1048575 (by decide)]
  rw [wrap_id (1 + b % 2 ^ 20) (by omega) (by omega)]
  rw [wrap_id (-1073741824 - (1 + b % 2 ^ 20)) (by omega) (by omega), wrap_id (1073741824 + (1 + b % 2 ^ 20)) (by omega) (by omega)]
  obtain ⟨d, hd⟩ : ∃ d, 1 + b % 2 ^ 20 = d := ⟨_, rfl⟩
  have hd1 : 1 ≤ d := by omega
  rw [hd]; clear hd
  have h1 : ¬ okI (-1073741824 - d) := by unfold okI; omega
  have h2 : ¬ okI (1073741824 + d) := by unfold okI; omega
  have hk : a % 2 ^ 1 = 0 ∨ a % 2 ^ 1 = 1 := by omega
  rcases hk with e | e <;> rw [e] <;> simp [rd, num_eq, of_bad _ h1, of_bad _ h2, slope_bad _ h1, slope_bad _ h2]

end Go.Proofs.Ytagfhnhakefnpaa.Pure
