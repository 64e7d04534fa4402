/- P2.1: for every int value: what is activated twice is as once, and a slope of One is where the number lies within One. No condition. -/
import Derived.Test.YtagfhnhakefnpaaPActAgainx1
import Derived.Test.YtagfhnhakefnpaaHelp
namespace Go.Proofs.Ytagfhnhakefnpaa.Pure
open Go.RowKit Go.Proofs.Ytagfhnhakefnpaa Go.Proofs.Ytagfhnhakefnpaa.PActAgain Go.Proofs.YtagfhnhakefnpaaW.PrintWords Go.Proofs.YtagfhnhakefnpaaW.PrintLast Go.Proofs.YtagfhnhakefnpaaW.PrintMore

theorem may_eq (a : Int) : fix_May.f a = some (decide (okI a)) := by
  unfold fix_May.f okI
  by_cases h : a ≥ -1073741824
  · rw [if_pos h]; refine congrArg some (decide_eq_decide.2 ?_); omega
  · rw [if_neg h]; refine congrArg some (Eq.symm (decide_eq_false ?_)); omega
def hardI (x : Int) : Int := if x > 65536 then 65536 else if x < -65536 then -65536 else x
def riseI (x : Int) : Int := if -65536 < x ∧ x < 65536 then 65536 else 0
theorem hard_eq (x : Int) : act_Hard.f x = some (hardI x) := by
  unfold act_Hard.f hardI mn mx
  congr 1
  split <;> split <;> (try split) <;> omega
theorem rise_eq (x : Int) : act_Rise.f x = some (riseI x) := by
  unfold act_Rise.f riseI
  by_cases h : x > -65536
  · rw [if_pos h]
    by_cases h2 : x < 65536
    · rw [if_pos h2, if_pos ⟨h, h2⟩]
    · rw [if_neg h2, if_neg (by omega)]
  · rw [if_neg h, if_neg (by omega)]
theorem of_ok (a : Int) (ha : okI a) : act_Of.f a = some (hardI a, 0) := by
  unfold act_Of.f; rw [may_eq, decide_eq_true ha]; simp [hard_eq]
theorem of_bad (a : Int) (h : ¬ okI a) : act_Of.f a = some (0, 200) := by
  unfold act_Of.f; rw [may_eq, decide_eq_false h]; simp
theorem slope_ok (a : Int) (ha : okI a) : act_Slope.f a = some (riseI a, 0) := by
  unfold act_Slope.f; rw [may_eq, decide_eq_true ha]; simp [rise_eq]
theorem slope_bad (a : Int) (h : ¬ okI a) : act_Slope.f a = some (0, 200) := by
  unfold act_Slope.f; rw [may_eq, decide_eq_false h]; simp
theorem num_eq (x : Int) : grafterlaw0_Num.f x = some x := rfl
theorem awake_eq : grafterlaw2_awake.f = some true := by decide +kernel

theorem ActAgain : grafterlaw2_ActAgain.Pure := by
  intro a wa
  unfold grafterlaw2_ActAgain.f
  rw [awake_eq]
  by_cases h : okI a
  · have h2 : okI (hardI a) := by unfold okI hardI at *; split <;> (try split) <;> omega
    have e1 : hardI (hardI a) = hardI a := by unfold hardI; split <;> (try split) <;> (try split) <;> omega
    rw [of_ok a h, slope_ok a h]
    simp only [Option.bind_some, if_true, num_eq]
    rw [of_ok _ h2, e1]
    simp only [Option.bind_some, if_true]
    unfold riseI
    by_cases h3 : a > -65536
    · rw [if_pos h3]
      by_cases h4 : a < 65536
      · rw [if_pos ⟨h3, h4⟩, decide_eq_true h4]; rfl
      · rw [if_neg (by omega), decide_eq_false h4]; rfl
    · rw [if_neg h3, if_neg (by omega)]; rfl
  · rw [of_bad a h]
    simp only [Option.bind_some, if_true, num_eq]
    unfold okI at h
    rw [if_neg (by omega)]
    by_cases h3 : a > 1073741824
    · rw [if_pos h3]
    · rw [if_neg h3, decide_eq_true (by omega)]

end Go.Proofs.Ytagfhnhakefnpaa.Pure
