/- P2.1: for every int value, Of and Slope of package act answer what the document's reference answers. No condition. -/
import Derived.Test.YtagfhnhakefnpaaPActsx1
import Derived.Test.YtagfhnhakefnpaaHelp
namespace Go.Proofs.Ytagfhnhakefnpaa.Pure
open Go.RowKit Go.Proofs.Ytagfhnhakefnpaa Go.Proofs.Ytagfhnhakefnpaa.PActs Go.Proofs.YtagfhnhakefnpaaW.PrintWords Go.Proofs.YtagfhnhakefnpaaW.PrintLast Go.Proofs.YtagfhnhakefnpaaW.PrintMore

theorem may_eq (a : Int) : fix_May.f a = some (decide (okI a)) := by
  unfold fix_May.f okI
  by_cases h : a ≥ -1073741824
  · rw [if_pos h]; refine congrArg some (decide_eq_decide.2 ?_); omega
  · rw [if_neg h]; refine congrArg some (Eq.symm (decide_eq_false ?_)); omega
def hardI (x : Int) : Int := if x > 65536 then 65536 else if x < -65536 then -65536 else x
def riseI (x : Int) : Int := if -65536 < x ∧ x < 65536 then 65536 else 0
theorem hard_eq (x : Int) : act_Hard.f x = some (hardI x) := by
  unfold act_Hard.f hardI mn mx
  congr 1
  split <;> split <;> (try split) <;> omega
theorem rise_eq (x : Int) : act_Rise.f x = some (riseI x) := by
  unfold act_Rise.f riseI
  by_cases h : x > -65536
  · rw [if_pos h]
    by_cases h2 : x < 65536
    · rw [if_pos h2, if_pos ⟨h, h2⟩]
    · rw [if_neg h2, if_neg (by omega)]
  · rw [if_neg h, if_neg (by omega)]
theorem of_ok (a : Int) (ha : okI a) : act_Of.f a = some (hardI a, 0) := by
  unfold act_Of.f; rw [may_eq, decide_eq_true ha]; simp [hard_eq]
theorem of_bad (a : Int) (h : ¬ okI a) : act_Of.f a = some (0, 200) := by
  unfold act_Of.f; rw [may_eq, decide_eq_false h]; simp
theorem slope_ok (a : Int) (ha : okI a) : act_Slope.f a = some (riseI a, 0) := by
  unfold act_Slope.f; rw [may_eq, decide_eq_true ha]; simp [rise_eq]
theorem slope_bad (a : Int) (h : ¬ okI a) : act_Slope.f a = some (0, 200) := by
  unfold act_Slope.f; rw [may_eq, decide_eq_false h]; simp
theorem num_eq (x : Int) : grafterlaw0_Num.f x = some x := rfl
theorem awake_eq : grafterlaw2_awake.f = some true := by decide +kernel

theorem upTo_eq (a b c : Int) : grafterref1_upTo.f a b c = some (decide (b ≤ a ∧ a ≤ c)) := by
  unfold grafterref1_upTo.f
  by_cases h : a ≥ b
  · rw [if_pos h]; refine congrArg some (decide_eq_decide.2 ?_); omega
  · rw [if_neg h]; refine congrArg some (Eq.symm (decide_eq_false ?_)); omega
theorem rmay_eq (a : Int) : grafterref1_FixMay.f a = some (decide (okI a)) := by
  unfold grafterref1_FixMay.f; rw [upTo_eq]; rfl
theorem within_eq (x : Int) : grafterref1_Within.f x (-65536) 65536 = some (hardI x) := by
  unfold grafterref1_Within.f hardI mn mx
  congr 1
  split <;> split <;> (try split) <;> omega
theorem ract_ok (a : Int) (ha : okI a) : grafterref1_Act.f a = some (hardI a, 0) := by
  unfold grafterref1_Act.f; rw [rmay_eq, decide_eq_true ha]; simp [within_eq]
theorem ract_bad (a : Int) (h : ¬ okI a) : grafterref1_Act.f a = some (0, 200) := by
  unfold grafterref1_Act.f; rw [rmay_eq, decide_eq_false h]; simp
theorem rslope_ok (a : Int) (ha : okI a) : grafterref1_Slope.f a = some (riseI a, 0) := by
  unfold grafterref1_Slope.f riseI; rw [rmay_eq, decide_eq_true ha]
  simp only [Option.bind_some, if_true]
  by_cases h : a > -65536
  · rw [if_pos h]
    by_cases h2 : a < 65536
    · rw [if_pos h2, if_pos ⟨h, h2⟩]
    · rw [if_neg h2, if_neg (by omega)]
  · rw [if_neg h, if_neg (by omega)]
theorem rslope_bad (a : Int) (h : ¬ okI a) : grafterref1_Slope.f a = some (0, 200) := by
  unfold grafterref1_Slope.f; rw [rmay_eq, decide_eq_false h]; simp

theorem Acts : grafterlaw2_Acts.Pure := by
  intro a wa
  unfold grafterlaw2_Acts.f
  rw [awake_eq]
  by_cases h : okI a
  · rw [of_ok a h, ract_ok a h, slope_ok a h, rslope_ok a h]
    simp [num_eq]
  · rw [of_bad a h, ract_bad a h, slope_bad a h, rslope_bad a h]
    simp [num_eq]

end Go.Proofs.Ytagfhnhakefnpaa.Pure
