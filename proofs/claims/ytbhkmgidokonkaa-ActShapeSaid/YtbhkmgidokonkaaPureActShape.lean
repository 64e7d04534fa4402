/- P2.1: for every two numbers, cut to their bits: Of of package act rises, is its own opposite's opposite, stays within One; where it has a slope it is the number. No condition. -/
import Derived.Test.YtbhkmgidokonkaaPActShapex1
import Derived.Test.YtbhkmgidokonkaaHelp
namespace Go.Proofs.Ytbhkmgidokonkaa.Pure
open Go.RowKit Go.Proofs.Ytbhkmgidokonkaa Go.Proofs.Ytbhkmgidokonkaa.PActShape Go.Proofs.YtbhkmgidokonkaaW.PrintWords Go.Proofs.YtbhkmgidokonkaaW.PrintLast Go.Proofs.YtbhkmgidokonkaaW.PrintMore
set_option linter.unusedVariables false
set_option linter.unusedSimpArgs false

theorem may_eq (a : Int) : fix_May.f a = some (decide (okI a)) := by
  unfold fix_May.f okI
  by_cases h : a ≥ -1073741824
  · rw [if_pos h]; refine congrArg some (decide_eq_decide.2 ?_); omega
  · rw [if_neg h]; refine congrArg some (Eq.symm (decide_eq_false ?_)); omega
def hardI (x : Int) : Int := if x > 65536 then 65536 else if x < -65536 then -65536 else x
def riseI (x : Int) : Int := if -65536 < x ∧ x < 65536 then 65536 else 0
theorem hard_eq (x : Int) : act_Hard.f x = some (hardI x) := by
  unfold act_Hard.f hardI mn mx
  congr 1
  split <;> split <;> (try split) <;> omega
theorem rise_eq (x : Int) : act_Rise.f x = some (riseI x) := by
  unfold act_Rise.f riseI
  by_cases h : x > -65536
  · rw [if_pos h]
    by_cases h2 : x < 65536
    · rw [if_pos h2, if_pos ⟨h, h2⟩]
    · rw [if_neg h2, if_neg (by omega)]
  · rw [if_neg h, if_neg (by omega)]
theorem of_ok (a : Int) (ha : okI a) : act_Of.f a = some (hardI a, 0) := by
  unfold act_Of.f; rw [may_eq, decide_eq_true ha]; simp [hard_eq]
theorem of_bad (a : Int) (h : ¬ okI a) : act_Of.f a = some (0, 200) := by
  unfold act_Of.f; rw [may_eq, decide_eq_false h]; simp
theorem slope_ok (a : Int) (ha : okI a) : act_Slope.f a = some (riseI a, 0) := by
  unfold act_Slope.f; rw [may_eq, decide_eq_true ha]; simp [rise_eq]
theorem slope_bad (a : Int) (h : ¬ okI a) : act_Slope.f a = some (0, 200) := by
  unfold act_Slope.f; rw [may_eq, decide_eq_false h]; simp
theorem num_eq (x : Int) : grafterlaw0_Num.f x = some x := rfl
theorem awake_eq : grafterlaw2_awake.f = some true := by decide +kernel

theorem ActShape : grafterlaw2_ActShape.Pure := by
  intro a b wa wb
  unfold grafterlaw2_ActShape.f
  rw [awake_eq, and_mask a 18 (by decide) 262143 (by decide), and_mask b 18 (by decide) 262143 (by decide)]
  obtain ⟨x, hx, hx1, hx2⟩ : ∃ x, a % 2 ^ 18 - 131072 = x ∧ -131072 ≤ x ∧ x < 131072 := ⟨_, rfl, by omega, by omega⟩
  obtain ⟨y, hy, hy1, hy2⟩ : ∃ y, b % 2 ^ 18 - 131072 = y ∧ -131072 ≤ y ∧ y < 131072 := ⟨_, rfl, by omega, by omega⟩
  rw [hx, hy]; clear hx hy wa wb
  rw [wrap_id x (by omega) (by omega), wrap_id y (by omega) (by omega), wrap_id (-x) (by omega) (by omega)]
  rw [of_ok x (by unfold okI; omega), of_ok y (by unfold okI; omega), of_ok (-x) (by unfold okI; omega), slope_ok x (by unfold okI; omega)]
  simp only [Option.bind_some, num_eq, if_true]
  have hn1 : -65536 ≤ hardI (-x) ∧ hardI (-x) ≤ 65536 := by unfold hardI; split <;> (try split) <;> omega
  rw [wrap_id (-hardI (-x)) (by omega) (by omega)]
  have e1 : hardI x = -hardI (-x) := by unfold hardI; split <;> (try split) <;> (try split) <;> (try split) <;> omega
  have e2 : ¬ x > y → hardI x ≤ hardI y := by unfold hardI; intro h; split <;> (try split) <;> (try split) <;> (try split) <;> omega
  have e3 : (riseI x = 65536 ∧ hardI x = x) ∨ (riseI x = 0 ∧ (hardI x = 65536 ∨ hardI x = -65536)) := by
    unfold riseI hardI
    by_cases h : -65536 < x ∧ x < 65536
    · left; rw [if_pos h, if_neg (by omega), if_neg (by omega)]; exact ⟨rfl, rfl⟩
    · right; rw [if_neg h]; refine ⟨rfl, ?_⟩; split <;> (try split) <;> omega
  have e4 : hardI x ≥ -65536 := by omega
  have e5 : hardI x ≤ 65536 := by omega
  have tail : (if hardI x = -hardI (-x) then (if hardI x ≥ (-65536) then (if hardI x ≤ 65536 then (if riseI x = 0 then (if riseI x = 65536 then (some true) else (if hardI x = 65536 then (some true) else (some (hardI x == (-65536))))) else (if riseI x = 65536 then (if hardI x = x then (some true) else (some false)) else (some false))) else (some false)) else (some false)) else (some false)) = some true := by
    rw [if_pos e1, if_pos e4, if_pos e5]
    rcases e3 with ⟨r1, r2⟩ | ⟨r1, r2⟩
    · rw [r1, if_neg (by decide), if_pos rfl, if_pos r2]
    · rw [r1, if_pos rfl, if_neg (by decide)]
      rcases r2 with r2 | r2
      · rw [if_pos r2]
      · rw [r2]; rfl
  rw [tail]
  by_cases h : x > y
  · rw [if_pos h]
  · rw [if_neg h, if_pos (e2 h)]

end Go.Proofs.Ytbhkmgidokonkaa.Pure
