/- P19.1: for every two int values, cut to their bits: a cut may be up to half of the members, and no more. No condition. -/
import Derived.Test.YtdgbfgnmeoihiaaPConfigCutsx5
import Derived.Test.YtdgbfgnmeoihiaaHelp
import Derived.Test.YtdgbfgnmeoihiaaHelpDraw
namespace Go.Proofs.Ytdgbfgnmeoihiaa.Pure
open Go.RowKit Go.Proofs.Ytdgbfgnmeoihiaa Go.Proofs.Ytdgbfgnmeoihiaa.PConfigCuts Go.Proofs.YtdgbfgnmeoihiaaW.PrintWords Go.Proofs.YtdgbfgnmeoihiaaW.PrintLast Go.Proofs.YtdgbfgnmeoihiaaW.PrintMore
set_option linter.unusedVariables false
set_option linter.unusedSimpArgs false


theorem within_eq (a b c : Int) : config_within.f a b c = some (decide (b ≤ a ∧ a ≤ c)) := by
  unfold config_within.f
  by_cases h : a ≥ b
  · rw [if_pos h]; refine congrArg some (decide_eq_decide.2 ?_); omega
  · rw [if_neg h]; refine congrArg some (Eq.symm (decide_eq_false ?_)); omega
theorem small_may : loss_May.f 60 1 1 [(⟨[65536], 32768⟩ : S35), (⟨[-65536], 0⟩ : S35)] = some true := by decide +kernel
theorem awake_ok : grafterlaw19_awake.f 60 = some true := by decide +kernel
theorem may_eq (m c : Int) (hm0 : 0 ≤ m) (hm : m < 16) (hc0 : 0 ≤ c) (hc : c < 8) : config_May.f 60 m 1 1 [(⟨[65536], 32768⟩ : S35), (⟨[-65536], 0⟩ : S35)] 7 3 1 c true = some (decide (2 ≤ m ∧ m ≤ 8 ∧ 1 ≤ c ∧ 2 * c ≤ m)) := by
  have ht : wrap64 (Int.tdiv m 2) = m / 2 := by
    rw [Int.tdiv_eq_ediv_of_nonneg hm0]
    exact wrap_id _ (by omega) (by omega)
  unfold config_May.f
  rw [within_eq, ht]
  by_cases h : 2 ≤ m ∧ m ≤ 8
  · rw [decide_eq_true h, Option.bind_some, if_pos rfl, small_may, Option.bind_some, if_pos rfl, show draw_Seed.f 7 = some true from rfl, Option.bind_some, if_pos rfl, show config_within.f 3 1 32 = some true from rfl, Option.bind_some, if_pos rfl, show config_within.f 1 1 8 = some true from rfl, Option.bind_some, if_pos rfl, within_eq, Option.bind_some]
    refine congrArg some (decide_eq_decide.2 ?_)
    clear ht
    omega
  · rw [decide_eq_false h, Option.bind_some, if_neg (by decide)]
    refine congrArg some (Eq.symm (decide_eq_false ?_))
    clear ht
    omega
theorem ConfigCuts : grafterlaw19_ConfigCuts.Pure := by
  intro a0 a1 h0 h1
  refine ⟨60, ?_⟩
  obtain ⟨m, hm⟩ : ∃ m, m = a0 % 2 ^ 4 := ⟨_, rfl⟩
  obtain ⟨c, hc⟩ : ∃ c, c = a1 % 2 ^ 3 := ⟨_, rfl⟩
  have em : Go.bits .and .i64 a0 15 = m := by rw [hm]; exact and_mask a0 4 (by decide) 15 (by decide)
  have ec : Go.bits .and .i64 a1 7 = c := by rw [hc]; exact and_mask a1 3 (by decide) 7 (by decide)
  have m0 : 0 ≤ m := by rw [hm]; omega
  have m1 : m < 16 := by rw [hm]; omega
  have c0 : 0 ≤ c := by rw [hc]; omega
  have c1 : c < 8 := by rw [hc]; omega
  clear hm hc
  unfold grafterlaw19_ConfigCuts.f grafterlaw19_small.f
  rw [awake_ok, Option.bind_some, if_pos rfl, Option.bind_some, show grafterlaw0_Num.f 0 = some 0 from rfl, Option.bind_some, if_pos rfl, em, ec]
  dsimp only
  rw [may_eq m c m0 m1 c0 c1, Option.bind_some]
  by_cases h2 : m ≥ 2
  · rw [if_pos h2]
    by_cases h8 : m ≤ 8
    · rw [if_pos h8]
      by_cases hc1 : c ≥ 1
      · rw [if_pos hc1, wrap_id _ (by omega) (by omega)]
        refine congrArg some (beq_iff_eq.mpr (decide_eq_decide.2 ?_))
        omega
      · rw [if_neg hc1, decide_eq_false (by omega)]; rfl
    · rw [if_neg h8, decide_eq_false (by omega)]; rfl
  · rw [if_neg h2, decide_eq_false (by omega)]; rfl

end Go.Proofs.Ytdgbfgnmeoihiaa.Pure
