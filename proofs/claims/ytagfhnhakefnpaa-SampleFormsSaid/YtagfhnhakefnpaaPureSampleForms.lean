/- P9.1: for every two int values: seeds, members, steps and numbers of rows that may not be are refused by Row of package sample. No condition. -/
import Derived.Test.YtagfhnhakefnpaaPSampleFormsx1
import Derived.Test.YtagfhnhakefnpaaHelp
import Derived.Test.YtagfhnhakefnpaaHelpDraw
namespace Go.Proofs.Ytagfhnhakefnpaa.Pure
open Go.RowKit Go.Proofs.Ytagfhnhakefnpaa Go.Proofs.Ytagfhnhakefnpaa.PSampleForms Go.Proofs.YtagfhnhakefnpaaW.PrintWords Go.Proofs.YtagfhnhakefnpaaW.PrintLast Go.Proofs.YtagfhnhakefnpaaW.PrintMore

theorem dmay_eq (s k : Int) : draw_May.f s k = some (decide (okS s ∧ okK k)) := by
  unfold draw_May.f draw_Seed.f okS okK
  by_cases h : s ≥ 0
  · rw [if_pos h]
    by_cases h2 : s ≤ 65535
    · rw [decide_eq_true h2]
      simp only [Option.bind_some, if_true]
      by_cases h3 : k ≥ 0
      · rw [if_pos h3]; refine congrArg some (decide_eq_decide.2 ?_); omega
      · rw [if_neg h3]; refine congrArg some (Eq.symm (decide_eq_false ?_)); omega
    · rw [decide_eq_false h2]
      simp only [Option.bind_some, Bool.false_eq_true, if_false]
      refine congrArg some (Eq.symm (decide_eq_false ?_)); omega
  · rw [if_neg h]
    simp only [Option.bind_some, Bool.false_eq_true, if_false]
    refine congrArg some (Eq.symm (decide_eq_false ?_)); omega
theorem three_eq (s k : Int) (hs : okS s) (hk : okK k) : draw_three s k = drawI s k := by
  have h0 := x0I_bd s k
  have h1 := mixI_bd (x0I s k)
  have h2 := mixI_bd (mixI (x0I s k))
  have h3 := mixI_bd (mixI (mixI (x0I s k)))
  unfold draw_three draw_end draw_mix draw_x0
  rw [x0_and s k hs hk, mix_i64 _ h0.1 h0.2, mix_i64 _ h1.1 h1.2, mix_i64 _ h2.1 h2.2, tmod_pos _ _ (by omega)]
  rfl
theorem of_ok (s k : Int) (hs : okS s) (hk : okK k) : draw_Of.f s k = some (drawI s k, 0) := by
  unfold draw_Of.f; rw [dmay_eq, decide_eq_true ⟨hs, hk⟩]
  simp only [Option.bind_some, if_true]; rw [three_eq s k hs hk]
theorem of_bad (s k : Int) (h : ¬ (okS s ∧ okK k)) : draw_Of.f s k = some (0, 300) := by
  unfold draw_Of.f; rw [dmay_eq, decide_eq_false h]
  simp
theorem pick_ok (s k b : Int) (hs : okS s) (hk : okK k) (h1 : 1 ≤ b) (h2 : b ≤ 65536) : draw_Pick.f s k b = some (pickI s k b, 0) := by
  unfold draw_Pick.f; rw [of_ok s k hs hk]
  simp only [Option.bind_some, if_true]
  rw [if_neg (by omega), if_neg (by omega), pick_tdiv s k b h1 h2]
theorem pick_bad (s k b : Int) (h : ¬ (okS s ∧ okK k ∧ 1 ≤ b ∧ b ≤ 65536)) : draw_Pick.f s k b = some (0, 300) := by
  unfold draw_Pick.f
  by_cases h1 : okS s ∧ okK k
  · rw [of_ok s k h1.1 h1.2]
    simp only [Option.bind_some, if_true]
    by_cases h2 : b < 1
    · rw [if_pos h2]
    · rw [if_neg h2]
      by_cases h3 : b > 65536
      · rw [if_pos h3]
      · exact absurd ⟨h1.1, h1.2, by omega, by omega⟩ h
  · rw [of_bad s k h1]; simp
theorem of_any (s k : Int) (hs : okS s) (hk : okK k) : ∃ d, draw_Of.f s k = some (d, 0) ∧ d = drawI s k := ⟨_, of_ok s k hs hk, rfl⟩
theorem pick_any (s k b : Int) (hs : okS s) (hk : okK k) (h1 : 1 ≤ b) (h2 : b ≤ 65536) : ∃ p, draw_Pick.f s k b = some (p, 0) ∧ p = pickI s k b := ⟨_, pick_ok s k b hs hk h1 h2, rfl⟩

theorem upTo_eq (a b c : Int) : grafterref1_upTo.f a b c = some (decide (b ≤ a ∧ a ≤ c)) := by
  unfold grafterref1_upTo.f
  by_cases h : a ≥ b
  · rw [if_pos h]; refine congrArg some (decide_eq_decide.2 ?_); omega
  · rw [if_neg h]; refine congrArg some (Eq.symm (decide_eq_false ?_)); omega
theorem rl0_eq (n : Nat) (x : Int) (h0 : 0 ≤ x) (h1 : x < 2147483648) : grafterref1_Draw.l0 (n + 4) x 0 = some (mixI (mixI (mixI x)) / 256 % 65536, 0) := by
  have e1 := mixI_bd x
  have e2 := mixI_bd (mixI x)
  have e3 := mixI_bd (mixI (mixI x))
  rw [grafterref1_Draw.l0, if_pos (by decide), mix_tmod x h0 h1, show wrap64 ((0 : Int) + 1) = 1 by decide +kernel]
  rw [grafterref1_Draw.l0, if_pos (by decide), mix_tmod _ e1.1 e1.2, show wrap64 ((1 : Int) + 1) = 2 by decide +kernel]
  rw [grafterref1_Draw.l0, if_pos (by decide), mix_tmod _ e2.1 e2.2, show wrap64 ((2 : Int) + 1) = 3 by decide +kernel]
  rw [grafterref1_Draw.l0, if_neg (by decide), tmod_pos _ _ (by omega)]
theorem rdraw_ok (n : Nat) (s k : Int) (hs : okS s) (hk : okK k) : grafterref1_Draw.f (n + 5) s k = some (drawI s k, 0) := by
  have h0 := x0I_bd s k
  unfold grafterref1_Draw.f
  rw [upTo_eq, upTo_eq, decide_eq_true (show 0 ≤ s ∧ s ≤ 65535 from hs), decide_eq_true (show 0 ≤ k ∧ k ≤ 1048576 from hk)]
  simp only [Option.bind_some, if_true]
  rw [grafterref1_Draw.j0, if_neg (by decide), x0_tmod s k hs hk, rl0_eq n _ h0.1 h0.2]
  rfl
theorem rdraw_bad (n : Nat) (s k : Int) (h : ¬ (okS s ∧ okK k)) : grafterref1_Draw.f (n + 5) s k = some (0, 300) := by
  unfold grafterref1_Draw.f
  rw [upTo_eq, upTo_eq]
  by_cases hs : okS s
  · have hk : ¬ okK k := fun hk => h ⟨hs, hk⟩
    rw [decide_eq_true (show 0 ≤ s ∧ s ≤ 65535 from hs), decide_eq_false (show ¬ (0 ≤ k ∧ k ≤ 1048576) from hk)]
    simp only [Option.bind_some, if_true]
    rw [grafterref1_Draw.j0, if_pos (by decide)]
  · rw [decide_eq_false (show ¬ (0 ≤ s ∧ s ≤ 65535) from hs)]
    simp only [Option.bind_some, Bool.false_eq_true, if_false]
    rw [grafterref1_Draw.j0, if_pos rfl]

theorem rpick_ok (n : Nat) (s k b : Int) (hs : okS s) (hk : okK k) (h1 : 1 ≤ b) (h2 : b ≤ 65536) : grafterref1_Pick.f (n + 5) s k b = some (pickI s k b, 0) := by
  unfold grafterref1_Pick.f; rw [rdraw_ok n s k hs hk]
  simp only [Option.bind_some, if_true]
  rw [upTo_eq, decide_eq_true (show 1 ≤ b ∧ b ≤ 65536 from ⟨h1, h2⟩)]
  simp only [Option.bind_some, if_true]
  rw [pick_ediv s k b h1 h2]
theorem rpick_bad (n : Nat) (s k b : Int) (h : ¬ (okS s ∧ okK k ∧ 1 ≤ b ∧ b ≤ 65536)) : grafterref1_Pick.f (n + 5) s k b = some (0, 300) := by
  unfold grafterref1_Pick.f
  by_cases h1 : okS s ∧ okK k
  · rw [rdraw_ok n s k h1.1 h1.2]
    simp only [Option.bind_some, if_true]
    rw [upTo_eq, decide_eq_false (show ¬ (1 ≤ b ∧ b ≤ 65536) from fun hb => h ⟨h1.1, h1.2, hb.1, hb.2⟩)]
    simp
  · rw [rdraw_bad n s k h1]; simp

theorem num_eq (x : Int) : grafterlaw0_Num.f x = some x := rfl
def okRow (s m t b : Int) : Prop := okS s ∧ (0 ≤ m ∧ m ≤ 7) ∧ (0 ≤ t ∧ t ≤ 32) ∧ (1 ≤ b ∧ b ≤ 8)
instance (s m t b : Int) : Decidable (okRow s m t b) := inferInstanceAs (Decidable (_ ∧ _))
theorem seed_eq (s : Int) : draw_Seed.f s = some (decide (okS s)) := by
  unfold draw_Seed.f okS
  by_cases h : s ≥ 0
  · rw [if_pos h]; refine congrArg some (decide_eq_decide.2 ?_); omega
  · rw [if_neg h]; refine congrArg some (Eq.symm (decide_eq_false ?_)); omega
theorem member_eq (m : Int) : sample_Member.f m = some (decide (0 ≤ m ∧ m ≤ 7)) := by
  unfold sample_Member.f
  by_cases h : m ≥ 0
  · rw [if_pos h]; refine congrArg some (decide_eq_decide.2 ?_); omega
  · rw [if_neg h]; refine congrArg some (Eq.symm (decide_eq_false ?_)); omega
theorem at_eq (s m t b : Int) (h : okRow s m t b) : wrap64 (wrap64 (4096 * m) + t) = 4096 * m + t ∧ okK (4096 * m + t) := by
  obtain ⟨h1, h2, h3, h4⟩ := h
  rw [wrap_id (4096 * m) (by omega) (by omega), wrap_id _ (by omega) (by omega)]
  exact ⟨rfl, by unfold okK; omega⟩
theorem row_ok (s m t b : Int) (h : okRow s m t b) : sample_Row.f s m t b = some (pickI s (4096 * m + t) b, 0) := by
  obtain ⟨e, hk⟩ := at_eq s m t b h
  obtain ⟨h1, h2, h3, h4⟩ := h
  unfold sample_Row.f
  rw [seed_eq, member_eq, decide_eq_true h1, decide_eq_true h2]
  simp only [Option.bind_some, if_true]
  rw [if_neg (by omega), if_neg (by omega), if_neg (by omega), if_neg (by omega), e, pick_ok s _ b h1 hk (by omega) (by omega)]
  rfl
theorem row_bad (s m t b : Int) (h : ¬ okRow s m t b) : sample_Row.f s m t b = some (0, 900) := by
  unfold sample_Row.f
  rw [seed_eq, member_eq]
  by_cases h1 : okS s
  · rw [decide_eq_true h1]
    simp only [Option.bind_some, if_true]
    by_cases h2 : 0 ≤ m ∧ m ≤ 7
    · rw [decide_eq_true h2]
      simp only [if_true]
      by_cases a1 : t < 0
      · rw [if_pos a1]
      rw [if_neg a1]
      by_cases a2 : t > 32
      · rw [if_pos a2]
      rw [if_neg a2]
      by_cases a3 : b < 1
      · rw [if_pos a3]
      rw [if_neg a3]
      by_cases a4 : b > 8
      · rw [if_pos a4]
      exact absurd ⟨h1, h2, by omega, by omega⟩ h
    · rw [decide_eq_false h2]; simp
  · rw [decide_eq_false h1]; simp
theorem awake_eq (n : Nat) : grafterlaw9_awake.f (n + 5) = some true := by
  unfold grafterlaw9_awake.f
  rw [row_ok 7 3 5 4 (by decide), rpick_ok n 7 12293 4 (by decide) (by decide) (by decide) (by decide), row_bad 7 8 5 4 (by decide), row_bad 7 3 5 0 (by decide)]
  simp [num_eq]
theorem mask_s (a : Int) : okS (a % 2 ^ 16) := by unfold okS; omega
theorem step_bd (a : Int) : ∃ t, wrap64 (Int.tmod (IntKind.u64.wrap a) 33) = t ∧ 0 ≤ t ∧ t ≤ 32 := by
  have h := wrap_u64_bd a
  refine ⟨_, rfl, ?_⟩
  rw [tmod_pos _ _ h, wrap_id (IntKind.u64.wrap a % 33) (by omega) (by omega)]
  omega

theorem SampleForms_at (a b : Int) : grafterlaw9_SampleForms.f (0 + 5) a b = some true := by
  unfold grafterlaw9_SampleForms.f
  rw [awake_eq, and_mask a 1 (by decide) 1 (by decide), and_mask b 10 (by decide) 1023 (by decide)]
  rw [wrap_id (1 + b % 2 ^ 10) (by omega) (by omega)]
  obtain ⟨d, hd⟩ : ∃ d, 1 + b % 2 ^ 10 = d := ⟨_, rfl⟩
  have hd1 : 1 ≤ d ∧ d ≤ 1048576 := by omega
  rw [hd]; clear hd
  rw [wrap_id (-d) (by omega) (by omega), wrap_id (65535 + d) (by omega) (by omega), wrap_id (7 + d) (by omega) (by omega), wrap_id (32 + d) (by omega) (by omega), wrap_id (1 - d) (by omega) (by omega), wrap_id (8 + d) (by omega) (by omega)]
  have hk : a % 2 ^ 1 = 0 ∨ a % 2 ^ 1 = 1 := by omega
  have f1 := row_bad (-d) 1 1 1 (by unfold okRow okS; omega)
  have f2 := row_bad (65535 + d) 1 1 1 (by unfold okRow okS; omega)
  have f3 := row_bad 1 (-d) 1 1 (by unfold okRow okS; omega)
  have f4 := row_bad 1 (7 + d) 1 1 (by unfold okRow okS; omega)
  have f5 := row_bad 1 1 (-d) 1 (by unfold okRow okS; omega)
  have f6 := row_bad 1 1 (32 + d) 1 (by unfold okRow okS; omega)
  have f7 := row_bad 1 1 1 (1 - d) (by unfold okRow okS; omega)
  have f8 := row_bad 1 1 1 (8 + d) (by unfold okRow okS; omega)
  rcases hk with e | e <;> rw [e] <;> simp [rd, num_eq, f1, f2, f3, f4, f5, f6, f7, f8]
theorem SampleForms : grafterlaw9_SampleForms.Pure := fun a b _ _ => ⟨0 + 5, SampleForms_at a b⟩

end Go.Proofs.Ytagfhnhakefnpaa.Pure
