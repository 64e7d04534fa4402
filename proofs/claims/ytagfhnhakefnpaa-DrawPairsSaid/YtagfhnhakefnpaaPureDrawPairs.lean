/- P3.2, T4: for every seed and place, cut to their bits: a pick of two is the draw's highest bit, of four its highest two. No condition. -/
import Derived.Test.YtagfhnhakefnpaaPDrawPairsx1
import Derived.Test.YtagfhnhakefnpaaHelp
import Derived.Test.YtagfhnhakefnpaaHelpDraw
namespace Go.Proofs.Ytagfhnhakefnpaa.Pure
open Go.RowKit Go.Proofs.Ytagfhnhakefnpaa Go.Proofs.Ytagfhnhakefnpaa.PDrawPairs Go.Proofs.YtagfhnhakefnpaaW.PrintWords Go.Proofs.YtagfhnhakefnpaaW.PrintLast Go.Proofs.YtagfhnhakefnpaaW.PrintMore

theorem dmay_eq (s k : Int) : draw_May.f s k = some (decide (okS s ∧ okK k)) := by
  unfold draw_May.f draw_Seed.f okS okK
  by_cases h : s ≥ 0
  · rw [if_pos h]
    by_cases h2 : s ≤ 65535
    · rw [decide_eq_true h2]
      simp only [Option.bind_some, if_true]
      by_cases h3 : k ≥ 0
      · rw [if_pos h3]; refine congrArg some (decide_eq_decide.2 ?_); omega
      · rw [if_neg h3]; refine congrArg some (Eq.symm (decide_eq_false ?_)); omega
    · rw [decide_eq_false h2]
      simp only [Option.bind_some, Bool.false_eq_true, if_false]
      refine congrArg some (Eq.symm (decide_eq_false ?_)); omega
  · rw [if_neg h]
    simp only [Option.bind_some, Bool.false_eq_true, if_false]
    refine congrArg some (Eq.symm (decide_eq_false ?_)); omega
theorem three_eq (s k : Int) (hs : okS s) (hk : okK k) : draw_three s k = drawI s k := by
  have h0 := x0I_bd s k
  have h1 := mixI_bd (x0I s k)
  have h2 := mixI_bd (mixI (x0I s k))
  have h3 := mixI_bd (mixI (mixI (x0I s k)))
  unfold draw_three draw_end draw_mix draw_x0
  rw [x0_and s k hs hk, mix_i64 _ h0.1 h0.2, mix_i64 _ h1.1 h1.2, mix_i64 _ h2.1 h2.2, tmod_pos _ _ (by omega)]
  rfl
theorem of_ok (s k : Int) (hs : okS s) (hk : okK k) : draw_Of.f s k = some (drawI s k, 0) := by
  unfold draw_Of.f; rw [dmay_eq, decide_eq_true ⟨hs, hk⟩]
  simp only [Option.bind_some, if_true]; rw [three_eq s k hs hk]
theorem of_bad (s k : Int) (h : ¬ (okS s ∧ okK k)) : draw_Of.f s k = some (0, 300) := by
  unfold draw_Of.f; rw [dmay_eq, decide_eq_false h]
  simp
theorem pick_ok (s k b : Int) (hs : okS s) (hk : okK k) (h1 : 1 ≤ b) (h2 : b ≤ 65536) : draw_Pick.f s k b = some (pickI s k b, 0) := by
  unfold draw_Pick.f; rw [of_ok s k hs hk]
  simp only [Option.bind_some, if_true]
  rw [if_neg (by omega), if_neg (by omega), pick_tdiv s k b h1 h2]
theorem pick_bad (s k b : Int) (h : ¬ (okS s ∧ okK k ∧ 1 ≤ b ∧ b ≤ 65536)) : draw_Pick.f s k b = some (0, 300) := by
  unfold draw_Pick.f
  by_cases h1 : okS s ∧ okK k
  · rw [of_ok s k h1.1 h1.2]
    simp only [Option.bind_some, if_true]
    by_cases h2 : b < 1
    · rw [if_pos h2]
    · rw [if_neg h2]
      by_cases h3 : b > 65536
      · rw [if_pos h3]
      · exact absurd ⟨h1.1, h1.2, by omega, by omega⟩ h
  · rw [of_bad s k h1]; simp
theorem of_any (s k : Int) (hs : okS s) (hk : okK k) : ∃ d, draw_Of.f s k = some (d, 0) ∧ d = drawI s k := ⟨_, of_ok s k hs hk, rfl⟩
theorem pick_any (s k b : Int) (hs : okS s) (hk : okK k) (h1 : 1 ≤ b) (h2 : b ≤ 65536) : ∃ p, draw_Pick.f s k b = some (p, 0) ∧ p = pickI s k b := ⟨_, pick_ok s k b hs hk h1 h2, rfl⟩

theorem upTo_eq (a b c : Int) : grafterref1_upTo.f a b c = some (decide (b ≤ a ∧ a ≤ c)) := by
  unfold grafterref1_upTo.f
  by_cases h : a ≥ b
  · rw [if_pos h]; refine congrArg some (decide_eq_decide.2 ?_); omega
  · rw [if_neg h]; refine congrArg some (Eq.symm (decide_eq_false ?_)); omega
theorem rl0_eq (n : Nat) (x : Int) (h0 : 0 ≤ x) (h1 : x < 2147483648) : grafterref1_Draw.l0 (n + 4) x 0 = some (mixI (mixI (mixI x)) / 256 % 65536, 0) := by
  have e1 := mixI_bd x
  have e2 := mixI_bd (mixI x)
  have e3 := mixI_bd (mixI (mixI x))
  rw [grafterref1_Draw.l0, if_pos (by decide), mix_tmod x h0 h1, show wrap64 ((0 : Int) + 1) = 1 by decide +kernel]
  rw [grafterref1_Draw.l0, if_pos (by decide), mix_tmod _ e1.1 e1.2, show wrap64 ((1 : Int) + 1) = 2 by decide +kernel]
  rw [grafterref1_Draw.l0, if_pos (by decide), mix_tmod _ e2.1 e2.2, show wrap64 ((2 : Int) + 1) = 3 by decide +kernel]
  rw [grafterref1_Draw.l0, if_neg (by decide), tmod_pos _ _ (by omega)]
theorem rdraw_ok (n : Nat) (s k : Int) (hs : okS s) (hk : okK k) : grafterref1_Draw.f (n + 5) s k = some (drawI s k, 0) := by
  have h0 := x0I_bd s k
  unfold grafterref1_Draw.f
  rw [upTo_eq, upTo_eq, decide_eq_true (show 0 ≤ s ∧ s ≤ 65535 from hs), decide_eq_true (show 0 ≤ k ∧ k ≤ 1048576 from hk)]
  simp only [Option.bind_some, if_true]
  rw [grafterref1_Draw.j0, if_neg (by decide), x0_tmod s k hs hk, rl0_eq n _ h0.1 h0.2]
  rfl
theorem rdraw_bad (n : Nat) (s k : Int) (h : ¬ (okS s ∧ okK k)) : grafterref1_Draw.f (n + 5) s k = some (0, 300) := by
  unfold grafterref1_Draw.f
  rw [upTo_eq, upTo_eq]
  by_cases hs : okS s
  · have hk : ¬ okK k := fun hk => h ⟨hs, hk⟩
    rw [decide_eq_true (show 0 ≤ s ∧ s ≤ 65535 from hs), decide_eq_false (show ¬ (0 ≤ k ∧ k ≤ 1048576) from hk)]
    simp only [Option.bind_some, if_true]
    rw [grafterref1_Draw.j0, if_pos (by decide)]
  · rw [decide_eq_false (show ¬ (0 ≤ s ∧ s ≤ 65535) from hs)]
    simp only [Option.bind_some, Bool.false_eq_true, if_false]
    rw [grafterref1_Draw.j0, if_pos rfl]

theorem num_eq (x : Int) : grafterlaw0_Num.f x = some x := rfl
theorem awake_eq (n : Nat) : grafterlaw3_awake.f (n + 5) = some true := by
  unfold grafterlaw3_awake.f
  rw [rdraw_ok n 7 11 (by decide) (by decide), of_ok 7 11 (by decide) (by decide), pick_ok 7 11 1 (by decide) (by decide) (by decide) (by decide), of_bad (-1) 0 (by decide), pick_bad 0 0 0 (by decide), of_bad 0 1048577 (by decide)]
  have h1 : pickI 7 11 1 = 0 := by have := pickI_bd 7 11 1 (by decide); omega
  simp [num_eq, h1]
theorem mask_s (a : Int) : okS (a % 2 ^ 16) := by unfold okS; omega
theorem mask_k (a : Int) : okK (a % 2 ^ 20) := by unfold okK; omega
theorem one_to (a : Int) : ∃ m, wrap64 (1 + wrap64 (Int.tmod (IntKind.u64.wrap a) 65536)) = m ∧ 1 ≤ m ∧ m ≤ 65536 := by
  have h := wrap_u64_bd a
  refine ⟨_, rfl, ?_⟩
  rw [tmod_pos _ _ h, wrap_id (IntKind.u64.wrap a % 65536) (by omega) (by omega), wrap_id _ (by omega) (by omega)]
  omega

theorem DrawPairs_at (a b : Int) : grafterlaw3_DrawPairs.f (0 + 5) a b = some true := by
  have hs := mask_s a
  have hk := mask_k b
  obtain ⟨x, x1, x2⟩ := of_any _ _ hs hk
  obtain ⟨p, p1, p2⟩ := pick_any _ _ 2 hs hk (by decide) (by decide)
  obtain ⟨q, q1, q2⟩ := pick_any _ _ 4 hs hk (by decide) (by decide)
  obtain ⟨r, r1, r2⟩ := pick_any _ _ 3 hs hk (by decide) (by decide)
  have hd := drawI_bd (a % 2 ^ 16) (b % 2 ^ 20)
  unfold pickI at p2 q2 r2
  rw [← x2] at hd p2 q2 r2
  clear x2
  unfold grafterlaw3_DrawPairs.f
  rw [awake_eq, and_mask a 16 (by decide) 65535 (by decide), and_mask b 20 (by decide) 1048575 (by decide), x1, p1, q1, r1]
  simp only [Option.bind_some, if_true, num_eq]
  rw [if_pos (show p = x / 32768 by omega), if_pos (show q = x / 16384 by omega), if_pos (show q / 2 = p by omega), wrap_id (3 * x) (by omega) (by omega), tdiv_pos _ _ (by omega), wrap_id (3 * x / 65536) (by omega) (by omega)]
  refine congrArg some (beq_iff_eq.2 ?_)
  omega
theorem DrawPairs : grafterlaw3_DrawPairs.Pure := fun a b _ _ => ⟨0 + 5, DrawPairs_at a b⟩

end Go.Proofs.Ytagfhnhakefnpaa.Pure
