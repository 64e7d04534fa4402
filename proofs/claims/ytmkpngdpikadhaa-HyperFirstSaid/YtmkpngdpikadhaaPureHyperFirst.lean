/- P11.1, T4: for every seed and member, cut to their bits: first hypers are resampled, each member's by its own two draws. No condition. -/
import Derived.Test.YtmkpngdpikadhaaPHyperFirstx4
import Derived.Test.YtmkpngdpikadhaaHelp
import Derived.Test.YtmkpngdpikadhaaHelpDraw
namespace Go.Proofs.Ytmkpngdpikadhaa.Pure
open Go.RowKit Go.Proofs.Ytmkpngdpikadhaa Go.Proofs.Ytmkpngdpikadhaa.PHyperFirst Go.Proofs.YtmkpngdpikadhaaW.PrintWords Go.Proofs.YtmkpngdpikadhaaW.PrintLast Go.Proofs.YtmkpngdpikadhaaW.PrintMore

theorem dmay_eq (s k : Int) : draw_May.f s k = some (decide (okS s ∧ okK k)) := by
  unfold draw_May.f draw_Seed.f okS okK
  by_cases h : s ≥ 0
  · rw [if_pos h]
    by_cases h2 : s ≤ 65535
    · rw [decide_eq_true h2]
      simp only [Option.bind_some, if_true]
      by_cases h3 : k ≥ 0
      · rw [if_pos h3]; refine congrArg some (decide_eq_decide.2 ?_); omega
      · rw [if_neg h3]; refine congrArg some (Eq.symm (decide_eq_false ?_)); omega
    · rw [decide_eq_false h2]
      simp only [Option.bind_some, Bool.false_eq_true, if_false]
      refine congrArg some (Eq.symm (decide_eq_false ?_)); omega
  · rw [if_neg h]
    simp only [Option.bind_some, Bool.false_eq_true, if_false]
    refine congrArg some (Eq.symm (decide_eq_false ?_)); omega
theorem three_eq (s k : Int) (hs : okS s) (hk : okK k) : draw_three s k = drawI s k := by
  have h0 := x0I_bd s k
  have h1 := mixI_bd (x0I s k)
  have h2 := mixI_bd (mixI (x0I s k))
  have h3 := mixI_bd (mixI (mixI (x0I s k)))
  unfold draw_three draw_end draw_mix draw_x0
  rw [x0_and s k hs hk, mix_i64 _ h0.1 h0.2, mix_i64 _ h1.1 h1.2, mix_i64 _ h2.1 h2.2, tmod_pos _ _ (by omega)]
  rfl
theorem of_ok (s k : Int) (hs : okS s) (hk : okK k) : draw_Of.f s k = some (drawI s k, 0) := by
  unfold draw_Of.f; rw [dmay_eq, decide_eq_true ⟨hs, hk⟩]
  simp only [Option.bind_some, if_true]; rw [three_eq s k hs hk]
theorem of_bad (s k : Int) (h : ¬ (okS s ∧ okK k)) : draw_Of.f s k = some (0, 300) := by
  unfold draw_Of.f; rw [dmay_eq, decide_eq_false h]
  simp
theorem of_any (s k : Int) (hs : okS s) (hk : okK k) : ∃ d, draw_Of.f s k = some (d, 0) ∧ d = drawI s k := ⟨_, of_ok s k hs hk, rfl⟩

theorem pick_ok (s k b : Int) (hs : okS s) (hk : okK k) (h1 : 1 ≤ b) (h2 : b ≤ 65536) : draw_Pick.f s k b = some (pickI s k b, 0) := by
  unfold draw_Pick.f; rw [of_ok s k hs hk]
  simp only [Option.bind_some, if_true]
  rw [if_neg (by omega), if_neg (by omega), pick_tdiv s k b h1 h2]
theorem pick_bad (s k b : Int) (h : ¬ (okS s ∧ okK k ∧ 1 ≤ b ∧ b ≤ 65536)) : draw_Pick.f s k b = some (0, 300) := by
  unfold draw_Pick.f
  by_cases h1 : okS s ∧ okK k
  · rw [of_ok s k h1.1 h1.2]
    simp only [Option.bind_some, if_true]
    by_cases h2 : b < 1
    · rw [if_pos h2]
    · rw [if_neg h2]
      by_cases h3 : b > 65536
      · rw [if_pos h3]
      · exact absurd ⟨h1.1, h1.2, by omega, by omega⟩ h
  · rw [of_bad s k h1]; simp
theorem pick_any (s k b : Int) (hs : okS s) (hk : okK k) (h1 : 1 ≤ b) (h2 : b ≤ 65536) : ∃ p, draw_Pick.f s k b = some (p, 0) ∧ p = pickI s k b := ⟨_, pick_ok s k b hs hk h1 h2, rfl⟩

theorem upTo_eq (a b c : Int) : grafterref1_upTo.f a b c = some (decide (b ≤ a ∧ a ≤ c)) := by
  unfold grafterref1_upTo.f
  by_cases h : a ≥ b
  · rw [if_pos h]; refine congrArg some (decide_eq_decide.2 ?_); omega
  · rw [if_neg h]; refine congrArg some (Eq.symm (decide_eq_false ?_)); omega
theorem rl0_eq (n : Nat) (x : Int) (h0 : 0 ≤ x) (h1 : x < 2147483648) : grafterref1_Draw.l0 (n + 4) x 0 = some (mixI (mixI (mixI x)) / 256 % 65536, 0) := by
  have e1 := mixI_bd x
  have e2 := mixI_bd (mixI x)
  have e3 := mixI_bd (mixI (mixI x))
  rw [grafterref1_Draw.l0, if_pos (by decide), mix_tmod x h0 h1, show wrap64 ((0 : Int) + 1) = 1 by decide +kernel]
  rw [grafterref1_Draw.l0, if_pos (by decide), mix_tmod _ e1.1 e1.2, show wrap64 ((1 : Int) + 1) = 2 by decide +kernel]
  rw [grafterref1_Draw.l0, if_pos (by decide), mix_tmod _ e2.1 e2.2, show wrap64 ((2 : Int) + 1) = 3 by decide +kernel]
  rw [grafterref1_Draw.l0, if_neg (by decide), tmod_pos _ _ (by omega)]
theorem rdraw_ok (n : Nat) (s k : Int) (hs : okS s) (hk : okK k) : grafterref1_Draw.f (n + 5) s k = some (drawI s k, 0) := by
  have h0 := x0I_bd s k
  unfold grafterref1_Draw.f
  rw [upTo_eq, upTo_eq, decide_eq_true (show 0 ≤ s ∧ s ≤ 65535 from hs), decide_eq_true (show 0 ≤ k ∧ k ≤ 1048576 from hk)]
  simp only [Option.bind_some, if_true]
  rw [grafterref1_Draw.j0, if_neg (by decide), x0_tmod s k hs hk, rl0_eq n _ h0.1 h0.2]
  rfl
theorem rdraw_bad (n : Nat) (s k : Int) (h : ¬ (okS s ∧ okK k)) : grafterref1_Draw.f (n + 5) s k = some (0, 300) := by
  unfold grafterref1_Draw.f
  rw [upTo_eq, upTo_eq]
  by_cases hs : okS s
  · have hk : ¬ okK k := fun hk => h ⟨hs, hk⟩
    rw [decide_eq_true (show 0 ≤ s ∧ s ≤ 65535 from hs), decide_eq_false (show ¬ (0 ≤ k ∧ k ≤ 1048576) from hk)]
    simp only [Option.bind_some, if_true]
    rw [grafterref1_Draw.j0, if_pos (by decide)]
  · rw [decide_eq_false (show ¬ (0 ≤ s ∧ s ≤ 65535) from hs)]
    simp only [Option.bind_some, Bool.false_eq_true, if_false]
    rw [grafterref1_Draw.j0, if_pos rfl]

theorem rpick_ok (n : Nat) (s k b : Int) (hs : okS s) (hk : okK k) (h1 : 1 ≤ b) (h2 : b ≤ 65536) : grafterref1_Pick.f (n + 5) s k b = some (pickI s k b, 0) := by
  unfold grafterref1_Pick.f; rw [rdraw_ok n s k hs hk]
  simp only [Option.bind_some, if_true]
  rw [upTo_eq, decide_eq_true (show 1 ≤ b ∧ b ≤ 65536 from ⟨h1, h2⟩)]
  simp only [Option.bind_some, if_true]
  rw [pick_ediv s k b h1 h2]
theorem rpick_bad (n : Nat) (s k b : Int) (h : ¬ (okS s ∧ okK k ∧ 1 ≤ b ∧ b ≤ 65536)) : grafterref1_Pick.f (n + 5) s k b = some (0, 300) := by
  unfold grafterref1_Pick.f
  by_cases h1 : okS s ∧ okK k
  · rw [rdraw_ok n s k h1.1 h1.2]
    simp only [Option.bind_some, if_true]
    rw [upTo_eq, decide_eq_false (show ¬ (1 ≤ b ∧ b ≤ 65536) from fun hb => h ⟨h1.1, h1.2, hb.1, hb.2⟩)]
    simp
  · rw [rdraw_bad n s k h1]; simp

theorem num_eq (x : Int) : grafterlaw0_Num.f x = some x := rfl
def okHyper (r m : Int) : Prop := (64 ≤ r ∧ r ≤ 16384) ∧ (0 ≤ m ∧ m ≤ 58982)
instance (a b : Int) : Decidable (okHyper a b) := inferInstanceAs (Decidable (_ ∧ _))
theorem omay_eq (a b : Int) : optim_May.f a b = some (decide (okHyper a b)) := by
  unfold optim_May.f okHyper
  by_cases h1 : a ≥ 64
  · rw [if_pos h1]
    by_cases h2 : a ≤ 16384
    · rw [if_pos h2]
      by_cases h3 : b ≥ 0
      · rw [if_pos h3]; refine congrArg some (decide_eq_decide.2 ?_); omega
      · rw [if_neg h3]; refine congrArg some (Eq.symm (decide_eq_false ?_)); omega
    · rw [if_neg h2]; refine congrArg some (Eq.symm (decide_eq_false ?_)); omega
  · rw [if_neg h1]; refine congrArg some (Eq.symm (decide_eq_false ?_)); omega
theorem hmay_eq (a b : Int) : hyper_May.f a b = some (decide (okHyper a b)) := by
  unfold hyper_May.f; rw [omay_eq]; rfl
def lessI (x : Int) (d : Bool) : Int := if d = true then x * 52429 / 65536 else x * 81920 / 65536
theorem lessI_bd (x : Int) (d : Bool) (h1 : 0 ≤ x) (h2 : x ≤ 58982) : 0 ≤ lessI x d ∧ lessI x d ≤ 100000 := by
  unfold lessI; split <;> omega
def rateI (x : Int) : Int := if x < 64 then 64 else if x > 16384 then 16384 else x
def momI (x : Int) : Int := if x < 0 then 0 else if x > 58982 then 58982 else x
theorem cut_eq (x : Int) : fix_Cut.f x = some (cutI x) := by
  unfold fix_Cut.f cutI mn mx
  congr 1
  split <;> split <;> (try split) <;> omega
theorem turned_eq (x : Int) (d : Bool) (h1 : 0 ≤ x) (h2 : x ≤ 58982) : hyper_turned.f x d = some (lessI x d) := by
  unfold hyper_turned.f fix_Times.f lessI
  rw [cut_eq, cut_eq, wrap_id (x * 52429) (by omega) (by omega), wrap_id (x * 81920) (by omega) (by omega), cutI_of (x * 52429 / 65536) (by unfold okI; omega), cutI_of (x * 81920 / 65536) (by unfold okI; omega)]
  cases d <;> rfl
theorem mn_rate (x : Int) : mn 16384 (mx 64 x) = rateI x := by unfold mn mx rateI; split <;> split <;> (try split) <;> omega
theorem mn_mom (x : Int) : mn 58982 (mx 0 x) = momI x := by unfold mn mx momI; split <;> split <;> (try split) <;> omega
def pertI (r m b : Int) : Int × Int := (rateI (lessI r (b % 2 == 1)), momI (lessI m (decide (b ≥ 2))))
theorem perturb_ok (k : Nat) (r m b : Int) (h : okHyper r m) (h1 : 0 ≤ b) (h2 : b ≤ 3) (hk : 1 ≤ k) : hyper_Perturb.f k r m b = some ((pertI r m b).1, (pertI r m b).2, 0) := by
  obtain ⟨k, rfl⟩ : ∃ j, k = j + 1 := ⟨k - 1, by omega⟩
  unfold hyper_Perturb.f
  rw [hmay_eq, decide_eq_true h]
  unfold okHyper at h
  simp only [Option.bind_some, if_true]
  rw [if_neg (by omega), decide_eq_false (show ¬ b > 3 by omega), hyper_Perturb.j0, if_neg (by decide), tmod_pos b 2 h1, turned_eq r _ (by omega) (by omega), turned_eq m _ (by omega) (by omega)]
  simp only [Option.bind_some]
  rw [mn_rate, mn_mom]
  rfl
theorem perturb_bad (k : Nat) (r m b : Int) (h : ¬ (okHyper r m ∧ 0 ≤ b ∧ b ≤ 3)) (hk : 1 ≤ k) : hyper_Perturb.f k r m b = some (0, 0, 1100) := by
  obtain ⟨k, rfl⟩ : ∃ j, k = j + 1 := ⟨k - 1, by omega⟩
  unfold hyper_Perturb.f
  rw [hmay_eq]
  by_cases h1 : okHyper r m
  · rw [decide_eq_true h1]
    simp only [Option.bind_some, if_true]
    by_cases h2 : b < 0
    · rw [if_pos h2, hyper_Perturb.j0, if_pos rfl]
    · rw [if_neg h2, decide_eq_true (show b > 3 by
        rcases Int.lt_or_le 3 b with h3 | h3
        · exact h3
        · exact absurd ⟨h1, by omega, h3⟩ h), hyper_Perturb.j0, if_pos rfl]
  · rw [decide_eq_false h1]
    simp only [Option.bind_some, Bool.false_eq_true, if_false]
    rw [hyper_Perturb.j0, if_pos rfl]
theorem pertI_ok (r m b : Int) : okHyper (pertI r m b).1 (pertI r m b).2 := by
  unfold pertI okHyper rateI momI
  refine ⟨?_, ?_⟩ <;> split <;> (try split) <;> omega
def okRes (s k : Int) : Prop := okS s ∧ 0 ≤ k ∧ k ≤ 1048575
instance (a b : Int) : Decidable (okRes a b) := inferInstanceAs (Decidable (_ ∧ _))
def resI (s k : Int) : Int × Int := (64 + pickI s k 16321, pickI s (k + 1) 58983)
theorem resI_ok (s k : Int) : okHyper (resI s k).1 (resI s k).2 := by
  have h1 := pickI_bd s k 16321 (by decide)
  have h2 := pickI_bd s (k + 1) 58983 (by decide)
  unfold resI okHyper
  omega
theorem res_ok (k : Nat) (s f : Int) (h : okRes s f) (hk : 1 ≤ k) : hyper_Resample.f k s f = some ((resI s f).1, (resI s f).2, 0) := by
  obtain ⟨k, rfl⟩ : ∃ j, k = j + 1 := ⟨k - 1, by omega⟩
  obtain ⟨hs, hf⟩ := h
  have k1 : okK f := by unfold okK; omega
  have k2 : okK (f + 1) := by unfold okK; omega
  have hp := pickI_bd s f 16321 (by decide)
  unfold hyper_Resample.f
  rw [dmay_eq, decide_eq_true ⟨hs, k1⟩]
  simp only [Option.bind_some, if_true]
  rw [beq_eq_false_iff_ne.2 (by omega), hyper_Resample.j0, if_neg (by decide), pick_ok s f 16321 hs k1 (by decide) (by decide), wrap_id (f + 1) (by omega) (by omega), pick_ok s (f + 1) 58983 hs k2 (by decide) (by decide)]
  simp only [Option.bind_some]
  rw [wrap_id (64 + pickI s f 16321) (by omega) (by omega)]
  rfl
theorem res_bad (k : Nat) (s f : Int) (h : ¬ okRes s f) (hk : 1 ≤ k) : hyper_Resample.f k s f = some (0, 0, 1100) := by
  obtain ⟨k, rfl⟩ : ∃ j, k = j + 1 := ⟨k - 1, by omega⟩
  unfold hyper_Resample.f
  rw [dmay_eq]
  by_cases h1 : okS s ∧ okK f
  · rw [decide_eq_true h1]
    simp only [Option.bind_some, if_true]
    have e : f = 1048576 := by
      obtain ⟨h2, h3⟩ := h1
      unfold okK at h3
      rcases Int.lt_or_le 1048575 f with h4 | h4
      · omega
      · exact absurd ⟨h2, h3.1, h4⟩ h
    rw [beq_iff_eq.2 e, hyper_Resample.j0, if_pos rfl]
  · rw [decide_eq_false h1]
    simp only [Option.bind_some, Bool.false_eq_true, if_false]
    rw [hyper_Resample.j0, if_pos rfl]
theorem member_eq (m : Int) : sample_Member.f m = some (decide (0 ≤ m ∧ m ≤ 7)) := by
  unfold sample_Member.f
  by_cases h : m ≥ 0
  · rw [if_pos h]; refine congrArg some (decide_eq_decide.2 ?_); omega
  · rw [if_neg h]; refine congrArg some (Eq.symm (decide_eq_false ?_)); omega
theorem first_ok (k : Nat) (s m : Int) (hs : okS s) (h1 : 0 ≤ m) (h2 : m ≤ 7) (hk : 1 ≤ k) : hyper_First.f k s m = some ((resI s (40000 + 2 * m)).1, (resI s (40000 + 2 * m)).2, 0) := by
  unfold hyper_First.f
  rw [member_eq, decide_eq_true ⟨h1, h2⟩]
  simp only [Option.bind_some, if_true]
  rw [wrap_id (2 * m) (by omega) (by omega), wrap_id (40000 + 2 * m) (by omega) (by omega), res_ok k s _ ⟨hs, by omega⟩ hk]
  rfl
theorem first_bad (k : Nat) (s m : Int) (h : ¬ (okS s ∧ 0 ≤ m ∧ m ≤ 7)) (hk : 1 ≤ k) : hyper_First.f k s m = some (0, 0, 1100) := by
  unfold hyper_First.f
  rw [member_eq]
  by_cases h1 : 0 ≤ m ∧ m ≤ 7
  · rw [decide_eq_true h1]
    simp only [Option.bind_some, if_true]
    rw [wrap_id (2 * m) (by omega) (by omega), wrap_id (40000 + 2 * m) (by omega) (by omega), res_bad k s _ (fun q => h ⟨q.1, h1⟩) hk]
    rfl
  · rw [decide_eq_false h1]; simp
theorem awake_eq (k : Nat) (hk : 1 ≤ k) : grafterlaw11_awake.f k = some true := by
  have h0 := resI_ok 7 (40000 + 2 * 3)
  have h1 := first_ok k 7 3 (by decide) (by decide) (by decide) hk
  have h2 := res_ok k 7 40006 (by decide) hk
  rw [show (40006 : Int) = 40000 + 2 * 3 from rfl] at h2
  obtain ⟨⟨p, q⟩, e⟩ : ∃ x, resI 7 (40000 + 2 * 3) = x := ⟨_, rfl⟩
  rw [e] at h0 h1 h2
  clear e
  unfold grafterlaw11_awake.f
  rw [h1, show (40006 : Int) = 40000 + 2 * 3 from rfl, h2, perturb_ok k 1000 30000 1 (by decide) (by decide) (by decide) hk, perturb_ok k 16000 50000 2 (by decide) (by decide) (by decide) hk, perturb_bad k 1000 0 4 (by decide) hk, first_bad k 7 8 (by decide) hk, res_bad k 7 1048576 (by decide) hk]
  rw [show pertI 1000 30000 1 = (800, 37500) by decide, show pertI 16000 50000 2 = (16384, 40000) by decide]
  simp [num_eq, hmay_eq, h0]

theorem HyperFirst_at (a b : Int) : grafterlaw11_HyperFirst.f 60 a b = some true := by
  have hs : okS (a % 2 ^ 16) := by unfold okS; omega
  obtain ⟨m, em⟩ : ∃ m, b % 2 ^ 3 = m := ⟨_, rfl⟩
  have hm : 0 ≤ m ∧ m ≤ 7 := by omega
  obtain ⟨s, es⟩ : ∃ s, a % 2 ^ 16 = s := ⟨_, rfl⟩
  rw [es] at hs
  have h1 := first_ok 60 s m hs hm.1 hm.2 (by omega)
  have h2 := res_ok 60 s (40000 + 2 * m) ⟨hs, by omega⟩ (by omega)
  have h3 := rpick_ok 55 s (40000 + 2 * m) 16321 hs (by unfold okK; omega) (by decide) (by decide)
  have h4 := rpick_ok 55 s (40001 + 2 * m) 58983 hs (by unfold okK; omega) (by decide) (by decide)
  rw [show (55 + 5) = 60 from rfl] at h3 h4
  unfold resI at h1 h2
  rw [show (40000 + 2 * m + 1) = 40001 + 2 * m by omega] at h1 h2
  have hp := pickI_bd s (40000 + 2 * m) 16321 (by decide)
  obtain ⟨p, ep⟩ : ∃ p, pickI s (40000 + 2 * m) 16321 = p := ⟨_, rfl⟩
  obtain ⟨q, eq⟩ : ∃ q, pickI s (40001 + 2 * m) 58983 = q := ⟨_, rfl⟩
  rw [ep] at h1 h2 h3 hp
  rw [eq] at h1 h2 h4
  clear ep eq
  unfold grafterlaw11_HyperFirst.f
  rw [awake_eq 60 (by omega), and_mask a 16 (by decide) 65535 (by decide), and_mask b 3 (by decide) 7 (by decide), em, es, wrap_id (2 * m) (by omega) (by omega), wrap_id (40000 + 2 * m) (by omega) (by omega), wrap_id (40001 + 2 * m) (by omega) (by omega), h1, h2, h3, h4]
  simp only [Option.bind_some, if_true, num_eq]
  rw [wrap_id (64 + p) (by omega) (by omega)]
  simp
theorem HyperFirst : grafterlaw11_HyperFirst.Pure := fun a b _ _ => ⟨60, HyperFirst_at a b⟩

end Go.Proofs.Ytmkpngdpikadhaa.Pure
