/- P19.1: for every two int values: configs that may not be, one thing at a time, are refused by May of package config. No condition. -/
import Derived.Test.YtdgbfgnmeoihiaaPConfigFormsx8
import Derived.Test.YtdgbfgnmeoihiaaHelp
import Derived.Test.YtdgbfgnmeoihiaaHelpDraw
namespace Go.Proofs.Ytdgbfgnmeoihiaa.Pure
open Go.RowKit Go.Proofs.Ytdgbfgnmeoihiaa Go.Proofs.Ytdgbfgnmeoihiaa.PConfigForms Go.Proofs.YtdgbfgnmeoihiaaW.PrintWords Go.Proofs.YtdgbfgnmeoihiaaW.PrintLast Go.Proofs.YtdgbfgnmeoihiaaW.PrintMore
set_option linter.unusedVariables false
set_option linter.unusedSimpArgs false

theorem rd_nat (l : List Int) (i : Nat) (h : i < l.length) : rd l (i : Int) = l[i] := by
  unfold rd; rw [Int.toNat_natCast, List.getD_eq_getElem?_getD, List.getElem?_eq_getElem h]; rfl

theorem fmay_eq (a : Int) : fix_May.f a = some (decide (okI a)) := by
  unfold fix_May.f okI
  by_cases h : a ≥ -1073741824
  · rw [if_pos h]; refine congrArg some (decide_eq_decide.2 ?_); omega
  · rw [if_neg h]; refine congrArg some (Eq.symm (decide_eq_false ?_)); omega
theorem index_l0 (l : List Int) (hb : l.length ≤ 4611686018427387904) : ∀ (d k i : Nat), i + d = l.length → d < k →
    ∃ r, slices_IndexFunc_int_int.l0 k l (l.length : Int) (i : Int) = some r ∧ (0 ≤ r ↔ ¬ ∀ x ∈ l.drop i, okI x) := by
  intro d
  induction d with
  | zero =>
    intro k i hi hk
    obtain ⟨k, rfl⟩ : ∃ j, k = j + 1 := ⟨k - 1, by omega⟩
    refine ⟨-1, by rw [slices_IndexFunc_int_int.l0, if_neg (by omega)], ?_⟩
    rw [List.drop_eq_nil_of_le (by omega)]
    simp
  | succ d ih =>
    intro k i hi hk
    obtain ⟨k, rfl⟩ : ∃ j, k = j + 1 := ⟨k - 1, by omega⟩
    have h1 : i < l.length := by omega
    obtain ⟨r, hr, he⟩ := ih k (i + 1) (by omega) (by omega)
    rw [slices_IndexFunc_int_int.l0, if_pos (by omega), if_pos (by omega), if_pos (by omega), rd_nat l i h1]
    unfold vec_May_1.f
    rw [fmay_eq, List.drop_eq_getElem_cons h1]
    by_cases ho : okI l[i]
    · refine ⟨r, ?_, ?_⟩
      · rw [decide_eq_true ho, wrap_id ((i : Int) + 1) (by omega) (by omega), show ((i : Int) + 1) = ((i + 1 : Nat) : Int) by omega]
        exact hr
      · rw [he, List.forall_mem_cons]
        exact ⟨fun q1 q2 => q1 q2.2, fun q1 q2 => q1 ⟨ho, q2⟩⟩
    · refine ⟨(i : Int), ?_, ?_⟩
      · rw [decide_eq_false ho]; rfl
      · rw [List.forall_mem_cons]
        exact ⟨fun _ q => ho q.1, fun _ => by omega⟩
def okV (l : List Int) : Prop := l.length ≤ 16 ∧ ∀ x ∈ l, okI x
instance (l : List Int) : Decidable (okV l) := inferInstanceAs (Decidable (_ ∧ _))
theorem vmay_eq (k : Nat) (l : List Int) (hk : 20 ≤ k) : vec_May.f k l = some (decide (okV l)) := by
  unfold vec_May.f
  by_cases h : (l.length : Int) ≤ 16
  · obtain ⟨r, hr, he⟩ := index_l0 l (by omega) l.length k 0 (by omega) (by omega)
    rw [List.drop_zero] at he
    rw [if_pos h]
    unfold slices_ContainsFunc_int_int.f slices_IndexFunc_int_int.f
    rw [show ((0 : Nat) : Int) = 0 from rfl] at hr
    rw [hr]
    simp only [Option.bind_some]
    refine congrArg some ?_
    by_cases h2 : ∀ x ∈ l, okI x
    · rw [decide_eq_false (show ¬ (0 ≤ r) from fun q => he.1 q h2), decide_eq_true (show okV l from ⟨by omega, h2⟩)]; rfl
    · rw [decide_eq_true (he.2 h2), decide_eq_false (show ¬ okV l from fun q => h2 q.2)]; rfl
  · rw [if_neg h, decide_eq_false (show ¬ okV l from fun q => by have := q.1; omega)]

def okShape (a b : Int) : Prop := (1 ≤ a ∧ a ≤ 3) ∧ (1 ≤ b ∧ b ≤ 3)
instance (a b : Int) : Decidable (okShape a b) := inferInstanceAs (Decidable (_ ∧ _))
def sizeI (a b : Int) : Int := b * (a + 1) + b + 1
theorem num_eq (x : Int) : grafterlaw0_Num.f x = some x := rfl
theorem sizeI_bd (a b : Int) (h : okShape a b) : (4 ≤ sizeI a b ∧ sizeI a b ≤ 16) ∧ (0 ≤ b * (a + 1) ∧ b * (a + 1) ≤ 12) := by
  obtain ⟨⟨h1, h2⟩, h3, h4⟩ := h
  have ha : a = 1 ∨ a = 2 ∨ a = 3 := by omega
  unfold sizeI
  rcases ha with rfl | rfl | rfl <;> omega
theorem smay_eq (a b : Int) : shape_May.f a b = some (decide (okShape a b)) := by
  unfold shape_May.f okShape
  by_cases h1 : a ≥ 1
  · rw [if_pos h1]
    by_cases h2 : a ≤ 3
    · rw [if_pos h2]
      by_cases h3 : b ≥ 1
      · rw [if_pos h3]; refine congrArg some (decide_eq_decide.2 ?_); omega
      · rw [if_neg h3]; refine congrArg some (Eq.symm (decide_eq_false ?_)); omega
    · rw [if_neg h2]; refine congrArg some (Eq.symm (decide_eq_false ?_)); omega
  · rw [if_neg h1]; refine congrArg some (Eq.symm (decide_eq_false ?_)); omega

def fitsW (a b : Int) (ws : List Int) : Prop := okShape a b ∧ (ws.length : Int) = sizeI a b ∧ okV ws
instance (a b : Int) (ws : List Int) : Decidable (fitsW a b ws) := inferInstanceAs (Decidable (_ ∧ _))
def okRow (a b : Int) (r : S35) : Prop := ((r.f0.length : Int) = a ∧ okV r.f0) ∧ okI r.f1
instance (a b : Int) (r : S35) : Decidable (okRow a b r) := inferInstanceAs (Decidable (_ ∧ _))
def okRows (a b : Int) (rows : List S35) : Prop := okShape a b ∧ (1 ≤ rows.length ∧ rows.length ≤ 8) ∧ ∀ r ∈ rows, okRow a b r
instance (a b : Int) (rows : List S35) : Decidable (okRows a b rows) := inferInstanceAs (Decidable (_ ∧ _))
theorem rd_T_nat (l : List S35) (i : Nat) (h : i < l.length) : rd_T35 l (i : Int) = l[i] := by
  unfold rd_T35; rw [Int.toNat_natCast, List.getD_eq_getElem?_getD, List.getElem?_eq_getElem h]; rfl
theorem inputs_eq (k : Nat) (a b : Int) (xs : List Int) (hk : 20 ≤ k) : forward_Inputs.f k a b xs = some (decide ((xs.length : Int) = a ∧ okV xs)) := by
  unfold forward_Inputs.f
  by_cases h : (xs.length : Int) = a
  · rw [if_pos h, vmay_eq k xs hk, Option.bind_some]
    refine congrArg some (decide_eq_decide.2 ?_)
    exact ⟨fun q => ⟨h, q⟩, fun q => q.2⟩
  · rw [if_neg h, decide_eq_false (fun q => h q.1)]
theorem odd_eq (k : Nat) (a b : Int) (r : S35) (hk : 20 ≤ k) : loss_May_1.f a b k r.f0 r.f1 = some (!decide (okRow a b r)) := by
  unfold loss_May_1.f
  rw [inputs_eq k a b r.f0 hk, Option.bind_some]
  by_cases h : (r.f0.length : Int) = a ∧ okV r.f0
  · rw [decide_eq_true h, if_pos rfl, fmay_eq, Option.bind_some]
    refine congrArg (fun z => some (!z)) (decide_eq_decide.2 ?_)
    exact ⟨fun q => ⟨h, q⟩, fun q => q.2⟩
  · rw [decide_eq_false h, if_neg (by decide), decide_eq_false (fun q => h q.1)]
    rfl
theorem find_l0 (a b : Int) (rows : List S35) (hn : rows.length ≤ 4611686018427387904) : ∀ (d k i : Nat), i + d = rows.length → d + 21 ≤ k →
    ∃ z : Int, api_Row_76.l0 a b k rows (rows.length : Int) (i : Int) = some z ∧ decide (z ≥ 0) = !decide (∀ r ∈ rows.drop i, okRow a b r) := by
  intro d
  induction d with
  | zero =>
    intro k i hi hk
    obtain ⟨k, rfl⟩ : ∃ j, k = j + 1 := ⟨k - 1, by omega⟩
    refine ⟨-1, by rw [api_Row_76.l0, if_neg (by omega)], ?_⟩
    rw [List.drop_eq_nil_of_le (by omega)]
    simp
  | succ d ih =>
    intro k i hi hk
    obtain ⟨k, rfl⟩ : ∃ j, k = j + 1 := ⟨k - 1, by omega⟩
    have h1 : i < rows.length := by omega
    rw [api_Row_76.l0, if_pos (by omega), if_pos (by omega), if_pos (by omega), rd_T_nat rows i h1, odd_eq k a b _ (by omega), Option.bind_some, List.drop_eq_getElem_cons h1]
    by_cases ho : okRow a b rows[i]
    · rw [decide_eq_true ho, Bool.not_true, if_neg (by decide), wrap_id ((i : Int) + 1) (by omega) (by omega), show ((i : Int) + 1) = ((i + 1 : Nat) : Int) by omega]
      obtain ⟨z, hz1, hz2⟩ := ih k (i + 1) (by omega) (by omega)
      refine ⟨z, hz1, ?_⟩
      rw [hz2]
      refine congrArg (fun q => !q) (decide_eq_decide.2 ?_)
      rw [List.forall_mem_cons]
      exact ⟨fun q => ⟨ho, q⟩, fun q => q.2⟩
    · rw [decide_eq_false ho, Bool.not_false, if_pos rfl]
      refine ⟨_, rfl, ?_⟩
      rw [decide_eq_true (by omega), decide_eq_false (fun q => ho (q _ List.mem_cons_self))]
      rfl
theorem lmay_eq (k : Nat) (a b : Int) (rows : List S35) (hk : 40 ≤ k) : loss_May.f k a b rows = some (decide (okRows a b rows)) := by
  unfold loss_May.f
  rw [smay_eq, Option.bind_some]
  by_cases h1 : okShape a b
  · rw [decide_eq_true h1, if_pos rfl]
    by_cases h2 : (rows.length : Int) ≥ 1
    · rw [if_pos h2]
      by_cases h3 : (rows.length : Int) ≤ 8
      · obtain ⟨z, hz1, hz2⟩ := find_l0 a b rows (by omega) rows.length k 0 (by omega) (by omega)
        have hf : api_Row_76.f a b k rows = some z := hz1
        rw [if_pos h3]
        unfold api_Row_58.f
        rw [hf, Option.bind_some, Option.bind_some, hz2, Bool.not_not, List.drop_zero]
        refine congrArg some (decide_eq_decide.2 ?_)
        exact ⟨fun q => ⟨h1, ⟨by omega, by omega⟩, q⟩, fun q => q.2.2⟩
      · rw [if_neg h3, decide_eq_false (fun q => h3 (by have := q.2.1.2; omega))]
    · rw [if_neg h2, decide_eq_false (fun q => h2 (by have := q.2.1.1; omega))]
  · rw [decide_eq_false h1, if_neg (by decide), decide_eq_false (fun q => h1 q.1)]

def okCfg (m a b : Int) (rows : List S35) (s t i c : Int) : Prop := (2 ≤ m ∧ m ≤ 8) ∧ okRows a b rows ∧ (0 ≤ s ∧ s ≤ 65535) ∧ (1 ≤ t ∧ t ≤ 32) ∧ (1 ≤ i ∧ i ≤ 8) ∧ (1 ≤ c ∧ c ≤ Int.tdiv m 2)
instance (m a b : Int) (rows : List S35) (s t i c : Int) : Decidable (okCfg m a b rows s t i c) := inferInstanceAs (Decidable (_ ∧ _))
theorem cwithin_eq (a x y : Int) : config_within.f a x y = some (decide (x ≤ a ∧ a ≤ y)) := by
  unfold config_within.f
  by_cases h : a ≥ x
  · rw [if_pos h]
    refine congrArg some (decide_eq_decide.2 ?_)
    exact ⟨fun q => ⟨h, q⟩, fun q => q.2⟩
  · rw [if_neg h, decide_eq_false (fun q => h q.1)]
theorem half_w (m : Int) (h1 : 2 ≤ m) (h2 : m ≤ 8) : wrap64 (Int.tdiv m 2) = Int.tdiv m 2 := by
  have : Int.tdiv m 2 = m / 2 := Int.tdiv_eq_ediv_of_nonneg (by omega)
  rw [this]
  exact wrap_id _ (by omega) (by omega)
theorem dseed_eq (s : Int) : draw_Seed.f s = some (decide (0 ≤ s ∧ s ≤ 65535)) := by
  unfold draw_Seed.f
  by_cases h : s ≥ 0
  · rw [if_pos h]
    refine congrArg some (decide_eq_decide.2 ?_)
    exact ⟨fun q => ⟨h, q⟩, fun q => q.2⟩
  · rw [if_neg h, decide_eq_false (fun q => h q.1)]
theorem chain {p q : Prop} [Decidable p] [Decidable q] (x : Option Bool) (h : p → x = some (decide q)) : (if decide p = true then x else some false) = some (decide (p ∧ q)) := by
  by_cases hp : p
  · rw [decide_eq_true hp, if_pos rfl, h hp]
    refine congrArg some (decide_eq_decide.2 ?_)
    exact ⟨fun hq => ⟨hp, hq⟩, fun hq => hq.2⟩
  · rw [decide_eq_false hp, if_neg (by decide), decide_eq_false (fun hq => hp hq.1)]
theorem cmay_eq (k : Nat) (m a b : Int) (rows : List S35) (s t i c : Int) (p : Bool) (hk : 60 ≤ k) : config_May.f k m a b rows s t i c p = some (decide (okCfg m a b rows s t i c)) := by
  unfold config_May.f
  rw [cwithin_eq, Option.bind_some]
  refine chain _ (fun hm => ?_)
  rw [lmay_eq k a b rows (by omega), Option.bind_some]
  refine chain _ (fun _ => ?_)
  rw [dseed_eq, Option.bind_some]
  refine chain _ (fun _ => ?_)
  rw [cwithin_eq, Option.bind_some]
  refine chain _ (fun _ => ?_)
  rw [cwithin_eq, Option.bind_some]
  refine chain _ (fun _ => ?_)
  rw [cwithin_eq, Option.bind_some, half_w m hm.1 hm.2]

def smallR : List S35 := [⟨[65536], 32768⟩, ⟨[-65536], 0⟩]
theorem csmall_eq : grafterlaw19_small.f = some (2, 1, 1, smallR, 7, 3, 1, 1, true) := rfl
theorem cawake_eq (k : Nat) (hk : 60 ≤ k) : grafterlaw19_awake.f k = some true := by
  have g1 : okCfg 2 1 1 smallR 7 3 1 1 := by decide
  have g2 : ¬ okCfg 2 1 1 smallR 7 3 1 2 := by decide
  have g3 : ¬ okCfg 2 1 1 [] 7 3 1 1 := by decide
  have g4 : ¬ okCfg 0 0 0 [] 0 0 0 0 := by decide
  unfold grafterlaw19_awake.f
  rw [csmall_eq]
  simp only [Option.bind_some]
  rw [cmay_eq k _ _ _ _ _ _ _ _ _ hk, cmay_eq k _ _ _ _ _ _ _ _ _ hk, cmay_eq k _ _ _ _ _ _ _ _ _ hk, cmay_eq k _ _ _ _ _ _ _ _ _ hk, decide_eq_true g1, decide_eq_false g2, decide_eq_false g3, decide_eq_false g4]
  rfl

theorem cf_arm (k : Nat) (m a b : Int) (rows : List S35) (s t i c : Int) (p : Bool) (hk : 60 ≤ k) (h : ¬ okCfg m a b rows s t i c) :
    ((grafterlaw19_small.f).bind fun z => ((config_May.f k z.1 z.2.1 z.2.2.1 z.2.2.2.1 z.2.2.2.2.1 z.2.2.2.2.2.1 z.2.2.2.2.2.2.1 z.2.2.2.2.2.2.2.1 z.2.2.2.2.2.2.2.2).bind fun x => (if x = true then ((config_May.f k m a b rows s t i c p).bind fun y => (if y = true then (some false) else ((grafterlaw0_Num.f 0).bind fun e => (some (e == 0))))) else (some false)))) = some true := by
  have g1 : okCfg 2 1 1 smallR 7 3 1 1 := by decide
  rw [csmall_eq, Option.bind_some]
  show ((config_May.f k 2 1 1 smallR 7 3 1 1 true).bind _) = _
  rw [cmay_eq k _ _ _ _ _ _ _ _ _ hk, decide_eq_true g1, Option.bind_some, if_pos rfl, cmay_eq k _ _ _ _ _ _ _ _ _ hk, decide_eq_false h, Option.bind_some, if_neg (by decide)]
  rfl
theorem cf_loop (n : Nat) (hn : 9 ≤ n) (hn2 : n ≤ 2000) : ∀ (d k i : Nat) (rows : List S35), rows.length = n → i + d = n → d + 61 ≤ k →
    grafterlaw19_ConfigForms.l0 k (i : Int) 2 1 1 rows 7 3 1 1 true = some true := by
  intro d
  induction d with
  | zero =>
    intro k i rows hl hi hk
    obtain ⟨k, rfl⟩ : ∃ j, k = j + 1 := ⟨k - 1, by omega⟩
    rw [grafterlaw19_ConfigForms.l0, if_neg (by omega)]
    exact cf_arm k 2 1 1 rows 7 3 1 1 true (by omega) (fun q => by have := q.2.1.2.1.2; omega)
  | succ d ih =>
    intro k i rows hl hi hk
    obtain ⟨k, rfl⟩ : ∃ j, k = j + 1 := ⟨k - 1, by omega⟩
    rw [grafterlaw19_ConfigForms.l0, if_pos (by omega), if_pos (by omega), wrap_id ((i : Int) + 1) (by omega) (by omega), show ((i : Int) + 1) = ((i + 1 : Nat) : Int) by omega]
    exact ih k (i + 1) _ (by rw [List.length_set]; exact hl) (by omega) (by omega)
theorem ConfigForms_at (a0 a1 : Int) : grafterlaw19_ConfigForms.f 3000 a0 a1 = some true := by
  have hh : Int.tdiv 2 2 = 1 := by decide
  obtain ⟨d, hd, d1, d2⟩ : ∃ d, wrap64 (1 + Go.bits .and .i64 a1 1023) = d ∧ 1 ≤ d ∧ d ≤ 1024 := by
    rw [and_mask a1 10 (by decide) 1023 (by decide)]
    exact ⟨_, rfl, by rw [wrap_id _ (by omega) (by omega)]; omega, by rw [wrap_id _ (by omega) (by omega)]; omega⟩
  unfold grafterlaw19_ConfigForms.f
  rw [cawake_eq 3000 (by omega), Option.bind_some, if_pos rfl]
  simp only [hd]
  clear hd
  obtain ⟨n, hn⟩ : ∃ n, Int.tmod (IntKind.u64.wrap a0) 16 = n := ⟨_, rfl⟩
  simp only [hn]
  clear hn
  have w : ∀ x : Int, -3000 ≤ x → x ≤ 2147483648 → wrap64 x = x := fun x h1 h2 => wrap_id x (by omega) (by omega)
  rw [w (2 - d) (by omega) (by omega), w (8 + d) (by omega) (by omega), w (3 + d) (by omega) (by omega), w (1073741824 + d) (by omega) (by omega), w (-d) (by omega) (by omega), w (65535 + d) (by omega) (by omega), w (1 - d) (by omega) (by omega), w (32 + d) (by omega) (by omega), w (1 + d) (by omega) (by omega), csmall_eq, Option.bind_some]
  have A := fun m a b rows s t i c p h => cf_arm 3000 m a b rows s t i c p (by omega) h
  rw [csmall_eq] at A
  by_cases h : n = 0
  · rw [if_pos h]; exact A _ _ _ _ _ _ _ _ _ (fun q => by have := q.1.1; omega)
  rw [if_neg h]; clear h
  by_cases h : n = 1
  · rw [if_pos h]; exact A _ _ _ _ _ _ _ _ _ (fun q => by have := q.1.2; omega)
  rw [if_neg h]; clear h
  by_cases h : n = 2
  · rw [if_pos h]; exact A _ _ _ _ _ _ _ _ _ (by decide)
  rw [if_neg h]; clear h
  by_cases h : n = 3
  · rw [if_pos h]; exact A _ _ _ _ _ _ _ _ _ (fun q => by have := q.2.1.1.2.2; omega)
  rw [if_neg h]; clear h
  by_cases h : n = 4
  · rw [if_pos h]; exact A _ _ _ _ _ _ _ _ _ (by decide)
  rw [if_neg h]; clear h
  by_cases h : n = 5
  · rw [if_pos h, if_pos (by decide)]; exact A _ _ _ _ _ _ _ _ _ (by decide)
  rw [if_neg h]; clear h
  by_cases h : n = 6
  · rw [if_pos h, if_pos (by decide)]
    exact A _ _ _ _ _ _ _ _ _ (fun q => by
      have hx : (⟨[-65536], 1073741824 + d⟩ : S35) ∈ [(⟨[65536], 32768⟩ : S35), ⟨[-65536], 1073741824 + d⟩] := List.mem_cons_of_mem _ List.mem_cons_self
      have h9 := (q.2.1.2.2 _ hx).2.2
      simp only at h9
      omega)
  rw [if_neg h]; clear h
  by_cases h : n = 7
  · rw [if_pos h]; exact A _ _ _ _ _ _ _ _ _ (fun q => by have := q.2.2.1.1; omega)
  rw [if_neg h]; clear h
  by_cases h : n = 8
  · rw [if_pos h]; exact A _ _ _ _ _ _ _ _ _ (fun q => by have := q.2.2.1.2; omega)
  rw [if_neg h]; clear h
  by_cases h : n = 9
  · rw [if_pos h]; exact A _ _ _ _ _ _ _ _ _ (fun q => by have := q.2.2.2.1.1; omega)
  rw [if_neg h]; clear h
  by_cases h : n = 10
  · rw [if_pos h]; exact A _ _ _ _ _ _ _ _ _ (fun q => by have := q.2.2.2.1.2; omega)
  rw [if_neg h]; clear h
  by_cases h : n = 11
  · rw [if_pos h]; exact A _ _ _ _ _ _ _ _ _ (fun q => by have := q.2.2.2.2.1.1; omega)
  rw [if_neg h]; clear h
  by_cases h : n = 12
  · rw [if_pos h]; exact A _ _ _ _ _ _ _ _ _ (fun q => by have := q.2.2.2.2.1.2; omega)
  rw [if_neg h]; clear h
  by_cases h : n = 13
  · rw [if_pos h]; exact A _ _ _ _ _ _ _ _ _ (fun q => by have := q.2.2.2.2.2.1; omega)
  rw [if_neg h]; clear h
  by_cases h : n = 14
  · rw [if_pos h]; exact A _ _ _ _ _ _ _ _ _ (fun q => by have h9 := q.2.2.2.2.2.2; rw [hh] at h9; omega)
  rw [if_neg h]; clear h
  rw [if_pos (by omega), if_pos (by omega)]
  exact cf_loop (8 + d).toNat (by omega) (by omega) (8 + d).toNat 3000 0 _ (List.length_replicate ..) (by omega) (by omega)
theorem ConfigForms : grafterlaw19_ConfigForms.Pure := fun a0 a1 _ _ => ⟨3000, ConfigForms_at a0 a1⟩

end Go.Proofs.Ytdgbfgnmeoihiaa.Pure
