/- P19.1: for every config that may be, and every three int values: its rows in another row, with another seed, total and interval that may be, may be, too. No condition. -/
import Derived.Test.YtdgbfgnmeoihiaaPConfigRowsx5
import Derived.Test.YtdgbfgnmeoihiaaHelp
import Derived.Test.YtdgbfgnmeoihiaaHelpDraw
namespace Go.Proofs.Ytdgbfgnmeoihiaa.Pure
open Go.RowKit Go.Proofs.Ytdgbfgnmeoihiaa Go.Proofs.Ytdgbfgnmeoihiaa.PConfigRows Go.Proofs.YtdgbfgnmeoihiaaW.PrintWords Go.Proofs.YtdgbfgnmeoihiaaW.PrintLast Go.Proofs.YtdgbfgnmeoihiaaW.PrintMore
set_option linter.unusedVariables false
set_option linter.unusedSimpArgs false

theorem rd_nat (l : List Int) (i : Nat) (h : i < l.length) : rd l (i : Int) = l[i] := by
  unfold rd; rw [Int.toNat_natCast, List.getD_eq_getElem?_getD, List.getElem?_eq_getElem h]; rfl

theorem upTo_eq (a b c : Int) : grafterref1_upTo.f a b c = some (decide (b ≤ a ∧ a ≤ c)) := by
  unfold grafterref1_upTo.f
  by_cases h : a ≥ b
  · rw [if_pos h]; refine congrArg some (decide_eq_decide.2 ?_); omega
  · rw [if_neg h]; refine congrArg some (Eq.symm (decide_eq_false ?_)); omega

theorem fmay_eq (a : Int) : fix_May.f a = some (decide (okI a)) := by
  unfold fix_May.f okI
  by_cases h : a ≥ -1073741824
  · rw [if_pos h]; refine congrArg some (decide_eq_decide.2 ?_); omega
  · rw [if_neg h]; refine congrArg some (Eq.symm (decide_eq_false ?_)); omega
theorem index_l0 (l : List Int) (hb : l.length ≤ 4611686018427387904) : ∀ (d k i : Nat), i + d = l.length → d < k →
    ∃ r, slices_IndexFunc_int_int.l0 k l (l.length : Int) (i : Int) = some r ∧ (0 ≤ r ↔ ¬ ∀ x ∈ l.drop i, okI x) := by
  intro d
  induction d with
  | zero =>
    intro k i hi hk
    obtain ⟨k, rfl⟩ : ∃ j, k = j + 1 := ⟨k - 1, by omega⟩
    refine ⟨-1, by rw [slices_IndexFunc_int_int.l0, if_neg (by omega)], ?_⟩
    rw [List.drop_eq_nil_of_le (by omega)]
    simp
  | succ d ih =>
    intro k i hi hk
    obtain ⟨k, rfl⟩ : ∃ j, k = j + 1 := ⟨k - 1, by omega⟩
    have h1 : i < l.length := by omega
    obtain ⟨r, hr, he⟩ := ih k (i + 1) (by omega) (by omega)
    rw [slices_IndexFunc_int_int.l0, if_pos (by omega), if_pos (by omega), if_pos (by omega), rd_nat l i h1]
    unfold vec_May_1.f
    rw [fmay_eq, List.drop_eq_getElem_cons h1]
    by_cases ho : okI l[i]
    · refine ⟨r, ?_, ?_⟩
      · rw [decide_eq_true ho, wrap_id ((i : Int) + 1) (by omega) (by omega), show ((i : Int) + 1) = ((i + 1 : Nat) : Int) by omega]
        exact hr
      · rw [he, List.forall_mem_cons]
        exact ⟨fun q1 q2 => q1 q2.2, fun q1 q2 => q1 ⟨ho, q2⟩⟩
    · refine ⟨(i : Int), ?_, ?_⟩
      · rw [decide_eq_false ho]; rfl
      · rw [List.forall_mem_cons]
        exact ⟨fun _ q => ho q.1, fun _ => by omega⟩
def okV (l : List Int) : Prop := l.length ≤ 16 ∧ ∀ x ∈ l, okI x
instance (l : List Int) : Decidable (okV l) := inferInstanceAs (Decidable (_ ∧ _))
theorem vmay_eq (k : Nat) (l : List Int) (hk : 20 ≤ k) : vec_May.f k l = some (decide (okV l)) := by
  unfold vec_May.f
  by_cases h : (l.length : Int) ≤ 16
  · obtain ⟨r, hr, he⟩ := index_l0 l (by omega) l.length k 0 (by omega) (by omega)
    rw [List.drop_zero] at he
    rw [if_pos h]
    unfold slices_ContainsFunc_int_int.f slices_IndexFunc_int_int.f
    rw [show ((0 : Nat) : Int) = 0 from rfl] at hr
    rw [hr]
    simp only [Option.bind_some]
    refine congrArg some ?_
    by_cases h2 : ∀ x ∈ l, okI x
    · rw [decide_eq_false (show ¬ (0 ≤ r) from fun q => he.1 q h2), decide_eq_true (show okV l from ⟨by omega, h2⟩)]; rfl
    · rw [decide_eq_true (he.2 h2), decide_eq_false (show ¬ okV l from fun q => h2 q.2)]; rfl
  · rw [if_neg h, decide_eq_false (show ¬ okV l from fun q => by have := q.1; omega)]

def okShape (a b : Int) : Prop := (1 ≤ a ∧ a ≤ 3) ∧ (1 ≤ b ∧ b ≤ 3)
instance (a b : Int) : Decidable (okShape a b) := inferInstanceAs (Decidable (_ ∧ _))
def sizeI (a b : Int) : Int := b * (a + 1) + b + 1
theorem num_eq (x : Int) : grafterlaw0_Num.f x = some x := rfl
theorem sizeI_bd (a b : Int) (h : okShape a b) : (4 ≤ sizeI a b ∧ sizeI a b ≤ 16) ∧ (0 ≤ b * (a + 1) ∧ b * (a + 1) ≤ 12) := by
  obtain ⟨⟨h1, h2⟩, h3, h4⟩ := h
  have ha : a = 1 ∨ a = 2 ∨ a = 3 := by omega
  unfold sizeI
  rcases ha with rfl | rfl | rfl <;> omega
theorem smay_eq (a b : Int) : shape_May.f a b = some (decide (okShape a b)) := by
  unfold shape_May.f okShape
  by_cases h1 : a ≥ 1
  · rw [if_pos h1]
    by_cases h2 : a ≤ 3
    · rw [if_pos h2]
      by_cases h3 : b ≥ 1
      · rw [if_pos h3]; refine congrArg some (decide_eq_decide.2 ?_); omega
      · rw [if_neg h3]; refine congrArg some (Eq.symm (decide_eq_false ?_)); omega
    · rw [if_neg h2]; refine congrArg some (Eq.symm (decide_eq_false ?_)); omega
  · rw [if_neg h1]; refine congrArg some (Eq.symm (decide_eq_false ?_)); omega

theorem rfmay_eq (a : Int) : grafterref1_FixMay.f a = some (decide (okI a)) := by
  unfold grafterref1_FixMay.f; rw [upTo_eq]; rfl
theorem rvmay_l0 (l : List Int) (hb : l.length ≤ 4611686018427387904) : ∀ (d k i : Nat), i + d = l.length → d < k →
    grafterref1_VecMay.l0 k l (i : Int) = some (decide ((∀ x ∈ l.drop i, okI x) ∧ l.length ≤ 16)) := by
  intro d
  induction d with
  | zero =>
    intro k i hi hk
    obtain ⟨k, rfl⟩ : ∃ j, k = j + 1 := ⟨k - 1, by omega⟩
    rw [grafterref1_VecMay.l0, if_neg (by omega), List.drop_eq_nil_of_le (by omega)]
    refine congrArg some (decide_eq_decide.2 ?_)
    simp
    omega
  | succ d ih =>
    intro k i hi hk
    obtain ⟨k, rfl⟩ : ∃ j, k = j + 1 := ⟨k - 1, by omega⟩
    have h1 : i < l.length := by omega
    rw [grafterref1_VecMay.l0, if_pos (by omega), if_pos (by omega), rd_nat l i h1, rfmay_eq, List.drop_eq_getElem_cons h1]
    by_cases ho : okI l[i]
    · rw [decide_eq_true ho]
      simp only [Option.bind_some, if_true]
      rw [wrap_id ((i : Int) + 1) (by omega) (by omega), show ((i : Int) + 1) = ((i + 1 : Nat) : Int) by omega, ih k (i + 1) (by omega) (by omega)]
      refine congrArg some (decide_eq_decide.2 ?_)
      rw [List.forall_mem_cons]
      exact ⟨fun q => ⟨⟨ho, q.1⟩, q.2⟩, fun q => ⟨q.1.2, q.2⟩⟩
    · rw [decide_eq_false ho]
      simp only [Option.bind_some, Bool.false_eq_true, if_false]
      rw [decide_eq_false]
      exact fun q => ho (q.1 _ List.mem_cons_self)
theorem rvmay_eq (k : Nat) (l : List Int) (hb : l.length ≤ 4611686018427387904) (hk : l.length < k) : grafterref1_VecMay.f k l = some (decide (okV l)) := by
  have := rvmay_l0 l hb l.length k 0 (by omega) hk
  rw [List.drop_zero] at this
  unfold grafterref1_VecMay.f
  rw [show (0 : Int) = ((0 : Nat) : Int) from rfl, this]
  refine congrArg some (decide_eq_decide.2 ?_)
  exact ⟨fun h => ⟨h.2, h.1⟩, fun h => ⟨h.2, h.1⟩⟩

theorem rsmay_eq (a b : Int) : grafterref1_ShapeMay.f a b = some (decide (okShape a b)) := by
  unfold grafterref1_ShapeMay.f
  rw [upTo_eq, upTo_eq]
  by_cases h1 : 1 ≤ a ∧ a ≤ 3
  · rw [decide_eq_true h1]
    simp only [Option.bind_some, if_true]
    refine congrArg some (decide_eq_decide.2 ?_)
    exact ⟨fun h => ⟨h1, h⟩, fun h => h.2⟩
  · rw [decide_eq_false h1]
    simp only [Option.bind_some, Bool.false_eq_true, if_false]
    refine congrArg some (Eq.symm (decide_eq_false ?_))
    exact fun h => h1 h.1

theorem rfeeds_eq (k : Nat) (a b : Int) (xs : List Int) (hb : xs.length ≤ 4611686018427387904) (hk : xs.length < k) : grafterref1_feeds.f k a b xs = some (decide ((xs.length : Int) = a ∧ okV xs)) := by
  unfold grafterref1_feeds.f
  by_cases h1 : (xs.length : Int) = a
  · rw [if_pos h1, rvmay_eq k xs hb hk, Option.bind_some]
    by_cases h2 : okV xs
    · rw [decide_eq_true h2, decide_eq_true ⟨h1, h2⟩]
    · rw [decide_eq_false h2, decide_eq_false (fun q => h2 q.2)]
  · rw [if_neg h1, decide_eq_false (fun q => h1 q.1)]

def fitsW (a b : Int) (ws : List Int) : Prop := okShape a b ∧ (ws.length : Int) = sizeI a b ∧ okV ws
instance (a b : Int) (ws : List Int) : Decidable (fitsW a b ws) := inferInstanceAs (Decidable (_ ∧ _))
def okRow (a b : Int) (r : S35) : Prop := ((r.f0.length : Int) = a ∧ okV r.f0) ∧ okI r.f1
instance (a b : Int) (r : S35) : Decidable (okRow a b r) := inferInstanceAs (Decidable (_ ∧ _))
def okRows (a b : Int) (rows : List S35) : Prop := okShape a b ∧ (1 ≤ rows.length ∧ rows.length ≤ 8) ∧ ∀ r ∈ rows, okRow a b r
instance (a b : Int) (rows : List S35) : Decidable (okRows a b rows) := inferInstanceAs (Decidable (_ ∧ _))
theorem rd_T_nat (l : List S35) (i : Nat) (h : i < l.length) : rd_T35 l (i : Int) = l[i] := by
  unfold rd_T35; rw [Int.toNat_natCast, List.getD_eq_getElem?_getD, List.getElem?_eq_getElem h]; rfl
theorem inputs_eq (k : Nat) (a b : Int) (xs : List Int) (hk : 20 ≤ k) : forward_Inputs.f k a b xs = some (decide ((xs.length : Int) = a ∧ okV xs)) := by
  unfold forward_Inputs.f
  by_cases h : (xs.length : Int) = a
  · rw [if_pos h, vmay_eq k xs hk, Option.bind_some]
    refine congrArg some (decide_eq_decide.2 ?_)
    exact ⟨fun q => ⟨h, q⟩, fun q => q.2⟩
  · rw [if_neg h, decide_eq_false (fun q => h q.1)]
theorem odd_eq (k : Nat) (a b : Int) (r : S35) (hk : 20 ≤ k) : loss_May_1.f a b k r.f0 r.f1 = some (!decide (okRow a b r)) := by
  unfold loss_May_1.f
  rw [inputs_eq k a b r.f0 hk, Option.bind_some]
  by_cases h : (r.f0.length : Int) = a ∧ okV r.f0
  · rw [decide_eq_true h, if_pos rfl, fmay_eq, Option.bind_some]
    refine congrArg (fun z => some (!z)) (decide_eq_decide.2 ?_)
    exact ⟨fun q => ⟨h, q⟩, fun q => q.2⟩
  · rw [decide_eq_false h, if_neg (by decide), decide_eq_false (fun q => h q.1)]
    rfl
theorem find_l0 (a b : Int) (rows : List S35) (hn : rows.length ≤ 4611686018427387904) : ∀ (d k i : Nat), i + d = rows.length → d + 21 ≤ k →
    ∃ z : Int, api_Row_76.l0 a b k rows (rows.length : Int) (i : Int) = some z ∧ decide (z ≥ 0) = !decide (∀ r ∈ rows.drop i, okRow a b r) := by
  intro d
  induction d with
  | zero =>
    intro k i hi hk
    obtain ⟨k, rfl⟩ : ∃ j, k = j + 1 := ⟨k - 1, by omega⟩
    refine ⟨-1, by rw [api_Row_76.l0, if_neg (by omega)], ?_⟩
    rw [List.drop_eq_nil_of_le (by omega)]
    simp
  | succ d ih =>
    intro k i hi hk
    obtain ⟨k, rfl⟩ : ∃ j, k = j + 1 := ⟨k - 1, by omega⟩
    have h1 : i < rows.length := by omega
    rw [api_Row_76.l0, if_pos (by omega), if_pos (by omega), if_pos (by omega), rd_T_nat rows i h1, odd_eq k a b _ (by omega), Option.bind_some, List.drop_eq_getElem_cons h1]
    by_cases ho : okRow a b rows[i]
    · rw [decide_eq_true ho, Bool.not_true, if_neg (by decide), wrap_id ((i : Int) + 1) (by omega) (by omega), show ((i : Int) + 1) = ((i + 1 : Nat) : Int) by omega]
      obtain ⟨z, hz1, hz2⟩ := ih k (i + 1) (by omega) (by omega)
      refine ⟨z, hz1, ?_⟩
      rw [hz2]
      refine congrArg (fun q => !q) (decide_eq_decide.2 ?_)
      rw [List.forall_mem_cons]
      exact ⟨fun q => ⟨ho, q⟩, fun q => q.2⟩
    · rw [decide_eq_false ho, Bool.not_false, if_pos rfl]
      refine ⟨_, rfl, ?_⟩
      rw [decide_eq_true (by omega), decide_eq_false (fun q => ho (q _ List.mem_cons_self))]
      rfl
theorem lmay_eq (k : Nat) (a b : Int) (rows : List S35) (hk : 40 ≤ k) : loss_May.f k a b rows = some (decide (okRows a b rows)) := by
  unfold loss_May.f
  rw [smay_eq, Option.bind_some]
  by_cases h1 : okShape a b
  · rw [decide_eq_true h1, if_pos rfl]
    by_cases h2 : (rows.length : Int) ≥ 1
    · rw [if_pos h2]
      by_cases h3 : (rows.length : Int) ≤ 8
      · obtain ⟨z, hz1, hz2⟩ := find_l0 a b rows (by omega) rows.length k 0 (by omega) (by omega)
        have hf : api_Row_76.f a b k rows = some z := hz1
        rw [if_pos h3]
        unfold api_Row_58.f
        rw [hf, Option.bind_some, Option.bind_some, hz2, Bool.not_not, List.drop_zero]
        refine congrArg some (decide_eq_decide.2 ?_)
        exact ⟨fun q => ⟨h1, ⟨by omega, by omega⟩, q⟩, fun q => q.2.2⟩
      · rw [if_neg h3, decide_eq_false (fun q => h3 (by have := q.2.1.2; omega))]
    · rw [if_neg h2, decide_eq_false (fun q => h2 (by have := q.2.1.1; omega))]
  · rw [decide_eq_false h1, if_neg (by decide), decide_eq_false (fun q => h1 q.1)]

def Small (M : Nat) (rows : List S35) : Prop := rows.length ≤ 4398046511104 ∧ ∀ r ∈ rows, r.f0.length ≤ M
theorem rrowmay_eq (k M : Nat) (a b : Int) (r : S35) (hM : M ≤ 4611686018427387904) (hr : r.f0.length ≤ M) (hk : M < k) : grafterref1_RowMay.f k a b r.f0 r.f1 = some (decide (okShape a b ∧ okRow a b r)) := by
  unfold grafterref1_RowMay.f
  rw [rsmay_eq, Option.bind_some]
  by_cases h1 : okShape a b
  · rw [decide_eq_true h1, if_pos rfl, rfeeds_eq k a b r.f0 (by omega) (by omega), Option.bind_some]
    by_cases h2 : (r.f0.length : Int) = a ∧ okV r.f0
    · rw [decide_eq_true h2, if_pos rfl, rfmay_eq, Option.bind_some]
      refine congrArg some (decide_eq_decide.2 ?_)
      exact ⟨fun q => ⟨h1, h2, q⟩, fun q => q.2.2⟩
    · rw [decide_eq_false h2, if_neg (by decide), decide_eq_false (fun q => h2 q.2.1)]
  · rw [decide_eq_false h1, if_neg (by decide), decide_eq_false (fun q => h1 q.1)]
theorem rrows_l0 (M : Nat) (a b : Int) (rows : List S35) (hM : M ≤ 4611686018427387904) (hs : Small M rows) : ∀ (d k i : Nat), i + d = rows.length → M + d + 2 ≤ k →
    grafterref1_RowsMay.l0 k rows (i : Int) a b = some (decide ((∀ r ∈ rows.drop i, okRow a b r) ∧ okShape a b ∧ 1 ≤ rows.length ∧ rows.length ≤ 8)) := by
  have hn := hs.1
  intro d
  induction d with
  | zero =>
    intro k i hi hk
    obtain ⟨k, rfl⟩ : ∃ j, k = j + 1 := ⟨k - 1, by omega⟩
    rw [grafterref1_RowsMay.l0, if_neg (by omega), rsmay_eq, Option.bind_some, List.drop_eq_nil_of_le (by omega)]
    by_cases h1 : okShape a b
    · rw [decide_eq_true h1, if_pos rfl, upTo_eq, Option.bind_some]
      refine congrArg some (decide_eq_decide.2 ?_)
      exact ⟨fun q => ⟨by simp, h1, by omega, by omega⟩, fun q => ⟨by have := q.2.2.1; omega, by have := q.2.2.2; omega⟩⟩
    · rw [decide_eq_false h1, if_neg (by decide), decide_eq_false (fun q => h1 q.2.1)]
  | succ d ih =>
    intro k i hi hk
    obtain ⟨k, rfl⟩ : ∃ j, k = j + 1 := ⟨k - 1, by omega⟩
    have h1 : i < rows.length := by omega
    rw [grafterref1_RowsMay.l0, if_pos (by omega), if_pos (by omega), rd_T_nat rows i h1, rrowmay_eq k M a b _ hM (hs.2 _ (List.getElem_mem h1)) (by omega), Option.bind_some, List.drop_eq_getElem_cons h1]
    by_cases ho : okShape a b ∧ okRow a b rows[i]
    · rw [decide_eq_true ho, if_pos rfl, wrap_id ((i : Int) + 1) (by omega) (by omega), show ((i : Int) + 1) = ((i + 1 : Nat) : Int) by omega, ih k (i + 1) (by omega) (by omega)]
      refine congrArg some (decide_eq_decide.2 ?_)
      rw [List.forall_mem_cons]
      exact ⟨fun q => ⟨⟨ho.2, q.1⟩, q.2⟩, fun q => ⟨q.1.2, q.2⟩⟩
    · rw [decide_eq_false ho, if_neg (by decide), decide_eq_false]
      exact fun q => ho ⟨q.2.1, q.1 _ List.mem_cons_self⟩
theorem rrows_eq (k M : Nat) (a b : Int) (rows : List S35) (hM : M ≤ 4611686018427387904) (hs : Small M rows) (hk : M + rows.length + 2 ≤ k) : grafterref1_RowsMay.f k a b rows = some (decide (okRows a b rows)) := by
  unfold grafterref1_RowsMay.f
  have := rrows_l0 M a b rows hM hs rows.length k 0 (by omega) (by omega)
  rw [List.drop_zero] at this
  rw [show (0 : Int) = ((0 : Nat) : Int) from rfl, this]
  refine congrArg some (decide_eq_decide.2 ?_)
  exact ⟨fun q => ⟨q.2.1, q.2.2, q.1⟩, fun q => ⟨q.2.2, q.1, q.2.1⟩⟩

theorem copy_l0 (M : Nat) (rows : List S35) (hM : M < 17592186044416) (hs : ∀ r ∈ rows, r.f0.length ≤ M) (hn : rows.length < 4398046511104) : ∀ (d k i : Nat), i + d = rows.length → d < k →
    grafterlaw0_CopyRows.l0 k rows (rows.take i) (i : Int) = some rows := by
  intro d
  induction d with
  | zero =>
    intro k i hi hk
    obtain ⟨k, rfl⟩ : ∃ j, k = j + 1 := ⟨k - 1, by omega⟩
    rw [grafterlaw0_CopyRows.l0, if_neg (by omega), List.take_of_length_le (by omega)]
  | succ d ih =>
    intro k i hi hk
    obtain ⟨k, rfl⟩ : ∃ j, k = j + 1 := ⟨k - 1, by omega⟩
    have h1 : i < rows.length := by omega
    have h2 := hs _ (List.getElem_mem h1)
    rw [grafterlaw0_CopyRows.l0, if_pos (by omega), if_pos (by omega), Option.bind_some, rd_T_nat rows i h1, if_pos (by rw [List.length_nil]; omega), if_pos (by rw [List.length_take]; omega), List.nil_append]
    rw [show rows.take i ++ [(⟨rows[i].f0, rows[i].f1⟩ : S35)] = rows.take (i + 1) from (List.take_succ_eq_append_getElem h1).symm, wrap_id ((i : Int) + 1) (by omega) (by omega), show ((i : Int) + 1) = ((i + 1 : Nat) : Int) by omega]
    exact ih k (i + 1) (by omega) (by omega)
theorem copy_eq (k M : Nat) (rows : List S35) (hM : M < 17592186044416) (hs : ∀ r ∈ rows, r.f0.length ≤ M) (hn : rows.length < 4398046511104) (hk : rows.length < k) : grafterlaw0_CopyRows.f k rows = some rows :=
  copy_l0 M rows hM hs hn rows.length k 0 (by omega) hk

def okCfg (m a b : Int) (rows : List S35) (s t i c : Int) : Prop := (2 ≤ m ∧ m ≤ 8) ∧ okRows a b rows ∧ (0 ≤ s ∧ s ≤ 65535) ∧ (1 ≤ t ∧ t ≤ 32) ∧ (1 ≤ i ∧ i ≤ 8) ∧ (1 ≤ c ∧ c ≤ Int.tdiv m 2)
instance (m a b : Int) (rows : List S35) (s t i c : Int) : Decidable (okCfg m a b rows s t i c) := inferInstanceAs (Decidable (_ ∧ _))
theorem cwithin_eq (a x y : Int) : config_within.f a x y = some (decide (x ≤ a ∧ a ≤ y)) := by
  unfold config_within.f
  by_cases h : a ≥ x
  · rw [if_pos h]
    refine congrArg some (decide_eq_decide.2 ?_)
    exact ⟨fun q => ⟨h, q⟩, fun q => q.2⟩
  · rw [if_neg h, decide_eq_false (fun q => h q.1)]
theorem half_w (m : Int) (h1 : 2 ≤ m) (h2 : m ≤ 8) : wrap64 (Int.tdiv m 2) = Int.tdiv m 2 := by
  have : Int.tdiv m 2 = m / 2 := Int.tdiv_eq_ediv_of_nonneg (by omega)
  rw [this]
  exact wrap_id _ (by omega) (by omega)
theorem dseed_eq (s : Int) : draw_Seed.f s = some (decide (0 ≤ s ∧ s ≤ 65535)) := by
  unfold draw_Seed.f
  by_cases h : s ≥ 0
  · rw [if_pos h]
    refine congrArg some (decide_eq_decide.2 ?_)
    exact ⟨fun q => ⟨h, q⟩, fun q => q.2⟩
  · rw [if_neg h, decide_eq_false (fun q => h q.1)]
theorem chain {p q : Prop} [Decidable p] [Decidable q] (x : Option Bool) (h : p → x = some (decide q)) : (if decide p = true then x else some false) = some (decide (p ∧ q)) := by
  by_cases hp : p
  · rw [decide_eq_true hp, if_pos rfl, h hp]
    refine congrArg some (decide_eq_decide.2 ?_)
    exact ⟨fun hq => ⟨hp, hq⟩, fun hq => hq.2⟩
  · rw [decide_eq_false hp, if_neg (by decide), decide_eq_false (fun hq => hp hq.1)]
theorem cmay_eq (k : Nat) (m a b : Int) (rows : List S35) (s t i c : Int) (p : Bool) (hk : 60 ≤ k) : config_May.f k m a b rows s t i c p = some (decide (okCfg m a b rows s t i c)) := by
  unfold config_May.f
  rw [cwithin_eq, Option.bind_some]
  refine chain _ (fun hm => ?_)
  rw [lmay_eq k a b rows (by omega), Option.bind_some]
  refine chain _ (fun _ => ?_)
  rw [dseed_eq, Option.bind_some]
  refine chain _ (fun _ => ?_)
  rw [cwithin_eq, Option.bind_some]
  refine chain _ (fun _ => ?_)
  rw [cwithin_eq, Option.bind_some]
  refine chain _ (fun _ => ?_)
  rw [cwithin_eq, Option.bind_some, half_w m hm.1 hm.2]

theorem up12_eq (a b c : Int) : grafterref12_upTo.f a b c = some (decide (b ≤ a ∧ a ≤ c)) := by
  unfold grafterref12_upTo.f
  by_cases h : a ≥ b
  · rw [if_pos h]
    refine congrArg some (decide_eq_decide.2 ?_)
    exact ⟨fun q => ⟨h, q⟩, fun q => q.2⟩
  · rw [if_neg h, decide_eq_false (fun q => h q.1)]
theorem rcmay_eq (k M : Nat) (m a b : Int) (rows : List S35) (s t i c : Int) (p : Bool) (hM : M ≤ 4611686018427387904) (hs : Small M rows) (hk : M + rows.length + 2 ≤ k) : grafterref12_ConfigMay.f k m a b rows s t i c p = some (decide (okCfg m a b rows s t i c)) := by
  unfold grafterref12_ConfigMay.f
  rw [up12_eq, Option.bind_some]
  refine chain _ (fun hm => ?_)
  rw [rrows_eq k M a b rows hM hs hk, Option.bind_some]
  refine chain _ (fun _ => ?_)
  rw [up12_eq, Option.bind_some]
  refine chain _ (fun _ => ?_)
  rw [up12_eq, Option.bind_some]
  refine chain _ (fun _ => ?_)
  rw [up12_eq, Option.bind_some]
  refine chain _ (fun _ => ?_)
  rw [up12_eq, Option.bind_some, half_w m hm.1 hm.2]

theorem at_mod (x : Int) (n : Nat) (h0 : 1 ≤ n) (h8 : n ≤ 8) : ∃ q : Nat, q < n ∧ ¬ IntKind.u64.wrap (n : Int) = 0 ∧ wrap64 (Int.tmod (IntKind.u64.wrap x) (IntKind.u64.wrap (n : Int))) = (q : Int) := by
  have hu := wrap_u64_bd x
  obtain ⟨u, eu⟩ : ∃ u, IntKind.u64.wrap x = u := ⟨_, rfl⟩
  rw [eu] at hu
  rw [wrap_u64 (n : Int) (by omega) (by omega), eu, tmod_pos u _ hu]
  have hm1 := Int.emod_nonneg u (show (n : Int) ≠ 0 by omega)
  have hm2 := Int.emod_lt_of_pos u (show (0 : Int) < (n : Int) by omega)
  rw [wrap_id (u % (n : Int)) (by omega) (by omega)]
  obtain ⟨i, hi⟩ := Int.eq_ofNat_of_zero_le hm1
  exact ⟨i, by omega, by omega, hi⟩
theorem turned_ok (a b : Int) (rows : List S35) (h : okRows a b rows) (q : Nat) : okRows a b (rows.drop q ++ rows.take q) := by
  refine ⟨h.1, ?_, fun r hr => ?_⟩
  · have := h.2.1
    rw [List.length_append, List.length_drop, List.length_take]
    omega
  · rcases List.mem_append.1 hr with hr | hr
    · exact h.2.2 r (List.mem_of_mem_drop hr)
    · exact h.2.2 r (List.mem_of_mem_take hr)

def smallR : List S35 := [⟨[65536], 32768⟩, ⟨[-65536], 0⟩]
theorem csmall_eq : grafterlaw19_small.f = some (2, 1, 1, smallR, 7, 3, 1, 1, true) := rfl
theorem cawake_eq (k : Nat) (hk : 60 ≤ k) : grafterlaw19_awake.f k = some true := by
  have g1 : okCfg 2 1 1 smallR 7 3 1 1 := by decide
  have g2 : ¬ okCfg 2 1 1 smallR 7 3 1 2 := by decide
  have g3 : ¬ okCfg 2 1 1 [] 7 3 1 1 := by decide
  have g4 : ¬ okCfg 0 0 0 [] 0 0 0 0 := by decide
  unfold grafterlaw19_awake.f
  rw [csmall_eq]
  simp only [Option.bind_some]
  rw [cmay_eq k _ _ _ _ _ _ _ _ _ hk, cmay_eq k _ _ _ _ _ _ _ _ _ hk, cmay_eq k _ _ _ _ _ _ _ _ _ hk, cmay_eq k _ _ _ _ _ _ _ _ _ hk, decide_eq_true g1, decide_eq_false g2, decide_eq_false g3, decide_eq_false g4]
  rfl

theorem cr_j0 (k : Nat) (m a b : Int) (rows : List S35) (s t i c : Int) (p : Bool) (x y z : Int) (h : okCfg m a b rows s t i c) (hk : 100 ≤ k) : grafterlaw19_ConfigRows.j0 k x y z false m a b rows s t i c p = some true := by
  obtain ⟨k, rfl⟩ : ∃ j, k = j + 1 := ⟨k - 1, by omega⟩
  have hl := h.2.1.2.1
  obtain ⟨q, hq, hz, e⟩ := at_mod x rows.length hl.1 hl.2
  have hsm : ∀ r ∈ rows, r.f0.length ≤ 16 := fun r hr => (h.2.1.2.2 r hr).1.2.1
  have d1 : 0 ≤ Go.bits .and .i64 y 65535 ∧ Go.bits .and .i64 y 65535 ≤ 65535 := by
    rw [and_mask y 16 (by decide) 65535 (by decide)]; omega
  have d2 : 1 ≤ wrap64 (1 + Go.bits .and .i64 z 31) ∧ wrap64 (1 + Go.bits .and .i64 z 31) ≤ 32 := by
    rw [and_mask z 5 (by decide) 31 (by decide), wrap_id _ (by omega) (by omega)]; omega
  have d3 : 1 ≤ wrap64 (1 + Go.bits .and .i64 z 7) ∧ wrap64 (1 + Go.bits .and .i64 z 7) ≤ 8 := by
    rw [and_mask z 3 (by decide) 7 (by decide), wrap_id _ (by omega) (by omega)]; omega
  have ht := turned_ok a b rows h.2.1 q
  have hc : okCfg m a b (rows.drop q ++ rows.take q) (Go.bits .and .i64 y 65535) (wrap64 (1 + Go.bits .and .i64 z 31)) (wrap64 (1 + Go.bits .and .i64 z 7)) c := ⟨h.1, ht, d1, d2, d3, h.2.2.2.2.2⟩
  rw [grafterlaw19_ConfigRows.j0, if_neg (by decide)]
  unfold grafterlaw0_CopyConfig.f
  rw [copy_eq k 16 rows (by decide) hsm (by omega) (by omega), Option.bind_some, Option.bind_some, if_neg hz, e]
  simp only [Option.bind_some, Int.toNat_natCast, List.nil_append]
  rw [if_pos (by omega), if_pos (by omega), if_pos (by rw [List.length_drop]; simp only [List.length_nil]; omega), if_pos (by rw [List.length_drop, List.length_take]; omega), cmay_eq k _ _ _ _ _ _ _ _ _ (by omega), decide_eq_true hc, Option.bind_some, if_pos rfl, csmall_eq]
  rfl
theorem ConfigRows_at (k M : Nat) (m a b : Int) (rows : List S35) (s t i c : Int) (p : Bool) (x y z : Int) (hM : M < 17592186044416) (hs : Small M rows) (hk : 200 + M + rows.length ≤ k) : grafterlaw19_ConfigRows.f k m a b rows s t i c p x y z = some true := by
  unfold grafterlaw19_ConfigRows.f
  rw [cawake_eq k (by omega), Option.bind_some, if_pos rfl, cmay_eq k _ _ _ _ _ _ _ _ _ (by omega), Option.bind_some]
  by_cases h : okCfg m a b rows s t i c
  · have h1 := h.2.1.2.1.1
    rw [decide_eq_true h, if_pos rfl, show ((rows.length : Int) == 0) = false from beq_eq_false_iff_ne.2 (by omega)]
    exact cr_j0 k m a b rows s t i c p x y z h (by omega)
  · obtain ⟨k, rfl⟩ : ∃ j, k = j + 1 := ⟨k - 1, by omega⟩
    rw [decide_eq_false h, if_neg (by decide), grafterlaw19_ConfigRows.j0, if_pos rfl, rcmay_eq k M _ _ _ _ _ _ _ _ _ (by omega) hs (by omega), decide_eq_false h]
    rfl
theorem ConfigRows : grafterlaw19_ConfigRows.Pure := fun m a b rows s t i c p x y z _ _ _ _ _ hr _ _ _ _ _ _ _ =>
  ⟨_, ConfigRows_at (17592186044415 + rows.length + 200) 17592186043904 m a b rows s t i c p x y z (by omega) ⟨by omega, fun r hm => by have := (hr r hm).1.2.1; omega⟩ (by omega)⟩

end Go.Proofs.Ytdgbfgnmeoihiaa.Pure
