/- P10.1, T3: for every shape, weights and rows, of any int values: rows whose answer is right have no loss, and a loss is never below 0. No condition. -/
import Derived.Test.YtdgbfgnmeoihiaaPLossRightx7
import Derived.Test.YtdgbfgnmeoihiaaHelp
import Derived.Test.YtdgbfgnmeoihiaaHelpDraw
namespace Go.Proofs.Ytdgbfgnmeoihiaa.Pure
open Go.RowKit Go.Proofs.Ytdgbfgnmeoihiaa Go.Proofs.Ytdgbfgnmeoihiaa.PLossRight Go.Proofs.YtdgbfgnmeoihiaaW.PrintWords Go.Proofs.YtdgbfgnmeoihiaaW.PrintLast Go.Proofs.YtdgbfgnmeoihiaaW.PrintMore
set_option linter.unusedVariables false
set_option linter.unusedSimpArgs false

theorem rd_nat (l : List Int) (i : Nat) (h : i < l.length) : rd l (i : Int) = l[i] := by
  unfold rd; rw [Int.toNat_natCast, List.getD_eq_getElem?_getD, List.getElem?_eq_getElem h]; rfl

theorem upTo_eq (a b c : Int) : grafterref1_upTo.f a b c = some (decide (b ≤ a ∧ a ≤ c)) := by
  unfold grafterref1_upTo.f
  by_cases h : a ≥ b
  · rw [if_pos h]; refine congrArg some (decide_eq_decide.2 ?_); omega
  · rw [if_neg h]; refine congrArg some (Eq.symm (decide_eq_false ?_)); omega

theorem fmay_eq (a : Int) : fix_May.f a = some (decide (okI a)) := by
  unfold fix_May.f okI
  by_cases h : a ≥ -1073741824
  · rw [if_pos h]; refine congrArg some (decide_eq_decide.2 ?_); omega
  · rw [if_neg h]; refine congrArg some (Eq.symm (decide_eq_false ?_)); omega
theorem index_l0 (l : List Int) (hb : l.length ≤ 4611686018427387904) : ∀ (d k i : Nat), i + d = l.length → d < k →
    ∃ r, slices_IndexFunc_int_int.l0 k l (l.length : Int) (i : Int) = some r ∧ (0 ≤ r ↔ ¬ ∀ x ∈ l.drop i, okI x) := by
  intro d
  induction d with
  | zero =>
    intro k i hi hk
    obtain ⟨k, rfl⟩ : ∃ j, k = j + 1 := ⟨k - 1, by omega⟩
    refine ⟨-1, by rw [slices_IndexFunc_int_int.l0, if_neg (by omega)], ?_⟩
    rw [List.drop_eq_nil_of_le (by omega)]
    simp
  | succ d ih =>
    intro k i hi hk
    obtain ⟨k, rfl⟩ : ∃ j, k = j + 1 := ⟨k - 1, by omega⟩
    have h1 : i < l.length := by omega
    obtain ⟨r, hr, he⟩ := ih k (i + 1) (by omega) (by omega)
    rw [slices_IndexFunc_int_int.l0, if_pos (by omega), if_pos (by omega), if_pos (by omega), rd_nat l i h1]
    unfold vec_May_1.f
    rw [fmay_eq, List.drop_eq_getElem_cons h1]
    by_cases ho : okI l[i]
    · refine ⟨r, ?_, ?_⟩
      · rw [decide_eq_true ho, wrap_id ((i : Int) + 1) (by omega) (by omega), show ((i : Int) + 1) = ((i + 1 : Nat) : Int) by omega]
        exact hr
      · rw [he, List.forall_mem_cons]
        exact ⟨fun q1 q2 => q1 q2.2, fun q1 q2 => q1 ⟨ho, q2⟩⟩
    · refine ⟨(i : Int), ?_, ?_⟩
      · rw [decide_eq_false ho]; rfl
      · rw [List.forall_mem_cons]
        exact ⟨fun _ q => ho q.1, fun _ => by omega⟩
def okV (l : List Int) : Prop := l.length ≤ 16 ∧ ∀ x ∈ l, okI x
instance (l : List Int) : Decidable (okV l) := inferInstanceAs (Decidable (_ ∧ _))
theorem vmay_eq (k : Nat) (l : List Int) (hk : 20 ≤ k) : vec_May.f k l = some (decide (okV l)) := by
  unfold vec_May.f
  by_cases h : (l.length : Int) ≤ 16
  · obtain ⟨r, hr, he⟩ := index_l0 l (by omega) l.length k 0 (by omega) (by omega)
    rw [List.drop_zero] at he
    rw [if_pos h]
    unfold slices_ContainsFunc_int_int.f slices_IndexFunc_int_int.f
    rw [show ((0 : Nat) : Int) = 0 from rfl] at hr
    rw [hr]
    simp only [Option.bind_some]
    refine congrArg some ?_
    by_cases h2 : ∀ x ∈ l, okI x
    · rw [decide_eq_false (show ¬ (0 ≤ r) from fun q => he.1 q h2), decide_eq_true (show okV l from ⟨by omega, h2⟩)]; rfl
    · rw [decide_eq_true (he.2 h2), decide_eq_false (show ¬ okV l from fun q => h2 q.2)]; rfl
  · rw [if_neg h, decide_eq_false (show ¬ okV l from fun q => by have := q.1; omega)]

theorem cut_eq (x : Int) : fix_Cut.f x = some (cutI x) := by
  unfold fix_Cut.f cutI mn mx
  congr 1
  split <;> split <;> (try split) <;> omega
theorem and_eq (a b : Int) (ha : okI a) (hb : okI b) : fix_And.f a b = some (cutI (a + b)) := by
  unfold okI at ha hb
  unfold fix_And.f; rw [cut_eq, wrap_id _ (by omega) (by omega)]; rfl
def timesI (a b : Int) : Int := cutI (a * b / 65536)
theorem timesI_ok (a b : Int) : okI (timesI a b) := cutI_ok _
theorem timesI_comm (a b : Int) : timesI a b = timesI b a := by unfold timesI; rw [Int.mul_comm]
theorem times_eq (a b : Int) (ha : okI a) (hb : okI b) : fix_Times.f a b = some (timesI a b) := by
  have := mul_okI ha hb
  unfold fix_Times.f; rw [cut_eq, wrap_id _ (by omega) (by omega)]; rfl

def dotA : Int → List Int → List Int → Int
  | acc, x :: xs, y :: ys => dotA (cutI (acc + timesI x y)) xs ys
  | acc, _, _ => acc
theorem dotA_comm : ∀ (a b : List Int) (acc : Int), dotA acc a b = dotA acc b a
  | [], [], _ => rfl
  | [], _ :: _, _ => rfl
  | _ :: _, [], _ => rfl
  | x :: xs, y :: ys, acc => by rw [dotA, dotA, timesI_comm x y]; exact dotA_comm xs ys _
theorem dotA_ok : ∀ (a b : List Int) (acc : Int), okI acc → okI (dotA acc a b)
  | [], [], _, h => h
  | [], _ :: _, _, h => h
  | _ :: _, [], _, h => h
  | x :: xs, y :: ys, acc, h => by rw [dotA]; exact dotA_ok xs ys _ (cutI_ok _)
theorem sum_l0 (a b : List Int) (ha : ∀ x ∈ a, okI x) (hb : ∀ x ∈ b, okI x) (hl : a.length = b.length) (hn : a.length ≤ 4611686018427387904) : ∀ (d k i : Nat) (acc : Int), i + d = a.length → d < k → okI acc →
    vec_Sum.l0 k b acc a (a.length : Int) (i : Int) = some (dotA acc (a.drop i) (b.drop i)) := by
  intro d
  induction d with
  | zero =>
    intro k i acc hi hk hacc
    obtain ⟨k, rfl⟩ : ∃ j, k = j + 1 := ⟨k - 1, by omega⟩
    rw [vec_Sum.l0, if_neg (by omega), List.drop_eq_nil_of_le (by omega), List.drop_eq_nil_of_le (by omega), dotA]
    simp
  | succ d ih =>
    intro k i acc hi hk hacc
    obtain ⟨k, rfl⟩ : ∃ j, k = j + 1 := ⟨k - 1, by omega⟩
    have h1 : i < a.length := by omega
    have h2 : i < b.length := by omega
    have o1 := ha _ (List.getElem_mem h1)
    have o2 := hb _ (List.getElem_mem h2)
    rw [vec_Sum.l0, if_pos (by omega), if_pos (by omega), if_pos (by omega), if_pos (by omega), rd_nat a i h1, rd_nat b i h2, times_eq _ _ o1 o2]
    simp only [Option.bind_some]
    rw [and_eq _ _ hacc (timesI_ok _ _), List.drop_eq_getElem_cons h1, List.drop_eq_getElem_cons h2, dotA]
    simp only [Option.bind_some]
    rw [wrap_id ((i : Int) + 1) (by omega) (by omega), show ((i : Int) + 1) = ((i + 1 : Nat) : Int) by omega]
    exact ih k (i + 1) _ (by omega) (by omega) (cutI_ok _)
theorem sum_eq (k : Nat) (a b : List Int) (ha : ∀ x ∈ a, okI x) (hb : ∀ x ∈ b, okI x) (hl : a.length = b.length) (hn : a.length ≤ 16) (hk : 20 ≤ k) : vec_Sum.f k a b = some (dotA 0 a b) := by
  have := sum_l0 a b ha hb hl (by omega) a.length k 0 0 (by omega) (by omega) (by decide)
  rw [List.drop_zero, List.drop_zero] at this
  exact this

theorem rfmay_eq (a : Int) : grafterref1_FixMay.f a = some (decide (okI a)) := by
  unfold grafterref1_FixMay.f; rw [upTo_eq]; rfl
theorem rvmay_l0 (l : List Int) (hb : l.length ≤ 4611686018427387904) : ∀ (d k i : Nat), i + d = l.length → d < k →
    grafterref1_VecMay.l0 k l (i : Int) = some (decide ((∀ x ∈ l.drop i, okI x) ∧ l.length ≤ 16)) := by
  intro d
  induction d with
  | zero =>
    intro k i hi hk
    obtain ⟨k, rfl⟩ : ∃ j, k = j + 1 := ⟨k - 1, by omega⟩
    rw [grafterref1_VecMay.l0, if_neg (by omega), List.drop_eq_nil_of_le (by omega)]
    refine congrArg some (decide_eq_decide.2 ?_)
    simp
    omega
  | succ d ih =>
    intro k i hi hk
    obtain ⟨k, rfl⟩ : ∃ j, k = j + 1 := ⟨k - 1, by omega⟩
    have h1 : i < l.length := by omega
    rw [grafterref1_VecMay.l0, if_pos (by omega), if_pos (by omega), rd_nat l i h1, rfmay_eq, List.drop_eq_getElem_cons h1]
    by_cases ho : okI l[i]
    · rw [decide_eq_true ho]
      simp only [Option.bind_some, if_true]
      rw [wrap_id ((i : Int) + 1) (by omega) (by omega), show ((i : Int) + 1) = ((i + 1 : Nat) : Int) by omega, ih k (i + 1) (by omega) (by omega)]
      refine congrArg some (decide_eq_decide.2 ?_)
      rw [List.forall_mem_cons]
      exact ⟨fun q => ⟨⟨ho, q.1⟩, q.2⟩, fun q => ⟨q.1.2, q.2⟩⟩
    · rw [decide_eq_false ho]
      simp only [Option.bind_some, Bool.false_eq_true, if_false]
      rw [decide_eq_false]
      exact fun q => ho (q.1 _ List.mem_cons_self)
theorem rvmay_eq (k : Nat) (l : List Int) (hb : l.length ≤ 4611686018427387904) (hk : l.length < k) : grafterref1_VecMay.f k l = some (decide (okV l)) := by
  have := rvmay_l0 l hb l.length k 0 (by omega) hk
  rw [List.drop_zero] at this
  unfold grafterref1_VecMay.f
  rw [show (0 : Int) = ((0 : Nat) : Int) from rfl, this]
  refine congrArg some (decide_eq_decide.2 ?_)
  exact ⟨fun h => ⟨h.2, h.1⟩, fun h => ⟨h.2, h.1⟩⟩

theorem within_eq (x : Int) : grafterref1_Within.f x (-1073741824) 1073741824 = some (cutI x) := by
  unfold grafterref1_Within.f cutI mn mx
  congr 1
  split <;> split <;> (try split) <;> omega
theorem rplus_eq (a b : Int) (ha : okI a) (hb : okI b) : grafterref1_Plus.f a b = some (cutI (a + b)) := by
  unfold okI at ha hb
  unfold grafterref1_Plus.f; rw [within_eq, wrap_id _ (by omega) (by omega)]; rfl
theorem rtimes_eq (a b : Int) (ha : okI a) (hb : okI b) : grafterref1_Times.f a b = some (timesI a b) := by
  have := mul_okI ha hb
  unfold grafterref1_Times.f; rw [within_eq, wrap_id _ (by omega) (by omega)]; rfl

def like2 (a b : List Int) : Prop := okV a ∧ okV b ∧ a.length = b.length
instance (a b : List Int) : Decidable (like2 a b) := inferInstanceAs (Decidable (_ ∧ _ ∧ _))

theorem rdot_l0 (a b : List Int) (ha : ∀ x ∈ a, okI x) (hb : ∀ x ∈ b, okI x) (hl : a.length = b.length) (hn : a.length ≤ 4611686018427387904) : ∀ (d k i : Nat) (acc : Int), i + d = a.length → d < k → okI acc →
    grafterref1_Dot.l0 k a b acc (i : Int) = some (dotA acc (a.drop i) (b.drop i), 0) := by
  intro d
  induction d with
  | zero =>
    intro k i acc hi hk hacc
    obtain ⟨k, rfl⟩ : ∃ j, k = j + 1 := ⟨k - 1, by omega⟩
    rw [grafterref1_Dot.l0, if_neg (by omega), List.drop_eq_nil_of_le (by omega), List.drop_eq_nil_of_le (by omega), dotA]
    simp
  | succ d ih =>
    intro k i acc hi hk hacc
    obtain ⟨k, rfl⟩ : ∃ j, k = j + 1 := ⟨k - 1, by omega⟩
    have h1 : i < a.length := by omega
    have h2 : i < b.length := by omega
    have o1 := ha _ (List.getElem_mem h1)
    have o2 := hb _ (List.getElem_mem h2)
    rw [grafterref1_Dot.l0, if_pos (by omega), if_pos (by omega), if_pos (by omega), rd_nat a i h1, rd_nat b i h2, rtimes_eq _ _ o1 o2, Option.bind_some, rplus_eq _ _ hacc (timesI_ok _ _), Option.bind_some, List.drop_eq_getElem_cons h1, List.drop_eq_getElem_cons h2, dotA]
    rw [wrap_id ((i : Int) + 1) (by omega) (by omega), show ((i : Int) + 1) = ((i + 1 : Nat) : Int) by omega]
    exact ih k (i + 1) _ (by omega) (by omega) (cutI_ok _)
theorem rdot_ok (k : Nat) (a b : List Int) (h : like2 a b) (hk : 40 ≤ k) : grafterref1_Dot.f k a b = some (dotA 0 a b, 0) := by
  obtain ⟨k, rfl⟩ : ∃ j, k = j + 1 := ⟨k - 1, by omega⟩
  have h1 := h.1.1
  have h2 := h.2.1.1
  unfold grafterref1_Dot.f
  rw [rvmay_eq (k + 1) a (by omega) (by omega), decide_eq_true h.1, Option.bind_some, if_pos rfl, rvmay_eq (k + 1) b (by omega) (by omega), decide_eq_true h.2.1, Option.bind_some, if_pos rfl, show ((a.length : Int) != (b.length : Int)) = false by rw [h.2.2]; exact bne_self_eq_false _, grafterref1_Dot.j0, if_neg (by decide)]
  have := rdot_l0 a b h.1.2 h.2.1.2 h.2.2 (by omega) a.length k 0 0 (by omega) (by omega) (by decide)
  rw [List.drop_zero, List.drop_zero] at this
  exact this
theorem rdot_bad (k : Nat) (a b : List Int) (h : ¬ like2 a b) (ha : a.length ≤ 4611686018427387904) (hb : b.length ≤ 4611686018427387904) (hk : 1 ≤ k) (hka : a.length < k) (hkb : b.length < k) : grafterref1_Dot.f k a b = some (0, 400) := by
  obtain ⟨k, rfl⟩ : ∃ j, k = j + 1 := ⟨k - 1, by omega⟩
  unfold grafterref1_Dot.f
  rw [rvmay_eq (k + 1) a ha hka, Option.bind_some]
  by_cases h1 : okV a
  · rw [decide_eq_true h1, if_pos rfl, rvmay_eq (k + 1) b hb hkb, Option.bind_some]
    by_cases h2 : okV b
    · rw [decide_eq_true h2, if_pos rfl, show ((a.length : Int) != (b.length : Int)) = true from bne_iff_ne.2 (fun q => h ⟨h1, h2, by omega⟩), grafterref1_Dot.j0, if_pos rfl]
    · rw [decide_eq_false h2, if_neg (by decide), grafterref1_Dot.j0, if_pos rfl]
  · rw [decide_eq_false h1, if_neg (by decide), grafterref1_Dot.j0, if_pos rfl]

def okShape (a b : Int) : Prop := (1 ≤ a ∧ a ≤ 3) ∧ (1 ≤ b ∧ b ≤ 3)
instance (a b : Int) : Decidable (okShape a b) := inferInstanceAs (Decidable (_ ∧ _))
def sizeI (a b : Int) : Int := b * (a + 1) + b + 1
theorem num_eq (x : Int) : grafterlaw0_Num.f x = some x := rfl
theorem sizeI_bd (a b : Int) (h : okShape a b) : (4 ≤ sizeI a b ∧ sizeI a b ≤ 16) ∧ (0 ≤ b * (a + 1) ∧ b * (a + 1) ≤ 12) := by
  obtain ⟨⟨h1, h2⟩, h3, h4⟩ := h
  have ha : a = 1 ∨ a = 2 ∨ a = 3 := by omega
  unfold sizeI
  rcases ha with rfl | rfl | rfl <;> omega
theorem smay_eq (a b : Int) : shape_May.f a b = some (decide (okShape a b)) := by
  unfold shape_May.f okShape
  by_cases h1 : a ≥ 1
  · rw [if_pos h1]
    by_cases h2 : a ≤ 3
    · rw [if_pos h2]
      by_cases h3 : b ≥ 1
      · rw [if_pos h3]; refine congrArg some (decide_eq_decide.2 ?_); omega
      · rw [if_neg h3]; refine congrArg some (Eq.symm (decide_eq_false ?_)); omega
    · rw [if_neg h2]; refine congrArg some (Eq.symm (decide_eq_false ?_)); omega
  · rw [if_neg h1]; refine congrArg some (Eq.symm (decide_eq_false ?_)); omega
theorem many_eq (a b : Int) (h : okShape a b) : shape_Many.f a b = some (sizeI a b) := by
  obtain ⟨h1, h2⟩ := sizeI_bd a b h
  unfold shape_Many.f
  unfold sizeI at h1
  have h3 := h.1
  have h4 := h.2
  rw [wrap_id (a + 1) (by omega) (by omega), wrap_id (b * (a + 1)) (by omega) (by omega), wrap_id (b * (a + 1) + b) (by omega) (by omega), wrap_id _ (by omega) (by omega)]
  rfl

theorem rsmay_eq (a b : Int) : grafterref1_ShapeMay.f a b = some (decide (okShape a b)) := by
  unfold grafterref1_ShapeMay.f
  rw [upTo_eq, upTo_eq]
  by_cases h1 : 1 ≤ a ∧ a ≤ 3
  · rw [decide_eq_true h1]
    simp only [Option.bind_some, if_true]
    refine congrArg some (decide_eq_decide.2 ?_)
    exact ⟨fun h => ⟨h1, h⟩, fun h => h.2⟩
  · rw [decide_eq_false h1]
    simp only [Option.bind_some, Bool.false_eq_true, if_false]
    refine congrArg some (Eq.symm (decide_eq_false ?_))
    exact fun h => h1 h.1
theorem rmany_eq (a b : Int) (h : okShape a b) : grafterref1_size.f a b = some (sizeI a b) := by
  obtain ⟨h1, h2⟩ := sizeI_bd a b h
  unfold grafterref1_size.f
  unfold sizeI at h1
  have h3 := h.1
  have h4 := h.2
  rw [wrap_id (a + 1) (by omega) (by omega), wrap_id (b * (a + 1)) (by omega) (by omega), wrap_id (b * (a + 1) + b) (by omega) (by omega), wrap_id _ (by omega) (by omega)]
  rfl

def hardI (x : Int) : Int := mn 65536 (mx (-65536) x)
theorem hard_eq (x : Int) : act_Hard.f x = some (hardI x) := rfl
theorem hardI_of (x : Int) : hardI x = if x > 65536 then 65536 else if x < -65536 then -65536 else x := by
  unfold hardI mn mx
  split <;> split <;> (try split) <;> omega
theorem hardI_ok (x : Int) : okI (hardI x) := by rw [hardI_of]; unfold okI; split <;> (try split) <;> omega
theorem map_ok (hs : List Int) : ∀ x ∈ hs.map hardI, okI x := fun x hx => by
  obtain ⟨y, _, rfl⟩ := List.mem_map.1 hx; exact hardI_ok y
theorem mul3 (A i : Nat) (h1 : 1 ≤ A) (h3 : A ≤ 3) : ((i : Int) * ((A : Int) + 1) = ((i * (A + 1) : Nat) : Int)) := by
  have ha : A = 1 ∨ A = 2 ∨ A = 3 := by omega
  rcases ha with rfl | rfl | rfl <;> omega
theorem unit_bd (A B i L : Nat) (h1 : 1 ≤ A) (h3 : A ≤ 3) (hi : i < B) (hB : B ≤ 3) (hL : L = B * (A + 1) + B + 1) : i * (A + 1) + A < L ∧ i * (A + 1) + A ≤ 16 := by
  have ha : A = 1 ∨ A = 2 ∨ A = 3 := by omega
  rcases ha with rfl | rfl | rfl <;> omega
theorem last_bd (A B L : Nat) (h1 : 1 ≤ A) (h3 : A ≤ 3) (hB : B ≤ 3) (hL : L = B * (A + 1) + B + 1) : B * (A + 1) + B < L ∧ B * (A + 1) + B ≤ 16 := by
  have ha : A = 1 ∨ A = 2 ∨ A = 3 := by omega
  rcases ha with rfl | rfl | rfl <;> omega
def rowOf (ws : List Int) (at_ n : Nat) : List Int := (ws.take (at_ + n)).drop at_
theorem rowOf_len (ws : List Int) (a n : Nat) (h : a + n ≤ ws.length) : (rowOf ws a n).length = n := by
  unfold rowOf; rw [List.length_drop, List.length_take]; omega
theorem rowOf_ok (ws : List Int) (a n : Nat) (h : ∀ x ∈ ws, okI x) : ∀ x ∈ rowOf ws a n, okI x := fun x hx =>
  h x (List.mem_of_mem_take (List.mem_of_mem_drop hx))
def unitI (A : Nat) (ws xs : List Int) (i : Nat) : Int := cutI (ws.getD (i * (A + 1) + A) 0 + dotA 0 (rowOf ws (i * (A + 1)) A) xs)
def unitsL (A : Nat) (ws xs : List Int) (n : Nat) : List Int := (List.range n).map (unitI A ws xs)
theorem unitsL_len (A : Nat) (ws xs : List Int) (n : Nat) : (unitsL A ws xs n).length = n := by unfold unitsL; simp
theorem unitsL_succ (A : Nat) (ws xs : List Int) (n : Nat) : unitsL A ws xs (n + 1) = unitsL A ws xs n ++ [unitI A ws xs n] := by unfold unitsL; rw [List.range_succ]; simp
theorem unitsL_get (A : Nat) (ws xs : List Int) (n i : Nat) (h : i < (unitsL A ws xs n).length) : (unitsL A ws xs n)[i] = unitI A ws xs i := by
  have h2 : (unitsL A ws xs n)[i]? = some (unitI A ws xs i) := by
    rw [unitsL_len] at h
    unfold unitsL; rw [List.getElem?_map, List.getElem?_range h]; rfl
  rw [List.getElem?_eq_getElem h] at h2
  exact Option.some.inj h2
def tellsI (A B : Nat) (ws hs : List Int) : Int := cutI (ws.getD (B * (A + 1) + B) 0 + dotA 0 (rowOf ws (B * (A + 1)) B) (hs.map hardI))
theorem rd_getD (l : List Int) (i : Nat) : rd l (i : Int) = l.getD i 0 := by unfold rd; rw [Int.toNat_natCast]
theorem getD_ok (l : List Int) (i : Nat) (h : i < l.length) (ho : ∀ x ∈ l, okI x) : okI (l.getD i 0) := by
  rw [List.getD_eq_getElem?_getD, List.getElem?_eq_getElem h]; exact ho _ (List.getElem_mem h)
theorem at_w (A i : Nat) (h1 : 1 ≤ A) (h3 : A ≤ 3) (h : i * (A + 1) + A ≤ 40) : wrap64 ((i : Int) * wrap64 ((A : Int) + 1)) = ((i * (A + 1) : Nat) : Int) := by
  have hm := mul3 A i h1 h3
  rw [wrap_id ((A : Int) + 1) (by omega) (by omega), hm]
  obtain ⟨z, hz⟩ : ∃ z : Nat, i * (A + 1) = z := ⟨_, rfl⟩
  rw [hz] at h ⊢
  exact wrap_id _ (by omega) (by omega)
theorem at_w2 (z A : Nat) (h : z + A ≤ 40) : wrap64 ((z : Int) + (A : Int)) = ((z + A : Nat) : Int) := by
  rw [wrap_id _ (by omega) (by omega)]; omega
theorem units_l0 (A B : Nat) (ws xs : List Int) (h1 : 1 ≤ A) (h3 : A ≤ 3) (hB : B ≤ 3) (hL : ws.length = B * (A + 1) + B + 1) (hw : ∀ x ∈ ws, okI x) (hx : ∀ x ∈ xs, okI x) (hxl : xs.length = A) : ∀ (d k i : Nat), i + d = B → d + 21 ≤ k →
    forward_Net_Units.l0 k ws xs (A : Int) (unitsL A ws xs i ++ List.replicate d 0) (B : Int) (i : Int) = some (unitsL A ws xs B) := by
  intro d
  induction d with
  | zero =>
    intro k i hi hk
    obtain ⟨k, rfl⟩ : ∃ j, k = j + 1 := ⟨k - 1, by omega⟩
    rw [forward_Net_Units.l0, if_neg (by omega), show i = B by omega]
    simp
  | succ d ih =>
    intro k i hi hk
    obtain ⟨k, rfl⟩ : ∃ j, k = j + 1 := ⟨k - 1, by omega⟩
    obtain ⟨b1, b2⟩ := unit_bd A B i ws.length h1 h3 (by omega) hB hL
    have hm := mul3 A i h1 h3
    have hset : (unitsL A ws xs i ++ List.replicate (d + 1) 0).set i (unitI A ws xs i) = unitsL A ws xs (i + 1) ++ List.replicate d 0 := by
      rw [unitsL_succ, List.set_append_right _ _ (by rw [unitsL_len]; omega), unitsL_len, Nat.sub_self, List.replicate_succ, List.set_cons_zero, List.append_assoc]; rfl
    have hrow : (ws.take ((i * (A + 1) + A : Nat) : Int).toNat).drop ((i * (A + 1) : Nat) : Int).toNat = rowOf ws (i * (A + 1)) A := by
      rw [Int.toNat_natCast, Int.toNat_natCast]; rfl
    have hlen := rowOf_len ws (i * (A + 1)) A (by omega)
    have hro := rowOf_ok ws (i * (A + 1)) A hw
    rw [forward_Net_Units.l0, if_pos (by omega), at_w A i h1 h3 (by omega), at_w2 _ A (by omega), if_pos (by omega), if_pos (by omega), if_pos (by omega), if_pos (by omega), if_pos (by omega), hrow, sum_eq k _ xs hro hx (by omega) (by omega) (by omega), rd_getD]
    simp only [Option.bind_some]
    rw [and_eq _ _ (getD_ok ws _ b1 hw) (dotA_ok _ _ _ (by decide))]
    simp only [Option.bind_some]
    rw [if_pos (by omega), if_pos (by rw [List.length_append, unitsL_len, List.length_replicate]; omega), wrap_id ((i : Int) + 1) (by omega) (by omega), Int.toNat_natCast]
    have := ih k (i + 1) (by omega) (by omega)
    rw [← hset] at this
    rw [show ((i : Int) + 1) = ((i + 1 : Nat) : Int) by omega]
    exact this
theorem units_eq (A B k : Nat) (ws xs : List Int) (h1 : 1 ≤ A) (h3 : A ≤ 3) (hB : B ≤ 3) (hL : ws.length = B * (A + 1) + B + 1) (hw : ∀ x ∈ ws, okI x) (hx : ∀ x ∈ xs, okI x) (hxl : xs.length = A) (hk : 30 ≤ k) :
    forward_Net_Units.f k ws xs (A : Int) (B : Int) = some (unitsL A ws xs B) := by
  unfold forward_Net_Units.f
  rw [if_pos (by omega), if_pos (by omega), Int.toNat_natCast]
  simp only [Option.bind_some]
  rw [List.length_replicate]
  have := units_l0 A B ws xs h1 h3 hB hL hw hx hxl B k 0 (by omega) (by omega)
  exact this
theorem acts_l0 (hs : List Int) (hn : hs.length ≤ 4611686018427387904) : ∀ (d k i : Nat), i + d = hs.length → d < k →
    forward_Acts.l0 k ((hs.take i).map hardI ++ List.replicate d 0) hs (hs.length : Int) (i : Int) = some (hs.map hardI) := by
  intro d
  induction d with
  | zero =>
    intro k i hi hk
    obtain ⟨k, rfl⟩ : ∃ j, k = j + 1 := ⟨k - 1, by omega⟩
    rw [forward_Acts.l0, if_neg (by omega), List.take_of_length_le (by omega)]
    simp
  | succ d ih =>
    intro k i hi hk
    obtain ⟨k, rfl⟩ : ∃ j, k = j + 1 := ⟨k - 1, by omega⟩
    have h1 : i < hs.length := by omega
    have hl : ((hs.take i).map hardI).length = i := by rw [List.length_map, List.length_take]; omega
    have hset : ((hs.take i).map hardI ++ List.replicate (d + 1) 0).set i (hardI hs[i]) = (hs.take (i + 1)).map hardI ++ List.replicate d 0 := by
      rw [List.set_append_right _ _ (by omega), hl, Nat.sub_self, List.replicate_succ, List.set_cons_zero, List.take_succ_eq_append_getElem h1, List.map_append, List.append_assoc]; rfl
    rw [forward_Acts.l0, if_pos (by omega), if_pos (by omega), if_pos (by omega), rd_nat hs i h1, hard_eq]
    simp only [Option.bind_some]
    rw [if_pos (by rw [List.length_append, hl, List.length_replicate]; omega), Int.toNat_natCast, hset, wrap_id ((i : Int) + 1) (by omega) (by omega), show ((i : Int) + 1) = ((i + 1 : Nat) : Int) by omega]
    exact ih k (i + 1) (by omega) (by omega)
theorem acts_eq (k : Nat) (hs : List Int) (hn : hs.length ≤ 16) (hk : 20 ≤ k) : forward_Acts.f k hs = some (hs.map hardI) := by
  unfold forward_Acts.f
  rw [if_pos (by omega), if_pos (by omega), Int.toNat_natCast]
  exact acts_l0 hs (by omega) hs.length k 0 (by omega) (by omega)
theorem tells_eq (A B k : Nat) (ws hs : List Int) (h1 : 1 ≤ A) (h3 : A ≤ 3) (hB : B ≤ 3) (hL : ws.length = B * (A + 1) + B + 1) (hw : ∀ x ∈ ws, okI x) (hhl : hs.length = B) (hk : 30 ≤ k) :
    forward_Net_Tells.f k ws hs (A : Int) (B : Int) = some (tellsI A B ws hs) := by
  obtain ⟨b1, b2⟩ := last_bd A B ws.length h1 h3 hB hL
  have hm := mul3 A B h1 h3
  have hrow : (ws.take ((B * (A + 1) + B : Nat) : Int).toNat).drop ((B * (A + 1) : Nat) : Int).toNat = rowOf ws (B * (A + 1)) B := by
    rw [Int.toNat_natCast, Int.toNat_natCast]; rfl
  have hlen := rowOf_len ws (B * (A + 1)) B (by omega)
  have hro := rowOf_ok ws (B * (A + 1)) B hw
  unfold forward_Net_Tells.f
  rw [at_w A B h1 h3 (by omega), at_w2 _ B (by omega), if_pos (by omega), if_pos (by omega), if_pos (by omega), if_pos (by omega), if_pos (by omega), acts_eq k hs (by omega) (by omega), hrow]
  simp only [Option.bind_some]
  rw [sum_eq k _ _ hro (map_ok hs) (by rw [List.length_map]; omega) (by omega) (by omega), rd_getD]
  simp only [Option.bind_some]
  rw [and_eq _ _ (getD_ok ws _ b1 hw) (dotA_ok _ _ _ (by decide))]
  rfl
def fits (a b : Int) (ws xs : List Int) : Prop := (okShape a b ∧ (ws.length : Int) = sizeI a b ∧ okV ws) ∧ (xs.length : Int) = a ∧ okV xs
instance (a b : Int) (ws xs : List Int) : Decidable (fits a b ws xs) := inferInstanceAs (Decidable (_ ∧ _))
theorem fits_nat (a b : Int) (ws xs : List Int) (h : fits a b ws xs) : ∃ A B : Nat, a = (A : Int) ∧ b = (B : Int) ∧ 1 ≤ A ∧ A ≤ 3 ∧ 1 ≤ B ∧ B ≤ 3 ∧ ws.length = B * (A + 1) + B + 1 ∧ xs.length = A ∧ (∀ x ∈ ws, okI x) ∧ (∀ x ∈ xs, okI x) := by
  obtain ⟨⟨⟨⟨p1, p2⟩, p3, p4⟩, p5, p6⟩, p7, p8⟩ := h
  refine ⟨a.toNat, b.toNat, by omega, by omega, by omega, by omega, by omega, by omega, ?_, by omega, p6.2, p8.2⟩
  obtain ⟨A, rfl⟩ : ∃ A : Nat, a = (A : Int) := ⟨a.toNat, by omega⟩
  obtain ⟨B, rfl⟩ : ∃ B : Nat, b = (B : Int) := ⟨b.toNat, by omega⟩
  rw [Int.toNat_natCast, Int.toNat_natCast]
  unfold sizeI at p5
  have ha : A = 1 ∨ A = 2 ∨ A = 3 := by omega
  rcases ha with rfl | rfl | rfl <;> omega
def hidL (a b : Int) (ws xs : List Int) : List Int := unitsL a.toNat ws xs b.toNat
def outI (a b : Int) (ws xs : List Int) : Int := tellsI a.toNat b.toNat ws (hidL a b ws xs)
theorem hidL_nat (A B : Nat) (ws xs : List Int) : hidL (A : Int) (B : Int) ws xs = unitsL A ws xs B := by unfold hidL; rw [Int.toNat_natCast, Int.toNat_natCast]
theorem outI_nat (A B : Nat) (ws xs : List Int) : outI (A : Int) (B : Int) ws xs = tellsI A B ws (unitsL A ws xs B) := by unfold outI; rw [hidL_nat, Int.toNat_natCast, Int.toNat_natCast]
theorem hidL_len (a b : Int) (ws xs : List Int) : (hidL a b ws xs).length = b.toNat := unitsL_len _ _ _ _

theorem rfits_eq (k : Nat) (a b : Int) (ws : List Int) (hb : ws.length ≤ 4611686018427387904) (hk : ws.length < k) : grafterref1_Fits.f k a b ws = some (decide (okShape a b ∧ (ws.length : Int) = sizeI a b ∧ okV ws)) := by
  unfold grafterref1_Fits.f
  rw [rsmay_eq, Option.bind_some]
  by_cases h1 : okShape a b
  · rw [decide_eq_true h1, if_pos rfl, rvmay_eq k ws hb hk, Option.bind_some]
    by_cases h2 : okV ws
    · rw [decide_eq_true h2, if_pos rfl, rmany_eq a b h1, Option.bind_some]
      by_cases h3 : (ws.length : Int) = sizeI a b
      · rw [h3, beq_self_eq_true, decide_eq_true ⟨h1, rfl, h2⟩]
      · rw [beq_eq_false_iff_ne.2 h3, decide_eq_false (fun q => h3 q.2.1)]
    · rw [decide_eq_false h2, if_neg (by decide), decide_eq_false (fun q => h2 q.2.2)]
  · rw [decide_eq_false h1, if_neg (by decide), decide_eq_false (fun q => h1 q.1)]
theorem rfeeds_eq (k : Nat) (a b : Int) (xs : List Int) (hb : xs.length ≤ 4611686018427387904) (hk : xs.length < k) : grafterref1_feeds.f k a b xs = some (decide ((xs.length : Int) = a ∧ okV xs)) := by
  unfold grafterref1_feeds.f
  by_cases h1 : (xs.length : Int) = a
  · rw [if_pos h1, rvmay_eq k xs hb hk, Option.bind_some]
    by_cases h2 : okV xs
    · rw [decide_eq_true h2, decide_eq_true ⟨h1, h2⟩]
    · rw [decide_eq_false h2, decide_eq_false (fun q => h2 q.2)]
  · rw [if_neg h1, decide_eq_false (fun q => h1 q.1)]
theorem rhidden_l0 (A B : Nat) (ws xs : List Int) (h1 : 1 ≤ A) (h3 : A ≤ 3) (hB : B ≤ 3) (hL : ws.length = B * (A + 1) + B + 1) (hw : ∀ x ∈ ws, okI x) (hx : ∀ x ∈ xs, okI x) (hxl : xs.length = A) : ∀ (d k i : Nat), i + d = B → d + 41 ≤ k →
    grafterref1_Hidden.l0 k ws xs (unitsL A ws xs i) (i : Int) (A : Int) (B : Int) = some (unitsL A ws xs B, 0) := by
  intro d
  induction d with
  | zero =>
    intro k i hi hk
    obtain ⟨k, rfl⟩ : ∃ j, k = j + 1 := ⟨k - 1, by omega⟩
    rw [grafterref1_Hidden.l0, if_neg (by omega), show i = B by omega]
  | succ d ih =>
    intro k i hi hk
    obtain ⟨k, rfl⟩ : ∃ j, k = j + 1 := ⟨k - 1, by omega⟩
    obtain ⟨b1, b2⟩ := unit_bd A B i ws.length h1 h3 (by omega) hB hL
    have hrow : (ws.take ((i * (A + 1) + A : Nat) : Int).toNat).drop ((i * (A + 1) : Nat) : Int).toNat = rowOf ws (i * (A + 1)) A := by
      rw [Int.toNat_natCast, Int.toNat_natCast]; rfl
    have hlen := rowOf_len ws (i * (A + 1)) A (by omega)
    have hro := rowOf_ok ws (i * (A + 1)) A hw
    have hlk : like2 (rowOf ws (i * (A + 1)) A) xs := ⟨⟨by omega, hro⟩, ⟨by omega, hx⟩, by omega⟩
    rw [grafterref1_Hidden.l0, if_pos (by omega), at_w A i h1 h3 (by omega), at_w2 _ A (by omega), if_pos (by omega), if_pos (by omega), if_pos (by omega), hrow, rdot_ok k _ xs hlk (by omega), Option.bind_some, if_pos (by omega), if_pos (by omega), rd_getD, rplus_eq _ _ (getD_ok ws _ b1 hw) (dotA_ok _ _ _ (by decide)), Option.bind_some, if_pos (by rw [unitsL_len]; omega)]
    rw [show unitsL A ws xs i ++ [cutI (ws.getD (i * (A + 1) + A) 0 + dotA 0 (rowOf ws (i * (A + 1)) A) xs)] = unitsL A ws xs (i + 1) from (unitsL_succ A ws xs i).symm, wrap_id ((i : Int) + 1) (by omega) (by omega), show ((i : Int) + 1) = ((i + 1 : Nat) : Int) by omega]
    exact ih k (i + 1) (by omega) (by omega)
theorem rhidden_ok (k : Nat) (a b : Int) (ws xs : List Int) (h : fits a b ws xs) (hk : 60 ≤ k) : grafterref1_Hidden.f k a b ws xs = some (hidL a b ws xs, 0) := by
  obtain ⟨k, rfl⟩ : ∃ j, k = j + 1 := ⟨k - 1, by omega⟩
  have w16 := h.1.2.2.1
  have x16 := h.2.2.1
  unfold grafterref1_Hidden.f
  rw [rfits_eq (k + 1) a b ws (by omega) (by omega), decide_eq_true h.1, Option.bind_some, if_pos rfl, rfeeds_eq (k + 1) a b xs (by omega) (by omega), decide_eq_true h.2, Option.bind_some]
  obtain ⟨A, B, rfl, rfl, h1, h2, h3, h4, h5, h6, h7, h8⟩ := fits_nat a b ws xs h
  rw [Bool.not_true, grafterref1_Hidden.j0, if_neg (by decide), hidL_nat]
  exact rhidden_l0 A B ws xs h1 h2 h4 h5 h7 h8 h6 B k 0 (by omega) (by omega)
theorem rhidden_bad (k : Nat) (a b : Int) (ws xs : List Int) (h : ¬ fits a b ws xs) (hw : ws.length ≤ 4611686018427387904) (hx : xs.length ≤ 4611686018427387904) (hk : 1 ≤ k) (hkw : ws.length < k) (hkx : xs.length < k) : grafterref1_Hidden.f k a b ws xs = some ([], 600) := by
  obtain ⟨k, rfl⟩ : ∃ j, k = j + 1 := ⟨k - 1, by omega⟩
  unfold grafterref1_Hidden.f
  rw [rfits_eq (k + 1) a b ws hw hkw, Option.bind_some]
  by_cases h1 : okShape a b ∧ (ws.length : Int) = sizeI a b ∧ okV ws
  · rw [decide_eq_true h1, if_pos rfl, rfeeds_eq (k + 1) a b xs hx hkx, decide_eq_false (fun q => h ⟨h1, q⟩), Option.bind_some, Bool.not_false, grafterref1_Hidden.j0, if_pos rfl]
  · rw [decide_eq_false h1, if_neg (by decide), grafterref1_Hidden.j0, if_pos rfl]
theorem ract_eq (x : Int) (h : okI x) : grafterref1_Act.f x = some (hardI x, 0) := by
  have e : mx (-65536) (mn 65536 x) = hardI x := by rw [hardI_of]; unfold mx mn; split <;> split <;> (try split) <;> omega
  unfold grafterref1_Act.f grafterref1_Within.f
  rw [rfmay_eq, decide_eq_true h, Option.bind_some, if_pos rfl, e, Option.bind_some]
theorem racts_l0 (hs : List Int) (ho : ∀ x ∈ hs, okI x) (hn : hs.length ≤ 16) : ∀ (d k i : Nat), i + d = hs.length → d < k →
    grafterref1_acts.l0 k hs ((hs.take i).map hardI) (i : Int) = some (hs.map hardI) := by
  intro d
  induction d with
  | zero =>
    intro k i hi hk
    obtain ⟨k, rfl⟩ : ∃ j, k = j + 1 := ⟨k - 1, by omega⟩
    rw [grafterref1_acts.l0, if_neg (by omega), List.take_of_length_le (by omega)]
  | succ d ih =>
    intro k i hi hk
    obtain ⟨k, rfl⟩ : ∃ j, k = j + 1 := ⟨k - 1, by omega⟩
    have h1 : i < hs.length := by omega
    rw [grafterref1_acts.l0, if_pos (by omega), if_pos (by omega), rd_nat hs i h1, ract_eq _ (ho _ (List.getElem_mem h1)), Option.bind_some, if_pos (by rw [List.length_map, List.length_take]; omega)]
    rw [show (hs.take i).map hardI ++ [hardI hs[i]] = (hs.take (i + 1)).map hardI by rw [List.take_succ_eq_append_getElem h1, List.map_append]; rfl, wrap_id ((i : Int) + 1) (by omega) (by omega), show ((i : Int) + 1) = ((i + 1 : Nat) : Int) by omega]
    exact ih k (i + 1) (by omega) (by omega)
theorem racts_eq (k : Nat) (hs : List Int) (ho : ∀ x ∈ hs, okI x) (hn : hs.length ≤ 16) (hk : 20 ≤ k) : grafterref1_acts.f k hs = some (hs.map hardI) :=
  racts_l0 hs ho hn hs.length k 0 (by omega) (by omega)
theorem units_okI (A : Nat) (ws xs : List Int) (n : Nat) : ∀ x ∈ unitsL A ws xs n, okI x := fun x hx => by
  unfold unitsL at hx
  obtain ⟨i, _, rfl⟩ := List.mem_map.1 hx
  exact cutI_ok _
theorem rout_ok (k : Nat) (a b : Int) (ws xs : List Int) (h : fits a b ws xs) (hk : 60 ≤ k) : grafterref1_Out.f k a b ws xs = some (outI a b ws xs, 0) := by
  unfold grafterref1_Out.f
  rw [rhidden_ok k a b ws xs h hk, Option.bind_some, if_pos rfl]
  obtain ⟨A, B, rfl, rfl, h1, h2, h3, h4, h5, h6, h7, h8⟩ := fits_nat a b ws xs h
  obtain ⟨b1, b2⟩ := last_bd A B ws.length h1 h2 h4 h5
  have hrow : (ws.take ((B * (A + 1) + B : Nat) : Int).toNat).drop ((B * (A + 1) : Nat) : Int).toNat = rowOf ws (B * (A + 1)) B := by
    rw [Int.toNat_natCast, Int.toNat_natCast]; rfl
  have hlen := rowOf_len ws (B * (A + 1)) B (by omega)
  have hro := rowOf_ok ws (B * (A + 1)) B h7
  have hul := unitsL_len A ws xs B
  have hml : ((unitsL A ws xs B).map hardI).length = B := by rw [List.length_map, hul]
  have hlk : like2 (rowOf ws (B * (A + 1)) B) ((unitsL A ws xs B).map hardI) := ⟨⟨by omega, hro⟩, ⟨by omega, map_ok _⟩, by omega⟩
  rw [at_w A B h1 h2 (by omega), at_w2 _ B (by omega), if_pos (by omega), if_pos (by omega), if_pos (by omega), hidL_nat, racts_eq k _ (units_okI _ _ _ _) (by omega) (by omega), Option.bind_some, hrow, rdot_ok k _ _ hlk (by omega), Option.bind_some, if_pos (by omega), if_pos (by omega), rd_getD, rplus_eq _ _ (getD_ok ws _ b1 h7) (dotA_ok _ _ _ (by decide)), Option.bind_some, outI_nat]
  rfl
theorem rout_bad (k : Nat) (a b : Int) (ws xs : List Int) (h : ¬ fits a b ws xs) (hw : ws.length ≤ 4611686018427387904) (hx : xs.length ≤ 4611686018427387904) (hk : 1 ≤ k) (hkw : ws.length < k) (hkx : xs.length < k) : grafterref1_Out.f k a b ws xs = some (0, 600) := by
  unfold grafterref1_Out.f
  rw [rhidden_bad k a b ws xs h hw hx hk hkw hkx, Option.bind_some, if_neg (by decide)]

def fitsW (a b : Int) (ws : List Int) : Prop := okShape a b ∧ (ws.length : Int) = sizeI a b ∧ okV ws
instance (a b : Int) (ws : List Int) : Decidable (fitsW a b ws) := inferInstanceAs (Decidable (_ ∧ _))
def okRow (a b : Int) (r : S35) : Prop := ((r.f0.length : Int) = a ∧ okV r.f0) ∧ okI r.f1
instance (a b : Int) (r : S35) : Decidable (okRow a b r) := inferInstanceAs (Decidable (_ ∧ _))
def okRows (a b : Int) (rows : List S35) : Prop := okShape a b ∧ (1 ≤ rows.length ∧ rows.length ≤ 8) ∧ ∀ r ∈ rows, okRow a b r
instance (a b : Int) (rows : List S35) : Decidable (okRows a b rows) := inferInstanceAs (Decidable (_ ∧ _))
theorem rd_T_nat (l : List S35) (i : Nat) (h : i < l.length) : rd_T35 l (i : Int) = l[i] := by
  unfold rd_T35; rw [Int.toNat_natCast, List.getD_eq_getElem?_getD, List.getElem?_eq_getElem h]; rfl
theorem wfits_eq (k : Nat) (a b : Int) (ws : List Int) (hk : 20 ≤ k) : shape_Fits.f k a b ws = some (decide (fitsW a b ws)) := by
  unfold shape_Fits.f
  rw [smay_eq, Option.bind_some]
  by_cases h1 : okShape a b
  · rw [decide_eq_true h1, if_pos rfl, many_eq a b h1, Option.bind_some]
    by_cases h2 : (ws.length : Int) = sizeI a b
    · rw [if_pos h2, vmay_eq k ws hk, Option.bind_some]
      refine congrArg some (decide_eq_decide.2 ?_)
      exact ⟨fun h => ⟨h1, h2, h⟩, fun h => h.2.2⟩
    · rw [if_neg h2, decide_eq_false (fun q => h2 q.2.1)]
  · rw [decide_eq_false h1, if_neg (by decide), decide_eq_false (fun q => h1 q.1)]
theorem inputs_eq (k : Nat) (a b : Int) (xs : List Int) (hk : 20 ≤ k) : forward_Inputs.f k a b xs = some (decide ((xs.length : Int) = a ∧ okV xs)) := by
  unfold forward_Inputs.f
  by_cases h : (xs.length : Int) = a
  · rw [if_pos h, vmay_eq k xs hk, Option.bind_some]
    refine congrArg some (decide_eq_decide.2 ?_)
    exact ⟨fun q => ⟨h, q⟩, fun q => q.2⟩
  · rw [if_neg h, decide_eq_false (fun q => h q.1)]
theorem odd_eq (k : Nat) (a b : Int) (r : S35) (hk : 20 ≤ k) : loss_May_1.f a b k r.f0 r.f1 = some (!decide (okRow a b r)) := by
  unfold loss_May_1.f
  rw [inputs_eq k a b r.f0 hk, Option.bind_some]
  by_cases h : (r.f0.length : Int) = a ∧ okV r.f0
  · rw [decide_eq_true h, if_pos rfl, fmay_eq, Option.bind_some]
    refine congrArg (fun z => some (!z)) (decide_eq_decide.2 ?_)
    exact ⟨fun q => ⟨h, q⟩, fun q => q.2⟩
  · rw [decide_eq_false h, if_neg (by decide), decide_eq_false (fun q => h q.1)]
    rfl
theorem find_l0 (a b : Int) (rows : List S35) (hn : rows.length ≤ 4611686018427387904) : ∀ (d k i : Nat), i + d = rows.length → d + 21 ≤ k →
    ∃ z : Int, api_Row_76.l0 a b k rows (rows.length : Int) (i : Int) = some z ∧ decide (z ≥ 0) = !decide (∀ r ∈ rows.drop i, okRow a b r) := by
  intro d
  induction d with
  | zero =>
    intro k i hi hk
    obtain ⟨k, rfl⟩ : ∃ j, k = j + 1 := ⟨k - 1, by omega⟩
    refine ⟨-1, by rw [api_Row_76.l0, if_neg (by omega)], ?_⟩
    rw [List.drop_eq_nil_of_le (by omega)]
    simp
  | succ d ih =>
    intro k i hi hk
    obtain ⟨k, rfl⟩ : ∃ j, k = j + 1 := ⟨k - 1, by omega⟩
    have h1 : i < rows.length := by omega
    rw [api_Row_76.l0, if_pos (by omega), if_pos (by omega), if_pos (by omega), rd_T_nat rows i h1, odd_eq k a b _ (by omega), Option.bind_some, List.drop_eq_getElem_cons h1]
    by_cases ho : okRow a b rows[i]
    · rw [decide_eq_true ho, Bool.not_true, if_neg (by decide), wrap_id ((i : Int) + 1) (by omega) (by omega), show ((i : Int) + 1) = ((i + 1 : Nat) : Int) by omega]
      obtain ⟨z, hz1, hz2⟩ := ih k (i + 1) (by omega) (by omega)
      refine ⟨z, hz1, ?_⟩
      rw [hz2]
      refine congrArg (fun q => !q) (decide_eq_decide.2 ?_)
      rw [List.forall_mem_cons]
      exact ⟨fun q => ⟨ho, q⟩, fun q => q.2⟩
    · rw [decide_eq_false ho, Bool.not_false, if_pos rfl]
      refine ⟨_, rfl, ?_⟩
      rw [decide_eq_true (by omega), decide_eq_false (fun q => ho (q _ List.mem_cons_self))]
      rfl
theorem lmay_eq (k : Nat) (a b : Int) (rows : List S35) (hk : 40 ≤ k) : loss_May.f k a b rows = some (decide (okRows a b rows)) := by
  unfold loss_May.f
  rw [smay_eq, Option.bind_some]
  by_cases h1 : okShape a b
  · rw [decide_eq_true h1, if_pos rfl]
    by_cases h2 : (rows.length : Int) ≥ 1
    · rw [if_pos h2]
      by_cases h3 : (rows.length : Int) ≤ 8
      · obtain ⟨z, hz1, hz2⟩ := find_l0 a b rows (by omega) rows.length k 0 (by omega) (by omega)
        have hf : api_Row_76.f a b k rows = some z := hz1
        rw [if_pos h3]
        unfold api_Row_58.f
        rw [hf, Option.bind_some, Option.bind_some, hz2, Bool.not_not, List.drop_zero]
        refine congrArg some (decide_eq_decide.2 ?_)
        exact ⟨fun q => ⟨h1, ⟨by omega, by omega⟩, q⟩, fun q => q.2.2⟩
      · rw [if_neg h3, decide_eq_false (fun q => h3 (by have := q.2.1.2; omega))]
    · rw [if_neg h2, decide_eq_false (fun q => h2 (by have := q.2.1.1; omega))]
  · rw [decide_eq_false h1, if_neg (by decide), decide_eq_false (fun q => h1 q.1)]
def errI (a b : Int) (ws : List Int) (r : S35) : Int := cutI (outI a b ws r.f0 + -r.f1)
def lossA (a b : Int) (ws : List Int) : Int → List S35 → Int
  | acc, [] => acc
  | acc, r :: rs => lossA a b ws (cutI (acc + timesI (errI a b ws r) (errI a b ws r))) rs
theorem lossA_ok (a b : Int) (ws : List Int) : ∀ (rows : List S35) (acc : Int), okI acc → okI (lossA a b ws acc rows)
  | [], acc, h => h
  | r :: rs, acc, h => lossA_ok a b ws rs _ (cutI_ok _)
theorem outI_ok (a b : Int) (ws xs : List Int) : okI (outI a b ws xs) := cutI_ok _
theorem errI_ok (a b : Int) (ws : List Int) (r : S35) : okI (errI a b ws r) := cutI_ok _
theorem neg_ok (x : Int) (h : okI x) : okI (-x) ∧ wrap64 (-x) = -x := by
  unfold okI at h ⊢
  exact ⟨⟨by omega, by omega⟩, wrap_id _ (by omega) (by omega)⟩
theorem of_l0 (a b : Int) (ws : List Int) (hw : fitsW a b ws) (rows : List S35) (hr : okRows a b rows) : ∀ (d k i : Nat) (acc : Int), i + d = rows.length → d + 31 ≤ k → okI acc →
    loss_Of.l0 k ws acc rows (rows.length : Int) (i : Int) a b = some (lossA a b ws acc (rows.drop i), 0) := by
  intro d
  have h8 := hr.2.1.2
  induction d with
  | zero =>
    intro k i acc hi hk ho
    obtain ⟨k, rfl⟩ : ∃ j, k = j + 1 := ⟨k - 1, by omega⟩
    rw [loss_Of.l0, if_neg (by omega), List.drop_eq_nil_of_le (by omega), lossA]
  | succ d ih =>
    intro k i acc hi hk ho
    obtain ⟨k, rfl⟩ : ∃ j, k = j + 1 := ⟨k - 1, by omega⟩
    have h1 : i < rows.length := by omega
    have hro := hr.2.2 _ (List.getElem_mem h1)
    have hf : fits a b ws rows[i].f0 := ⟨hw, hro.1⟩
    obtain ⟨n1, n2⟩ := neg_ok _ hro.2
    have hun : ∃ U, forward_Net_Units.f k ws rows[i].f0 a b = some U ∧ forward_Net_Tells.f k ws U a b = some (outI a b ws rows[i].f0) := by
      obtain ⟨A, B, e1, e2, g1, g2, g3, g4, g5, g6, g7, g8⟩ := fits_nat a b ws rows[i].f0 hf
      rw [e1, e2, outI_nat]
      exact ⟨_, units_eq A B k ws rows[i].f0 g1 g2 g4 g5 g7 g8 g6 (by omega), tells_eq A B k ws _ g1 g2 g4 g5 g7 (unitsL_len _ _ _ _) (by omega)⟩
    obtain ⟨W, u1, u2⟩ := hun
    rw [loss_Of.l0, if_pos (by omega), if_pos (by omega), if_pos (by omega), rd_T_nat rows i h1, u1, Option.bind_some, u2, Option.bind_some, n2, and_eq _ _ (outI_ok _ _ _ _) n1, Option.bind_some,
      show cutI (outI a b ws rows[i].f0 + -rows[i].f1) = errI a b ws rows[i] from rfl, times_eq _ _ (errI_ok _ _ _ _) (errI_ok _ _ _ _), Option.bind_some, and_eq _ _ ho (timesI_ok _ _), Option.bind_some, List.drop_eq_getElem_cons h1, lossA,
      wrap_id ((i : Int) + 1) (by omega) (by omega), show ((i : Int) + 1) = ((i + 1 : Nat) : Int) by omega]
    exact ih k (i + 1) _ (by omega) (by omega) (cutI_ok _)
def lossI (a b : Int) (ws : List Int) (rows : List S35) : Int := lossA a b ws 0 rows
def fitsL (a b : Int) (ws : List Int) (rows : List S35) : Prop := fitsW a b ws ∧ okRows a b rows
instance (a b : Int) (ws : List Int) (rows : List S35) : Decidable (fitsL a b ws rows) := inferInstanceAs (Decidable (_ ∧ _))
theorem lossOf_ok (k : Nat) (a b : Int) (ws : List Int) (rows : List S35) (h : fitsL a b ws rows) (hk : 60 ≤ k) : loss_Of.f k a b ws rows = some (lossI a b ws rows, 0) := by
  obtain ⟨k, rfl⟩ : ∃ j, k = j + 1 := ⟨k - 1, by omega⟩
  have h8 := h.2.2.1.2
  unfold loss_Of.f
  rw [wfits_eq (k + 1) a b ws (by omega), decide_eq_true h.1, Option.bind_some, if_pos rfl, lmay_eq (k + 1) a b rows (by omega), decide_eq_true h.2, Option.bind_some, Bool.not_true, loss_Of.j0, if_neg (by decide)]
  have := of_l0 a b ws h.1 rows h.2 rows.length k 0 0 (by omega) (by omega) (by decide)
  rw [List.drop_zero] at this
  exact this
theorem lossOf_bad (k : Nat) (a b : Int) (ws : List Int) (rows : List S35) (h : ¬ fitsL a b ws rows) (hk : 60 ≤ k) : loss_Of.f k a b ws rows = some (0, 1000) := by
  obtain ⟨k, rfl⟩ : ∃ j, k = j + 1 := ⟨k - 1, by omega⟩
  unfold loss_Of.f
  rw [wfits_eq (k + 1) a b ws (by omega), Option.bind_some]
  by_cases h1 : fitsW a b ws
  · rw [decide_eq_true h1, if_pos rfl, lmay_eq (k + 1) a b rows (by omega), decide_eq_false (fun q => h ⟨h1, q⟩), Option.bind_some, Bool.not_false, loss_Of.j0, if_pos rfl]
  · rw [decide_eq_false h1, if_neg (by decide), loss_Of.j0, if_pos rfl]

def sqI (a b : Int) (ws : List Int) (r : S35) : Int := timesI (errI a b ws r) (errI a b ws r)
def sumS (a b : Int) (ws : List Int) : List S35 → Int
  | [] => 0
  | r :: rs => sqI a b ws r + sumS a b ws rs
theorem sqI_nn (a b : Int) (ws : List Int) (r : S35) : 0 ≤ sqI a b ws r := by
  have h : 0 ≤ errI a b ws r * errI a b ws r / 65536 := Int.ediv_nonneg (by
    rcases Int.le_total 0 (errI a b ws r) with h | h
    · exact Int.mul_nonneg h h
    · exact Int.mul_nonneg_of_nonpos_of_nonpos h h) (by decide)
  unfold sqI timesI cutI
  split <;> (try split) <;> omega
theorem sumS_nn (a b : Int) (ws : List Int) : ∀ rows, 0 ≤ sumS a b ws rows
  | [] => Int.le_refl 0
  | r :: rs => by
    have := sqI_nn a b ws r
    have := sumS_nn a b ws rs
    rw [sumS]; omega
theorem sumS_app (a b : Int) (ws : List Int) : ∀ x y, sumS a b ws (x ++ y) = sumS a b ws x + sumS a b ws y
  | [], y => by rw [List.nil_append, sumS]; omega
  | r :: rs, y => by rw [List.cons_append, sumS, sumS, sumS_app a b ws rs y]; omega
theorem sumS_cut (a b : Int) (ws : List Int) (rows : List S35) (q : Nat) : sumS a b ws rows = sumS a b ws (rows.take q) + sumS a b ws (rows.drop q) := by
  rw [← sumS_app, List.take_append_drop]
theorem lossA_sum (a b : Int) (ws : List Int) : ∀ (rows : List S35) (acc : Int), 0 ≤ acc → acc ≤ 1073741824 → lossA a b ws acc rows = if acc + sumS a b ws rows ≤ 1073741824 then acc + sumS a b ws rows else 1073741824
  | [], acc, h0, h1 => by rw [lossA, sumS, if_pos (by omega)]; omega
  | r :: rs, acc, h0, h1 => by
    have n1 := sqI_nn a b ws r
    have n2 := sumS_nn a b ws rs
    have e : cutI (acc + sqI a b ws r) = if acc + sqI a b ws r ≤ 1073741824 then acc + sqI a b ws r else 1073741824 := by
      unfold cutI
      split <;> split <;> (try split) <;> omega
    rw [lossA, sumS]
    show lossA a b ws (cutI (acc + sqI a b ws r)) rs = _
    rw [e]
    by_cases h : acc + sqI a b ws r ≤ 1073741824
    · rw [if_pos h, lossA_sum a b ws rs _ (by omega) h, Int.add_assoc]
    · rw [if_neg h, lossA_sum a b ws rs _ (by omega) (by omega), if_neg (show ¬ (acc + (sqI a b ws r + sumS a b ws rs) ≤ 1073741824) by omega)]
      split <;> omega
theorem lossI_sum (a b : Int) (ws : List Int) (rows : List S35) : lossI a b ws rows = if sumS a b ws rows ≤ 1073741824 then sumS a b ws rows else 1073741824 := by
  unfold lossI
  rw [lossA_sum a b ws rows 0 (by omega) (by omega), Int.zero_add]

def gW : List Int := [65536, -65536, 100, 5, 32768, -200, 65536, 131072, 7]
theorem lgiven_eq : grafterlaw10_given.f = some (2, 2, gW) := rfl
theorem lawake_eq (k : Nat) (hk : 80 ≤ k) : grafterlaw10_awake.f k = some true := by
  have f1 : fitsL 2 2 gW [⟨[1000, 400], -130365⟩, ⟨[1000, 400], 66243⟩] := by decide
  have f2 : ¬ fitsL 2 2 gW [] := by decide
  have f3 : ¬ fitsL 2 2 [-65536, 100, 5, 32768, -200, 65536, 131072, 7] [⟨[1000, 400], -130365⟩, ⟨[1000, 400], 66243⟩] := by decide
  have e1 : lossI 2 2 gW [⟨[1000, 400], -130365⟩, ⟨[1000, 400], 66243⟩] = 327680 := by decide +kernel
  have g1 : okRows 2 2 [⟨[1000, 400], -130365⟩, ⟨[1000, 400], 66243⟩] := f1.2
  have g2 : ¬ okRows 2 2 [] := by decide
  unfold grafterlaw10_awake.f
  rw [lgiven_eq]
  simp only [Option.bind_some]
  rw [lossOf_ok k _ _ _ _ f1 (by omega), lossOf_bad k _ _ _ _ f2 (by omega), e1]
  simp only [Option.bind_some]
  rw [if_pos (by decide), show gW.drop 1 = [-65536, 100, 5, 32768, -200, 65536, 131072, 7] from rfl, lossOf_bad k _ _ _ _ f3 (by omega), lmay_eq k _ _ _ (by omega), lmay_eq k _ _ _ (by omega), decide_eq_true g1, decide_eq_false g2]
  simp [num_eq]

def rightR (a b : Int) (ws : List Int) (r : S35) : S35 := ⟨r.f0, outI a b ws r.f0⟩
theorem right_ok (a b : Int) (ws : List Int) (rows : List S35) (h : okRows a b rows) : okRows a b (rows.map (rightR a b ws)) := by
  refine ⟨h.1, by rw [List.length_map]; exact h.2.1, fun r hr => ?_⟩
  obtain ⟨z, hz, rfl⟩ := List.mem_map.1 hr
  exact ⟨(h.2.2 z hz).1, outI_ok _ _ _ _⟩
theorem right_sum (a b : Int) (ws : List Int) : ∀ rows : List S35, sumS a b ws (rows.map (rightR a b ws)) = 0
  | [] => rfl
  | r :: rs => by
    rw [List.map_cons, sumS, right_sum a b ws rs]
    have e : errI a b ws (rightR a b ws r) = 0 := by
      show cutI (outI a b ws r.f0 + -outI a b ws r.f0) = 0
      rw [Int.add_right_neg]; rfl
    unfold sqI
    rw [e]; rfl
theorem take_ok (a b : Int) (rows : List S35) (h : okRows a b rows) (q : Nat) (h1 : 1 ≤ q) : okRows a b (rows.take q) := by
  refine ⟨h.1, ?_, fun r hr => h.2.2 r (List.mem_of_mem_take hr)⟩
  have := h.2.1
  rw [List.length_take]
  omega
theorem lr_j1 (k : Nat) (a b : Int) (ws : List Int) (rows : List S35) (h : fitsL a b ws rows) (hk : 100 ≤ k) : grafterlaw10_LossRight.j1 k ws rows (lossI a b ws rows) false a b = some true := by
  obtain ⟨k, rfl⟩ : ∃ j, k = j + 1 := ⟨k - 1, by omega⟩
  have hl := h.2.2.1
  rw [grafterlaw10_LossRight.j1, if_neg (by decide)]
  by_cases h1 : (rows.length : Int) = 1
  · rw [if_pos h1]
  · have e : wrap64 ((rows.length : Int) - 1) = ((rows.length - 1 : Nat) : Int) := by rw [wrap_id _ (by omega) (by omega)]; omega
    have h3 : fitsL a b ws (rows.take (rows.length - 1)) := ⟨h.1, take_ok a b rows h.2 _ (by omega)⟩
    rw [if_neg h1, e, if_pos (by omega), if_pos (by omega), Int.toNat_natCast, lossOf_ok k a b ws _ h3 (by omega), Option.bind_some, num_eq, Option.bind_some, if_pos rfl, decide_eq_true]
    show lossI a b ws (rows.take (rows.length - 1)) ≤ lossI a b ws rows
    have n1 := sumS_nn a b ws (rows.drop (rows.length - 1))
    rw [lossI_sum, lossI_sum, sumS_cut a b ws rows (rows.length - 1)]
    split <;> split <;> omega
theorem lr_l0 (a b : Int) (ws : List Int) (rows : List S35) (h : fitsL a b ws rows) : ∀ (d k i : Nat), i + d = rows.length → d + 110 ≤ k →
    grafterlaw10_LossRight.l0 k ws rows (lossI a b ws rows) ((rows.take i).map (rightR a b ws)) (i : Int) a b = some true := by
  intro d
  have hl := h.2.2.1
  induction d with
  | zero =>
    intro k i hi hk
    obtain ⟨k, rfl⟩ : ∃ j, k = j + 1 := ⟨k - 1, by omega⟩
    have h3 : fitsL a b ws (rows.map (rightR a b ws)) := ⟨h.1, right_ok a b ws rows h.2⟩
    have e3 : lossI a b ws (rows.map (rightR a b ws)) = 0 := by rw [lossI_sum, right_sum]; rfl
    have n0 := sumS_nn a b ws rows
    have n1 : 0 ≤ lossI a b ws rows := by rw [lossI_sum]; split <;> omega
    rw [grafterlaw10_LossRight.l0, if_neg (by omega), List.take_of_length_le (by omega), lossOf_ok k a b ws _ h3 (by omega), Option.bind_some, num_eq, Option.bind_some, if_pos rfl, if_pos e3, decide_eq_false (by omega)]
    exact lr_j1 k a b ws rows h (by omega)
  | succ d ih =>
    intro k i hi hk
    obtain ⟨k, rfl⟩ : ∃ j, k = j + 1 := ⟨k - 1, by omega⟩
    have h1 : i < rows.length := by omega
    have hro := h.2.2.2 _ (List.getElem_mem h1)
    have hf : fits a b ws rows[i].f0 := ⟨h.1, hro.1⟩
    rw [grafterlaw10_LossRight.l0, if_pos (by omega), if_pos (by omega), rd_T_nat rows i h1, rout_ok k a b ws _ hf (by omega), Option.bind_some, if_pos (by rw [List.length_map, List.length_take]; omega), wrap_id ((i : Int) + 1) (by omega) (by omega), show ((i : Int) + 1) = ((i + 1 : Nat) : Int) by omega]
    rw [show (rows.take i).map (rightR a b ws) ++ [(⟨rows[i].f0, (outI a b ws rows[i].f0, (0 : Int)).1⟩ : S35)] = (rows.take (i + 1)).map (rightR a b ws) by rw [List.take_succ_eq_append_getElem h1, List.map_append]; rfl]
    exact ih k (i + 1) (by omega) (by omega)
theorem LossRight_at (k : Nat) (a b : Int) (ws : List Int) (rows : List S35) (hk : 200 ≤ k) : grafterlaw10_LossRight.f k a b ws rows = some true := by
  unfold grafterlaw10_LossRight.f
  rw [lawake_eq k (by omega), Option.bind_some, if_pos rfl]
  by_cases h : fitsL a b ws rows
  · have hl := h.2.2.1
    rw [lossOf_ok k a b ws rows h (by omega), Option.bind_some, num_eq, Option.bind_some, if_pos rfl]
    have := lr_l0 a b ws rows h rows.length k 0 (by omega) (by omega)
    rw [List.take_zero] at this
    exact this
  · rw [lossOf_bad k a b ws rows h (by omega), Option.bind_some, num_eq, Option.bind_some, if_neg (by decide)]
    rfl
theorem LossRight : grafterlaw10_LossRight.Pure := fun a b ws rows _ _ _ _ _ _ _ _ => ⟨200, LossRight_at 200 a b ws rows (by omega)⟩

end Go.Proofs.Ytdgbfgnmeoihiaa.Pure
