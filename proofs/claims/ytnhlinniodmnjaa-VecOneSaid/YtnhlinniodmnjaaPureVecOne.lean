/- P4.1: for every row and place: with a row that is One at one place, and else 0, what is there is told; scaled by 0 nothing turns. No condition. -/
import Derived.Test.YtnhlinniodmnjaaPVecOnex3
import Derived.Test.YtnhlinniodmnjaaHelp
import Derived.Test.YtnhlinniodmnjaaHelpDraw
namespace Go.Proofs.Ytnhlinniodmnjaa.Pure
open Go.RowKit Go.Proofs.Ytnhlinniodmnjaa Go.Proofs.Ytnhlinniodmnjaa.PVecOne Go.Proofs.YtnhlinniodmnjaaW.PrintWords Go.Proofs.YtnhlinniodmnjaaW.PrintLast Go.Proofs.YtnhlinniodmnjaaW.PrintMore
set_option linter.unusedVariables false
set_option linter.unusedSimpArgs false

theorem upTo_eq (a b c : Int) : grafterref1_upTo.f a b c = some (decide (b ≤ a ∧ a ≤ c)) := by
  unfold grafterref1_upTo.f
  by_cases h : a ≥ b
  · rw [if_pos h]; refine congrArg some (decide_eq_decide.2 ?_); omega
  · rw [if_neg h]; refine congrArg some (Eq.symm (decide_eq_false ?_)); omega

theorem rd_nat (l : List Int) (i : Nat) (h : i < l.length) : rd l (i : Int) = l[i] := by
  unfold rd; rw [Int.toNat_natCast, List.getD_eq_getElem?_getD, List.getElem?_eq_getElem h]; rfl
theorem same_l0 (l m : List Int) (hl : l.length = m.length) (hb : l.length ≤ 4611686018427387904) : ∀ (d k i : Nat), i + d = l.length → d < k →
    grafterlaw0_SameInts.l0 k l m (i : Int) = some (decide (l.drop i = m.drop i)) := by
  intro d
  induction d with
  | zero =>
    intro k i hi hk
    obtain ⟨k, rfl⟩ : ∃ j, k = j + 1 := ⟨k - 1, by omega⟩
    rw [grafterlaw0_SameInts.l0, if_neg (by omega), List.drop_eq_nil_of_le (by omega), List.drop_eq_nil_of_le (by omega)]
    rfl
  | succ d ih =>
    intro k i hi hk
    obtain ⟨k, rfl⟩ : ∃ j, k = j + 1 := ⟨k - 1, by omega⟩
    have h1 : i < l.length := by omega
    have h2 : i < m.length := by omega
    rw [grafterlaw0_SameInts.l0, if_pos (by omega), if_pos (by omega), if_pos (by omega), rd_nat l i h1, rd_nat m i h2]
    rw [List.drop_eq_getElem_cons h1, List.drop_eq_getElem_cons h2]
    by_cases e : l[i] = m[i]
    · rw [if_pos e, wrap_id _ (by omega) (by omega), show ((i : Int) + 1) = ((i + 1 : Nat) : Int) by omega, ih k (i + 1) (by omega) (by omega)]
      refine congrArg some (decide_eq_decide.2 ?_)
      rw [List.cons.injEq]
      exact ⟨fun h => ⟨e, h⟩, fun h => h.2⟩
    · rw [if_neg e, decide_eq_false]
      rw [List.cons.injEq]
      exact fun h => e h.1
theorem same_eq (k : Nat) (l m : List Int) (hb : l.length ≤ 4611686018427387904) (hk : l.length < k) : grafterlaw0_SameInts.f k l m = some (decide (l = m)) := by
  unfold grafterlaw0_SameInts.f
  by_cases h : (l.length : Int) = (m.length : Int)
  · rw [if_pos h]
    have := same_l0 l m (by omega) hb l.length k 0 (by omega) hk
    simpa using this
  · rw [if_neg h, decide_eq_false]
    rintro rfl
    exact h rfl

theorem fmay_eq (a : Int) : fix_May.f a = some (decide (okI a)) := by
  unfold fix_May.f okI
  by_cases h : a ≥ -1073741824
  · rw [if_pos h]; refine congrArg some (decide_eq_decide.2 ?_); omega
  · rw [if_neg h]; refine congrArg some (Eq.symm (decide_eq_false ?_)); omega
theorem index_l0 (l : List Int) (hb : l.length ≤ 4611686018427387904) : ∀ (d k i : Nat), i + d = l.length → d < k →
    ∃ r, slices_IndexFunc_int_int.l0 k l (l.length : Int) (i : Int) = some r ∧ (0 ≤ r ↔ ¬ ∀ x ∈ l.drop i, okI x) := by
  intro d
  induction d with
  | zero =>
    intro k i hi hk
    obtain ⟨k, rfl⟩ : ∃ j, k = j + 1 := ⟨k - 1, by omega⟩
    refine ⟨-1, by rw [slices_IndexFunc_int_int.l0, if_neg (by omega)], ?_⟩
    rw [List.drop_eq_nil_of_le (by omega)]
    simp
  | succ d ih =>
    intro k i hi hk
    obtain ⟨k, rfl⟩ : ∃ j, k = j + 1 := ⟨k - 1, by omega⟩
    have h1 : i < l.length := by omega
    obtain ⟨r, hr, he⟩ := ih k (i + 1) (by omega) (by omega)
    rw [slices_IndexFunc_int_int.l0, if_pos (by omega), if_pos (by omega), if_pos (by omega), rd_nat l i h1]
    unfold vec_May_1.f
    rw [fmay_eq, List.drop_eq_getElem_cons h1]
    by_cases ho : okI l[i]
    · refine ⟨r, ?_, ?_⟩
      · rw [decide_eq_true ho, wrap_id ((i : Int) + 1) (by omega) (by omega), show ((i : Int) + 1) = ((i + 1 : Nat) : Int) by omega]
        exact hr
      · rw [he, List.forall_mem_cons]
        exact ⟨fun q1 q2 => q1 q2.2, fun q1 q2 => q1 ⟨ho, q2⟩⟩
    · refine ⟨(i : Int), ?_, ?_⟩
      · rw [decide_eq_false ho]; rfl
      · rw [List.forall_mem_cons]
        exact ⟨fun _ q => ho q.1, fun _ => by omega⟩
def okV (l : List Int) : Prop := l.length ≤ 16 ∧ ∀ x ∈ l, okI x
instance (l : List Int) : Decidable (okV l) := inferInstanceAs (Decidable (_ ∧ _))
theorem vmay_eq (k : Nat) (l : List Int) (hk : 20 ≤ k) : vec_May.f k l = some (decide (okV l)) := by
  unfold vec_May.f
  by_cases h : (l.length : Int) ≤ 16
  · obtain ⟨r, hr, he⟩ := index_l0 l (by omega) l.length k 0 (by omega) (by omega)
    rw [List.drop_zero] at he
    rw [if_pos h]
    unfold slices_ContainsFunc_int_int.f slices_IndexFunc_int_int.f
    rw [show ((0 : Nat) : Int) = 0 from rfl] at hr
    rw [hr]
    simp only [Option.bind_some]
    refine congrArg some ?_
    by_cases h2 : ∀ x ∈ l, okI x
    · rw [decide_eq_false (show ¬ (0 ≤ r) from fun q => he.1 q h2), decide_eq_true (show okV l from ⟨by omega, h2⟩)]; rfl
    · rw [decide_eq_true (he.2 h2), decide_eq_false (show ¬ okV l from fun q => h2 q.2)]; rfl
  · rw [if_neg h, decide_eq_false (show ¬ okV l from fun q => by have := q.1; omega)]
theorem rd_L1_nat (l : List (List Int)) (i : Nat) (h : i < l.length) : rd_L1 l (i : Int) = l[i] := by
  unfold rd_L1; rw [Int.toNat_natCast, List.getD_eq_getElem?_getD, List.getElem?_eq_getElem h]; rfl
theorem alike_l0 (L : List (List Int)) (hL : L.length ≤ 8) (h0 : 0 < L.length) : ∀ (d k i : Nat), i + d = L.length → d + 20 < k →
    vec_Alike.l0 k L L (L.length : Int) (i : Int) = some (decide (∀ r ∈ L.drop i, okV r ∧ r.length = L[0].length)) := by
  intro d
  induction d with
  | zero =>
    intro k i hi hk
    obtain ⟨k, rfl⟩ : ∃ j, k = j + 1 := ⟨k - 1, by omega⟩
    rw [vec_Alike.l0, if_neg (by omega), List.drop_eq_nil_of_le (by omega)]
    simp
  | succ d ih =>
    intro k i hi hk
    obtain ⟨k, rfl⟩ : ∃ j, k = j + 1 := ⟨k - 1, by omega⟩
    have h1 : i < L.length := by omega
    rw [vec_Alike.l0, if_pos (by omega), if_pos (by omega), if_pos (by omega), rd_L1_nat L i h1, vmay_eq k _ (by omega), List.drop_eq_getElem_cons h1]
    by_cases ho : okV L[i]
    · rw [decide_eq_true ho]
      simp only [Option.bind_some, if_true]
      rw [if_pos (by omega), show rd_L1 L 0 = L[0] from rd_L1_nat L 0 h0]
      by_cases hl : L[i].length = L[0].length
      · rw [if_pos (by omega), wrap_id ((i : Int) + 1) (by omega) (by omega), show ((i : Int) + 1) = ((i + 1 : Nat) : Int) by omega, ih k (i + 1) (by omega) (by omega)]
        refine congrArg some (decide_eq_decide.2 ?_)
        rw [List.forall_mem_cons]
        exact ⟨fun q => ⟨⟨ho, hl⟩, q⟩, fun q => q.2⟩
      · rw [if_neg (by omega), decide_eq_false]
        intro q
        exact hl (q _ (List.mem_cons_self)).2
    · rw [decide_eq_false ho]
      simp only [Option.bind_some, Bool.false_eq_true, if_false]
      rw [decide_eq_false]
      intro q
      exact ho (q _ (List.mem_cons_self)).1
theorem cut_eq (x : Int) : fix_Cut.f x = some (cutI x) := by
  unfold fix_Cut.f cutI mn mx
  congr 1
  split <;> split <;> (try split) <;> omega
theorem and_eq (a b : Int) (ha : okI a) (hb : okI b) : fix_And.f a b = some (cutI (a + b)) := by
  unfold okI at ha hb
  unfold fix_And.f; rw [cut_eq, wrap_id _ (by omega) (by omega)]; rfl
def timesI (a b : Int) : Int := cutI (a * b / 65536)
theorem timesI_ok (a b : Int) : okI (timesI a b) := cutI_ok _
theorem timesI_comm (a b : Int) : timesI a b = timesI b a := by unfold timesI; rw [Int.mul_comm]
theorem times_eq (a b : Int) (ha : okI a) (hb : okI b) : fix_Times.f a b = some (timesI a b) := by
  have := mul_okI ha hb
  unfold fix_Times.f; rw [cut_eq, wrap_id _ (by omega) (by omega)]; rfl

def like2 (a b : List Int) : Prop := okV a ∧ okV b ∧ a.length = b.length
instance (a b : List Int) : Decidable (like2 a b) := inferInstanceAs (Decidable (_ ∧ _ ∧ _))
theorem alike2 (k : Nat) (a b : List Int) (hk : 30 ≤ k) : vec_Alike.f k [a, b] = some (decide (like2 a b)) := by
  unfold vec_Alike.f
  have := alike_l0 [a, b] (by simp) (by simp) 2 k 0 rfl (by omega)
  rw [show ((0 : Nat) : Int) = 0 from rfl] at this
  rw [this]
  refine congrArg some (decide_eq_decide.2 ?_)
  rw [List.drop_zero, List.forall_mem_cons, List.forall_mem_cons]
  exact ⟨fun q => ⟨q.1.1, q.2.1.1, q.2.1.2.symm⟩, fun q => ⟨⟨q.1, rfl⟩, ⟨q.2.1, q.2.2.symm⟩, fun x hx => absurd hx List.not_mem_nil⟩⟩

def dotA : Int → List Int → List Int → Int
  | acc, x :: xs, y :: ys => dotA (cutI (acc + timesI x y)) xs ys
  | acc, _, _ => acc
theorem dotA_comm : ∀ (a b : List Int) (acc : Int), dotA acc a b = dotA acc b a
  | [], [], _ => rfl
  | [], _ :: _, _ => rfl
  | _ :: _, [], _ => rfl
  | x :: xs, y :: ys, acc => by rw [dotA, dotA, timesI_comm x y]; exact dotA_comm xs ys _
theorem dotA_ok : ∀ (a b : List Int) (acc : Int), okI acc → okI (dotA acc a b)
  | [], [], _, h => h
  | [], _ :: _, _, h => h
  | _ :: _, [], _, h => h
  | x :: xs, y :: ys, acc, h => by rw [dotA]; exact dotA_ok xs ys _ (cutI_ok _)
theorem sum_l0 (a b : List Int) (ha : ∀ x ∈ a, okI x) (hb : ∀ x ∈ b, okI x) (hl : a.length = b.length) (hn : a.length ≤ 4611686018427387904) : ∀ (d k i : Nat) (acc : Int), i + d = a.length → d < k → okI acc →
    vec_Sum.l0 k b acc a (a.length : Int) (i : Int) = some (dotA acc (a.drop i) (b.drop i)) := by
  intro d
  induction d with
  | zero =>
    intro k i acc hi hk hacc
    obtain ⟨k, rfl⟩ : ∃ j, k = j + 1 := ⟨k - 1, by omega⟩
    rw [vec_Sum.l0, if_neg (by omega), List.drop_eq_nil_of_le (by omega), List.drop_eq_nil_of_le (by omega), dotA]
    simp
  | succ d ih =>
    intro k i acc hi hk hacc
    obtain ⟨k, rfl⟩ : ∃ j, k = j + 1 := ⟨k - 1, by omega⟩
    have h1 : i < a.length := by omega
    have h2 : i < b.length := by omega
    have o1 := ha _ (List.getElem_mem h1)
    have o2 := hb _ (List.getElem_mem h2)
    rw [vec_Sum.l0, if_pos (by omega), if_pos (by omega), if_pos (by omega), if_pos (by omega), rd_nat a i h1, rd_nat b i h2, times_eq _ _ o1 o2]
    simp only [Option.bind_some]
    rw [and_eq _ _ hacc (timesI_ok _ _), List.drop_eq_getElem_cons h1, List.drop_eq_getElem_cons h2, dotA]
    simp only [Option.bind_some]
    rw [wrap_id ((i : Int) + 1) (by omega) (by omega), show ((i : Int) + 1) = ((i + 1 : Nat) : Int) by omega]
    exact ih k (i + 1) _ (by omega) (by omega) (cutI_ok _)
theorem sum_eq (k : Nat) (a b : List Int) (ha : ∀ x ∈ a, okI x) (hb : ∀ x ∈ b, okI x) (hl : a.length = b.length) (hn : a.length ≤ 16) (hk : 20 ≤ k) : vec_Sum.f k a b = some (dotA 0 a b) := by
  have := sum_l0 a b ha hb hl (by omega) a.length k 0 0 (by omega) (by omega) (by decide)
  rw [List.drop_zero, List.drop_zero] at this
  exact this

theorem dot_ok (k : Nat) (a b : List Int) (h : like2 a b) (hk : 30 ≤ k) : vec_Dot.f k a b = some (dotA 0 a b, 0) := by
  unfold vec_Dot.f
  rw [alike2 k a b hk, decide_eq_true h]
  simp only [Option.bind_some, if_true]
  rw [sum_eq k a b h.1.2 h.2.1.2 h.2.2 h.1.1 (by omega)]
  rfl
theorem dot_bad (k : Nat) (a b : List Int) (h : ¬ like2 a b) (hk : 30 ≤ k) : vec_Dot.f k a b = some (0, 400) := by
  unfold vec_Dot.f
  rw [alike2 k a b hk, decide_eq_false h]; simp
def scaleI (c a b : Int) : Int := cutI (a + timesI b c)
def scaleL (c : Int) (a b : List Int) : List Int := List.zipWith (scaleI c) a b
theorem scaleL_len (c : Int) (a b : List Int) (hl : a.length = b.length) : (scaleL c a b).length = a.length := by unfold scaleL; rw [List.length_zipWith]; omega
theorem scaleL_get (c : Int) (a b : List Int) (hl : a.length = b.length) (i : Nat) (h : i < (scaleL c a b).length) (h1 : i < a.length) (h2 : i < b.length) : (scaleL c a b)[i] = scaleI c a[i] b[i] := by
  have : (scaleL c a b)[i]? = some (scaleI c a[i] b[i]) := by
    unfold scaleL
    rw [List.getElem?_zipWith, List.getElem?_eq_getElem h1, List.getElem?_eq_getElem h2]
  rw [List.getElem?_eq_getElem h] at this
  exact Option.some.inj this
theorem scaled_l0 (c : Int) (a b : List Int) (ha : ∀ x ∈ a, okI x) (hb : ∀ x ∈ b, okI x) (hc : okI c) (hl : a.length = b.length) (hn : a.length ≤ 4611686018427387904) : ∀ (d k i : Nat), i + d = b.length → d < k →
    vec_Scaled.l0 k c ((scaleL c a b).take i ++ a.drop i) b (b.length : Int) (i : Int) = some (scaleL c a b, 0) := by
  have hs := scaleL_len c a b hl
  intro d
  induction d with
  | zero =>
    intro k i hi hk
    obtain ⟨k, rfl⟩ : ∃ j, k = j + 1 := ⟨k - 1, by omega⟩
    rw [vec_Scaled.l0, if_neg (by omega), List.drop_eq_nil_of_le (by omega), List.take_of_length_le (by omega), List.append_nil]
  | succ d ih =>
    intro k i hi hk
    obtain ⟨k, rfl⟩ : ∃ j, k = j + 1 := ⟨k - 1, by omega⟩
    have h1 : i < a.length := by omega
    have h2 : i < b.length := by omega
    have h3 : i < (scaleL c a b).length := by omega
    have o1 := ha _ (List.getElem_mem h1)
    have o2 := hb _ (List.getElem_mem h2)
    have ht : ((scaleL c a b).take i).length = i := by rw [List.length_take]; omega
    have hlen : ((scaleL c a b).take i ++ a.drop i).length = a.length := by rw [List.length_append, ht, List.length_drop]; omega
    have hg : rd ((scaleL c a b).take i ++ a.drop i) (i : Int) = a[i] := by
      rw [rd_nat _ i (by omega)]
      have : ((scaleL c a b).take i ++ a.drop i)[i]? = some a[i] := by
        rw [List.getElem?_append_right (by omega), ht, Nat.sub_self, List.getElem?_drop, Nat.add_zero, List.getElem?_eq_getElem h1]
      rw [List.getElem?_eq_getElem (by omega)] at this
      exact Option.some.inj this
    have hset : ((scaleL c a b).take i ++ a.drop i).set i (scaleI c a[i] b[i]) = (scaleL c a b).take (i + 1) ++ a.drop (i + 1) := by
      rw [List.set_append_right _ _ (by omega), ht, Nat.sub_self, List.drop_eq_getElem_cons h1, List.set_cons_zero, List.take_succ_eq_append_getElem h3, scaleL_get c a b hl i h3 h1 h2, List.append_assoc]
      rfl
    rw [vec_Scaled.l0, if_pos (by omega), if_pos (by omega), if_pos (by omega), if_pos (by omega), hg, rd_nat b i h2, times_eq _ _ o2 hc]
    simp only [Option.bind_some]
    rw [and_eq _ _ o1 (timesI_ok _ _)]
    simp only [Option.bind_some]
    rw [Int.toNat_natCast, show cutI (a[i] + timesI b[i] c) = scaleI c a[i] b[i] from rfl, hset, wrap_id ((i : Int) + 1) (by omega) (by omega), show ((i : Int) + 1) = ((i + 1 : Nat) : Int) by omega]
    exact ih k (i + 1) (by omega) (by omega)
theorem scaled_ok (k : Nat) (a b : List Int) (c : Int) (h : like2 a b) (hc : okI c) (hk : 30 ≤ k) : vec_Scaled.f k a b c = some (scaleL c a b, 0) := by
  obtain ⟨k, rfl⟩ : ∃ j, k = j + 1 := ⟨k - 1, by omega⟩
  have hb := h.1.1
  have hl := h.2.2
  unfold vec_Scaled.f
  rw [alike2 (k + 1) a b hk, decide_eq_true h]
  simp only [Option.bind_some, if_true]
  rw [fmay_eq, decide_eq_true hc]
  simp only [Option.bind_some]
  rw [vec_Scaled.j0, if_neg (by decide)]
  unfold slices_Clone_int_int.f
  rw [if_pos (by omega)]
  simp only [Option.bind_some]
  have := scaled_l0 c a b h.1.2 h.2.1.2 hc h.2.2 (by omega) b.length k 0 (by omega) (by omega)
  rw [List.take_zero, List.nil_append, List.drop_zero] at this
  exact this
theorem scaled_bad (k : Nat) (a b : List Int) (c : Int) (h : ¬ (like2 a b ∧ okI c)) (hk : 30 ≤ k) : vec_Scaled.f k a b c = some ([], 400) := by
  obtain ⟨k, rfl⟩ : ∃ j, k = j + 1 := ⟨k - 1, by omega⟩
  unfold vec_Scaled.f
  rw [alike2 (k + 1) a b hk]
  by_cases h1 : like2 a b
  · rw [decide_eq_true h1]
    simp only [Option.bind_some, if_true]
    rw [fmay_eq, decide_eq_false (fun q => h ⟨h1, q⟩)]
    simp only [Option.bind_some]
    rw [vec_Scaled.j0, if_pos (by decide)]
  · rw [decide_eq_false h1]
    simp only [Option.bind_some, Bool.false_eq_true, if_false]
    rw [vec_Scaled.j0, if_pos rfl]
theorem num_eq (x : Int) : grafterlaw0_Num.f x = some x := rfl
theorem vawake_eq (k : Nat) (hk : 40 ≤ k) : grafterlaw4_awake.f k = some true := by
  unfold grafterlaw4_awake.f
  rw [dot_ok k _ _ (by decide) (by omega), scaled_ok k _ _ _ (by decide) (by decide) (by omega), dot_bad k _ _ (by decide) (by omega), scaled_bad k _ _ _ (by decide) (by omega), vmay_eq k _ (by omega), vmay_eq k _ (by omega)]
  rw [show dotA 0 [65536, 131072] [5, -3] = -1 by decide, show scaleL 32768 [1, 2] [131072, 0] = [65537, 2] by decide]
  simp only [Option.bind_some, if_true, num_eq]
  rw [same_eq k _ _ (by simp) (by simp; omega)]
  decide

theorem rfmay_eq (a : Int) : grafterref1_FixMay.f a = some (decide (okI a)) := by
  unfold grafterref1_FixMay.f; rw [upTo_eq]; rfl
theorem rvmay_l0 (l : List Int) (hb : l.length ≤ 4611686018427387904) : ∀ (d k i : Nat), i + d = l.length → d < k →
    grafterref1_VecMay.l0 k l (i : Int) = some (decide ((∀ x ∈ l.drop i, okI x) ∧ l.length ≤ 16)) := by
  intro d
  induction d with
  | zero =>
    intro k i hi hk
    obtain ⟨k, rfl⟩ : ∃ j, k = j + 1 := ⟨k - 1, by omega⟩
    rw [grafterref1_VecMay.l0, if_neg (by omega), List.drop_eq_nil_of_le (by omega)]
    refine congrArg some (decide_eq_decide.2 ?_)
    simp
    omega
  | succ d ih =>
    intro k i hi hk
    obtain ⟨k, rfl⟩ : ∃ j, k = j + 1 := ⟨k - 1, by omega⟩
    have h1 : i < l.length := by omega
    rw [grafterref1_VecMay.l0, if_pos (by omega), if_pos (by omega), rd_nat l i h1, rfmay_eq, List.drop_eq_getElem_cons h1]
    by_cases ho : okI l[i]
    · rw [decide_eq_true ho]
      simp only [Option.bind_some, if_true]
      rw [wrap_id ((i : Int) + 1) (by omega) (by omega), show ((i : Int) + 1) = ((i + 1 : Nat) : Int) by omega, ih k (i + 1) (by omega) (by omega)]
      refine congrArg some (decide_eq_decide.2 ?_)
      rw [List.forall_mem_cons]
      exact ⟨fun q => ⟨⟨ho, q.1⟩, q.2⟩, fun q => ⟨q.1.2, q.2⟩⟩
    · rw [decide_eq_false ho]
      simp only [Option.bind_some, Bool.false_eq_true, if_false]
      rw [decide_eq_false]
      exact fun q => ho (q.1 _ List.mem_cons_self)
theorem rvmay_eq (k : Nat) (l : List Int) (hb : l.length ≤ 4611686018427387904) (hk : l.length < k) : grafterref1_VecMay.f k l = some (decide (okV l)) := by
  have := rvmay_l0 l hb l.length k 0 (by omega) hk
  rw [List.drop_zero] at this
  unfold grafterref1_VecMay.f
  rw [show (0 : Int) = ((0 : Nat) : Int) from rfl, this]
  refine congrArg some (decide_eq_decide.2 ?_)
  exact ⟨fun h => ⟨h.2, h.1⟩, fun h => ⟨h.2, h.1⟩⟩

theorem timesI_zero (x : Int) : timesI x 0 = 0 := by unfold timesI; rw [Int.mul_zero]; rfl
theorem timesI_one (x : Int) (h : okI x) : timesI x 65536 = x := by unfold timesI; rw [Int.mul_ediv_cancel _ (by decide)]; exact cutI_of x h
theorem dotA_zeros : ∀ (a : List Int) (n : Nat) (acc : Int), okI acc → dotA acc a (List.replicate n 0) = acc
  | [], 0, _, _ => rfl
  | [], _ + 1, _, _ => rfl
  | _ :: _, 0, _, _ => rfl
  | x :: xs, n + 1, acc, h => by
    rw [List.replicate_succ, dotA, timesI_zero, Int.add_zero, cutI_of acc h]
    exact dotA_zeros xs n acc h
theorem dotA_one : ∀ (a : List Int) (i : Nat) (h : i < a.length), (∀ x ∈ a, okI x) → dotA 0 a ((List.replicate a.length 0).set i 65536) = a[i]
  | x :: xs, 0, h, ho => by
    rw [List.length_cons, List.replicate_succ, List.set_cons_zero, dotA, timesI_one x (ho x List.mem_cons_self), Int.zero_add, cutI_of x (ho x List.mem_cons_self)]
    exact dotA_zeros xs _ x (ho x List.mem_cons_self)
  | x :: xs, i + 1, h, ho => by
    rw [List.length_cons, List.replicate_succ, List.set_cons_succ, dotA, timesI_zero, Int.zero_add, show cutI 0 = 0 from rfl]
    exact dotA_one xs i (by simpa using h) (fun y hy => ho y (List.mem_cons_of_mem _ hy))
theorem scaleL_none (a b : List Int) (ha : ∀ x ∈ a, okI x) (hl : a.length = b.length) : scaleL 0 a b = a := by
  apply List.ext_getElem
  · exact scaleL_len 0 a b hl
  · intro i h1 h2
    rw [scaleL_get 0 a b hl i h1 h2 (by omega)]
    unfold scaleI
    rw [timesI_zero, Int.add_zero]
    exact cutI_of _ (ha _ (List.getElem_mem h2))
theorem scaleL_zeros (a : List Int) (ha : ∀ x ∈ a, okI x) : scaleL 65536 (List.replicate a.length 0) a = a := by
  apply List.ext_getElem
  · rw [scaleL_len _ _ _ (by rw [List.length_replicate]), List.length_replicate]
  · intro i h1 h2
    rw [scaleL_get 65536 _ a (by rw [List.length_replicate]) i h1 (by rw [List.length_replicate]; exact h2) h2, List.getElem_replicate]
    unfold scaleI
    have ho := ha _ (List.getElem_mem h2)
    rw [timesI_one _ ho, Int.zero_add]
    exact cutI_of _ ho
theorem okV_rep (n : Nat) (h : n ≤ 16) : okV (List.replicate n 0) := by
  refine ⟨by rw [List.length_replicate]; exact h, fun x hx => ?_⟩
  rw [(List.mem_replicate.1 hx).2]; decide
theorem one_j0 (k : Nat) (a : List Int) (at_ : Int) (h : okV a) (h0 : 0 < a.length) (hk : 50 ≤ k) : grafterlaw4_VecOne.j0 k a at_ false = some true := by
  obtain ⟨k, rfl⟩ : ∃ j, k = j + 1 := ⟨k - 1, by omega⟩
  have hu := wrap_u64_bd at_
  have h16 := h.1
  obtain ⟨u, eu⟩ : ∃ u, IntKind.u64.wrap at_ = u := ⟨_, rfl⟩
  rw [eu] at hu
  rw [grafterlaw4_VecOne.j0, if_neg (by decide), wrap_u64 (a.length : Int) (by omega) (by omega), eu, tmod_pos u _ hu]
  have hm1 := Int.emod_nonneg u (show (a.length : Int) ≠ 0 by omega)
  have hm2 := Int.emod_lt_of_pos u (show (0 : Int) < (a.length : Int) by omega)
  rw [wrap_id (u % (a.length : Int)) (by omega) (by omega)]
  obtain ⟨i, hi⟩ := Int.eq_ofNat_of_zero_le hm1
  have hi2 : i < a.length := by omega
  rw [hi, if_neg (by omega), if_pos (by omega), if_pos (by omega), Int.toNat_natCast, Int.toNat_natCast]
  have l1 : okV ((List.replicate a.length 0).set i 65536) := by
    refine ⟨by rw [List.length_set, List.length_replicate]; exact h16, fun x hx => ?_⟩
    rcases List.mem_or_eq_of_mem_set hx with hx | hx
    · rw [(List.mem_replicate.1 hx).2]; decide
    · rw [hx]; decide
  have k1 : like2 a ((List.replicate a.length 0).set i 65536) := ⟨h, l1, by rw [List.length_set, List.length_replicate]⟩
  have k2 : like2 (List.replicate a.length 0) a := ⟨okV_rep _ h16, h, by rw [List.length_replicate]⟩
  simp only [Option.bind_some]
  rw [if_pos (by omega), if_pos (by rw [List.length_replicate]; omega)]
  try simp only [Option.bind_some]
  rw [dot_ok k _ _ k1 (by omega), scaled_ok k _ _ 0 k1 (by decide) (by omega), scaled_ok k _ _ 65536 k2 (by decide) (by omega), dotA_one a i hi2 h.2, scaleL_none a _ h.2 k1.2.2, scaleL_zeros a h.2]
  simp only [Option.bind_some, if_true, num_eq]
  rw [if_pos (by omega), rd_nat a i hi2, if_pos rfl, same_eq k a a (by omega) (by omega)]
  simp
theorem VecOne_at (a : List Int) (at_ : Int) (hb : a.length * 8 ≤ 140737488351232) : grafterlaw4_VecOne.f (a.length + 60) a at_ = some true := by
  unfold grafterlaw4_VecOne.f
  rw [vawake_eq _ (by omega)]
  simp only [Option.bind_some, if_true]
  have hbad : grafterlaw4_VecOne.j0 (a.length + 60) a at_ true = some true := by
    rw [show a.length + 60 = (a.length + 59) + 1 from rfl, grafterlaw4_VecOne.j0, if_pos rfl, vmay_eq _ a (by omega), rvmay_eq _ a (by omega) (by omega)]
    simp
  by_cases h0 : (a.length : Int) = 0
  · rw [if_pos h0]; exact hbad
  · rw [if_neg h0, rvmay_eq _ a (by omega) (by omega)]
    simp only [Option.bind_some]
    by_cases h : okV a
    · rw [decide_eq_true h]
      exact one_j0 _ a at_ h (by omega) (by omega)
    · rw [decide_eq_false h]
      exact hbad
theorem VecOne : grafterlaw4_VecOne.Pure := fun a at_ _ hb _ _ => ⟨a.length + 60, VecOne_at a at_ hb⟩

end Go.Proofs.Ytnhlinniodmnjaa.Pure
