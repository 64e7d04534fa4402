/- P4.1, R4: for every two rows and number, of any int values, May, Dot and Scaled of package vec answer what the document's reference answers, and what was lent stays. No condition. -/
import Derived.Test.YtbhkmgidokonkaaPVecsx6
import Derived.Test.YtbhkmgidokonkaaHelp
import Derived.Test.YtbhkmgidokonkaaHelpDraw
namespace Go.Proofs.Ytbhkmgidokonkaa.Pure
open Go.RowKit Go.Proofs.Ytbhkmgidokonkaa Go.Proofs.Ytbhkmgidokonkaa.PVecs Go.Proofs.YtbhkmgidokonkaaW.PrintWords Go.Proofs.YtbhkmgidokonkaaW.PrintLast Go.Proofs.YtbhkmgidokonkaaW.PrintMore
set_option linter.unusedVariables false
set_option linter.unusedSimpArgs false

theorem upTo_eq (a b c : Int) : grafterref1_upTo.f a b c = some (decide (b ≤ a ∧ a ≤ c)) := by
  unfold grafterref1_upTo.f
  by_cases h : a ≥ b
  · rw [if_pos h]; refine congrArg some (decide_eq_decide.2 ?_); omega
  · rw [if_neg h]; refine congrArg some (Eq.symm (decide_eq_false ?_)); omega

theorem rd_nat (l : List Int) (i : Nat) (h : i < l.length) : rd l (i : Int) = l[i] := by
  unfold rd; rw [Int.toNat_natCast, List.getD_eq_getElem?_getD, List.getElem?_eq_getElem h]; rfl
theorem same_l0 (l m : List Int) (hl : l.length = m.length) (hb : l.length ≤ 4611686018427387904) : ∀ (d k i : Nat), i + d = l.length → d < k →
    grafterlaw0_SameInts.l0 k l m (i : Int) = some (decide (l.drop i = m.drop i)) := by
  intro d
  induction d with
  | zero =>
    intro k i hi hk
    obtain ⟨k, rfl⟩ : ∃ j, k = j + 1 := ⟨k - 1, by omega⟩
    rw [grafterlaw0_SameInts.l0, if_neg (by omega), List.drop_eq_nil_of_le (by omega), List.drop_eq_nil_of_le (by omega)]
    rfl
  | succ d ih =>
    intro k i hi hk
    obtain ⟨k, rfl⟩ : ∃ j, k = j + 1 := ⟨k - 1, by omega⟩
    have h1 : i < l.length := by omega
    have h2 : i < m.length := by omega
    rw [grafterlaw0_SameInts.l0, if_pos (by omega), if_pos (by omega), if_pos (by omega), rd_nat l i h1, rd_nat m i h2]
    rw [List.drop_eq_getElem_cons h1, List.drop_eq_getElem_cons h2]
    by_cases e : l[i] = m[i]
    · rw [if_pos e, wrap_id _ (by omega) (by omega), show ((i : Int) + 1) = ((i + 1 : Nat) : Int) by omega, ih k (i + 1) (by omega) (by omega)]
      refine congrArg some (decide_eq_decide.2 ?_)
      rw [List.cons.injEq]
      exact ⟨fun h => ⟨e, h⟩, fun h => h.2⟩
    · rw [if_neg e, decide_eq_false]
      rw [List.cons.injEq]
      exact fun h => e h.1
theorem same_eq (k : Nat) (l m : List Int) (hb : l.length ≤ 4611686018427387904) (hk : l.length < k) : grafterlaw0_SameInts.f k l m = some (decide (l = m)) := by
  unfold grafterlaw0_SameInts.f
  by_cases h : (l.length : Int) = (m.length : Int)
  · rw [if_pos h]
    have := same_l0 l m (by omega) hb l.length k 0 (by omega) hk
    simpa using this
  · rw [if_neg h, decide_eq_false]
    rintro rfl
    exact h rfl

theorem fmay_eq (a : Int) : fix_May.f a = some (decide (okI a)) := by
  unfold fix_May.f okI
  by_cases h : a ≥ -1073741824
  · rw [if_pos h]; refine congrArg some (decide_eq_decide.2 ?_); omega
  · rw [if_neg h]; refine congrArg some (Eq.symm (decide_eq_false ?_)); omega
theorem index_l0 (l : List Int) (hb : l.length ≤ 4611686018427387904) : ∀ (d k i : Nat), i + d = l.length → d < k →
    ∃ r, slices_IndexFunc_int_int.l0 k l (l.length : Int) (i : Int) = some r ∧ (0 ≤ r ↔ ¬ ∀ x ∈ l.drop i, okI x) := by
  intro d
  induction d with
  | zero =>
    intro k i hi hk
    obtain ⟨k, rfl⟩ : ∃ j, k = j + 1 := ⟨k - 1, by omega⟩
    refine ⟨-1, by rw [slices_IndexFunc_int_int.l0, if_neg (by omega)], ?_⟩
    rw [List.drop_eq_nil_of_le (by omega)]
    simp
  | succ d ih =>
    intro k i hi hk
    obtain ⟨k, rfl⟩ : ∃ j, k = j + 1 := ⟨k - 1, by omega⟩
    have h1 : i < l.length := by omega
    obtain ⟨r, hr, he⟩ := ih k (i + 1) (by omega) (by omega)
    rw [slices_IndexFunc_int_int.l0, if_pos (by omega), if_pos (by omega), if_pos (by omega), rd_nat l i h1]
    unfold vec_May_1.f
    rw [fmay_eq, List.drop_eq_getElem_cons h1]
    by_cases ho : okI l[i]
    · refine ⟨r, ?_, ?_⟩
      · rw [decide_eq_true ho, wrap_id ((i : Int) + 1) (by omega) (by omega), show ((i : Int) + 1) = ((i + 1 : Nat) : Int) by omega]
        exact hr
      · rw [he, List.forall_mem_cons]
        exact ⟨fun q1 q2 => q1 q2.2, fun q1 q2 => q1 ⟨ho, q2⟩⟩
    · refine ⟨(i : Int), ?_, ?_⟩
      · rw [decide_eq_false ho]; rfl
      · rw [List.forall_mem_cons]
        exact ⟨fun _ q => ho q.1, fun _ => by omega⟩
def okV (l : List Int) : Prop := l.length ≤ 16 ∧ ∀ x ∈ l, okI x
instance (l : List Int) : Decidable (okV l) := inferInstanceAs (Decidable (_ ∧ _))
theorem vmay_eq (k : Nat) (l : List Int) (hk : 20 ≤ k) : vec_May.f k l = some (decide (okV l)) := by
  unfold vec_May.f
  by_cases h : (l.length : Int) ≤ 16
  · obtain ⟨r, hr, he⟩ := index_l0 l (by omega) l.length k 0 (by omega) (by omega)
    rw [List.drop_zero] at he
    rw [if_pos h]
    unfold slices_ContainsFunc_int_int.f slices_IndexFunc_int_int.f
    rw [show ((0 : Nat) : Int) = 0 from rfl] at hr
    rw [hr]
    simp only [Option.bind_some]
    refine congrArg some ?_
    by_cases h2 : ∀ x ∈ l, okI x
    · rw [decide_eq_false (show ¬ (0 ≤ r) from fun q => he.1 q h2), decide_eq_true (show okV l from ⟨by omega, h2⟩)]; rfl
    · rw [decide_eq_true (he.2 h2), decide_eq_false (show ¬ okV l from fun q => h2 q.2)]; rfl
  · rw [if_neg h, decide_eq_false (show ¬ okV l from fun q => by have := q.1; omega)]
theorem rd_L1_nat (l : List (List Int)) (i : Nat) (h : i < l.length) : rd_L1 l (i : Int) = l[i] := by
  unfold rd_L1; rw [Int.toNat_natCast, List.getD_eq_getElem?_getD, List.getElem?_eq_getElem h]; rfl
theorem alike_l0 (L : List (List Int)) (hL : L.length ≤ 8) (h0 : 0 < L.length) : ∀ (d k i : Nat), i + d = L.length → d + 20 < k →
    vec_Alike.l0 k L L (L.length : Int) (i : Int) = some (decide (∀ r ∈ L.drop i, okV r ∧ r.length = L[0].length)) := by
  intro d
  induction d with
  | zero =>
    intro k i hi hk
    obtain ⟨k, rfl⟩ : ∃ j, k = j + 1 := ⟨k - 1, by omega⟩
    rw [vec_Alike.l0, if_neg (by omega), List.drop_eq_nil_of_le (by omega)]
    simp
  | succ d ih =>
    intro k i hi hk
    obtain ⟨k, rfl⟩ : ∃ j, k = j + 1 := ⟨k - 1, by omega⟩
    have h1 : i < L.length := by omega
    rw [vec_Alike.l0, if_pos (by omega), if_pos (by omega), if_pos (by omega), rd_L1_nat L i h1, vmay_eq k _ (by omega), List.drop_eq_getElem_cons h1]
    by_cases ho : okV L[i]
    · rw [decide_eq_true ho]
      simp only [Option.bind_some, if_true]
      rw [if_pos (by omega), show rd_L1 L 0 = L[0] from rd_L1_nat L 0 h0]
      by_cases hl : L[i].length = L[0].length
      · rw [if_pos (by omega), wrap_id ((i : Int) + 1) (by omega) (by omega), show ((i : Int) + 1) = ((i + 1 : Nat) : Int) by omega, ih k (i + 1) (by omega) (by omega)]
        refine congrArg some (decide_eq_decide.2 ?_)
        rw [List.forall_mem_cons]
        exact ⟨fun q => ⟨⟨ho, hl⟩, q⟩, fun q => q.2⟩
      · rw [if_neg (by omega), decide_eq_false]
        intro q
        exact hl (q _ (List.mem_cons_self)).2
    · rw [decide_eq_false ho]
      simp only [Option.bind_some, Bool.false_eq_true, if_false]
      rw [decide_eq_false]
      intro q
      exact ho (q _ (List.mem_cons_self)).1
theorem cut_eq (x : Int) : fix_Cut.f x = some (cutI x) := by
  unfold fix_Cut.f cutI mn mx
  congr 1
  split <;> split <;> (try split) <;> omega
theorem and_eq (a b : Int) (ha : okI a) (hb : okI b) : fix_And.f a b = some (cutI (a + b)) := by
  unfold okI at ha hb
  unfold fix_And.f; rw [cut_eq, wrap_id _ (by omega) (by omega)]; rfl
def timesI (a b : Int) : Int := cutI (a * b / 65536)
theorem timesI_ok (a b : Int) : okI (timesI a b) := cutI_ok _
theorem timesI_comm (a b : Int) : timesI a b = timesI b a := by unfold timesI; rw [Int.mul_comm]
theorem times_eq (a b : Int) (ha : okI a) (hb : okI b) : fix_Times.f a b = some (timesI a b) := by
  have := mul_okI ha hb
  unfold fix_Times.f; rw [cut_eq, wrap_id _ (by omega) (by omega)]; rfl

def like2 (a b : List Int) : Prop := okV a ∧ okV b ∧ a.length = b.length
instance (a b : List Int) : Decidable (like2 a b) := inferInstanceAs (Decidable (_ ∧ _ ∧ _))
theorem alike2 (k : Nat) (a b : List Int) (hk : 30 ≤ k) : vec_Alike.f k [a, b] = some (decide (like2 a b)) := by
  unfold vec_Alike.f
  have := alike_l0 [a, b] (by simp) (by simp) 2 k 0 rfl (by omega)
  rw [show ((0 : Nat) : Int) = 0 from rfl] at this
  rw [this]
  refine congrArg some (decide_eq_decide.2 ?_)
  rw [List.drop_zero, List.forall_mem_cons, List.forall_mem_cons]
  exact ⟨fun q => ⟨q.1.1, q.2.1.1, q.2.1.2.symm⟩, fun q => ⟨⟨q.1, rfl⟩, ⟨q.2.1, q.2.2.symm⟩, fun x hx => absurd hx List.not_mem_nil⟩⟩

def dotA : Int → List Int → List Int → Int
  | acc, x :: xs, y :: ys => dotA (cutI (acc + timesI x y)) xs ys
  | acc, _, _ => acc
theorem dotA_comm : ∀ (a b : List Int) (acc : Int), dotA acc a b = dotA acc b a
  | [], [], _ => rfl
  | [], _ :: _, _ => rfl
  | _ :: _, [], _ => rfl
  | x :: xs, y :: ys, acc => by rw [dotA, dotA, timesI_comm x y]; exact dotA_comm xs ys _
theorem dotA_ok : ∀ (a b : List Int) (acc : Int), okI acc → okI (dotA acc a b)
  | [], [], _, h => h
  | [], _ :: _, _, h => h
  | _ :: _, [], _, h => h
  | x :: xs, y :: ys, acc, h => by rw [dotA]; exact dotA_ok xs ys _ (cutI_ok _)
theorem sum_l0 (a b : List Int) (ha : ∀ x ∈ a, okI x) (hb : ∀ x ∈ b, okI x) (hl : a.length = b.length) (hn : a.length ≤ 4611686018427387904) : ∀ (d k i : Nat) (acc : Int), i + d = a.length → d < k → okI acc →
    vec_Sum.l0 k b acc a (a.length : Int) (i : Int) = some (dotA acc (a.drop i) (b.drop i)) := by
  intro d
  induction d with
  | zero =>
    intro k i acc hi hk hacc
    obtain ⟨k, rfl⟩ : ∃ j, k = j + 1 := ⟨k - 1, by omega⟩
    rw [vec_Sum.l0, if_neg (by omega), List.drop_eq_nil_of_le (by omega), List.drop_eq_nil_of_le (by omega), dotA]
    simp
  | succ d ih =>
    intro k i acc hi hk hacc
    obtain ⟨k, rfl⟩ : ∃ j, k = j + 1 := ⟨k - 1, by omega⟩
    have h1 : i < a.length := by omega
    have h2 : i < b.length := by omega
    have o1 := ha _ (List.getElem_mem h1)
    have o2 := hb _ (List.getElem_mem h2)
    rw [vec_Sum.l0, if_pos (by omega), if_pos (by omega), if_pos (by omega), if_pos (by omega), rd_nat a i h1, rd_nat b i h2, times_eq _ _ o1 o2]
    simp only [Option.bind_some]
    rw [and_eq _ _ hacc (timesI_ok _ _), List.drop_eq_getElem_cons h1, List.drop_eq_getElem_cons h2, dotA]
    simp only [Option.bind_some]
    rw [wrap_id ((i : Int) + 1) (by omega) (by omega), show ((i : Int) + 1) = ((i + 1 : Nat) : Int) by omega]
    exact ih k (i + 1) _ (by omega) (by omega) (cutI_ok _)
theorem sum_eq (k : Nat) (a b : List Int) (ha : ∀ x ∈ a, okI x) (hb : ∀ x ∈ b, okI x) (hl : a.length = b.length) (hn : a.length ≤ 16) (hk : 20 ≤ k) : vec_Sum.f k a b = some (dotA 0 a b) := by
  have := sum_l0 a b ha hb hl (by omega) a.length k 0 0 (by omega) (by omega) (by decide)
  rw [List.drop_zero, List.drop_zero] at this
  exact this

theorem dot_ok (k : Nat) (a b : List Int) (h : like2 a b) (hk : 30 ≤ k) : vec_Dot.f k a b = some (dotA 0 a b, 0) := by
  unfold vec_Dot.f
  rw [alike2 k a b hk, decide_eq_true h]
  simp only [Option.bind_some, if_true]
  rw [sum_eq k a b h.1.2 h.2.1.2 h.2.2 h.1.1 (by omega)]
  rfl
theorem dot_bad (k : Nat) (a b : List Int) (h : ¬ like2 a b) (hk : 30 ≤ k) : vec_Dot.f k a b = some (0, 400) := by
  unfold vec_Dot.f
  rw [alike2 k a b hk, decide_eq_false h]; simp
def scaleI (c a b : Int) : Int := cutI (a + timesI b c)
def scaleL (c : Int) (a b : List Int) : List Int := List.zipWith (scaleI c) a b
theorem scaleL_len (c : Int) (a b : List Int) (hl : a.length = b.length) : (scaleL c a b).length = a.length := by unfold scaleL; rw [List.length_zipWith]; omega
theorem scaleL_get (c : Int) (a b : List Int) (hl : a.length = b.length) (i : Nat) (h : i < (scaleL c a b).length) (h1 : i < a.length) (h2 : i < b.length) : (scaleL c a b)[i] = scaleI c a[i] b[i] := by
  have : (scaleL c a b)[i]? = some (scaleI c a[i] b[i]) := by
    unfold scaleL
    rw [List.getElem?_zipWith, List.getElem?_eq_getElem h1, List.getElem?_eq_getElem h2]
  rw [List.getElem?_eq_getElem h] at this
  exact Option.some.inj this
theorem scaled_l0 (c : Int) (a b : List Int) (ha : ∀ x ∈ a, okI x) (hb : ∀ x ∈ b, okI x) (hc : okI c) (hl : a.length = b.length) (hn : a.length ≤ 4611686018427387904) : ∀ (d k i : Nat), i + d = b.length → d < k →
    vec_Scaled.l0 k c ((scaleL c a b).take i ++ a.drop i) b (b.length : Int) (i : Int) = some (scaleL c a b, 0) := by
  have hs := scaleL_len c a b hl
  intro d
  induction d with
  | zero =>
    intro k i hi hk
    obtain ⟨k, rfl⟩ : ∃ j, k = j + 1 := ⟨k - 1, by omega⟩
    rw [vec_Scaled.l0, if_neg (by omega), List.drop_eq_nil_of_le (by omega), List.take_of_length_le (by omega), List.append_nil]
  | succ d ih =>
    intro k i hi hk
    obtain ⟨k, rfl⟩ : ∃ j, k = j + 1 := ⟨k - 1, by omega⟩
    have h1 : i < a.length := by omega
    have h2 : i < b.length := by omega
    have h3 : i < (scaleL c a b).length := by omega
    have o1 := ha _ (List.getElem_mem h1)
    have o2 := hb _ (List.getElem_mem h2)
    have ht : ((scaleL c a b).take i).length = i := by rw [List.length_take]; omega
    have hlen : ((scaleL c a b).take i ++ a.drop i).length = a.length := by rw [List.length_append, ht, List.length_drop]; omega
    have hg : rd ((scaleL c a b).take i ++ a.drop i) (i : Int) = a[i] := by
      rw [rd_nat _ i (by omega)]
      have : ((scaleL c a b).take i ++ a.drop i)[i]? = some a[i] := by
        rw [List.getElem?_append_right (by omega), ht, Nat.sub_self, List.getElem?_drop, Nat.add_zero, List.getElem?_eq_getElem h1]
      rw [List.getElem?_eq_getElem (by omega)] at this
      exact Option.some.inj this
    have hset : ((scaleL c a b).take i ++ a.drop i).set i (scaleI c a[i] b[i]) = (scaleL c a b).take (i + 1) ++ a.drop (i + 1) := by
      rw [List.set_append_right _ _ (by omega), ht, Nat.sub_self, List.drop_eq_getElem_cons h1, List.set_cons_zero, List.take_succ_eq_append_getElem h3, scaleL_get c a b hl i h3 h1 h2, List.append_assoc]
      rfl
    rw [vec_Scaled.l0, if_pos (by omega), if_pos (by omega), if_pos (by omega), if_pos (by omega), hg, rd_nat b i h2, times_eq _ _ o2 hc]
    simp only [Option.bind_some]
    rw [and_eq _ _ o1 (timesI_ok _ _)]
    simp only [Option.bind_some]
    rw [Int.toNat_natCast, show cutI (a[i] + timesI b[i] c) = scaleI c a[i] b[i] from rfl, hset, wrap_id ((i : Int) + 1) (by omega) (by omega), show ((i : Int) + 1) = ((i + 1 : Nat) : Int) by omega]
    exact ih k (i + 1) (by omega) (by omega)
theorem scaled_ok (k : Nat) (a b : List Int) (c : Int) (h : like2 a b) (hc : okI c) (hk : 30 ≤ k) : vec_Scaled.f k a b c = some (scaleL c a b, 0) := by
  obtain ⟨k, rfl⟩ : ∃ j, k = j + 1 := ⟨k - 1, by omega⟩
  have hb := h.1.1
  have hl := h.2.2
  unfold vec_Scaled.f
  rw [alike2 (k + 1) a b hk, decide_eq_true h]
  simp only [Option.bind_some, if_true]
  rw [fmay_eq, decide_eq_true hc]
  simp only [Option.bind_some]
  rw [vec_Scaled.j0, if_neg (by decide)]
  unfold slices_Clone_int_int.f
  rw [if_pos (by omega)]
  simp only [Option.bind_some]
  have := scaled_l0 c a b h.1.2 h.2.1.2 hc h.2.2 (by omega) b.length k 0 (by omega) (by omega)
  rw [List.take_zero, List.nil_append, List.drop_zero] at this
  exact this
theorem scaled_bad (k : Nat) (a b : List Int) (c : Int) (h : ¬ (like2 a b ∧ okI c)) (hk : 30 ≤ k) : vec_Scaled.f k a b c = some ([], 400) := by
  obtain ⟨k, rfl⟩ : ∃ j, k = j + 1 := ⟨k - 1, by omega⟩
  unfold vec_Scaled.f
  rw [alike2 (k + 1) a b hk]
  by_cases h1 : like2 a b
  · rw [decide_eq_true h1]
    simp only [Option.bind_some, if_true]
    rw [fmay_eq, decide_eq_false (fun q => h ⟨h1, q⟩)]
    simp only [Option.bind_some]
    rw [vec_Scaled.j0, if_pos (by decide)]
  · rw [decide_eq_false h1]
    simp only [Option.bind_some, Bool.false_eq_true, if_false]
    rw [vec_Scaled.j0, if_pos rfl]
theorem num_eq (x : Int) : grafterlaw0_Num.f x = some x := rfl
theorem vawake_eq (k : Nat) (hk : 40 ≤ k) : grafterlaw4_awake.f k = some true := by
  unfold grafterlaw4_awake.f
  rw [dot_ok k _ _ (by decide) (by omega), scaled_ok k _ _ _ (by decide) (by decide) (by omega), dot_bad k _ _ (by decide) (by omega), scaled_bad k _ _ _ (by decide) (by omega), vmay_eq k _ (by omega), vmay_eq k _ (by omega)]
  rw [show dotA 0 [65536, 131072] [5, -3] = -1 by decide, show scaleL 32768 [1, 2] [131072, 0] = [65537, 2] by decide]
  simp only [Option.bind_some, if_true, num_eq]
  rw [same_eq k _ _ (by simp) (by simp; omega)]
  decide

theorem rfmay_eq (a : Int) : grafterref1_FixMay.f a = some (decide (okI a)) := by
  unfold grafterref1_FixMay.f; rw [upTo_eq]; rfl
theorem rvmay_l0 (l : List Int) (hb : l.length ≤ 4611686018427387904) : ∀ (d k i : Nat), i + d = l.length → d < k →
    grafterref1_VecMay.l0 k l (i : Int) = some (decide ((∀ x ∈ l.drop i, okI x) ∧ l.length ≤ 16)) := by
  intro d
  induction d with
  | zero =>
    intro k i hi hk
    obtain ⟨k, rfl⟩ : ∃ j, k = j + 1 := ⟨k - 1, by omega⟩
    rw [grafterref1_VecMay.l0, if_neg (by omega), List.drop_eq_nil_of_le (by omega)]
    refine congrArg some (decide_eq_decide.2 ?_)
    simp
    omega
  | succ d ih =>
    intro k i hi hk
    obtain ⟨k, rfl⟩ : ∃ j, k = j + 1 := ⟨k - 1, by omega⟩
    have h1 : i < l.length := by omega
    rw [grafterref1_VecMay.l0, if_pos (by omega), if_pos (by omega), rd_nat l i h1, rfmay_eq, List.drop_eq_getElem_cons h1]
    by_cases ho : okI l[i]
    · rw [decide_eq_true ho]
      simp only [Option.bind_some, if_true]
      rw [wrap_id ((i : Int) + 1) (by omega) (by omega), show ((i : Int) + 1) = ((i + 1 : Nat) : Int) by omega, ih k (i + 1) (by omega) (by omega)]
      refine congrArg some (decide_eq_decide.2 ?_)
      rw [List.forall_mem_cons]
      exact ⟨fun q => ⟨⟨ho, q.1⟩, q.2⟩, fun q => ⟨q.1.2, q.2⟩⟩
    · rw [decide_eq_false ho]
      simp only [Option.bind_some, Bool.false_eq_true, if_false]
      rw [decide_eq_false]
      exact fun q => ho (q.1 _ List.mem_cons_self)
theorem rvmay_eq (k : Nat) (l : List Int) (hb : l.length ≤ 4611686018427387904) (hk : l.length < k) : grafterref1_VecMay.f k l = some (decide (okV l)) := by
  have := rvmay_l0 l hb l.length k 0 (by omega) hk
  rw [List.drop_zero] at this
  unfold grafterref1_VecMay.f
  rw [show (0 : Int) = ((0 : Nat) : Int) from rfl, this]
  refine congrArg some (decide_eq_decide.2 ?_)
  exact ⟨fun h => ⟨h.2, h.1⟩, fun h => ⟨h.2, h.1⟩⟩

theorem within_eq (x : Int) : grafterref1_Within.f x (-1073741824) 1073741824 = some (cutI x) := by
  unfold grafterref1_Within.f cutI mn mx
  congr 1
  split <;> split <;> (try split) <;> omega
theorem rplus_eq (a b : Int) (ha : okI a) (hb : okI b) : grafterref1_Plus.f a b = some (cutI (a + b)) := by
  unfold okI at ha hb
  unfold grafterref1_Plus.f; rw [within_eq, wrap_id _ (by omega) (by omega)]; rfl
theorem rtimes_eq (a b : Int) (ha : okI a) (hb : okI b) : grafterref1_Times.f a b = some (timesI a b) := by
  have := mul_okI ha hb
  unfold grafterref1_Times.f; rw [within_eq, wrap_id _ (by omega) (by omega)]; rfl

theorem rdot_l0 (a b : List Int) (ha : ∀ x ∈ a, okI x) (hb : ∀ x ∈ b, okI x) (hl : a.length = b.length) (hn : a.length ≤ 4611686018427387904) : ∀ (d k i : Nat) (acc : Int), i + d = a.length → d < k → okI acc →
    grafterref1_Dot.l0 k a b acc (i : Int) = some (dotA acc (a.drop i) (b.drop i), 0) := by
  intro d
  induction d with
  | zero =>
    intro k i acc hi hk hacc
    obtain ⟨k, rfl⟩ : ∃ j, k = j + 1 := ⟨k - 1, by omega⟩
    rw [grafterref1_Dot.l0, if_neg (by omega), List.drop_eq_nil_of_le (by omega), List.drop_eq_nil_of_le (by omega), dotA]
    simp
  | succ d ih =>
    intro k i acc hi hk hacc
    obtain ⟨k, rfl⟩ : ∃ j, k = j + 1 := ⟨k - 1, by omega⟩
    have h1 : i < a.length := by omega
    have h2 : i < b.length := by omega
    have o1 := ha _ (List.getElem_mem h1)
    have o2 := hb _ (List.getElem_mem h2)
    rw [grafterref1_Dot.l0, if_pos (by omega), if_pos (by omega), if_pos (by omega), rd_nat a i h1, rd_nat b i h2, rtimes_eq _ _ o1 o2, Option.bind_some, rplus_eq _ _ hacc (timesI_ok _ _), Option.bind_some, List.drop_eq_getElem_cons h1, List.drop_eq_getElem_cons h2, dotA]
    rw [wrap_id ((i : Int) + 1) (by omega) (by omega), show ((i : Int) + 1) = ((i + 1 : Nat) : Int) by omega]
    exact ih k (i + 1) _ (by omega) (by omega) (cutI_ok _)
theorem rdot_ok (k : Nat) (a b : List Int) (h : like2 a b) (hk : 40 ≤ k) : grafterref1_Dot.f k a b = some (dotA 0 a b, 0) := by
  obtain ⟨k, rfl⟩ : ∃ j, k = j + 1 := ⟨k - 1, by omega⟩
  have h1 := h.1.1
  have h2 := h.2.1.1
  unfold grafterref1_Dot.f
  rw [rvmay_eq (k + 1) a (by omega) (by omega), decide_eq_true h.1, Option.bind_some, if_pos rfl, rvmay_eq (k + 1) b (by omega) (by omega), decide_eq_true h.2.1, Option.bind_some, if_pos rfl, show ((a.length : Int) != (b.length : Int)) = false by rw [h.2.2]; exact bne_self_eq_false _, grafterref1_Dot.j0, if_neg (by decide)]
  have := rdot_l0 a b h.1.2 h.2.1.2 h.2.2 (by omega) a.length k 0 0 (by omega) (by omega) (by decide)
  rw [List.drop_zero, List.drop_zero] at this
  exact this
theorem rdot_bad (k : Nat) (a b : List Int) (h : ¬ like2 a b) (ha : a.length ≤ 4611686018427387904) (hb : b.length ≤ 4611686018427387904) (hk : 1 ≤ k) (hka : a.length < k) (hkb : b.length < k) : grafterref1_Dot.f k a b = some (0, 400) := by
  obtain ⟨k, rfl⟩ : ∃ j, k = j + 1 := ⟨k - 1, by omega⟩
  unfold grafterref1_Dot.f
  rw [rvmay_eq (k + 1) a ha hka, Option.bind_some]
  by_cases h1 : okV a
  · rw [decide_eq_true h1, if_pos rfl, rvmay_eq (k + 1) b hb hkb, Option.bind_some]
    by_cases h2 : okV b
    · rw [decide_eq_true h2, if_pos rfl, show ((a.length : Int) != (b.length : Int)) = true from bne_iff_ne.2 (fun q => h ⟨h1, h2, by omega⟩), grafterref1_Dot.j0, if_pos rfl]
    · rw [decide_eq_false h2, if_neg (by decide), grafterref1_Dot.j0, if_pos rfl]
  · rw [decide_eq_false h1, if_neg (by decide), grafterref1_Dot.j0, if_pos rfl]

theorem rscaled_l0 (c : Int) (a b : List Int) (ha : ∀ x ∈ a, okI x) (hb : ∀ x ∈ b, okI x) (hc : okI c) (hl : a.length = b.length) (hn : a.length ≤ 16) : ∀ (d k i : Nat), i + d = a.length → d < k →
    grafterref1_Scaled.l0 k a b c ((scaleL c a b).take i) (i : Int) = some (scaleL c a b, 0) := by
  have hs := scaleL_len c a b hl
  intro d
  induction d with
  | zero =>
    intro k i hi hk
    obtain ⟨k, rfl⟩ : ∃ j, k = j + 1 := ⟨k - 1, by omega⟩
    rw [grafterref1_Scaled.l0, if_neg (by omega), List.take_of_length_le (by omega)]
  | succ d ih =>
    intro k i hi hk
    obtain ⟨k, rfl⟩ : ∃ j, k = j + 1 := ⟨k - 1, by omega⟩
    have h1 : i < a.length := by omega
    have h2 : i < b.length := by omega
    have h3 : i < (scaleL c a b).length := by omega
    have o1 := ha _ (List.getElem_mem h1)
    have o2 := hb _ (List.getElem_mem h2)
    have e := scaleL_get c a b hl i h3 h1 h2
    rw [grafterref1_Scaled.l0, if_pos (by omega), if_pos (by omega), if_pos (by omega), rd_nat a i h1, rd_nat b i h2, rtimes_eq _ _ o2 hc, Option.bind_some, rplus_eq _ _ o1 (timesI_ok _ _), Option.bind_some, if_pos (by rw [List.length_take]; omega)]
    rw [show cutI (a[i] + timesI b[i] c) = (scaleL c a b)[i] from e.symm, show (scaleL c a b).take i ++ [(scaleL c a b)[i]] = (scaleL c a b).take (i + 1) from (List.take_succ_eq_append_getElem h3).symm]
    rw [wrap_id ((i : Int) + 1) (by omega) (by omega), show ((i : Int) + 1) = ((i + 1 : Nat) : Int) by omega]
    exact ih k (i + 1) (by omega) (by omega)
theorem rscaled_ok (k : Nat) (a b : List Int) (c : Int) (h : like2 a b) (hc : okI c) (hk : 40 ≤ k) : grafterref1_Scaled.f k a b c = some (scaleL c a b, 0) := by
  obtain ⟨k, rfl⟩ : ∃ j, k = j + 1 := ⟨k - 1, by omega⟩
  have h1 := h.1.1
  have h2 := h.2.1.1
  have h3 := h.2.2
  unfold grafterref1_Scaled.f
  rw [rvmay_eq (k + 1) a (by omega) (by omega), decide_eq_true h.1, Option.bind_some, if_pos rfl, rvmay_eq (k + 1) b (by omega) (by omega), decide_eq_true h.2.1, Option.bind_some, if_pos rfl, if_pos (by omega), rfmay_eq, decide_eq_true hc, Option.bind_some, grafterref1_Scaled.j0, if_neg (by decide)]
  have := rscaled_l0 c a b h.1.2 h.2.1.2 hc h.2.2 h1 a.length k 0 (by omega) (by omega)
  rw [List.take_zero] at this
  exact this
theorem rscaled_bad (k : Nat) (a b : List Int) (c : Int) (h : ¬ (like2 a b ∧ okI c)) (ha : a.length ≤ 4611686018427387904) (hb : b.length ≤ 4611686018427387904) (hk : 1 ≤ k) (hka : a.length < k) (hkb : b.length < k) : grafterref1_Scaled.f k a b c = some ([], 400) := by
  obtain ⟨k, rfl⟩ : ∃ j, k = j + 1 := ⟨k - 1, by omega⟩
  unfold grafterref1_Scaled.f
  rw [rvmay_eq (k + 1) a ha hka, Option.bind_some]
  by_cases h1 : okV a
  · rw [decide_eq_true h1, if_pos rfl, rvmay_eq (k + 1) b hb hkb, Option.bind_some]
    by_cases h2 : okV b
    · rw [decide_eq_true h2, if_pos rfl]
      by_cases h3 : (a.length : Int) = (b.length : Int)
      · rw [if_pos h3, rfmay_eq, decide_eq_false (fun q => h ⟨⟨h1, h2, by omega⟩, q⟩), Option.bind_some, grafterref1_Scaled.j0, if_pos (by decide)]
      · rw [if_neg h3, grafterref1_Scaled.j0, if_pos rfl]
    · rw [decide_eq_false h2, if_neg (by decide), grafterref1_Scaled.j0, if_pos rfl]
  · rw [decide_eq_false h1, if_neg (by decide), grafterref1_Scaled.j0, if_pos rfl]

theorem spoil_l0 : ∀ (d k i : Nat) (l : List Int), l.length ≤ 4611686018427387904 → i + d = l.length → d < k → ∃ r, grafterlaw0_SpoilInts.l0 k l (i : Int) = some r := by
  intro d
  induction d with
  | zero =>
    intro k i l hb hi hk
    obtain ⟨k, rfl⟩ : ∃ j, k = j + 1 := ⟨k - 1, by omega⟩
    exact ⟨l, by rw [grafterlaw0_SpoilInts.l0, if_neg (by omega)]⟩
  | succ d ih =>
    intro k i l hb hi hk
    obtain ⟨k, rfl⟩ : ∃ j, k = j + 1 := ⟨k - 1, by omega⟩
    rw [grafterlaw0_SpoilInts.l0, if_pos (by omega), if_pos (by omega), wrap_id ((i : Int) + 1) (by omega) (by omega), show ((i : Int) + 1) = ((i + 1 : Nat) : Int) by omega]
    exact ih k (i + 1) _ (by rw [List.length_set]; exact hb) (by rw [List.length_set]; omega) (by omega)
theorem spoil_any (k : Nat) (l : List Int) (hb : l.length ≤ 4611686018427387904) (hk : l.length < k) : ∃ r, grafterlaw0_SpoilInts.f k l = some r :=
  spoil_l0 l.length k 0 l hb (by omega) hk

theorem lend_eq (l : List Int) (h : l.length * 8 ≤ 140737488351232) : grafterlaw0_LendInts.f l = some (l ++ [-7777, -8888]) := by
  unfold grafterlaw0_LendInts.f grafterlaw0_CopyInts.f
  rw [Option.bind_some, if_pos (by rw [List.length_nil]; omega), Option.bind_some, List.nil_append, Option.bind_some, if_pos (by rw [List.length_cons, List.length_cons, List.length_nil]; omega)]
theorem spare_take (l : List Int) : (l ++ [-7777, -8888]).take ((l ++ [-7777, -8888]).length - 2) = l := by
  rw [List.length_append, show ([-7777, -8888] : List Int).length = 2 from rfl, Nat.add_sub_cancel]; exact List.take_left
theorem kept_eq (k : Nat) (l : List Int) (hb : l.length ≤ 4611686018427387904) (hk : l.length < k) : grafterlaw0_KeptInts.f k (l ++ [-7777, -8888]) l = some true := by
  unfold grafterlaw0_KeptInts.f
  have hl : (l ++ [-7777, -8888]).length = l.length + 2 := by rw [List.length_append]; rfl
  have g1 : (l ++ [-7777, -8888])[l.length]? = some (-7777) := by rw [List.getElem?_append_right (Nat.le_refl _), Nat.sub_self]; rfl
  have g2 : (l ++ [-7777, -8888])[l.length + 1]? = some (-8888) := by rw [List.getElem?_append_right (by omega), Nat.add_sub_cancel_left]; rfl
  have r1 : rd (l ++ [-7777, -8888]) (l.length : Int) = -7777 := by unfold rd; rw [Int.toNat_natCast, List.getD_eq_getElem?_getD, g1]; rfl
  have r2 : rd (l ++ [-7777, -8888]) ((l.length : Int) + 1) = -8888 := by unfold rd; rw [show ((l.length : Int) + 1).toNat = l.length + 1 by omega, List.getD_eq_getElem?_getD, g2]; rfl
  rw [if_pos (by omega), spare_take, same_eq k l l hb hk, Option.bind_some, r1, r2, decide_eq_true rfl]
  rfl

theorem dots_both (k : Nat) (a b : List Int) (ha : a.length ≤ 4611686018427387904) (hb : b.length ≤ 4611686018427387904) (hk : 40 ≤ k) (hka : a.length < k) (hkb : b.length < k) : ∃ x e, vec_Dot.f k a b = some (x, e) ∧ grafterref1_Dot.f k a b = some (x, e) := by
  by_cases h : like2 a b
  · exact ⟨_, _, dot_ok k a b h (by omega), rdot_ok k a b h hk⟩
  · exact ⟨_, _, dot_bad k a b h (by omega), rdot_bad k a b h ha hb (by omega) hka hkb⟩
theorem scaleds_both (k : Nat) (a b : List Int) (c : Int) (ha : a.length ≤ 4611686018427387904) (hb : b.length ≤ 4611686018427387904) (hk : 40 ≤ k) (hka : a.length < k) (hkb : b.length < k) : ∃ x e, x.length ≤ 16 ∧ vec_Scaled.f k a b c = some (x, e) ∧ grafterref1_Scaled.f k a b c = some (x, e) := by
  by_cases h : like2 a b ∧ okI c
  · exact ⟨_, _, by rw [scaleL_len c a b h.1.2.2]; exact h.1.1.1, scaled_ok k a b c h.1 h.2 (by omega), rscaled_ok k a b c h.1 h.2 hk⟩
  · exact ⟨_, _, by simp, scaled_bad k a b c h (by omega), rscaled_bad k a b c h ha hb (by omega) hka hkb⟩
theorem Vecs_at (a b : List Int) (c : Int) (ha : a.length * 8 ≤ 140737488351232) (hb : b.length * 8 ≤ 140737488351232) : grafterlaw4_Vecs.f (a.length + b.length + 99 + 1) a b c = some true := by
  obtain ⟨k, hk⟩ : ∃ k, a.length + b.length + 99 = k := ⟨_, rfl⟩
  obtain ⟨x, e, h1, h2⟩ := dots_both (k + 1) a b (by omega) (by omega) (by omega) (by omega) (by omega)
  obtain ⟨y, f, h5, h3, h4⟩ := scaleds_both (k + 1) a b c (by omega) (by omega) (by omega) (by omega) (by omega)
  obtain ⟨s, hs⟩ := spoil_any k y (by omega) (by omega)
  rw [hk]
  unfold grafterlaw4_Vecs.f vec_Dot_lent.f vec_Scaled_lent.f vec_May_lent.f
  rw [lend_eq a ha, Option.bind_some, lend_eq b hb, Option.bind_some, spare_take, spare_take, h1, h2, h3, h4]
  simp only [Option.bind_some]
  rw [if_pos trivial, num_eq, Option.bind_some, if_pos rfl, same_eq (k + 1) y y (by omega) (by omega), decide_eq_true rfl, Option.bind_some, if_pos rfl, num_eq, Option.bind_some, if_pos rfl, vmay_eq (k + 1) a (by omega), rvmay_eq (k + 1) a (by omega) (by omega), Option.bind_some, Option.bind_some, Option.bind_some, bne_self_eq_false]
  rw [grafterlaw4_Vecs.j0, if_neg (by decide), hs, Option.bind_some, kept_eq k a (by omega) (by omega), Option.bind_some, if_pos rfl, kept_eq k b (by omega) (by omega), Option.bind_some, if_pos rfl, vawake_eq k (by omega)]
  rfl
theorem Vecs : grafterlaw4_Vecs.Pure := fun a b c _ ha _ _ hb _ _ => ⟨_, Vecs_at a b c ha hb⟩

end Go.Proofs.Ytbhkmgidokonkaa.Pure
