/- P8.1, R4: for every three rows and hyper, of any int values, Step of package optim answers what the document's reference answers, and what was lent stays. No condition. -/
import Derived.Test.YtbhkmgidokonkaaPOptimsx6
import Derived.Test.YtbhkmgidokonkaaHelp
import Derived.Test.YtbhkmgidokonkaaHelpDraw
namespace Go.Proofs.Ytbhkmgidokonkaa.Pure
open Go.RowKit Go.Proofs.Ytbhkmgidokonkaa Go.Proofs.Ytbhkmgidokonkaa.POptims Go.Proofs.YtbhkmgidokonkaaW.PrintWords Go.Proofs.YtbhkmgidokonkaaW.PrintLast Go.Proofs.YtbhkmgidokonkaaW.PrintMore
set_option linter.unusedVariables false
set_option linter.unusedSimpArgs false

theorem upTo_eq (a b c : Int) : grafterref1_upTo.f a b c = some (decide (b ≤ a ∧ a ≤ c)) := by
  unfold grafterref1_upTo.f
  by_cases h : a ≥ b
  · rw [if_pos h]; refine congrArg some (decide_eq_decide.2 ?_); omega
  · rw [if_neg h]; refine congrArg some (Eq.symm (decide_eq_false ?_)); omega

theorem rd_nat (l : List Int) (i : Nat) (h : i < l.length) : rd l (i : Int) = l[i] := by
  unfold rd; rw [Int.toNat_natCast, List.getD_eq_getElem?_getD, List.getElem?_eq_getElem h]; rfl
theorem same_l0 (l m : List Int) (hl : l.length = m.length) (hb : l.length ≤ 4611686018427387904) : ∀ (d k i : Nat), i + d = l.length → d < k →
    grafterlaw0_SameInts.l0 k l m (i : Int) = some (decide (l.drop i = m.drop i)) := by
  intro d
  induction d with
  | zero =>
    intro k i hi hk
    obtain ⟨k, rfl⟩ : ∃ j, k = j + 1 := ⟨k - 1, by omega⟩
    rw [grafterlaw0_SameInts.l0, if_neg (by omega), List.drop_eq_nil_of_le (by omega), List.drop_eq_nil_of_le (by omega)]
    rfl
  | succ d ih =>
    intro k i hi hk
    obtain ⟨k, rfl⟩ : ∃ j, k = j + 1 := ⟨k - 1, by omega⟩
    have h1 : i < l.length := by omega
    have h2 : i < m.length := by omega
    rw [grafterlaw0_SameInts.l0, if_pos (by omega), if_pos (by omega), if_pos (by omega), rd_nat l i h1, rd_nat m i h2]
    rw [List.drop_eq_getElem_cons h1, List.drop_eq_getElem_cons h2]
    by_cases e : l[i] = m[i]
    · rw [if_pos e, wrap_id _ (by omega) (by omega), show ((i : Int) + 1) = ((i + 1 : Nat) : Int) by omega, ih k (i + 1) (by omega) (by omega)]
      refine congrArg some (decide_eq_decide.2 ?_)
      rw [List.cons.injEq]
      exact ⟨fun h => ⟨e, h⟩, fun h => h.2⟩
    · rw [if_neg e, decide_eq_false]
      rw [List.cons.injEq]
      exact fun h => e h.1
theorem same_eq (k : Nat) (l m : List Int) (hb : l.length ≤ 4611686018427387904) (hk : l.length < k) : grafterlaw0_SameInts.f k l m = some (decide (l = m)) := by
  unfold grafterlaw0_SameInts.f
  by_cases h : (l.length : Int) = (m.length : Int)
  · rw [if_pos h]
    have := same_l0 l m (by omega) hb l.length k 0 (by omega) hk
    simpa using this
  · rw [if_neg h, decide_eq_false]
    rintro rfl
    exact h rfl

theorem fmay_eq (a : Int) : fix_May.f a = some (decide (okI a)) := by
  unfold fix_May.f okI
  by_cases h : a ≥ -1073741824
  · rw [if_pos h]; refine congrArg some (decide_eq_decide.2 ?_); omega
  · rw [if_neg h]; refine congrArg some (Eq.symm (decide_eq_false ?_)); omega
theorem index_l0 (l : List Int) (hb : l.length ≤ 4611686018427387904) : ∀ (d k i : Nat), i + d = l.length → d < k →
    ∃ r, slices_IndexFunc_int_int.l0 k l (l.length : Int) (i : Int) = some r ∧ (0 ≤ r ↔ ¬ ∀ x ∈ l.drop i, okI x) := by
  intro d
  induction d with
  | zero =>
    intro k i hi hk
    obtain ⟨k, rfl⟩ : ∃ j, k = j + 1 := ⟨k - 1, by omega⟩
    refine ⟨-1, by rw [slices_IndexFunc_int_int.l0, if_neg (by omega)], ?_⟩
    rw [List.drop_eq_nil_of_le (by omega)]
    simp
  | succ d ih =>
    intro k i hi hk
    obtain ⟨k, rfl⟩ : ∃ j, k = j + 1 := ⟨k - 1, by omega⟩
    have h1 : i < l.length := by omega
    obtain ⟨r, hr, he⟩ := ih k (i + 1) (by omega) (by omega)
    rw [slices_IndexFunc_int_int.l0, if_pos (by omega), if_pos (by omega), if_pos (by omega), rd_nat l i h1]
    unfold vec_May_1.f
    rw [fmay_eq, List.drop_eq_getElem_cons h1]
    by_cases ho : okI l[i]
    · refine ⟨r, ?_, ?_⟩
      · rw [decide_eq_true ho, wrap_id ((i : Int) + 1) (by omega) (by omega), show ((i : Int) + 1) = ((i + 1 : Nat) : Int) by omega]
        exact hr
      · rw [he, List.forall_mem_cons]
        exact ⟨fun q1 q2 => q1 q2.2, fun q1 q2 => q1 ⟨ho, q2⟩⟩
    · refine ⟨(i : Int), ?_, ?_⟩
      · rw [decide_eq_false ho]; rfl
      · rw [List.forall_mem_cons]
        exact ⟨fun _ q => ho q.1, fun _ => by omega⟩
def okV (l : List Int) : Prop := l.length ≤ 16 ∧ ∀ x ∈ l, okI x
instance (l : List Int) : Decidable (okV l) := inferInstanceAs (Decidable (_ ∧ _))
theorem vmay_eq (k : Nat) (l : List Int) (hk : 20 ≤ k) : vec_May.f k l = some (decide (okV l)) := by
  unfold vec_May.f
  by_cases h : (l.length : Int) ≤ 16
  · obtain ⟨r, hr, he⟩ := index_l0 l (by omega) l.length k 0 (by omega) (by omega)
    rw [List.drop_zero] at he
    rw [if_pos h]
    unfold slices_ContainsFunc_int_int.f slices_IndexFunc_int_int.f
    rw [show ((0 : Nat) : Int) = 0 from rfl] at hr
    rw [hr]
    simp only [Option.bind_some]
    refine congrArg some ?_
    by_cases h2 : ∀ x ∈ l, okI x
    · rw [decide_eq_false (show ¬ (0 ≤ r) from fun q => he.1 q h2), decide_eq_true (show okV l from ⟨by omega, h2⟩)]; rfl
    · rw [decide_eq_true (he.2 h2), decide_eq_false (show ¬ okV l from fun q => h2 q.2)]; rfl
  · rw [if_neg h, decide_eq_false (show ¬ okV l from fun q => by have := q.1; omega)]
theorem rd_L1_nat (l : List (List Int)) (i : Nat) (h : i < l.length) : rd_L1 l (i : Int) = l[i] := by
  unfold rd_L1; rw [Int.toNat_natCast, List.getD_eq_getElem?_getD, List.getElem?_eq_getElem h]; rfl
theorem alike_l0 (L : List (List Int)) (hL : L.length ≤ 8) (h0 : 0 < L.length) : ∀ (d k i : Nat), i + d = L.length → d + 20 < k →
    vec_Alike.l0 k L L (L.length : Int) (i : Int) = some (decide (∀ r ∈ L.drop i, okV r ∧ r.length = L[0].length)) := by
  intro d
  induction d with
  | zero =>
    intro k i hi hk
    obtain ⟨k, rfl⟩ : ∃ j, k = j + 1 := ⟨k - 1, by omega⟩
    rw [vec_Alike.l0, if_neg (by omega), List.drop_eq_nil_of_le (by omega)]
    simp
  | succ d ih =>
    intro k i hi hk
    obtain ⟨k, rfl⟩ : ∃ j, k = j + 1 := ⟨k - 1, by omega⟩
    have h1 : i < L.length := by omega
    rw [vec_Alike.l0, if_pos (by omega), if_pos (by omega), if_pos (by omega), rd_L1_nat L i h1, vmay_eq k _ (by omega), List.drop_eq_getElem_cons h1]
    by_cases ho : okV L[i]
    · rw [decide_eq_true ho]
      simp only [Option.bind_some, if_true]
      rw [if_pos (by omega), show rd_L1 L 0 = L[0] from rd_L1_nat L 0 h0]
      by_cases hl : L[i].length = L[0].length
      · rw [if_pos (by omega), wrap_id ((i : Int) + 1) (by omega) (by omega), show ((i : Int) + 1) = ((i + 1 : Nat) : Int) by omega, ih k (i + 1) (by omega) (by omega)]
        refine congrArg some (decide_eq_decide.2 ?_)
        rw [List.forall_mem_cons]
        exact ⟨fun q => ⟨⟨ho, hl⟩, q⟩, fun q => q.2⟩
      · rw [if_neg (by omega), decide_eq_false]
        intro q
        exact hl (q _ (List.mem_cons_self)).2
    · rw [decide_eq_false ho]
      simp only [Option.bind_some, Bool.false_eq_true, if_false]
      rw [decide_eq_false]
      intro q
      exact ho (q _ (List.mem_cons_self)).1
theorem cut_eq (x : Int) : fix_Cut.f x = some (cutI x) := by
  unfold fix_Cut.f cutI mn mx
  congr 1
  split <;> split <;> (try split) <;> omega
theorem and_eq (a b : Int) (ha : okI a) (hb : okI b) : fix_And.f a b = some (cutI (a + b)) := by
  unfold okI at ha hb
  unfold fix_And.f; rw [cut_eq, wrap_id _ (by omega) (by omega)]; rfl
def timesI (a b : Int) : Int := cutI (a * b / 65536)
theorem timesI_ok (a b : Int) : okI (timesI a b) := cutI_ok _
theorem timesI_comm (a b : Int) : timesI a b = timesI b a := by unfold timesI; rw [Int.mul_comm]
theorem times_eq (a b : Int) (ha : okI a) (hb : okI b) : fix_Times.f a b = some (timesI a b) := by
  have := mul_okI ha hb
  unfold fix_Times.f; rw [cut_eq, wrap_id _ (by omega) (by omega)]; rfl

theorem rfmay_eq (a : Int) : grafterref1_FixMay.f a = some (decide (okI a)) := by
  unfold grafterref1_FixMay.f; rw [upTo_eq]; rfl
theorem rvmay_l0 (l : List Int) (hb : l.length ≤ 4611686018427387904) : ∀ (d k i : Nat), i + d = l.length → d < k →
    grafterref1_VecMay.l0 k l (i : Int) = some (decide ((∀ x ∈ l.drop i, okI x) ∧ l.length ≤ 16)) := by
  intro d
  induction d with
  | zero =>
    intro k i hi hk
    obtain ⟨k, rfl⟩ : ∃ j, k = j + 1 := ⟨k - 1, by omega⟩
    rw [grafterref1_VecMay.l0, if_neg (by omega), List.drop_eq_nil_of_le (by omega)]
    refine congrArg some (decide_eq_decide.2 ?_)
    simp
    omega
  | succ d ih =>
    intro k i hi hk
    obtain ⟨k, rfl⟩ : ∃ j, k = j + 1 := ⟨k - 1, by omega⟩
    have h1 : i < l.length := by omega
    rw [grafterref1_VecMay.l0, if_pos (by omega), if_pos (by omega), rd_nat l i h1, rfmay_eq, List.drop_eq_getElem_cons h1]
    by_cases ho : okI l[i]
    · rw [decide_eq_true ho]
      simp only [Option.bind_some, if_true]
      rw [wrap_id ((i : Int) + 1) (by omega) (by omega), show ((i : Int) + 1) = ((i + 1 : Nat) : Int) by omega, ih k (i + 1) (by omega) (by omega)]
      refine congrArg some (decide_eq_decide.2 ?_)
      rw [List.forall_mem_cons]
      exact ⟨fun q => ⟨⟨ho, q.1⟩, q.2⟩, fun q => ⟨q.1.2, q.2⟩⟩
    · rw [decide_eq_false ho]
      simp only [Option.bind_some, Bool.false_eq_true, if_false]
      rw [decide_eq_false]
      exact fun q => ho (q.1 _ List.mem_cons_self)
theorem rvmay_eq (k : Nat) (l : List Int) (hb : l.length ≤ 4611686018427387904) (hk : l.length < k) : grafterref1_VecMay.f k l = some (decide (okV l)) := by
  have := rvmay_l0 l hb l.length k 0 (by omega) hk
  rw [List.drop_zero] at this
  unfold grafterref1_VecMay.f
  rw [show (0 : Int) = ((0 : Nat) : Int) from rfl, this]
  refine congrArg some (decide_eq_decide.2 ?_)
  exact ⟨fun h => ⟨h.2, h.1⟩, fun h => ⟨h.2, h.1⟩⟩

theorem within_eq (x : Int) : grafterref1_Within.f x (-1073741824) 1073741824 = some (cutI x) := by
  unfold grafterref1_Within.f cutI mn mx
  congr 1
  split <;> split <;> (try split) <;> omega
theorem rplus_eq (a b : Int) (ha : okI a) (hb : okI b) : grafterref1_Plus.f a b = some (cutI (a + b)) := by
  unfold okI at ha hb
  unfold grafterref1_Plus.f; rw [within_eq, wrap_id _ (by omega) (by omega)]; rfl
theorem rtimes_eq (a b : Int) (ha : okI a) (hb : okI b) : grafterref1_Times.f a b = some (timesI a b) := by
  have := mul_okI ha hb
  unfold grafterref1_Times.f; rw [within_eq, wrap_id _ (by omega) (by omega)]; rfl

def like3 (a b c : List Int) : Prop := okV a ∧ okV b ∧ okV c ∧ a.length = b.length ∧ a.length = c.length
instance (a b c : List Int) : Decidable (like3 a b c) := inferInstanceAs (Decidable (_ ∧ _ ∧ _ ∧ _ ∧ _))
theorem alike3 (k : Nat) (a b c : List Int) (hk : 30 ≤ k) : vec_Alike.f k [a, b, c] = some (decide (like3 a b c)) := by
  unfold vec_Alike.f
  have := alike_l0 [a, b, c] (by simp) (by simp) 3 k 0 rfl (by omega)
  rw [show ((0 : Nat) : Int) = 0 from rfl] at this
  rw [this]
  refine congrArg some (decide_eq_decide.2 ?_)
  rw [List.drop_zero, List.forall_mem_cons, List.forall_mem_cons, List.forall_mem_cons]
  exact ⟨fun q => ⟨q.1.1, q.2.1.1, q.2.2.1.1, q.2.1.2.symm, q.2.2.1.2.symm⟩, fun q => ⟨⟨q.1, rfl⟩, ⟨q.2.1, q.2.2.2.1.symm⟩, ⟨q.2.2.1, q.2.2.2.2.symm⟩, fun x hx => absurd hx List.not_mem_nil⟩⟩
def okHyper (r m : Int) : Prop := (64 ≤ r ∧ r ≤ 16384) ∧ (0 ≤ m ∧ m ≤ 58982)
instance (a b : Int) : Decidable (okHyper a b) := inferInstanceAs (Decidable (_ ∧ _))
theorem omay_eq (a b : Int) : optim_May.f a b = some (decide (okHyper a b)) := by
  unfold optim_May.f okHyper
  by_cases h1 : a ≥ 64
  · rw [if_pos h1]
    by_cases h2 : a ≤ 16384
    · rw [if_pos h2]
      by_cases h3 : b ≥ 0
      · rw [if_pos h3]; refine congrArg some (decide_eq_decide.2 ?_); omega
      · rw [if_neg h3]; refine congrArg some (Eq.symm (decide_eq_false ?_)); omega
    · rw [if_neg h2]; refine congrArg some (Eq.symm (decide_eq_false ?_)); omega
  · rw [if_neg h1]; refine congrArg some (Eq.symm (decide_eq_false ?_)); omega
theorem okHyper_ok {r m : Int} (h : okHyper r m) : okI r ∧ okI m := by unfold okHyper at h; unfold okI; omega
def speedI (m v g : Int) : Int := cutI (timesI v m + g)
def nextI (r w s : Int) : Int := cutI (w + -timesI r s)
def speedL (m : Int) (vs gs : List Int) : List Int := List.zipWith (speedI m) vs gs
def nextL (r : Int) (ws ss : List Int) : List Int := List.zipWith (nextI r) ws ss
theorem zip_get {f : Int → Int → Int} {a b : List Int} {i : Nat} (h : i < (List.zipWith f a b).length) (h1 : i < a.length) (h2 : i < b.length) : (List.zipWith f a b)[i] = f a[i] b[i] := by
  have : (List.zipWith f a b)[i]? = some (f a[i] b[i]) := by
    rw [List.getElem?_zipWith, List.getElem?_eq_getElem h1, List.getElem?_eq_getElem h2]
  rw [List.getElem?_eq_getElem h] at this
  exact Option.some.inj this
theorem fill_set (z : List Int) (i d : Nat) (h : i < z.length) : (z.take i ++ List.replicate (d + 1) 0).set i z[i] = z.take (i + 1) ++ List.replicate d 0 := by
  have ht : (z.take i).length = i := by rw [List.length_take]; omega
  rw [List.set_append_right _ _ (by omega), ht, Nat.sub_self, List.replicate_succ, List.set_cons_zero, List.take_succ_eq_append_getElem h, List.append_assoc]
  rfl
theorem fill_len (z : List Int) (i d : Nat) (h : i + d = z.length) : (z.take i ++ List.replicate d 0).length = z.length := by
  rw [List.length_append, List.length_take, List.length_replicate]; omega
theorem fill_get (z : List Int) (i d : Nat) (h : i < z.length) : rd (z.take (i + 1) ++ List.replicate d 0) (i : Int) = z[i] := by
  have ht : (z.take (i + 1)).length = i + 1 := by rw [List.length_take]; omega
  rw [rd_nat _ i (by rw [List.length_append, ht]; omega)]
  have : (z.take (i + 1) ++ List.replicate d 0)[i]? = some z[i] := by
    rw [List.getElem?_append_left (by omega), List.getElem?_take_of_lt (by omega), List.getElem?_eq_getElem h]
  rw [List.getElem?_eq_getElem (by rw [List.length_append, ht]; omega)] at this
  exact Option.some.inj this
theorem step_l0 (ws vs gs : List Int) (r m : Int) (hw : ∀ x ∈ ws, okI x) (hv : ∀ x ∈ vs, okI x) (hg : ∀ x ∈ gs, okI x) (hr : okI r) (hm : okI m) (h1 : ws.length = vs.length) (h2 : ws.length = gs.length) (hn : ws.length ≤ 4611686018427387904)
    (S N : List Int) (hS : S = speedL m vs gs) (hN : N = nextL r ws S) : ∀ (d k i : Nat), i + d = ws.length → d < k →
    optim_Step.l0 k ws gs (N.take i ++ List.replicate d 0) (S.take i ++ List.replicate d 0) vs (vs.length : Int) (i : Int) r m = some (N, S, 0) := by
  have lS : S.length = ws.length := by rw [hS]; unfold speedL; rw [List.length_zipWith]; omega
  have lN : N.length = ws.length := by rw [hN]; unfold nextL; rw [List.length_zipWith]; omega
  intro d
  induction d with
  | zero =>
    intro k i hi hk
    obtain ⟨k, rfl⟩ : ∃ j, k = j + 1 := ⟨k - 1, by omega⟩
    rw [optim_Step.l0, if_neg (by omega), List.take_of_length_le (by omega), List.take_of_length_le (by omega)]
    simp
  | succ d ih =>
    intro k i hi hk
    obtain ⟨k, rfl⟩ : ∃ j, k = j + 1 := ⟨k - 1, by omega⟩
    have i1 : i < ws.length := by omega
    have i2 : i < vs.length := by omega
    have i3 : i < gs.length := by omega
    have i4 : i < S.length := by omega
    have i5 : i < N.length := by omega
    have o1 := hw _ (List.getElem_mem i1)
    have o2 := hv _ (List.getElem_mem i2)
    have o3 := hg _ (List.getElem_mem i3)
    have eS : S[i] = speedI m vs[i] gs[i] := by subst hS; exact zip_get i4 i2 i3
    have eN : N[i] = nextI r ws[i] S[i] := by subst hN; exact zip_get i5 i1 i4
    have oS : okI S[i] := by rw [eS]; exact cutI_ok _
    have ot := timesI_ok r S[i]
    have on : okI (-timesI r S[i]) := by unfold okI at ot ⊢; omega
    have f1 := fill_len S i (d + 1) (by omega)
    have f2 := fill_len N i (d + 1) (by omega)
    rw [optim_Step.l0, if_pos (by omega), if_pos (by omega), if_pos (by omega), rd_nat vs i i2, times_eq _ _ o2 hm]
    simp only [Option.bind_some]
    rw [if_pos (by omega), rd_nat gs i i3, and_eq _ _ (timesI_ok _ _) o3]
    simp only [Option.bind_some]
    rw [if_pos (by omega), Int.toNat_natCast, show cutI (timesI vs[i] m + gs[i]) = S[i] from eS.symm, fill_set S i d i4, if_pos (by omega), fill_get S i d i4, times_eq _ _ hr oS]
    simp only [Option.bind_some]
    rw [rd_nat ws i i1, wrap_id (-timesI r S[i]) (by unfold okI at on; omega) (by unfold okI at on; omega), and_eq _ _ o1 on]
    simp only [Option.bind_some]
    rw [if_pos (by omega), show cutI (ws[i] + -timesI r S[i]) = N[i] from eN.symm, fill_set N i d i5, wrap_id ((i : Int) + 1) (by omega) (by omega), show ((i : Int) + 1) = ((i + 1 : Nat) : Int) by omega]
    exact ih k (i + 1) (by omega) (by omega)
theorem step_ok (k : Nat) (ws vs gs : List Int) (r m : Int) (h : like3 ws vs gs) (hh : okHyper r m) (hk : 30 ≤ k) : optim_Step.f k ws vs gs r m = some (nextL r ws (speedL m vs gs), speedL m vs gs, 0) := by
  obtain ⟨k, rfl⟩ : ∃ j, k = j + 1 := ⟨k - 1, by omega⟩
  have h16 := h.1.1
  have oh := okHyper_ok hh
  unfold optim_Step.f
  rw [alike3 (k + 1) ws vs gs hk, decide_eq_true h]
  simp only [Option.bind_some, if_true]
  rw [omay_eq, decide_eq_true hh]
  simp only [Option.bind_some]
  rw [optim_Step.j0, if_neg (by decide), if_pos (by omega), if_pos (by omega), Int.toNat_natCast]
  have := step_l0 ws vs gs r m h.1.2 h.2.1.2 h.2.2.1.2 oh.1 oh.2 h.2.2.2.1 h.2.2.2.2 (by omega) _ _ rfl rfl ws.length k 0 (by omega) (by omega)
  rw [List.take_zero, List.take_zero, List.nil_append] at this
  exact this
theorem step_bad (k : Nat) (ws vs gs : List Int) (r m : Int) (h : ¬ (like3 ws vs gs ∧ okHyper r m)) (hk : 30 ≤ k) : optim_Step.f k ws vs gs r m = some ([], [], 800) := by
  obtain ⟨k, rfl⟩ : ∃ j, k = j + 1 := ⟨k - 1, by omega⟩
  unfold optim_Step.f
  rw [alike3 (k + 1) ws vs gs hk]
  by_cases h1 : like3 ws vs gs
  · rw [decide_eq_true h1]
    simp only [Option.bind_some, if_true]
    rw [omay_eq, decide_eq_false (fun q => h ⟨h1, q⟩)]
    simp only [Option.bind_some]
    rw [optim_Step.j0, if_pos (by decide)]
  · rw [decide_eq_false h1]
    simp only [Option.bind_some, Bool.false_eq_true, if_false]
    rw [optim_Step.j0, if_pos rfl]
theorem num_eq (x : Int) : grafterlaw0_Num.f x = some x := rfl
theorem oawake_eq (k : Nat) (hk : 40 ≤ k) : grafterlaw8_awake.f k = some true := by
  unfold grafterlaw8_awake.f
  rw [step_ok k _ _ _ _ _ (by decide) (by decide) (by omega), step_bad k _ _ _ _ _ (by decide) (by omega), step_bad k _ _ _ _ _ (by decide) (by omega)]
  rw [show speedL 32768 [8, -4] [4, 2] = [8, 0] by decide, show nextL 16384 [100, 0] [8, 0] = [98, 0] by decide]
  simp only [Option.bind_some]
  rw [same_eq k _ _ (by simp) (by simp; omega), same_eq k _ _ (by simp) (by simp; omega)]
  simp [num_eq]

theorem spoil_l0 : ∀ (d k i : Nat) (l : List Int), l.length ≤ 4611686018427387904 → i + d = l.length → d < k → ∃ r, grafterlaw0_SpoilInts.l0 k l (i : Int) = some r := by
  intro d
  induction d with
  | zero =>
    intro k i l hb hi hk
    obtain ⟨k, rfl⟩ : ∃ j, k = j + 1 := ⟨k - 1, by omega⟩
    exact ⟨l, by rw [grafterlaw0_SpoilInts.l0, if_neg (by omega)]⟩
  | succ d ih =>
    intro k i l hb hi hk
    obtain ⟨k, rfl⟩ : ∃ j, k = j + 1 := ⟨k - 1, by omega⟩
    rw [grafterlaw0_SpoilInts.l0, if_pos (by omega), if_pos (by omega), wrap_id ((i : Int) + 1) (by omega) (by omega), show ((i : Int) + 1) = ((i + 1 : Nat) : Int) by omega]
    exact ih k (i + 1) _ (by rw [List.length_set]; exact hb) (by rw [List.length_set]; omega) (by omega)
theorem spoil_any (k : Nat) (l : List Int) (hb : l.length ≤ 4611686018427387904) (hk : l.length < k) : ∃ r, grafterlaw0_SpoilInts.f k l = some r :=
  spoil_l0 l.length k 0 l hb (by omega) hk

theorem lend_eq (l : List Int) (h : l.length * 8 ≤ 140737488351232) : grafterlaw0_LendInts.f l = some (l ++ [-7777, -8888]) := by
  unfold grafterlaw0_LendInts.f grafterlaw0_CopyInts.f
  rw [Option.bind_some, if_pos (by rw [List.length_nil]; omega), Option.bind_some, List.nil_append, Option.bind_some, if_pos (by rw [List.length_cons, List.length_cons, List.length_nil]; omega)]
theorem spare_take (l : List Int) : (l ++ [-7777, -8888]).take ((l ++ [-7777, -8888]).length - 2) = l := by
  rw [List.length_append, show ([-7777, -8888] : List Int).length = 2 from rfl, Nat.add_sub_cancel]; exact List.take_left
theorem kept_eq (k : Nat) (l : List Int) (hb : l.length ≤ 4611686018427387904) (hk : l.length < k) : grafterlaw0_KeptInts.f k (l ++ [-7777, -8888]) l = some true := by
  unfold grafterlaw0_KeptInts.f
  have hl : (l ++ [-7777, -8888]).length = l.length + 2 := by rw [List.length_append]; rfl
  have g1 : (l ++ [-7777, -8888])[l.length]? = some (-7777) := by rw [List.getElem?_append_right (Nat.le_refl _), Nat.sub_self]; rfl
  have g2 : (l ++ [-7777, -8888])[l.length + 1]? = some (-8888) := by rw [List.getElem?_append_right (by omega), Nat.add_sub_cancel_left]; rfl
  have r1 : rd (l ++ [-7777, -8888]) (l.length : Int) = -7777 := by unfold rd; rw [Int.toNat_natCast, List.getD_eq_getElem?_getD, g1]; rfl
  have r2 : rd (l ++ [-7777, -8888]) ((l.length : Int) + 1) = -8888 := by unfold rd; rw [show ((l.length : Int) + 1).toNat = l.length + 1 by omega, List.getD_eq_getElem?_getD, g2]; rfl
  rw [if_pos (by omega), spare_take, same_eq k l l hb hk, Option.bind_some, r1, r2, decide_eq_true rfl]
  rfl

theorem rhmay_eq (a b : Int) : grafterref1_HyperMay.f a b = some (decide (okHyper a b)) := by
  unfold grafterref1_HyperMay.f
  rw [upTo_eq, upTo_eq, Option.bind_some]
  by_cases h1 : 64 ≤ a ∧ a ≤ 16384
  · rw [decide_eq_true h1, if_pos rfl, Option.bind_some]
    refine congrArg some (decide_eq_decide.2 ?_)
    exact ⟨fun h => ⟨h1, h⟩, fun h => h.2⟩
  · rw [decide_eq_false h1, if_neg (by decide)]
    exact congrArg some (Eq.symm (decide_eq_false (fun h => h1 h.1)))
theorem rstep_l0 (ws vs gs : List Int) (r m : Int) (h : like3 ws vs gs) (hr : okI r) (hm : okI m) (S N : List Int) (hS : S = speedL m vs gs) (hN : N = nextL r ws S) : ∀ (d k i : Nat), i + d = ws.length → d < k →
    grafterref1_OptimStep.l0 k ws vs gs (N.take i) (S.take i) (i : Int) r m = some (N, S, 0) := by
  have h1 := h.2.2.2.1
  have h2 := h.2.2.2.2
  have h16 := h.1.1
  have hw := h.1.2
  have hv := h.2.1.2
  have hg := h.2.2.1.2
  have lS : S.length = ws.length := by rw [hS]; unfold speedL; rw [List.length_zipWith]; omega
  have lN : N.length = ws.length := by rw [hN]; unfold nextL; rw [List.length_zipWith]; omega
  intro d
  induction d with
  | zero =>
    intro k i hi hk
    obtain ⟨k, rfl⟩ : ∃ j, k = j + 1 := ⟨k - 1, by omega⟩
    rw [grafterref1_OptimStep.l0, if_neg (by omega), List.take_of_length_le (by omega), List.take_of_length_le (by omega)]
  | succ d ih =>
    intro k i hi hk
    obtain ⟨k, rfl⟩ : ∃ j, k = j + 1 := ⟨k - 1, by omega⟩
    have i1 : i < ws.length := by omega
    have i2 : i < vs.length := by omega
    have i3 : i < gs.length := by omega
    have i4 : i < S.length := by omega
    have i5 : i < N.length := by omega
    have o1 := hw _ (List.getElem_mem i1)
    have o2 := hv _ (List.getElem_mem i2)
    have o3 := hg _ (List.getElem_mem i3)
    have eS : S[i] = speedI m vs[i] gs[i] := by subst hS; exact zip_get i4 i2 i3
    have eN : N[i] = nextI r ws[i] S[i] := by subst hN; exact zip_get i5 i1 i4
    have oS : okI S[i] := by rw [eS]; exact cutI_ok _
    have ot := timesI_ok r S[i]
    have on : okI (-timesI r S[i]) := by unfold okI at ot ⊢; omega
    rw [grafterref1_OptimStep.l0, if_pos (by omega), if_pos (by omega), if_pos (by omega), rd_nat vs i i2, rtimes_eq _ _ o2 hm, Option.bind_some, if_pos (by omega), rd_nat gs i i3, rplus_eq _ _ (timesI_ok _ _) o3, Option.bind_some, show cutI (timesI vs[i] m + gs[i]) = S[i] from eS.symm, rtimes_eq _ _ hr oS, Option.bind_some, rd_nat ws i i1, wrap_id (-timesI r S[i]) (by unfold okI at on; omega) (by unfold okI at on; omega), rplus_eq _ _ o1 on, Option.bind_some, show cutI (ws[i] + -timesI r S[i]) = N[i] from eN.symm]
    rw [if_pos (by rw [List.length_take]; omega), if_pos (by rw [List.length_take]; omega), show N.take i ++ [N[i]] = N.take (i + 1) from (List.take_succ_eq_append_getElem i5).symm, show S.take i ++ [S[i]] = S.take (i + 1) from (List.take_succ_eq_append_getElem i4).symm, wrap_id ((i : Int) + 1) (by omega) (by omega), show ((i : Int) + 1) = ((i + 1 : Nat) : Int) by omega]
    exact ih k (i + 1) (by omega) (by omega)
theorem rstep_ok (k : Nat) (ws vs gs : List Int) (r m : Int) (h : like3 ws vs gs) (hh : okHyper r m) (hk : 40 ≤ k) : grafterref1_OptimStep.f k ws vs gs r m = some (nextL r ws (speedL m vs gs), speedL m vs gs, 0) := by
  obtain ⟨k, rfl⟩ : ∃ j, k = j + 1 := ⟨k - 1, by omega⟩
  have h1 := h.1.1
  have h2 := h.2.1.1
  have h3 := h.2.2.1.1
  have h4 := h.2.2.2.1
  have h5 := h.2.2.2.2
  have oh := okHyper_ok hh
  unfold grafterref1_OptimStep.f
  rw [rvmay_eq (k + 1) ws (by omega) (by omega), decide_eq_true h.1, Option.bind_some, if_pos rfl, rvmay_eq (k + 1) vs (by omega) (by omega), decide_eq_true h.2.1, Option.bind_some, if_pos rfl, rvmay_eq (k + 1) gs (by omega) (by omega), decide_eq_true h.2.2.1, Option.bind_some, if_pos rfl, if_pos (by omega), if_pos (by omega), rhmay_eq, decide_eq_true hh, Option.bind_some, grafterref1_OptimStep.j0, if_neg (by decide)]
  have := rstep_l0 ws vs gs r m h oh.1 oh.2 _ _ rfl rfl ws.length k 0 (by omega) (by omega)
  rw [List.take_zero, List.take_zero] at this
  exact this
theorem rstep_bad (k : Nat) (a b c : List Int) (r m : Int) (h : ¬ (like3 a b c ∧ okHyper r m)) (ha : a.length ≤ 4611686018427387904) (hb : b.length ≤ 4611686018427387904) (hc : c.length ≤ 4611686018427387904) (hk : 1 ≤ k) (hka : a.length < k) (hkb : b.length < k) (hkc : c.length < k) : grafterref1_OptimStep.f k a b c r m = some ([], [], 800) := by
  obtain ⟨k, rfl⟩ : ∃ j, k = j + 1 := ⟨k - 1, by omega⟩
  unfold grafterref1_OptimStep.f
  rw [rvmay_eq (k + 1) a ha hka, Option.bind_some]
  by_cases h1 : okV a
  · rw [decide_eq_true h1, if_pos rfl, rvmay_eq (k + 1) b hb hkb, Option.bind_some]
    by_cases h2 : okV b
    · rw [decide_eq_true h2, if_pos rfl, rvmay_eq (k + 1) c hc hkc, Option.bind_some]
      by_cases h3 : okV c
      · rw [decide_eq_true h3, if_pos rfl]
        by_cases h4 : (a.length : Int) = (b.length : Int)
        · rw [if_pos h4]
          by_cases h5 : (a.length : Int) = (c.length : Int)
          · rw [if_pos h5, rhmay_eq, decide_eq_false (fun q => h ⟨⟨h1, h2, h3, by omega, by omega⟩, q⟩), Option.bind_some, grafterref1_OptimStep.j0, if_pos (by decide)]
          · rw [if_neg h5, grafterref1_OptimStep.j0, if_pos rfl]
        · rw [if_neg h4, grafterref1_OptimStep.j0, if_pos rfl]
      · rw [decide_eq_false h3, if_neg (by decide), grafterref1_OptimStep.j0, if_pos rfl]
    · rw [decide_eq_false h2, if_neg (by decide), grafterref1_OptimStep.j0, if_pos rfl]
  · rw [decide_eq_false h1, if_neg (by decide), grafterref1_OptimStep.j0, if_pos rfl]

theorem steps_both (k : Nat) (a b c : List Int) (r m : Int) (ha : a.length ≤ 4611686018427387904) (hb : b.length ≤ 4611686018427387904) (hc : c.length ≤ 4611686018427387904) (hk : 40 ≤ k) (hka : a.length < k) (hkb : b.length < k) (hkc : c.length < k) : ∃ x y e, x.length ≤ 16 ∧ y.length ≤ 16 ∧ optim_Step.f k a b c r m = some (x, y, e) ∧ grafterref1_OptimStep.f k a b c r m = some (x, y, e) := by
  by_cases h : like3 a b c ∧ okHyper r m
  · have h1 := h.1.1.1
    have lS : (speedL m b c).length ≤ 16 := by unfold speedL; rw [List.length_zipWith]; have := h.1.2.1.1; omega
    have lN : (nextL r a (speedL m b c)).length ≤ 16 := by unfold nextL; rw [List.length_zipWith]; omega
    exact ⟨_, _, _, lN, lS, step_ok k a b c r m h.1 h.2 (by omega), rstep_ok k a b c r m h.1 h.2 hk⟩
  · exact ⟨_, _, _, by simp, by simp, step_bad k a b c r m h (by omega), rstep_bad k a b c r m h ha hb hc (by omega) hka hkb hkc⟩
theorem Optims_at (a b c : List Int) (r m : Int) (ha : a.length * 8 ≤ 140737488351232) (hb : b.length * 8 ≤ 140737488351232) (hc : c.length * 8 ≤ 140737488351232) : grafterlaw8_Optims.f (a.length + b.length + c.length + 99 + 1) a b c r m = some true := by
  obtain ⟨k, hk⟩ : ∃ k, a.length + b.length + c.length + 99 = k := ⟨_, rfl⟩
  obtain ⟨x, y, e, g1, g2, h1, h2⟩ := steps_both (k + 1) a b c r m (by omega) (by omega) (by omega) (by omega) (by omega) (by omega) (by omega)
  obtain ⟨s, hs⟩ := spoil_any k x (by omega) (by omega)
  obtain ⟨t, ht⟩ := spoil_any k y (by omega) (by omega)
  rw [hk]
  unfold grafterlaw8_Optims.f optim_Step_lent.f
  rw [lend_eq a ha, Option.bind_some, lend_eq b hb, Option.bind_some, lend_eq c hc, Option.bind_some, spare_take, spare_take, spare_take, h1, h2]
  simp only [Option.bind_some]
  rw [same_eq (k + 1) x x (by omega) (by omega), decide_eq_true rfl, Option.bind_some, if_pos rfl, same_eq (k + 1) y y (by omega) (by omega), decide_eq_true rfl, Option.bind_some, if_pos rfl, num_eq, Option.bind_some, bne_self_eq_false]
  rw [grafterlaw8_Optims.j0, if_neg (by decide), hs, Option.bind_some, ht, Option.bind_some, kept_eq k a (by omega) (by omega), Option.bind_some, if_pos rfl, kept_eq k b (by omega) (by omega), Option.bind_some, if_pos rfl, kept_eq k c (by omega) (by omega), Option.bind_some, if_pos rfl, oawake_eq k (by omega)]
  rfl
theorem Optims : grafterlaw8_Optims.Pure := fun a b c r m _ ha _ _ hb _ _ hc _ _ _ => ⟨_, Optims_at a b c r m ha hb hc⟩

end Go.Proofs.Ytbhkmgidokonkaa.Pure
