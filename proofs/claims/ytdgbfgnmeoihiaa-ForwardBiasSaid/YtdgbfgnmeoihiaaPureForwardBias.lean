/- P6.1: for every shape, weights, inputs and number, cut to 16 bits: with the output's bias so much more the answer is so much more, but for what is cut off. No condition. -/
import Derived.Test.YtdgbfgnmeoihiaaPForwardBiasx5
import Derived.Test.YtdgbfgnmeoihiaaHelp
import Derived.Test.YtdgbfgnmeoihiaaHelpDraw
namespace Go.Proofs.Ytdgbfgnmeoihiaa.Pure
open Go.RowKit Go.Proofs.Ytdgbfgnmeoihiaa Go.Proofs.Ytdgbfgnmeoihiaa.PForwardBias Go.Proofs.YtdgbfgnmeoihiaaW.PrintWords Go.Proofs.YtdgbfgnmeoihiaaW.PrintLast Go.Proofs.YtdgbfgnmeoihiaaW.PrintMore
set_option linter.unusedVariables false
set_option linter.unusedSimpArgs false

theorem rd_nat (l : List Int) (i : Nat) (h : i < l.length) : rd l (i : Int) = l[i] := by
  unfold rd; rw [Int.toNat_natCast, List.getD_eq_getElem?_getD, List.getElem?_eq_getElem h]; rfl
theorem same_l0 (l m : List Int) (hl : l.length = m.length) (hb : l.length ≤ 4611686018427387904) : ∀ (d k i : Nat), i + d = l.length → d < k →
    grafterlaw0_SameInts.l0 k l m (i : Int) = some (decide (l.drop i = m.drop i)) := by
  intro d
  induction d with
  | zero =>
    intro k i hi hk
    obtain ⟨k, rfl⟩ : ∃ j, k = j + 1 := ⟨k - 1, by omega⟩
    rw [grafterlaw0_SameInts.l0, if_neg (by omega), List.drop_eq_nil_of_le (by omega), List.drop_eq_nil_of_le (by omega)]
    rfl
  | succ d ih =>
    intro k i hi hk
    obtain ⟨k, rfl⟩ : ∃ j, k = j + 1 := ⟨k - 1, by omega⟩
    have h1 : i < l.length := by omega
    have h2 : i < m.length := by omega
    rw [grafterlaw0_SameInts.l0, if_pos (by omega), if_pos (by omega), if_pos (by omega), rd_nat l i h1, rd_nat m i h2]
    rw [List.drop_eq_getElem_cons h1, List.drop_eq_getElem_cons h2]
    by_cases e : l[i] = m[i]
    · rw [if_pos e, wrap_id _ (by omega) (by omega), show ((i : Int) + 1) = ((i + 1 : Nat) : Int) by omega, ih k (i + 1) (by omega) (by omega)]
      refine congrArg some (decide_eq_decide.2 ?_)
      rw [List.cons.injEq]
      exact ⟨fun h => ⟨e, h⟩, fun h => h.2⟩
    · rw [if_neg e, decide_eq_false]
      rw [List.cons.injEq]
      exact fun h => e h.1
theorem same_eq (k : Nat) (l m : List Int) (hb : l.length ≤ 4611686018427387904) (hk : l.length < k) : grafterlaw0_SameInts.f k l m = some (decide (l = m)) := by
  unfold grafterlaw0_SameInts.f
  by_cases h : (l.length : Int) = (m.length : Int)
  · rw [if_pos h]
    have := same_l0 l m (by omega) hb l.length k 0 (by omega) hk
    simpa using this
  · rw [if_neg h, decide_eq_false]
    rintro rfl
    exact h rfl

theorem fmay_eq (a : Int) : fix_May.f a = some (decide (okI a)) := by
  unfold fix_May.f okI
  by_cases h : a ≥ -1073741824
  · rw [if_pos h]; refine congrArg some (decide_eq_decide.2 ?_); omega
  · rw [if_neg h]; refine congrArg some (Eq.symm (decide_eq_false ?_)); omega
theorem index_l0 (l : List Int) (hb : l.length ≤ 4611686018427387904) : ∀ (d k i : Nat), i + d = l.length → d < k →
    ∃ r, slices_IndexFunc_int_int.l0 k l (l.length : Int) (i : Int) = some r ∧ (0 ≤ r ↔ ¬ ∀ x ∈ l.drop i, okI x) := by
  intro d
  induction d with
  | zero =>
    intro k i hi hk
    obtain ⟨k, rfl⟩ : ∃ j, k = j + 1 := ⟨k - 1, by omega⟩
    refine ⟨-1, by rw [slices_IndexFunc_int_int.l0, if_neg (by omega)], ?_⟩
    rw [List.drop_eq_nil_of_le (by omega)]
    simp
  | succ d ih =>
    intro k i hi hk
    obtain ⟨k, rfl⟩ : ∃ j, k = j + 1 := ⟨k - 1, by omega⟩
    have h1 : i < l.length := by omega
    obtain ⟨r, hr, he⟩ := ih k (i + 1) (by omega) (by omega)
    rw [slices_IndexFunc_int_int.l0, if_pos (by omega), if_pos (by omega), if_pos (by omega), rd_nat l i h1]
    unfold vec_May_1.f
    rw [fmay_eq, List.drop_eq_getElem_cons h1]
    by_cases ho : okI l[i]
    · refine ⟨r, ?_, ?_⟩
      · rw [decide_eq_true ho, wrap_id ((i : Int) + 1) (by omega) (by omega), show ((i : Int) + 1) = ((i + 1 : Nat) : Int) by omega]
        exact hr
      · rw [he, List.forall_mem_cons]
        exact ⟨fun q1 q2 => q1 q2.2, fun q1 q2 => q1 ⟨ho, q2⟩⟩
    · refine ⟨(i : Int), ?_, ?_⟩
      · rw [decide_eq_false ho]; rfl
      · rw [List.forall_mem_cons]
        exact ⟨fun _ q => ho q.1, fun _ => by omega⟩
def okV (l : List Int) : Prop := l.length ≤ 16 ∧ ∀ x ∈ l, okI x
instance (l : List Int) : Decidable (okV l) := inferInstanceAs (Decidable (_ ∧ _))
theorem vmay_eq (k : Nat) (l : List Int) (hk : 20 ≤ k) : vec_May.f k l = some (decide (okV l)) := by
  unfold vec_May.f
  by_cases h : (l.length : Int) ≤ 16
  · obtain ⟨r, hr, he⟩ := index_l0 l (by omega) l.length k 0 (by omega) (by omega)
    rw [List.drop_zero] at he
    rw [if_pos h]
    unfold slices_ContainsFunc_int_int.f slices_IndexFunc_int_int.f
    rw [show ((0 : Nat) : Int) = 0 from rfl] at hr
    rw [hr]
    simp only [Option.bind_some]
    refine congrArg some ?_
    by_cases h2 : ∀ x ∈ l, okI x
    · rw [decide_eq_false (show ¬ (0 ≤ r) from fun q => he.1 q h2), decide_eq_true (show okV l from ⟨by omega, h2⟩)]; rfl
    · rw [decide_eq_true (he.2 h2), decide_eq_false (show ¬ okV l from fun q => h2 q.2)]; rfl
  · rw [if_neg h, decide_eq_false (show ¬ okV l from fun q => by have := q.1; omega)]

theorem cut_eq (x : Int) : fix_Cut.f x = some (cutI x) := by
  unfold fix_Cut.f cutI mn mx
  congr 1
  split <;> split <;> (try split) <;> omega
theorem and_eq (a b : Int) (ha : okI a) (hb : okI b) : fix_And.f a b = some (cutI (a + b)) := by
  unfold okI at ha hb
  unfold fix_And.f; rw [cut_eq, wrap_id _ (by omega) (by omega)]; rfl
def timesI (a b : Int) : Int := cutI (a * b / 65536)
theorem timesI_ok (a b : Int) : okI (timesI a b) := cutI_ok _
theorem timesI_comm (a b : Int) : timesI a b = timesI b a := by unfold timesI; rw [Int.mul_comm]
theorem times_eq (a b : Int) (ha : okI a) (hb : okI b) : fix_Times.f a b = some (timesI a b) := by
  have := mul_okI ha hb
  unfold fix_Times.f; rw [cut_eq, wrap_id _ (by omega) (by omega)]; rfl

def dotA : Int → List Int → List Int → Int
  | acc, x :: xs, y :: ys => dotA (cutI (acc + timesI x y)) xs ys
  | acc, _, _ => acc
theorem dotA_comm : ∀ (a b : List Int) (acc : Int), dotA acc a b = dotA acc b a
  | [], [], _ => rfl
  | [], _ :: _, _ => rfl
  | _ :: _, [], _ => rfl
  | x :: xs, y :: ys, acc => by rw [dotA, dotA, timesI_comm x y]; exact dotA_comm xs ys _
theorem dotA_ok : ∀ (a b : List Int) (acc : Int), okI acc → okI (dotA acc a b)
  | [], [], _, h => h
  | [], _ :: _, _, h => h
  | _ :: _, [], _, h => h
  | x :: xs, y :: ys, acc, h => by rw [dotA]; exact dotA_ok xs ys _ (cutI_ok _)
theorem sum_l0 (a b : List Int) (ha : ∀ x ∈ a, okI x) (hb : ∀ x ∈ b, okI x) (hl : a.length = b.length) (hn : a.length ≤ 4611686018427387904) : ∀ (d k i : Nat) (acc : Int), i + d = a.length → d < k → okI acc →
    vec_Sum.l0 k b acc a (a.length : Int) (i : Int) = some (dotA acc (a.drop i) (b.drop i)) := by
  intro d
  induction d with
  | zero =>
    intro k i acc hi hk hacc
    obtain ⟨k, rfl⟩ : ∃ j, k = j + 1 := ⟨k - 1, by omega⟩
    rw [vec_Sum.l0, if_neg (by omega), List.drop_eq_nil_of_le (by omega), List.drop_eq_nil_of_le (by omega), dotA]
    simp
  | succ d ih =>
    intro k i acc hi hk hacc
    obtain ⟨k, rfl⟩ : ∃ j, k = j + 1 := ⟨k - 1, by omega⟩
    have h1 : i < a.length := by omega
    have h2 : i < b.length := by omega
    have o1 := ha _ (List.getElem_mem h1)
    have o2 := hb _ (List.getElem_mem h2)
    rw [vec_Sum.l0, if_pos (by omega), if_pos (by omega), if_pos (by omega), if_pos (by omega), rd_nat a i h1, rd_nat b i h2, times_eq _ _ o1 o2]
    simp only [Option.bind_some]
    rw [and_eq _ _ hacc (timesI_ok _ _), List.drop_eq_getElem_cons h1, List.drop_eq_getElem_cons h2, dotA]
    simp only [Option.bind_some]
    rw [wrap_id ((i : Int) + 1) (by omega) (by omega), show ((i : Int) + 1) = ((i + 1 : Nat) : Int) by omega]
    exact ih k (i + 1) _ (by omega) (by omega) (cutI_ok _)
theorem sum_eq (k : Nat) (a b : List Int) (ha : ∀ x ∈ a, okI x) (hb : ∀ x ∈ b, okI x) (hl : a.length = b.length) (hn : a.length ≤ 16) (hk : 20 ≤ k) : vec_Sum.f k a b = some (dotA 0 a b) := by
  have := sum_l0 a b ha hb hl (by omega) a.length k 0 0 (by omega) (by omega) (by decide)
  rw [List.drop_zero, List.drop_zero] at this
  exact this

def okShape (a b : Int) : Prop := (1 ≤ a ∧ a ≤ 3) ∧ (1 ≤ b ∧ b ≤ 3)
instance (a b : Int) : Decidable (okShape a b) := inferInstanceAs (Decidable (_ ∧ _))
def sizeI (a b : Int) : Int := b * (a + 1) + b + 1
theorem num_eq (x : Int) : grafterlaw0_Num.f x = some x := rfl
theorem sizeI_bd (a b : Int) (h : okShape a b) : (4 ≤ sizeI a b ∧ sizeI a b ≤ 16) ∧ (0 ≤ b * (a + 1) ∧ b * (a + 1) ≤ 12) := by
  obtain ⟨⟨h1, h2⟩, h3, h4⟩ := h
  have ha : a = 1 ∨ a = 2 ∨ a = 3 := by omega
  unfold sizeI
  rcases ha with rfl | rfl | rfl <;> omega
theorem smay_eq (a b : Int) : shape_May.f a b = some (decide (okShape a b)) := by
  unfold shape_May.f okShape
  by_cases h1 : a ≥ 1
  · rw [if_pos h1]
    by_cases h2 : a ≤ 3
    · rw [if_pos h2]
      by_cases h3 : b ≥ 1
      · rw [if_pos h3]; refine congrArg some (decide_eq_decide.2 ?_); omega
      · rw [if_neg h3]; refine congrArg some (Eq.symm (decide_eq_false ?_)); omega
    · rw [if_neg h2]; refine congrArg some (Eq.symm (decide_eq_false ?_)); omega
  · rw [if_neg h1]; refine congrArg some (Eq.symm (decide_eq_false ?_)); omega
theorem many_eq (a b : Int) (h : okShape a b) : shape_Many.f a b = some (sizeI a b) := by
  obtain ⟨h1, h2⟩ := sizeI_bd a b h
  unfold shape_Many.f
  unfold sizeI at h1
  have h3 := h.1
  have h4 := h.2
  rw [wrap_id (a + 1) (by omega) (by omega), wrap_id (b * (a + 1)) (by omega) (by omega), wrap_id (b * (a + 1) + b) (by omega) (by omega), wrap_id _ (by omega) (by omega)]
  rfl

def hardI (x : Int) : Int := mn 65536 (mx (-65536) x)
theorem hard_eq (x : Int) : act_Hard.f x = some (hardI x) := rfl
theorem hardI_of (x : Int) : hardI x = if x > 65536 then 65536 else if x < -65536 then -65536 else x := by
  unfold hardI mn mx
  split <;> split <;> (try split) <;> omega
theorem hardI_ok (x : Int) : okI (hardI x) := by rw [hardI_of]; unfold okI; split <;> (try split) <;> omega
theorem map_ok (hs : List Int) : ∀ x ∈ hs.map hardI, okI x := fun x hx => by
  obtain ⟨y, _, rfl⟩ := List.mem_map.1 hx; exact hardI_ok y
theorem mul3 (A i : Nat) (h1 : 1 ≤ A) (h3 : A ≤ 3) : ((i : Int) * ((A : Int) + 1) = ((i * (A + 1) : Nat) : Int)) := by
  have ha : A = 1 ∨ A = 2 ∨ A = 3 := by omega
  rcases ha with rfl | rfl | rfl <;> omega
theorem unit_bd (A B i L : Nat) (h1 : 1 ≤ A) (h3 : A ≤ 3) (hi : i < B) (hB : B ≤ 3) (hL : L = B * (A + 1) + B + 1) : i * (A + 1) + A < L ∧ i * (A + 1) + A ≤ 16 := by
  have ha : A = 1 ∨ A = 2 ∨ A = 3 := by omega
  rcases ha with rfl | rfl | rfl <;> omega
theorem last_bd (A B L : Nat) (h1 : 1 ≤ A) (h3 : A ≤ 3) (hB : B ≤ 3) (hL : L = B * (A + 1) + B + 1) : B * (A + 1) + B < L ∧ B * (A + 1) + B ≤ 16 := by
  have ha : A = 1 ∨ A = 2 ∨ A = 3 := by omega
  rcases ha with rfl | rfl | rfl <;> omega
def rowOf (ws : List Int) (at_ n : Nat) : List Int := (ws.take (at_ + n)).drop at_
theorem rowOf_len (ws : List Int) (a n : Nat) (h : a + n ≤ ws.length) : (rowOf ws a n).length = n := by
  unfold rowOf; rw [List.length_drop, List.length_take]; omega
theorem rowOf_ok (ws : List Int) (a n : Nat) (h : ∀ x ∈ ws, okI x) : ∀ x ∈ rowOf ws a n, okI x := fun x hx =>
  h x (List.mem_of_mem_take (List.mem_of_mem_drop hx))
def unitI (A : Nat) (ws xs : List Int) (i : Nat) : Int := cutI (ws.getD (i * (A + 1) + A) 0 + dotA 0 (rowOf ws (i * (A + 1)) A) xs)
def unitsL (A : Nat) (ws xs : List Int) (n : Nat) : List Int := (List.range n).map (unitI A ws xs)
theorem unitsL_len (A : Nat) (ws xs : List Int) (n : Nat) : (unitsL A ws xs n).length = n := by unfold unitsL; simp
theorem unitsL_succ (A : Nat) (ws xs : List Int) (n : Nat) : unitsL A ws xs (n + 1) = unitsL A ws xs n ++ [unitI A ws xs n] := by unfold unitsL; rw [List.range_succ]; simp
theorem unitsL_get (A : Nat) (ws xs : List Int) (n i : Nat) (h : i < (unitsL A ws xs n).length) : (unitsL A ws xs n)[i] = unitI A ws xs i := by
  have h2 : (unitsL A ws xs n)[i]? = some (unitI A ws xs i) := by
    rw [unitsL_len] at h
    unfold unitsL; rw [List.getElem?_map, List.getElem?_range h]; rfl
  rw [List.getElem?_eq_getElem h] at h2
  exact Option.some.inj h2
def tellsI (A B : Nat) (ws hs : List Int) : Int := cutI (ws.getD (B * (A + 1) + B) 0 + dotA 0 (rowOf ws (B * (A + 1)) B) (hs.map hardI))
theorem rd_getD (l : List Int) (i : Nat) : rd l (i : Int) = l.getD i 0 := by unfold rd; rw [Int.toNat_natCast]
theorem getD_ok (l : List Int) (i : Nat) (h : i < l.length) (ho : ∀ x ∈ l, okI x) : okI (l.getD i 0) := by
  rw [List.getD_eq_getElem?_getD, List.getElem?_eq_getElem h]; exact ho _ (List.getElem_mem h)
theorem at_w (A i : Nat) (h1 : 1 ≤ A) (h3 : A ≤ 3) (h : i * (A + 1) + A ≤ 40) : wrap64 ((i : Int) * wrap64 ((A : Int) + 1)) = ((i * (A + 1) : Nat) : Int) := by
  have hm := mul3 A i h1 h3
  rw [wrap_id ((A : Int) + 1) (by omega) (by omega), hm]
  obtain ⟨z, hz⟩ : ∃ z : Nat, i * (A + 1) = z := ⟨_, rfl⟩
  rw [hz] at h ⊢
  exact wrap_id _ (by omega) (by omega)
theorem at_w2 (z A : Nat) (h : z + A ≤ 40) : wrap64 ((z : Int) + (A : Int)) = ((z + A : Nat) : Int) := by
  rw [wrap_id _ (by omega) (by omega)]; omega
theorem units_l0 (A B : Nat) (ws xs : List Int) (h1 : 1 ≤ A) (h3 : A ≤ 3) (hB : B ≤ 3) (hL : ws.length = B * (A + 1) + B + 1) (hw : ∀ x ∈ ws, okI x) (hx : ∀ x ∈ xs, okI x) (hxl : xs.length = A) : ∀ (d k i : Nat), i + d = B → d + 21 ≤ k →
    forward_Net_Units.l0 k ws xs (A : Int) (unitsL A ws xs i ++ List.replicate d 0) (B : Int) (i : Int) = some (unitsL A ws xs B) := by
  intro d
  induction d with
  | zero =>
    intro k i hi hk
    obtain ⟨k, rfl⟩ : ∃ j, k = j + 1 := ⟨k - 1, by omega⟩
    rw [forward_Net_Units.l0, if_neg (by omega), show i = B by omega]
    simp
  | succ d ih =>
    intro k i hi hk
    obtain ⟨k, rfl⟩ : ∃ j, k = j + 1 := ⟨k - 1, by omega⟩
    obtain ⟨b1, b2⟩ := unit_bd A B i ws.length h1 h3 (by omega) hB hL
    have hm := mul3 A i h1 h3
    have hset : (unitsL A ws xs i ++ List.replicate (d + 1) 0).set i (unitI A ws xs i) = unitsL A ws xs (i + 1) ++ List.replicate d 0 := by
      rw [unitsL_succ, List.set_append_right _ _ (by rw [unitsL_len]; omega), unitsL_len, Nat.sub_self, List.replicate_succ, List.set_cons_zero, List.append_assoc]; rfl
    have hrow : (ws.take ((i * (A + 1) + A : Nat) : Int).toNat).drop ((i * (A + 1) : Nat) : Int).toNat = rowOf ws (i * (A + 1)) A := by
      rw [Int.toNat_natCast, Int.toNat_natCast]; rfl
    have hlen := rowOf_len ws (i * (A + 1)) A (by omega)
    have hro := rowOf_ok ws (i * (A + 1)) A hw
    rw [forward_Net_Units.l0, if_pos (by omega), at_w A i h1 h3 (by omega), at_w2 _ A (by omega), if_pos (by omega), if_pos (by omega), if_pos (by omega), if_pos (by omega), if_pos (by omega), hrow, sum_eq k _ xs hro hx (by omega) (by omega) (by omega), rd_getD]
    simp only [Option.bind_some]
    rw [and_eq _ _ (getD_ok ws _ b1 hw) (dotA_ok _ _ _ (by decide))]
    simp only [Option.bind_some]
    rw [if_pos (by omega), if_pos (by rw [List.length_append, unitsL_len, List.length_replicate]; omega), wrap_id ((i : Int) + 1) (by omega) (by omega), Int.toNat_natCast]
    have := ih k (i + 1) (by omega) (by omega)
    rw [← hset] at this
    rw [show ((i : Int) + 1) = ((i + 1 : Nat) : Int) by omega]
    exact this
theorem units_eq (A B k : Nat) (ws xs : List Int) (h1 : 1 ≤ A) (h3 : A ≤ 3) (hB : B ≤ 3) (hL : ws.length = B * (A + 1) + B + 1) (hw : ∀ x ∈ ws, okI x) (hx : ∀ x ∈ xs, okI x) (hxl : xs.length = A) (hk : 30 ≤ k) :
    forward_Net_Units.f k ws xs (A : Int) (B : Int) = some (unitsL A ws xs B) := by
  unfold forward_Net_Units.f
  rw [if_pos (by omega), if_pos (by omega), Int.toNat_natCast]
  simp only [Option.bind_some]
  rw [List.length_replicate]
  have := units_l0 A B ws xs h1 h3 hB hL hw hx hxl B k 0 (by omega) (by omega)
  exact this
theorem acts_l0 (hs : List Int) (hn : hs.length ≤ 4611686018427387904) : ∀ (d k i : Nat), i + d = hs.length → d < k →
    forward_Acts.l0 k ((hs.take i).map hardI ++ List.replicate d 0) hs (hs.length : Int) (i : Int) = some (hs.map hardI) := by
  intro d
  induction d with
  | zero =>
    intro k i hi hk
    obtain ⟨k, rfl⟩ : ∃ j, k = j + 1 := ⟨k - 1, by omega⟩
    rw [forward_Acts.l0, if_neg (by omega), List.take_of_length_le (by omega)]
    simp
  | succ d ih =>
    intro k i hi hk
    obtain ⟨k, rfl⟩ : ∃ j, k = j + 1 := ⟨k - 1, by omega⟩
    have h1 : i < hs.length := by omega
    have hl : ((hs.take i).map hardI).length = i := by rw [List.length_map, List.length_take]; omega
    have hset : ((hs.take i).map hardI ++ List.replicate (d + 1) 0).set i (hardI hs[i]) = (hs.take (i + 1)).map hardI ++ List.replicate d 0 := by
      rw [List.set_append_right _ _ (by omega), hl, Nat.sub_self, List.replicate_succ, List.set_cons_zero, List.take_succ_eq_append_getElem h1, List.map_append, List.append_assoc]; rfl
    rw [forward_Acts.l0, if_pos (by omega), if_pos (by omega), if_pos (by omega), rd_nat hs i h1, hard_eq]
    simp only [Option.bind_some]
    rw [if_pos (by rw [List.length_append, hl, List.length_replicate]; omega), Int.toNat_natCast, hset, wrap_id ((i : Int) + 1) (by omega) (by omega), show ((i : Int) + 1) = ((i + 1 : Nat) : Int) by omega]
    exact ih k (i + 1) (by omega) (by omega)
theorem acts_eq (k : Nat) (hs : List Int) (hn : hs.length ≤ 16) (hk : 20 ≤ k) : forward_Acts.f k hs = some (hs.map hardI) := by
  unfold forward_Acts.f
  rw [if_pos (by omega), if_pos (by omega), Int.toNat_natCast]
  exact acts_l0 hs (by omega) hs.length k 0 (by omega) (by omega)
theorem tells_eq (A B k : Nat) (ws hs : List Int) (h1 : 1 ≤ A) (h3 : A ≤ 3) (hB : B ≤ 3) (hL : ws.length = B * (A + 1) + B + 1) (hw : ∀ x ∈ ws, okI x) (hhl : hs.length = B) (hk : 30 ≤ k) :
    forward_Net_Tells.f k ws hs (A : Int) (B : Int) = some (tellsI A B ws hs) := by
  obtain ⟨b1, b2⟩ := last_bd A B ws.length h1 h3 hB hL
  have hm := mul3 A B h1 h3
  have hrow : (ws.take ((B * (A + 1) + B : Nat) : Int).toNat).drop ((B * (A + 1) : Nat) : Int).toNat = rowOf ws (B * (A + 1)) B := by
    rw [Int.toNat_natCast, Int.toNat_natCast]; rfl
  have hlen := rowOf_len ws (B * (A + 1)) B (by omega)
  have hro := rowOf_ok ws (B * (A + 1)) B hw
  unfold forward_Net_Tells.f
  rw [at_w A B h1 h3 (by omega), at_w2 _ B (by omega), if_pos (by omega), if_pos (by omega), if_pos (by omega), if_pos (by omega), if_pos (by omega), acts_eq k hs (by omega) (by omega), hrow]
  simp only [Option.bind_some]
  rw [sum_eq k _ _ hro (map_ok hs) (by rw [List.length_map]; omega) (by omega) (by omega), rd_getD]
  simp only [Option.bind_some]
  rw [and_eq _ _ (getD_ok ws _ b1 hw) (dotA_ok _ _ _ (by decide))]
  rfl
def fits (a b : Int) (ws xs : List Int) : Prop := (okShape a b ∧ (ws.length : Int) = sizeI a b ∧ okV ws) ∧ (xs.length : Int) = a ∧ okV xs
instance (a b : Int) (ws xs : List Int) : Decidable (fits a b ws xs) := inferInstanceAs (Decidable (_ ∧ _))
theorem new_eq (k : Nat) (a b : Int) (ws xs : List Int) (hk : 20 ≤ k) : forward_New.f k a b ws xs = some (false, decide (fits a b ws xs)) := by
  unfold forward_New.f shape_Fits.f forward_Inputs.f fits
  rw [smay_eq]
  by_cases h1 : okShape a b
  · rw [decide_eq_true h1]
    simp only [Option.bind_some, if_true]
    rw [many_eq a b h1]
    simp only [Option.bind_some]
    by_cases h2 : (ws.length : Int) = sizeI a b
    · rw [if_pos h2, vmay_eq k ws hk]
      simp only [Option.bind_some]
      by_cases h3 : okV ws
      · rw [decide_eq_true h3]
        simp only [if_true]
        by_cases h4 : (xs.length : Int) = a
        · rw [if_pos h4, vmay_eq k xs hk]
          simp only [Option.bind_some]
          refine congrArg some (Prod.ext rfl (decide_eq_decide.2 ?_))
          exact ⟨fun h => ⟨⟨h1, h2, h3⟩, h4, h⟩, fun h => h.2.2⟩
        · rw [if_neg h4]
          simp [h4]
      · rw [decide_eq_false h3]
        simp [h3]
    · rw [if_neg h2]
      simp [h2]
  · rw [decide_eq_false h1]
    simp [h1]
theorem fits_nat (a b : Int) (ws xs : List Int) (h : fits a b ws xs) : ∃ A B : Nat, a = (A : Int) ∧ b = (B : Int) ∧ 1 ≤ A ∧ A ≤ 3 ∧ 1 ≤ B ∧ B ≤ 3 ∧ ws.length = B * (A + 1) + B + 1 ∧ xs.length = A ∧ (∀ x ∈ ws, okI x) ∧ (∀ x ∈ xs, okI x) := by
  obtain ⟨⟨⟨⟨p1, p2⟩, p3, p4⟩, p5, p6⟩, p7, p8⟩ := h
  refine ⟨a.toNat, b.toNat, by omega, by omega, by omega, by omega, by omega, by omega, ?_, by omega, p6.2, p8.2⟩
  obtain ⟨A, rfl⟩ : ∃ A : Nat, a = (A : Int) := ⟨a.toNat, by omega⟩
  obtain ⟨B, rfl⟩ : ∃ B : Nat, b = (B : Int) := ⟨b.toNat, by omega⟩
  rw [Int.toNat_natCast, Int.toNat_natCast]
  unfold sizeI at p5
  have ha : A = 1 ∨ A = 2 ∨ A = 3 := by omega
  rcases ha with rfl | rfl | rfl <;> omega
def hidL (a b : Int) (ws xs : List Int) : List Int := unitsL a.toNat ws xs b.toNat
def outI (a b : Int) (ws xs : List Int) : Int := tellsI a.toNat b.toNat ws (hidL a b ws xs)
theorem hidL_nat (A B : Nat) (ws xs : List Int) : hidL (A : Int) (B : Int) ws xs = unitsL A ws xs B := by unfold hidL; rw [Int.toNat_natCast, Int.toNat_natCast]
theorem outI_nat (A B : Nat) (ws xs : List Int) : outI (A : Int) (B : Int) ws xs = tellsI A B ws (unitsL A ws xs B) := by unfold outI; rw [hidL_nat, Int.toNat_natCast, Int.toNat_natCast]
theorem hidL_len (a b : Int) (ws xs : List Int) : (hidL a b ws xs).length = b.toNat := unitsL_len _ _ _ _
theorem hidden_ok (k : Nat) (a b : Int) (ws xs : List Int) (h : fits a b ws xs) (hk : 30 ≤ k) : forward_Hidden.f k a b ws xs = some (hidL a b ws xs, 0) := by
  unfold forward_Hidden.f
  rw [new_eq k a b ws xs (by omega), decide_eq_true h]
  simp only [Option.bind_some, if_true]
  obtain ⟨A, B, rfl, rfl, h1, h2, h3, h4, h5, h6, h7, h8⟩ := fits_nat a b ws xs h
  rw [units_eq A B k ws xs h1 h2 h4 h5 h7 h8 h6 hk, hidL_nat]
  simp only [Option.bind_some]
theorem hidden_bad (k : Nat) (a b : Int) (ws xs : List Int) (h : ¬ fits a b ws xs) (hk : 30 ≤ k) : forward_Hidden.f k a b ws xs = some ([], 600) := by
  unfold forward_Hidden.f
  rw [new_eq k a b ws xs (by omega), decide_eq_false h]
  rfl
theorem out_ok (k : Nat) (a b : Int) (ws xs : List Int) (h : fits a b ws xs) (hk : 30 ≤ k) : forward_Out.f k a b ws xs = some (outI a b ws xs, 0) := by
  unfold forward_Out.f
  rw [new_eq k a b ws xs (by omega), decide_eq_true h]
  simp only [Option.bind_some, if_true]
  obtain ⟨A, B, rfl, rfl, h1, h2, h3, h4, h5, h6, h7, h8⟩ := fits_nat a b ws xs h
  rw [units_eq A B k ws xs h1 h2 h4 h5 h7 h8 h6 hk, Option.bind_some, tells_eq A B k ws (unitsL A ws xs B) h1 h2 h4 h5 h7 (unitsL_len _ _ _ _) hk, outI_nat, Option.bind_some]
theorem out_bad (k : Nat) (a b : Int) (ws xs : List Int) (h : ¬ fits a b ws xs) (hk : 30 ≤ k) : forward_Out.f k a b ws xs = some (0, 600) := by
  unfold forward_Out.f
  rw [new_eq k a b ws xs (by omega), decide_eq_false h]
  rfl
theorem fawake_eq (k : Nat) (hk : 40 ≤ k) : grafterlaw6_awake.f k = some true := by
  have f1 : fits 2 2 [65536, -65536, 100, 5, 32768, -200, 65536, 131072, 7] [1000, 400] := by decide
  have f2 : ¬ fits 2 2 [65536, -65536, 100, 5, 32768, -200, 65536, 131072, 7] [] := by decide
  have f3 : ¬ fits 2 2 [-65536, 100, 5, 32768, -200, 65536, 131072, 7] [1000, 400] := by decide
  have e1 : hidL 2 2 [65536, -65536, 100, 5, 32768, -200, 65536, 131072, 7] [1000, 400] = [700, 0] := by decide +kernel
  have e2 : outI 2 2 [65536, -65536, 100, 5, 32768, -200, 65536, 131072, 7] [1000, 400] = 707 := by decide +kernel
  unfold grafterlaw6_awake.f grafterlaw6_given.f
  simp only [Option.bind_some]
  rw [hidden_ok k _ _ _ _ f1 (by omega), out_ok k _ _ _ _ f1 (by omega), hidden_bad k _ _ _ _ f2 (by omega), e1, e2]
  simp only [Option.bind_some]
  rw [if_pos (by decide)]
  rw [show ([65536, -65536, 100, 5, 32768, -200, 65536, 131072, 7] : List Int).drop 1 = [-65536, 100, 5, 32768, -200, 65536, 131072, 7] from rfl, out_bad k _ _ _ _ f3 (by omega)]
  simp only [Option.bind_some]
  rw [same_eq k _ _ (by decide) (by simp; omega)]
  simp [num_eq]

theorem okI_mk (x : Int) (h1 : -1073741824 ≤ x) (h2 : x ≤ 1073741824) : okI x := ⟨h1, h2⟩
theorem rfmay_eq (a : Int) : grafterref1_FixMay.f a = some (decide (okI a)) := by
  unfold grafterref1_FixMay.f grafterref1_upTo.f okI
  by_cases h : a ≥ -1073741824
  · rw [if_pos h]; refine congrArg some (decide_eq_decide.2 ?_); omega
  · rw [if_neg h]; refine congrArg some (Eq.symm (decide_eq_false ?_)); omega
theorem row_set (ws : List Int) (k : Nat) (v : Int) (at_ m : Nat) (h : at_ + m ≤ k) : rowOf (ws.set k v) at_ m = rowOf ws at_ m := by
  unfold rowOf; rw [List.take_set_of_le h]
theorem getD_set_ne (ws : List Int) (k : Nat) (v : Int) (i : Nat) (h : i < k) : (ws.set k v).getD i 0 = ws.getD i 0 := by
  rw [List.getD_eq_getElem?_getD, List.getElem?_set_ne (by omega), ← List.getD_eq_getElem?_getD]
theorem getD_set_eq (ws : List Int) (k : Nat) (v : Int) (h : k < ws.length) : (ws.set k v).getD k 0 = v := by
  rw [List.getD_eq_getElem?_getD, List.getElem?_set_self h]; rfl
theorem bunits (A B : Nat) (ws xs : List Int) (v : Int) (h1 : 1 ≤ A) (h3 : A ≤ 3) (hB : B ≤ 3) : unitsL A (ws.set (B * (A + 1) + B) v) xs B = unitsL A ws xs B := by
  refine List.ext_getElem (by rw [unitsL_len, unitsL_len]) (fun i g1 g2 => ?_)
  rw [unitsL_get, unitsL_get]
  rw [unitsL_len] at g1
  have b2 : i * (A + 1) + A < B * (A + 1) + B := by
    have ha : A = 1 ∨ A = 2 ∨ A = 3 := by omega
    rcases ha with rfl | rfl | rfl <;> omega
  unfold unitI
  rw [getD_set_ne _ _ _ _ b2, row_set _ _ _ _ _ (by omega)]
theorem bias_j (k : Nat) (a b : Int) (ws xs : List Int) (by_ : Int) (h : fits a b ws xs) (hk : 50 ≤ k) : grafterlaw6_ForwardBias.j0 k ws xs by_ (outI a b ws xs) false a b = some true := by
  obtain ⟨k, rfl⟩ : ∃ j, k = j + 1 + 1 := ⟨k - 2, by omega⟩
  obtain ⟨A, B, rfl, rfl, h1, h2, h3, h4, h5, h6, h7, h8⟩ := fits_nat a b ws xs h
  have hsz : (ws.length : Int) = sizeI (A : Int) (B : Int) := h.1.2.1
  have hxl := h.2
  have hshape := h.1.1
  obtain ⟨b1, b2⟩ := last_bd A B ws.length h1 h2 h4 h5
  rw [grafterlaw6_ForwardBias.j0, if_neg (by decide), Option.bind_some, if_pos (by simp; omega), Option.bind_some, List.nil_append, and_mask by_ 16 (by decide) 65535 (by decide)]
  obtain ⟨d, hd⟩ : ∃ d, by_ % 2 ^ 16 = d := ⟨_, rfl⟩
  have hd1 : 0 ≤ d ∧ d ≤ 65535 := by omega
  rw [hd]; clear hd
  obtain ⟨n, hn⟩ : ∃ n, B * (A + 1) + B = n := ⟨_, rfl⟩
  have hwl : ws.length = n + 1 := by omega
  have hgo : okI (ws.getD n 0) := getD_ok ws n (by omega) h7
  have hgb : -1073741824 ≤ ws.getD n 0 ∧ ws.getD n 0 ≤ 1073741824 := hgo
  rw [hwl, wrap_id (((n + 1 : Nat) : Int) - 1) (by omega) (by omega), show (((n + 1 : Nat) : Int) - 1) = (n : Int) by omega, if_pos (by omega), if_pos (by omega), rd_getD, Int.toNat_natCast]
  obtain ⟨g, hg⟩ : ∃ g, ws.getD n 0 = g := ⟨_, rfl⟩
  rw [hg] at hgb
  rw [hg, wrap_id (g + d) (by omega) (by omega), Option.bind_some, rd_getD, getD_set_eq _ _ _ (by omega)]
  have tr : ∀ (x9 x11 : Int) (x12 : List Int), grafterlaw6_ForwardBias.j1 (k + 1) xs x9 x11 x12 true (A : Int) (B : Int) = some true := fun _ _ _ => by rw [grafterlaw6_ForwardBias.j1, if_pos rfl]
  by_cases c1 : g + d > 1073741824
  · rw [if_pos c1]; exact tr _ _ _
  rw [if_neg c1]
  rw [wrap_id (1073741824 - d) (by omega) (by omega)]
  obtain ⟨y, hy⟩ : ∃ y, outI (A : Int) (B : Int) ws xs = y := ⟨_, rfl⟩
  have hy2 := hy
  rw [outI_nat] at hy2
  unfold tellsI at hy2
  rw [hn, hg] at hy2
  rw [hy]
  by_cases c2 : y > 1073741824 - d
  · rw [if_pos c2]; exact tr _ _ _
  rw [if_neg c2]
  by_cases c3 : y = -1073741824
  · rw [c3]; exact tr _ _ _
  rw [show (y == -1073741824) = false from beq_eq_false_iff_ne.2 c3, grafterlaw6_ForwardBias.j1, if_neg (by decide)]
  have hf2 : fits (A : Int) (B : Int) (ws.set n (g + d)) xs := by
    refine ⟨⟨hshape, by rw [List.length_set]; exact hsz, by rw [List.length_set]; exact h.1.2.2.1, fun x hx => ?_⟩, hxl⟩
    rcases List.mem_or_eq_of_mem_set hx with hx | hx
    · exact h7 x hx
    · rw [hx]; exact okI_mk _ (by omega) (by omega)
  have hz : outI (A : Int) (B : Int) (ws.set n (g + d)) xs = y + d := by
    rw [outI_nat]
    unfold tellsI
    rw [← hn, bunits A B ws xs _ h1 h2 h4, row_set _ _ _ _ _ (Nat.le_refl _), getD_set_eq _ _ _ (by omega)]
    obtain ⟨s, hs⟩ : ∃ s, dotA 0 (rowOf ws (B * (A + 1)) B) ((unitsL A ws xs B).map hardI) = s := ⟨_, rfl⟩
    rw [hs] at hy2 ⊢
    clear hs
    unfold cutI at hy2 ⊢
    split at hy2
    · split <;> (try split) <;> omega
    · split at hy2
      · omega
      · split <;> (try split) <;> omega
  have hyb : okI (y + d) := by rw [← hz]; exact cutI_ok _
  have hyb2 : -1073741824 ≤ y + d ∧ y + d ≤ 1073741824 := hyb
  rw [out_ok k _ _ _ _ hf2 (by omega), Option.bind_some, hz, num_eq, Option.bind_some, if_pos rfl, wrap_id (y + d) (by omega) (by omega), if_pos rfl, rfmay_eq, decide_eq_true hyb]
  rfl
theorem ForwardBias_at (a b : Int) (ws xs : List Int) (c : Int) : grafterlaw6_ForwardBias.f 60 a b ws xs c = some true := by
  unfold grafterlaw6_ForwardBias.f
  rw [fawake_eq 60 (by omega), Option.bind_some, if_pos rfl]
  by_cases hf : fits a b ws xs
  · rw [out_ok 60 _ _ _ _ hf (by omega), Option.bind_some, num_eq, Option.bind_some, if_pos rfl]
    have hl : ((ws.length : Int) == 0) = false := beq_eq_false_iff_ne.2 (fun h0 => by
      have h1 := hf.1.2.1
      have h2 := (sizeI_bd a b hf.1.1).1
      omega)
    rw [hl]
    exact bias_j 60 a b ws xs c hf (by omega)
  · rw [out_bad 60 _ _ _ _ hf (by omega), Option.bind_some, num_eq, Option.bind_some, if_neg (by decide), grafterlaw6_ForwardBias.j0, if_pos rfl]
    rfl
theorem ForwardBias : grafterlaw6_ForwardBias.Pure := fun a b ws xs c _ _ _ _ _ _ _ _ _ => ⟨60, ForwardBias_at a b ws xs c⟩

end Go.Proofs.Ytdgbfgnmeoihiaa.Pure
