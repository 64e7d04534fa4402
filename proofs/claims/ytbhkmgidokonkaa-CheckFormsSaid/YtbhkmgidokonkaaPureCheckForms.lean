/- P14, P14.1: for every two int values: checkpoints and bytes that may not be are refused, whichever way they fail. No condition. -/
import Derived.Test.YtbhkmgidokonkaaPCheckFormsx9
import Derived.Test.YtbhkmgidokonkaaHelp
import Derived.Test.YtbhkmgidokonkaaHelpDraw
namespace Go.Proofs.Ytbhkmgidokonkaa.Pure
open Go.RowKit Go.Proofs.Ytbhkmgidokonkaa Go.Proofs.Ytbhkmgidokonkaa.PCheckForms Go.Proofs.YtbhkmgidokonkaaW.PrintWords Go.Proofs.YtbhkmgidokonkaaW.PrintLast Go.Proofs.YtbhkmgidokonkaaW.PrintMore
set_option linter.unusedVariables false
set_option linter.unusedSimpArgs false

theorem rd_nat (l : List Int) (i : Nat) (h : i < l.length) : rd l (i : Int) = l[i] := by
  unfold rd; rw [Int.toNat_natCast, List.getD_eq_getElem?_getD, List.getElem?_eq_getElem h]; rfl
theorem same_l0 (l m : List Int) (hl : l.length = m.length) (hb : l.length ≤ 4611686018427387904) : ∀ (d k i : Nat), i + d = l.length → d < k →
    grafterlaw0_SameInts.l0 k l m (i : Int) = some (decide (l.drop i = m.drop i)) := by
  intro d
  induction d with
  | zero =>
    intro k i hi hk
    obtain ⟨k, rfl⟩ : ∃ j, k = j + 1 := ⟨k - 1, by omega⟩
    rw [grafterlaw0_SameInts.l0, if_neg (by omega), List.drop_eq_nil_of_le (by omega), List.drop_eq_nil_of_le (by omega)]
    rfl
  | succ d ih =>
    intro k i hi hk
    obtain ⟨k, rfl⟩ : ∃ j, k = j + 1 := ⟨k - 1, by omega⟩
    have h1 : i < l.length := by omega
    have h2 : i < m.length := by omega
    rw [grafterlaw0_SameInts.l0, if_pos (by omega), if_pos (by omega), if_pos (by omega), rd_nat l i h1, rd_nat m i h2]
    rw [List.drop_eq_getElem_cons h1, List.drop_eq_getElem_cons h2]
    by_cases e : l[i] = m[i]
    · rw [if_pos e, wrap_id _ (by omega) (by omega), show ((i : Int) + 1) = ((i + 1 : Nat) : Int) by omega, ih k (i + 1) (by omega) (by omega)]
      refine congrArg some (decide_eq_decide.2 ?_)
      rw [List.cons.injEq]
      exact ⟨fun h => ⟨e, h⟩, fun h => h.2⟩
    · rw [if_neg e, decide_eq_false]
      rw [List.cons.injEq]
      exact fun h => e h.1
theorem same_eq (k : Nat) (l m : List Int) (hb : l.length ≤ 4611686018427387904) (hk : l.length < k) : grafterlaw0_SameInts.f k l m = some (decide (l = m)) := by
  unfold grafterlaw0_SameInts.f
  by_cases h : (l.length : Int) = (m.length : Int)
  · rw [if_pos h]
    have := same_l0 l m (by omega) hb l.length k 0 (by omega) hk
    simpa using this
  · rw [if_neg h, decide_eq_false]
    rintro rfl
    exact h rfl

theorem fmay_eq (a : Int) : fix_May.f a = some (decide (okI a)) := by
  unfold fix_May.f okI
  by_cases h : a ≥ -1073741824
  · rw [if_pos h]; refine congrArg some (decide_eq_decide.2 ?_); omega
  · rw [if_neg h]; refine congrArg some (Eq.symm (decide_eq_false ?_)); omega
theorem index_l0 (l : List Int) (hb : l.length ≤ 4611686018427387904) : ∀ (d k i : Nat), i + d = l.length → d < k →
    ∃ r, slices_IndexFunc_int_int.l0 k l (l.length : Int) (i : Int) = some r ∧ (0 ≤ r ↔ ¬ ∀ x ∈ l.drop i, okI x) := by
  intro d
  induction d with
  | zero =>
    intro k i hi hk
    obtain ⟨k, rfl⟩ : ∃ j, k = j + 1 := ⟨k - 1, by omega⟩
    refine ⟨-1, by rw [slices_IndexFunc_int_int.l0, if_neg (by omega)], ?_⟩
    rw [List.drop_eq_nil_of_le (by omega)]
    simp
  | succ d ih =>
    intro k i hi hk
    obtain ⟨k, rfl⟩ : ∃ j, k = j + 1 := ⟨k - 1, by omega⟩
    have h1 : i < l.length := by omega
    obtain ⟨r, hr, he⟩ := ih k (i + 1) (by omega) (by omega)
    rw [slices_IndexFunc_int_int.l0, if_pos (by omega), if_pos (by omega), if_pos (by omega), rd_nat l i h1]
    unfold vec_May_1.f
    rw [fmay_eq, List.drop_eq_getElem_cons h1]
    by_cases ho : okI l[i]
    · refine ⟨r, ?_, ?_⟩
      · rw [decide_eq_true ho, wrap_id ((i : Int) + 1) (by omega) (by omega), show ((i : Int) + 1) = ((i + 1 : Nat) : Int) by omega]
        exact hr
      · rw [he, List.forall_mem_cons]
        exact ⟨fun q1 q2 => q1 q2.2, fun q1 q2 => q1 ⟨ho, q2⟩⟩
    · refine ⟨(i : Int), ?_, ?_⟩
      · rw [decide_eq_false ho]; rfl
      · rw [List.forall_mem_cons]
        exact ⟨fun _ q => ho q.1, fun _ => by omega⟩
def okV (l : List Int) : Prop := l.length ≤ 16 ∧ ∀ x ∈ l, okI x
instance (l : List Int) : Decidable (okV l) := inferInstanceAs (Decidable (_ ∧ _))
theorem vmay_eq (k : Nat) (l : List Int) (hk : 20 ≤ k) : vec_May.f k l = some (decide (okV l)) := by
  unfold vec_May.f
  by_cases h : (l.length : Int) ≤ 16
  · obtain ⟨r, hr, he⟩ := index_l0 l (by omega) l.length k 0 (by omega) (by omega)
    rw [List.drop_zero] at he
    rw [if_pos h]
    unfold slices_ContainsFunc_int_int.f slices_IndexFunc_int_int.f
    rw [show ((0 : Nat) : Int) = 0 from rfl] at hr
    rw [hr]
    simp only [Option.bind_some]
    refine congrArg some ?_
    by_cases h2 : ∀ x ∈ l, okI x
    · rw [decide_eq_false (show ¬ (0 ≤ r) from fun q => he.1 q h2), decide_eq_true (show okV l from ⟨by omega, h2⟩)]; rfl
    · rw [decide_eq_true (he.2 h2), decide_eq_false (show ¬ okV l from fun q => h2 q.2)]; rfl
  · rw [if_neg h, decide_eq_false (show ¬ okV l from fun q => by have := q.1; omega)]

theorem rd_L1_nat (l : List (List Int)) (i : Nat) (h : i < l.length) : rd_L1 l (i : Int) = l[i] := by
  unfold rd_L1; rw [Int.toNat_natCast, List.getD_eq_getElem?_getD, List.getElem?_eq_getElem h]; rfl
theorem alike_l0 (L : List (List Int)) (hL : L.length ≤ 8) (h0 : 0 < L.length) : ∀ (d k i : Nat), i + d = L.length → d + 20 < k →
    vec_Alike.l0 k L L (L.length : Int) (i : Int) = some (decide (∀ r ∈ L.drop i, okV r ∧ r.length = L[0].length)) := by
  intro d
  induction d with
  | zero =>
    intro k i hi hk
    obtain ⟨k, rfl⟩ : ∃ j, k = j + 1 := ⟨k - 1, by omega⟩
    rw [vec_Alike.l0, if_neg (by omega), List.drop_eq_nil_of_le (by omega)]
    simp
  | succ d ih =>
    intro k i hi hk
    obtain ⟨k, rfl⟩ : ∃ j, k = j + 1 := ⟨k - 1, by omega⟩
    have h1 : i < L.length := by omega
    rw [vec_Alike.l0, if_pos (by omega), if_pos (by omega), if_pos (by omega), rd_L1_nat L i h1, vmay_eq k _ (by omega), List.drop_eq_getElem_cons h1]
    by_cases ho : okV L[i]
    · rw [decide_eq_true ho]
      simp only [Option.bind_some, if_true]
      rw [if_pos (by omega), show rd_L1 L 0 = L[0] from rd_L1_nat L 0 h0]
      by_cases hl : L[i].length = L[0].length
      · rw [if_pos (by omega), wrap_id ((i : Int) + 1) (by omega) (by omega), show ((i : Int) + 1) = ((i + 1 : Nat) : Int) by omega, ih k (i + 1) (by omega) (by omega)]
        refine congrArg some (decide_eq_decide.2 ?_)
        rw [List.forall_mem_cons]
        exact ⟨fun q => ⟨⟨ho, hl⟩, q⟩, fun q => q.2⟩
      · rw [if_neg (by omega), decide_eq_false]
        intro q
        exact hl (q _ (List.mem_cons_self)).2
    · rw [decide_eq_false ho]
      simp only [Option.bind_some, Bool.false_eq_true, if_false]
      rw [decide_eq_false]
      intro q
      exact ho (q _ (List.mem_cons_self)).1

def like2 (a b : List Int) : Prop := okV a ∧ okV b ∧ a.length = b.length
instance (a b : List Int) : Decidable (like2 a b) := inferInstanceAs (Decidable (_ ∧ _ ∧ _))
theorem alike2 (k : Nat) (a b : List Int) (hk : 30 ≤ k) : vec_Alike.f k [a, b] = some (decide (like2 a b)) := by
  unfold vec_Alike.f
  have := alike_l0 [a, b] (by simp) (by simp) 2 k 0 rfl (by omega)
  rw [show ((0 : Nat) : Int) = 0 from rfl] at this
  rw [this]
  refine congrArg some (decide_eq_decide.2 ?_)
  rw [List.drop_zero, List.forall_mem_cons, List.forall_mem_cons]
  exact ⟨fun q => ⟨q.1.1, q.2.1.1, q.2.1.2.symm⟩, fun q => ⟨⟨q.1, rfl⟩, ⟨q.2.1, q.2.2.symm⟩, fun x hx => absurd hx List.not_mem_nil⟩⟩

theorem num_eq (x : Int) : grafterlaw0_Num.f x = some x := rfl
def okHyper (r m : Int) : Prop := (64 ≤ r ∧ r ≤ 16384) ∧ (0 ≤ m ∧ m ≤ 58982)
instance (a b : Int) : Decidable (okHyper a b) := inferInstanceAs (Decidable (_ ∧ _))
theorem omay_eq (a b : Int) : optim_May.f a b = some (decide (okHyper a b)) := by
  unfold optim_May.f okHyper
  by_cases h1 : a ≥ 64
  · rw [if_pos h1]
    by_cases h2 : a ≤ 16384
    · rw [if_pos h2]
      by_cases h3 : b ≥ 0
      · rw [if_pos h3]; refine congrArg some (decide_eq_decide.2 ?_); omega
      · rw [if_neg h3]; refine congrArg some (Eq.symm (decide_eq_false ?_)); omega
    · rw [if_neg h2]; refine congrArg some (Eq.symm (decide_eq_false ?_)); omega
  · rw [if_neg h1]; refine congrArg some (Eq.symm (decide_eq_false ?_)); omega
theorem hmay_eq (a b : Int) : hyper_May.f a b = some (decide (okHyper a b)) := by
  unfold hyper_May.f; rw [omay_eq]; rfl

theorem toNat_ofInt32 (x : Nat) (h : x < 4294967296) : (BitVec.ofInt 32 (x : Int)).toNat = x := by
  rw [BitVec.toNat_ofInt]
  show ((x : Int) % 4294967296).toNat = x
  omega
theorem wrap_u32 (n : Int) : IntKind.u32.wrap n = n % 4294967296 := by simp [IntKind.wrap, IntKind.signed, IntKind.bits]
theorem w1 (j : Nat) (h : j < 4611686018427387904) : wrap64 ((j : Int) + 1) = ((j + 1 : Nat) : Int) := by unfold wrap64; omega
def bl (s : ByteArray) : List Nat := s.data.toList.map UInt8.toNat
theorem bl_length (s : ByteArray) : (bl s).length = s.size := by unfold bl; rw [List.length_map]; exact data_length s
theorem bl_lt (s : ByteArray) : ∀ b ∈ bl s, b < 256 := by
  intro b hb
  obtain ⟨u, _, rfl⟩ := List.mem_map.1 hb
  exact u.toNat_lt
theorem bt_bl (s : ByteArray) (i : Nat) (h : i < s.size) : bt s (i : Int) = (((bl s)[i]'(by rw [bl_length]; exact h) : Nat) : Int) := by
  rw [← bt_at s (i : Int) (by rw [Int.toNat_natCast]; exact h)]
  unfold bl
  simp only [Int.toNat_natCast, List.getElem_map, Array.getElem_toList]
  rfl
theorem bytes_eq {a b : ByteArray} (h : a.toList = b.toList) : a = b := by
  rw [ByteArray.toList_eq, ByteArray.toList_eq] at h
  cases a; cases b
  congr 1
  exact Array.toList_inj.1 h
theorem bl_inj {a b : ByteArray} (h : bl a = bl b) : a = b := by
  cases a; cases b
  congr 1
  refine Array.toList_inj.1 ?_
  unfold bl at h
  exact List.map_inj_right (fun x y e => UInt8.toNat_inj.1 e) |>.1 h
theorem getD_lt (t : ByteArray) (i : Nat) : (bl t).getD i 0 < 256 := by
  rw [List.getD_eq_getElem?_getD]
  cases h : (bl t)[i]? with
  | none => decide
  | some v => exact bl_lt t v (List.mem_of_getElem? h)
theorem bl_extract (t : ByteArray) (i j : Nat) : bl (t.extract i j) = ((bl t).drop i).take (j - i) := by
  unfold bl
  rw [ByteArray.data_extract, Array.toList_extract, List.extract_eq_take_drop, List.map_take, List.map_drop]
theorem bt_at2 (t : ByteArray) (i j m : Nat) (h : i + j < m) (hm : m ≤ t.size) : bt (t.extract i m) (j : Int) = (((bl t).getD (i + j) 0 : Nat) : Int) := by
  have hs : j < (t.extract i m).size := by rw [ByteArray.size_extract]; omega
  rw [bt_bl _ j hs]
  congr 1
  have h2 : (bl (t.extract i m))[j]? = (bl t)[i + j]? := by
    rw [bl_extract, List.getElem?_take_of_lt (by omega), List.getElem?_drop]
  rw [List.getElem?_eq_getElem (by rw [bl_length]; exact hs)] at h2
  rw [List.getD_eq_getElem?_getD, ← h2]
  rfl

def b4 (x : Int) : List Int := [x % 256, x / 256 % 256, x / 256 / 256 % 256, x / 256 / 256 / 256 % 256]
theorem put_eq (k : Nat) (l : List Int) (x : Int) (hl : l.length ≤ 1000) (hk : 10 ≤ k) : check_put.f k l x = some (l ++ b4 x) := by
  obtain ⟨k, rfl⟩ : ∃ j, k = j + 5 := ⟨k - 5, by omega⟩
  unfold check_put.f
  rw [check_put.l0, if_pos (by decide), if_pos (by omega), show wrap64 (0 + 1) = 1 by unfold wrap64; omega,
    check_put.l0, if_pos (by decide), if_pos (by simp only [List.length_append, List.length_cons, List.length_nil]; omega), show wrap64 (1 + 1) = 2 by unfold wrap64; omega,
    check_put.l0, if_pos (by decide), if_pos (by simp only [List.length_append, List.length_cons, List.length_nil]; omega), show wrap64 (2 + 1) = 3 by unfold wrap64; omega,
    check_put.l0, if_pos (by decide), if_pos (by simp only [List.length_append, List.length_cons, List.length_nil]; omega), show wrap64 (3 + 1) = 4 by unfold wrap64; omega,
    check_put.l0, if_neg (by decide)]
  simp only [List.append_assoc, List.cons_append, List.nil_append, b4]
theorem b4_len (x : Int) : (b4 x).length = 4 := rfl
theorem flat_len : ∀ L : List Int, (L.flatMap b4).length = 4 * L.length
  | [] => rfl
  | x :: xs => by rw [List.flatMap_cons, List.length_append, flat_len xs, b4_len, List.length_cons]; omega
theorem grow_eq (n : Int) (h0 : 0 ≤ n) (h1 : n ≤ 1000) : slices_Grow_int_int.f [] n = some [] := by
  unfold slices_Grow_int_int.f
  rw [if_neg (by omega)]
  by_cases h : n > 0
  · rw [if_pos h, if_pos (by omega)]
  · rw [if_neg h]
theorem concat_eq (k : Nat) (a b c : List Int) (ha : a.length ≤ 100) (hb : b.length ≤ 100) (hc : c.length ≤ 100) (hk : 20 ≤ k) : slices_Concat_int_int.f k [a, b, c] = some (a ++ b ++ c) := by
  obtain ⟨k, rfl⟩ : ∃ j, k = j + 12 := ⟨k - 12, by omega⟩
  have r0 : rd_L1 [a, b, c] 0 = a := rfl
  have r1 : rd_L1 [a, b, c] 1 = b := rfl
  have r2 : rd_L1 [a, b, c] 2 = c := rfl
  have w0 : wrap64 (0 + (a.length : Int)) = (a.length : Int) := (by rw [Int.zero_add]; exact wrap_id _ (by omega) (by omega))
  have w1_ : wrap64 ((a.length : Int) + (b.length : Int)) = (a.length : Int) + (b.length : Int) := wrap_id _ (by omega) (by omega)
  have w2 : wrap64 ((a.length : Int) + (b.length : Int) + (c.length : Int)) = (a.length : Int) + (b.length : Int) + (c.length : Int) := wrap_id _ (by omega) (by omega)
  unfold slices_Concat_int_int.f
  rw [show (([a, b, c] : List (List Int)).length : Int) = 3 from rfl]
  rw [slices_Concat_int_int.l0, if_pos (by decide), if_pos (by decide), if_pos (show (0 : Int) < (([a, b, c] : List (List Int)).length : Int) by show (0 : Int) < 3; decide), r0, w0, if_neg (by omega), show wrap64 (0 + 1) = 1 by unfold wrap64; omega,
    slices_Concat_int_int.l0, if_pos (by decide), if_pos (by decide), if_pos (show (1 : Int) < (([a, b, c] : List (List Int)).length : Int) by show (1 : Int) < 3; decide), r1, w1_, if_neg (by omega), show wrap64 (1 + 1) = 2 by unfold wrap64; omega,
    slices_Concat_int_int.l0, if_pos (by decide), if_pos (by decide), if_pos (show (2 : Int) < (([a, b, c] : List (List Int)).length : Int) by show (2 : Int) < 3; decide), r2, w2, if_neg (by omega), show wrap64 (2 + 1) = 3 by unfold wrap64; omega,
    slices_Concat_int_int.l0, if_neg (by decide), grow_eq _ (by omega) (by omega), Option.bind_some, show (([a, b, c] : List (List Int)).length : Int) = 3 from rfl,
    slices_Concat_int_int.l1, if_pos (by decide), if_pos (by decide), if_pos (show (0 : Int) < (([a, b, c] : List (List Int)).length : Int) by show (0 : Int) < 3; decide), r0, if_pos (by simp only [List.length_nil]; omega), show wrap64 (0 + 1) = 1 by unfold wrap64; omega, List.nil_append,
    slices_Concat_int_int.l1, if_pos (by decide), if_pos (by decide), if_pos (show (1 : Int) < (([a, b, c] : List (List Int)).length : Int) by show (1 : Int) < 3; decide), r1, if_pos (by omega), show wrap64 (1 + 1) = 2 by unfold wrap64; omega,
    slices_Concat_int_int.l1, if_pos (by decide), if_pos (by decide), if_pos (show (2 : Int) < (([a, b, c] : List (List Int)).length : Int) by show (2 : Int) < 3; decide), r2, if_pos (by rw [List.length_append]; omega), show wrap64 (2 + 1) = 3 by unfold wrap64; omega,
    slices_Concat_int_int.l1, if_neg (by decide)]
def okCk (ws vs : List Int) (r m st : Int) : Prop := like2 ws vs ∧ (ws.length : Int) > 0 ∧ okHyper r m ∧ (0 ≤ st ∧ st ≤ 32)
instance (ws vs : List Int) (r m st : Int) : Decidable (okCk ws vs r m st) := inferInstanceAs (Decidable (_ ∧ _))
theorem ckchain {p q : Prop} [Decidable p] [Decidable q] (x : Option Bool) (h : p → x = some (decide q)) : (if p then x else some false) = some (decide (p ∧ q)) := by
  by_cases hp : p
  · rw [if_pos hp, h hp]
    refine congrArg some (decide_eq_decide.2 ?_)
    exact ⟨fun hq => ⟨hp, hq⟩, fun hq => hq.2⟩
  · rw [if_neg hp, decide_eq_false (fun hq => hp hq.1)]
theorem ckchainT {p q : Prop} [Decidable p] [Decidable q] (x : Option Bool) (h : p → x = some (decide q)) : (if decide p = true then x else some false) = some (decide (p ∧ q)) := by
  by_cases hp : p
  · rw [decide_eq_true hp, if_pos rfl, h hp]
    refine congrArg some (decide_eq_decide.2 ?_)
    exact ⟨fun hq => ⟨hp, hq⟩, fun hq => hq.2⟩
  · rw [decide_eq_false hp, if_neg (by decide), decide_eq_false (fun hq => hp hq.1)]
theorem ckmay_eq (k : Nat) (ws vs : List Int) (r m st : Int) (hk : 40 ≤ k) : check_May.f k ws vs r m st = some (decide (okCk ws vs r m st)) := by
  unfold check_May.f
  rw [alike2 k ws vs (by omega), Option.bind_some]
  refine ckchainT _ (fun _ => ?_)
  refine ckchain _ (fun _ => ?_)
  rw [hmay_eq, Option.bind_some]
  refine ckchainT _ (fun _ => ?_)
  refine ckchain _ (fun _ => ?_)
  rfl
def encL (ws vs : List Int) (r m st : Int) : List Int := ([(ws.length : Int) % 256] ++ (ws ++ vs ++ [r, m]).flatMap b4) ++ [st % 256]
def encS (ws vs : List Int) (r m st : Int) : ByteArray := strOfNums (encL ws vs r m st)
theorem put_l0 (L : List Int) (hL : L.length ≤ 100) (p0 p1 : List Int) (p2 p3 st : Int) : ∀ (d k i : Nat) (acc : List Int), i + d = L.length → d + 20 ≤ k → acc.length ≤ 4 * i + 1 →
    check_Put.l0 k acc L (L.length : Int) (i : Int) p0 p1 p2 p3 st = some (strOfNums ((acc ++ (L.drop i).flatMap b4) ++ [st % 256]), 0) := by
  intro d
  induction d with
  | zero =>
    intro k i acc hi hk ha
    obtain ⟨k, rfl⟩ : ∃ j, k = j + 1 := ⟨k - 1, by omega⟩
    rw [check_Put.l0, if_neg (by omega), List.drop_eq_nil_of_le (by omega), if_pos (by omega), List.flatMap_nil, List.append_nil]
  | succ d ih =>
    intro k i acc hi hk ha
    obtain ⟨k, rfl⟩ : ∃ j, k = j + 1 := ⟨k - 1, by omega⟩
    have h1 : i < L.length := by omega
    rw [check_Put.l0, if_pos (by omega), if_pos (by omega), if_pos (by omega), rd_nat L i h1, put_eq k acc _ (by omega) (by omega), Option.bind_some, wrap_id ((i : Int) + 1) (by omega) (by omega), show ((i : Int) + 1) = ((i + 1 : Nat) : Int) by omega]
    rw [ih k (i + 1) _ (by omega) (by omega) (by rw [List.length_append, b4_len]; omega), List.drop_eq_getElem_cons h1, List.flatMap_cons, List.append_assoc acc]
theorem ckput_ok (k : Nat) (ws vs : List Int) (r m st : Int) (h : okCk ws vs r m st) (hk : 200 ≤ k) : check_Put.f k ws vs r m st = some (encS ws vs r m st, 0) := by
  have h1 := h.1.1.1
  have h2 := h.1.2.1.1
  have hl : (ws ++ vs ++ [r, m]).length ≤ 100 := by simp only [List.length_append, List.length_cons, List.length_nil]; omega
  unfold check_Put.f
  rw [ckmay_eq k ws vs r m st (by omega), decide_eq_true h, Option.bind_some, if_pos rfl, concat_eq k ws vs [r, m] (by omega) (by omega) (by simp) (by omega), Option.bind_some]
  have := put_l0 (ws ++ vs ++ [r, m]) hl ws vs r m st (ws ++ vs ++ [r, m]).length k 0 [(ws.length : Int) % 256] (by omega) (by omega) (by simp)
  rw [List.drop_zero] at this
  exact this
theorem ckput_bad (k : Nat) (ws vs : List Int) (r m st : Int) (h : ¬ okCk ws vs r m st) (hk : 200 ≤ k) : check_Put.f k ws vs r m st = some ((⟨#[]⟩ : ByteArray), 1400) := by
  unfold check_Put.f
  rw [ckmay_eq k ws vs r m st (by omega), decide_eq_false h, Option.bind_some, if_neg (by decide)]

theorem fill_set (z : List Int) (i d : Nat) (h : i < z.length) : (z.take i ++ List.replicate (d + 1) 0).set i z[i] = z.take (i + 1) ++ List.replicate d 0 := by
  have ht : (z.take i).length = i := by rw [List.length_take]; omega
  rw [List.set_append_right _ _ (by omega), ht, Nat.sub_self, List.replicate_succ, List.set_cons_zero, List.take_succ_eq_append_getElem h, List.append_assoc]
  rfl
theorem fill_len (z : List Int) (i d : Nat) (h : i + d = z.length) : (z.take i ++ List.replicate d 0).length = z.length := by
  rw [List.length_append, List.length_take, List.length_replicate]; omega

theorem u32_or (x y : Nat) (hx : x < 4294967296) (hy : y < 4294967296) : Go.bits .or .u32 (x : Int) (y : Int) = ((x ||| y : Nat) : Int) := by
  show IntKind.u32.wrap (((BitVec.ofInt 32 (x : Int) ||| BitVec.ofInt 32 (y : Int)).toNat : Nat) : Int) = _
  rw [BitVec.toNat_or, toNat_ofInt32 x hx, toNat_ofInt32 y hy, wrap_u32]
  have : x ||| y < 2 ^ 32 := Nat.or_lt_two_pow hx hy
  have : x ||| y < 4294967296 := this
  omega
theorem or_at (x n c i : Nat) (hc : c = 2 ^ i) (hx : x < c) : x ||| n * c = x + c * n := by
  subst hc
  have := Nat.two_pow_add_eq_or_of_lt (i := i) (b := x) hx n
  rw [Nat.or_comm, Nat.mul_comm n, ← this, Nat.add_comm]
theorem shl_at (n i c : Nat) (hc : c = 2 ^ (8 * i)) (hi : i < 4) (hn : n < 256) (hb : n * c < 4294967296) : shl .u32 ((n : Int) % 4294967296) (wrap64 (8 * (i : Int))) = ((n * c : Nat) : Int) := by
  have h1 : wrap64 (8 * (i : Int)) = ((8 * i : Nat) : Int) := by unfold wrap64; omega
  have h2 : min (8 * i) (IntKind.u32.bits) = 8 * i := Nat.min_eq_left (by show 8 * i ≤ 32; omega)
  unfold shl
  rw [h1, Int.toNat_natCast, h2, wrap_u32, show (n : Int) % 4294967296 = (n : Int) by omega, show ((2 : Int) ^ (8 * i)) = ((2 ^ (8 * i) : Nat) : Int) by rw [Int.natCast_pow]; rfl, ← hc, ← Int.natCast_mul]
  omega
theorem get_step (k : Nat) (s : ByteArray) (x i n c y : Nat) (hc : c = 2 ^ (8 * i)) (hc2 : c ≤ 16777216) (hi : i < 4) (hs : 4 ≤ s.size) (hx : x < c) (hn : n < 256) (e : bt s (i : Int) = (n : Int)) (hy : y = x + c * n) :
    check_get.l0 (k + 1) s (x : Int) (i : Int) = check_get.l0 k s (y : Int) ((i + 1 : Nat) : Int) := by
  have hb : n * c ≤ 255 * 16777216 := Nat.mul_le_mul (by omega) hc2
  rw [check_get.l0, if_pos (by omega), if_pos (by omega), if_pos (by omega), if_pos (by unfold wrap64; omega), e, shl_at n i c hc hi hn (by omega), u32_or x (n * c) (by omega) (by omega), or_at x n c (8 * i) hc hx, ← hy, show wrap64 ((i : Int) + 1) = ((i + 1 : Nat) : Int) by unfold wrap64; omega]
def valN (v : Nat) : Int := if v < 2147483648 then (v : Int) else (v : Int) - 4294967296
theorem val_w (v : Nat) (h : v < 4294967296) : wrap64 (wrap32 (v : Int)) = valN v := by
  unfold wrap64 wrap32 valN
  split <;> omega
def sum4 (a b c d : Nat) : Nat := a + 256 * b + 65536 * c + 16777216 * d
theorem get_val (k : Nat) (s : ByteArray) (n0 n1 n2 n3 : Nat) (hs : 4 ≤ s.size) (b0 : n0 < 256) (b1 : n1 < 256) (b2 : n2 < 256) (b3 : n3 < 256) (e0 : bt s ((0 : Nat) : Int) = (n0 : Int)) (e1 : bt s ((1 : Nat) : Int) = (n1 : Int)) (e2 : bt s ((2 : Nat) : Int) = (n2 : Int)) (e3 : bt s ((3 : Nat) : Int) = (n3 : Int)) (hk : 10 ≤ k) :
    check_get.f k s = some (valN (sum4 n0 n1 n2 n3)) := by
  obtain ⟨k, rfl⟩ : ∃ j, k = j + 5 := ⟨k - 5, by omega⟩
  obtain ⟨y1, h1⟩ : ∃ y, y = 0 + 1 * n0 := ⟨_, rfl⟩
  obtain ⟨y2, h2⟩ : ∃ y, y = y1 + 256 * n1 := ⟨_, rfl⟩
  obtain ⟨y3, h3⟩ : ∃ y, y = y2 + 65536 * n2 := ⟨_, rfl⟩
  obtain ⟨y4, h4⟩ : ∃ y, y = y3 + 16777216 * n3 := ⟨_, rfl⟩
  have s0 := get_step (k + 4) s 0 0 n0 1 y1 (by decide) (by decide) (by decide) hs (by decide) b0 e0 h1
  have s1 := get_step (k + 3) s y1 1 n1 256 y2 (by decide) (by decide) (by decide) hs (by omega) b1 e1 h2
  have s2 := get_step (k + 2) s y2 2 n2 65536 y3 (by decide) (by decide) (by decide) hs (by omega) b2 e2 h3
  have s3 := get_step (k + 1) s y3 3 n3 16777216 y4 (by decide) (by decide) (by decide) hs (by omega) b3 e3 h4
  have h5 : sum4 n0 n1 n2 n3 = y4 := by unfold sum4; omega
  have h6 : y4 < 4294967296 := by omega
  rw [h5]
  clear h1 h2 h3 h4 h5
  unfold check_get.f
  rw [show ((0 : Nat) : Int) = 0 from rfl] at s0
  rw [s0, s1, s2, s3, check_get.l0, if_neg (by decide), val_w y4 h6]
def w4 (s : ByteArray) (a : Nat) : Int := valN (sum4 ((bl s).getD a 0) ((bl s).getD (a + 1) 0) ((bl s).getD (a + 2) 0) ((bl s).getD (a + 3) 0))
theorem get_eq (k : Nat) (s : ByteArray) (a : Nat) (h : a + 4 ≤ s.size) (hk : 10 ≤ k) : check_get.f k (s.extract a s.size) = some (w4 s a) := by
  have hz : 4 ≤ (s.extract a s.size).size := by rw [ByteArray.size_extract]; omega
  have e0 := bt_at2 s a 0 s.size (by omega) (by omega)
  rw [Nat.add_zero] at e0
  exact get_val k _ _ _ _ _ hz (getD_lt s a) (getD_lt s (a + 1)) (getD_lt s (a + 2)) (getD_lt s (a + 3)) e0 (bt_at2 s a 1 s.size (by omega) (by omega)) (bt_at2 s a 2 s.size (by omega) (by omega)) (bt_at2 s a 3 s.size (by omega) (by omega)) hk
def xsOf (s : ByteArray) (m : Nat) : List Int := (List.range m).map fun i => w4 s (1 + 4 * i)
theorem xsOf_len (s : ByteArray) (m : Nat) : (xsOf s m).length = m := by unfold xsOf; simp
theorem xsOf_get (s : ByteArray) (m i : Nat) (h : i < (xsOf s m).length) : (xsOf s m)[i] = w4 s (1 + 4 * i) := by
  have hm : i < m := by rw [xsOf_len] at h; exact h
  have h2 : (xsOf s m)[i]? = some (w4 s (1 + 4 * i)) := by
    unfold xsOf
    rw [List.getElem?_map, List.getElem?_range hm]; rfl
  rw [List.getElem?_eq_getElem h] at h2
  exact Option.some.inj h2
def lastB (s : ByteArray) : Int := ((bl s).getD (s.size - 1) 0 : Nat)
def Wof (s : ByteArray) (n : Nat) : List Int := (xsOf s (2 * n + 2)).take n
def Vof (s : ByteArray) (n : Nat) : List Int := ((xsOf s (2 * n + 2)).take (2 * n)).drop n
def okS (s : ByteArray) (n : Nat) : Prop := okCk (Wof s n) (Vof s n) (w4 s (1 + 4 * (2 * n))) (w4 s (1 + 4 * (2 * n + 1))) (lastB s)
instance (s : ByteArray) (n : Nat) : Decidable (okS s n) := inferInstanceAs (Decidable (okCk ..))
def finS (s : ByteArray) (n : Nat) : List Int × List Int × Int × Int × Int × Int := if okS s n then (Wof s n, Vof s n, w4 s (1 + 4 * (2 * n)), w4 s (1 + 4 * (2 * n + 1)), lastB s, 0) else ([], [], 0, 0, 0, 1400)
theorem bt_last (s : ByteArray) (h : 0 < s.size) : wrap64 (bt s (((s.size - 1 : Nat) : Nat) : Int)) = lastB s := by
  have hb := getD_lt s (s.size - 1)
  have hl : s.size - 1 < (bl s).length := by rw [bl_length]; omega
  unfold lastB
  rw [bt_bl s (s.size - 1) (by omega)]
  rw [List.getD_eq_getElem?_getD, List.getElem?_eq_getElem hl, Option.getD_some] at hb ⊢
  unfold wrap64
  omega
theorem get_loop (s : ByteArray) (n : Nat) (hn : n ≤ 255) (hs : s.size = 10 + 8 * n) : ∀ (d k i : Nat), i + d = 2 * n + 2 → d + 100 ≤ k →
    check_Get.l0 k s (n : Int) ((xsOf s (2 * n + 2)).take i ++ List.replicate d 0) ((2 * n + 2 : Nat) : Int) (i : Int) = some (finS s n) := by
  intro d
  have hz := xsOf_len s (2 * n + 2)
  induction d with
  | zero =>
    intro k i hi hk
    obtain ⟨k, rfl⟩ : ∃ j, k = j + 1 := ⟨k - 1, by omega⟩
    have w2 : wrap64 (2 * (n : Int)) = ((2 * n : Nat) : Int) := by unfold wrap64; omega
    have w3 : wrap64 (((2 * n : Nat) : Int) + 1) = ((2 * n + 1 : Nat) : Int) := by unfold wrap64; omega
    have w4_ : wrap64 ((s.size : Int) - 1) = ((s.size - 1 : Nat) : Int) := by unfold wrap64; omega
    have hr : ∀ j, j < 2 * n + 2 → rd (xsOf s (2 * n + 2)) (j : Int) = w4 s (1 + 4 * j) := fun j hj => by
      rw [rd_nat _ j (by rw [hz]; exact hj), xsOf_get]
    rw [check_Get.l0, if_neg (by omega), List.replicate_zero, List.append_nil, List.take_of_length_le (by omega), if_pos (by omega), if_pos (by omega), Option.bind_some, w2, if_pos (by omega), if_pos (by omega), Int.toNat_natCast, Int.toNat_natCast]
    unfold slices_Clone_int_int.f
    rw [if_pos (by rw [List.length_drop, List.length_take]; omega), Option.bind_some, if_pos (by omega), if_pos (by omega), w3, if_pos (by omega), if_pos (by omega), w4_, if_pos (by omega), if_pos (by omega), bt_last s (by omega), hr _ (by omega), hr _ (by omega)]
    rw [ckmay_eq k _ _ _ _ _ (by omega), Option.bind_some]
    show _ = some (if okS s n then _ else _)
    by_cases h : okS s n
    · rw [if_pos h]
      unfold okS Wof Vof at h
      rw [decide_eq_true h, if_pos rfl]; rfl
    · rw [if_neg h]
      unfold okS Wof Vof at h
      rw [decide_eq_false h, if_neg (by decide)]
  | succ d ih =>
    intro k i hi hk
    obtain ⟨k, rfl⟩ : ∃ j, k = j + 1 := ⟨k - 1, by omega⟩
    have h1 : i < (xsOf s (2 * n + 2)).length := by omega
    have hl := fill_len (xsOf s (2 * n + 2)) i (d + 1) (by omega)
    have w1_ : wrap64 (1 + wrap64 (4 * (i : Int))) = ((1 + 4 * i : Nat) : Int) := by unfold wrap64; omega
    rw [check_Get.l0, if_pos (by omega), w1_, if_pos (by omega), if_pos (by omega), Int.toNat_natCast, get_eq k s _ (by omega) (by omega), Option.bind_some, if_pos (by omega), if_pos (by omega), Int.toNat_natCast, ← xsOf_get s (2 * n + 2) i h1, fill_set _ i d h1, show wrap64 ((i : Int) + 1) = ((i + 1 : Nat) : Int) by unfold wrap64; omega]
    exact ih k (i + 1) (by omega) (by omega)
def fitS (s : ByteArray) : Prop := 0 < s.size ∧ s.size = 10 + 8 * (bl s).getD 0 0
instance (s : ByteArray) : Decidable (fitS s) := inferInstanceAs (Decidable (_ ∧ _))
theorem bt_first (s : ByteArray) (h : 0 < s.size) : bt s 0 = (((bl s).getD 0 0 : Nat) : Int) := by
  have hl : 0 < (bl s).length := by rw [bl_length]; omega
  have := bt_bl s 0 h
  rw [show ((0 : Nat) : Int) = 0 from rfl] at this
  rw [this, List.getD_eq_getElem?_getD, List.getElem?_eq_getElem hl, Option.getD_some]
theorem toList_size (s : ByteArray) : s.toList = [] ↔ s.size = 0 := by
  rw [ByteArray.toList_eq]
  constructor
  · intro h
    have := congrArg List.length h
    rw [Array.length_toList] at this
    exact this
  · intro h
    exact List.eq_nil_of_length_eq_zero (by rw [Array.length_toList]; exact h)
theorem ckget_eq (k : Nat) (s : ByteArray) (hk : 1000 ≤ k) : check_Get.f k s = some (if fitS s then finS s ((bl s).getD 0 0) else ([], [], 0, 0, 0, 1400)) := by
  obtain ⟨k, rfl⟩ : ∃ j, k = j + 1 := ⟨k - 1, by omega⟩
  unfold check_Get.f
  by_cases h0 : s.size = 0
  · rw [if_pos ((toList_size s).2 h0), check_Get.j0, if_pos rfl, if_neg (fun q => by have := q.1; omega)]
  · have hb := getD_lt s 0
    rw [if_neg (fun q => h0 ((toList_size s).1 q)), if_pos (by omega), bt_first s (by omega)]
    have w0 : wrap64 (2 + wrap64 (4 * wrap64 (wrap64 (2 * wrap64 (((bl s).getD 0 0 : Nat) : Int)) + 2))) = ((10 + 8 * (bl s).getD 0 0 : Nat) : Int) := by unfold wrap64; omega
    have w1_ : wrap64 (wrap64 (2 * wrap64 (((bl s).getD 0 0 : Nat) : Int)) + 2) = ((2 * (bl s).getD 0 0 + 2 : Nat) : Int) := by unfold wrap64; omega
    have w2 : wrap64 (((bl s).getD 0 0 : Nat) : Int) = (((bl s).getD 0 0 : Nat) : Int) := by unfold wrap64; omega
    rw [w0]
    by_cases h1 : s.size = 10 + 8 * (bl s).getD 0 0
    · rw [show ((s.size : Int) != ((10 + 8 * (bl s).getD 0 0 : Nat) : Int)) = false by rw [← h1]; simp, check_Get.j0, if_neg (by decide), if_pos (by omega), bt_first s (by omega), w1_, w2, if_pos (by omega), if_pos (by omega), Option.bind_some, Int.toNat_natCast, if_pos ⟨by omega, h1⟩]
      have := get_loop s ((bl s).getD 0 0) (by omega) h1 (2 * (bl s).getD 0 0 + 2) k 0 (by omega) (by omega)
      rw [List.take_zero, List.nil_append] at this
      rw [List.length_replicate]
      exact this
    · rw [show ((s.size : Int) != ((10 + 8 * (bl s).getD 0 0 : Nat) : Int)) = true by rw [bne_iff_ne]; omega, check_Get.j0, if_pos rfl, if_neg (fun q => h1 q.2)]

theorem bl_str (L : List Int) (h : ∀ x ∈ L, 0 ≤ x ∧ x < 256) : bl (strOfNums L) = L.map Int.toNat := by
  unfold bl
  rw [strOfNums_data, List.map_map]
  refine List.map_congr_left (fun x hx => ?_)
  have := h x hx
  show (UInt8.ofNat x.toNat).toNat = x.toNat
  rw [UInt8.toNat_ofNat']
  omega
theorem getD_str (L : List Int) (h : ∀ x ∈ L, 0 ≤ x ∧ x < 256) (j : Nat) : (bl (strOfNums L)).getD j 0 = (L.getD j 0).toNat := by
  rw [bl_str L h, List.getD_eq_getElem?_getD, List.getElem?_map, List.getD_eq_getElem?_getD]
  cases L[j]? <;> rfl
theorem flat_get : ∀ (L : List Int) (i j : Nat) (h : i < L.length), j < 4 → (L.flatMap b4)[4 * i + j]? = (b4 L[i])[j]?
  | [], _, _, h, _ => absurd h (by simp)
  | x :: xs, 0, j, _, hj => by
    rw [List.flatMap_cons, List.getElem?_append_left (by rw [b4_len]; omega), Nat.mul_zero, Nat.zero_add]
    rfl
  | x :: xs, i + 1, j, h, hj => by
    rw [List.flatMap_cons, List.getElem?_append_right (by rw [b4_len]; omega), b4_len, show 4 * (i + 1) + j - 4 = 4 * i + j by omega, flat_get xs i j (by rw [List.length_cons] at h; omega) hj]
    rfl
theorem b4_bd (x : Int) : ∀ y ∈ b4 x, 0 ≤ y ∧ y < 256 := by
  intro y hy
  unfold b4 at hy
  simp only [List.mem_cons, List.not_mem_nil, or_false] at hy
  rcases hy with rfl | rfl | rfl | rfl <;> omega
theorem encL_bd (ws vs : List Int) (r m st : Int) : ∀ y ∈ encL ws vs r m st, 0 ≤ y ∧ y < 256 := by
  intro y hy
  unfold encL at hy
  rcases List.mem_append.1 hy with hy | hy
  · rcases List.mem_append.1 hy with hy | hy
    · rw [List.mem_singleton.1 hy]; omega
    · obtain ⟨x, _, hx⟩ := List.mem_flatMap.1 hy
      exact b4_bd x y hx
  · rw [List.mem_singleton.1 hy]; omega
theorem encL_len (ws vs : List Int) (r m st : Int) : (encL ws vs r m st).length = 10 + 4 * (ws.length + vs.length) := by
  unfold encL
  rw [List.length_append, List.length_append, flat_len]
  simp only [List.length_append, List.length_cons, List.length_nil]
  omega
theorem encS_size (ws vs : List Int) (r m st : Int) : (encS ws vs r m st).size = 10 + 4 * (ws.length + vs.length) := by
  unfold encS; rw [strOfNums_size, encL_len]
theorem enc_at (ws vs : List Int) (r m st : Int) (i j : Nat) (h : i < (ws ++ vs ++ [r, m]).length) (hj : j < 4) : (bl (encS ws vs r m st)).getD (1 + 4 * i + j) 0 = ((b4 (ws ++ vs ++ [r, m])[i]).getD j 0).toNat := by
  unfold encS
  rw [getD_str _ (encL_bd ws vs r m st), List.getD_eq_getElem?_getD, List.getD_eq_getElem?_getD, ← flat_get _ i j h hj]
  unfold encL
  rw [List.getElem?_append_left (by rw [List.length_append, flat_len]; simp only [List.length_cons, List.length_nil]; omega), List.getElem?_append_right (by simp only [List.length_cons, List.length_nil]; omega)]
  rw [show 1 + 4 * i + j - [(ws.length : Int) % 256].length = 4 * i + j by simp only [List.length_cons, List.length_nil]; omega]
theorem sum_b4 (x : Int) : ((sum4 (x % 256).toNat (x / 256 % 256).toNat (x / 256 / 256 % 256).toNat (x / 256 / 256 / 256 % 256).toNat : Nat) : Int) = x % 4294967296 := by
  unfold sum4
  omega
theorem val_of (v : Nat) (x : Int) (h : (v : Int) = x % 4294967296) (h1 : -2147483648 ≤ x) (h2 : x < 2147483648) : valN v = x := by
  unfold valN
  split <;> omega
theorem enc_sum (ws vs : List Int) (r m st : Int) (i : Nat) (h : i < (ws ++ vs ++ [r, m]).length) : ((sum4 ((bl (encS ws vs r m st)).getD (1 + 4 * i) 0) ((bl (encS ws vs r m st)).getD (1 + 4 * i + 1) 0) ((bl (encS ws vs r m st)).getD (1 + 4 * i + 2) 0) ((bl (encS ws vs r m st)).getD (1 + 4 * i + 3) 0) : Nat) : Int) = (ws ++ vs ++ [r, m])[i] % 4294967296 := by
  have e0 := enc_at ws vs r m st i 0 h (by decide)
  rw [Nat.add_zero] at e0
  rw [e0, enc_at ws vs r m st i 1 h (by decide), enc_at ws vs r m st i 2 h (by decide), enc_at ws vs r m st i 3 h (by decide)]
  exact sum_b4 _
theorem all_bd (ws vs : List Int) (r m st : Int) (h : okCk ws vs r m st) : ∀ x ∈ ws ++ vs ++ [r, m], -1073741824 ≤ x ∧ x ≤ 1073741824 := by
  intro x hx
  rcases List.mem_append.1 hx with hx | hx
  · rcases List.mem_append.1 hx with hx | hx
    · exact h.1.1.2 x hx
    · exact h.1.2.1.2 x hx
  · have hh := h.2.2.1
    unfold okHyper at hh
    simp only [List.mem_cons, List.not_mem_nil, or_false] at hx
    rcases hx with rfl | rfl <;> omega
theorem enc_w4 (ws vs : List Int) (r m st : Int) (h : okCk ws vs r m st) (i : Nat) (hi : i < (ws ++ vs ++ [r, m]).length) : w4 (encS ws vs r m st) (1 + 4 * i) = (ws ++ vs ++ [r, m])[i] := by
  have hb := all_bd ws vs r m st h _ (List.getElem_mem hi)
  exact val_of _ _ (enc_sum ws vs r m st i hi) (by omega) (by omega)
theorem enc_xs (ws vs : List Int) (r m st : Int) (h : okCk ws vs r m st) : xsOf (encS ws vs r m st) (2 * ws.length + 2) = ws ++ vs ++ [r, m] := by
  have hv := h.1.2.2
  have hl : (ws ++ vs ++ [r, m]).length = 2 * ws.length + 2 := by simp only [List.length_append, List.length_cons, List.length_nil]; omega
  refine List.ext_getElem (by rw [xsOf_len, hl]) (fun i h1 h2 => ?_)
  rw [xsOf_get, enc_w4 ws vs r m st h i h2]
theorem enc_first (ws vs : List Int) (r m st : Int) (h : ws.length ≤ 16) : (bl (encS ws vs r m st)).getD 0 0 = ws.length := by
  unfold encS
  rw [getD_str _ (encL_bd ws vs r m st)]
  show ((ws.length : Int) % 256).toNat = ws.length
  omega
theorem enc_last (ws vs : List Int) (r m st : Int) (h0 : 0 ≤ st) (h1 : st ≤ 32) : lastB (encS ws vs r m st) = st := by
  unfold lastB
  rw [encS_size]
  unfold encS
  rw [getD_str _ (encL_bd ws vs r m st), List.getD_eq_getElem?_getD]
  unfold encL
  rw [List.getElem?_append_right (by rw [List.length_append, flat_len]; simp only [List.length_append, List.length_cons, List.length_nil]; omega)]
  rw [show (10 + 4 * (ws.length + vs.length) - 1) - ([(ws.length : Int) % 256] ++ (ws ++ vs ++ [r, m]).flatMap b4).length = 0 by rw [List.length_append, flat_len]; simp only [List.length_append, List.length_cons, List.length_nil]; omega]
  show (((st % 256).toNat : Nat) : Int) = st
  omega
theorem enc_fit (ws vs : List Int) (r m st : Int) (h : okCk ws vs r m st) : fitS (encS ws vs r m st) := by
  have hv := h.1.2.2
  have h1 := h.1.1.1
  unfold fitS
  rw [encS_size, enc_first ws vs r m st h1]
  omega
theorem enc_fin (ws vs : List Int) (r m st : Int) (h : okCk ws vs r m st) : finS (encS ws vs r m st) ws.length = (ws, vs, r, m, st, 0) := by
  have hv := h.1.2.2
  have hx := enc_xs ws vs r m st h
  have hW : Wof (encS ws vs r m st) ws.length = ws := by
    unfold Wof
    rw [hx, List.append_assoc, List.take_left]
  have hV : Vof (encS ws vs r m st) ws.length = vs := by
    unfold Vof
    rw [hx, List.take_left' (by rw [List.length_append]; omega), List.drop_left]
  have hl : (ws ++ vs ++ [r, m]).length = 2 * ws.length + 2 := by simp only [List.length_append, List.length_cons, List.length_nil]; omega
  have g1 : (ws ++ vs ++ [r, m])[2 * ws.length]? = some r := by
    rw [List.getElem?_append_right (by rw [List.length_append]; omega), show 2 * ws.length - (ws ++ vs).length = 0 by rw [List.length_append]; omega]; rfl
  have g2 : (ws ++ vs ++ [r, m])[2 * ws.length + 1]? = some m := by
    rw [List.getElem?_append_right (by rw [List.length_append]; omega), show 2 * ws.length + 1 - (ws ++ vs).length = 1 by rw [List.length_append]; omega]; rfl
  have hr : w4 (encS ws vs r m st) (1 + 4 * (2 * ws.length)) = r := by
    rw [enc_w4 ws vs r m st h _ (by omega)]
    rw [List.getElem?_eq_getElem (by omega)] at g1
    exact Option.some.inj g1
  have hm : w4 (encS ws vs r m st) (1 + 4 * (2 * ws.length + 1)) = m := by
    rw [enc_w4 ws vs r m st h _ (by omega)]
    rw [List.getElem?_eq_getElem (by omega)] at g2
    exact Option.some.inj g2
  have hs := enc_last ws vs r m st h.2.2.2.1 h.2.2.2.2
  have ho : okS (encS ws vs r m st) ws.length := by
    unfold okS
    rw [hW, hV, hr, hm, hs]
    exact h
  unfold finS
  rw [if_pos ho, hW, hV, hr, hm, hs]
theorem ckget_enc (k : Nat) (ws vs : List Int) (r m st : Int) (h : okCk ws vs r m st) (hk : 1000 ≤ k) : check_Get.f k (encS ws vs r m st) = some (ws, vs, r, m, st, 0) := by
  rw [ckget_eq k _ hk, if_pos (enc_fit ws vs r m st h), enc_first ws vs r m st h.1.1.1, enc_fin ws vs r m st h]
theorem scheck_eq (k : Nat) (ws vs : List Int) (r m st : Int) (h1 : ws.length ≤ 16) (h2 : vs.length ≤ 16) (hk : 100 ≤ k) : grafterlaw0_SameCheck.f k ws vs r m st ws vs r m st = some true := by
  unfold grafterlaw0_SameCheck.f
  rw [same_eq k ws ws (by omega) (by omega), decide_eq_true rfl, Option.bind_some, if_pos rfl, same_eq k vs vs (by omega) (by omega), decide_eq_true rfl, Option.bind_some, if_pos rfl, if_pos (by simp)]
  simp
theorem get_none (k : Nat) (hk : 1000 ≤ k) : check_Get.f k (⟨#[]⟩ : ByteArray) = some ([], [], 0, 0, 0, 1400) := by
  rw [ckget_eq k _ hk, if_neg (fun q => absurd q.1 (by decide))]
theorem ckawake_eq (k : Nat) (hk : 1000 ≤ k) : grafterlaw14_awake.f k = some true := by
  have g1 : okCk [258, -1] [0, 1] 64 3 9 := by decide
  have g2 : ¬ okCk [] [] 0 0 0 := by decide
  have e1 : (encS [258, -1] [0, 1] 64 3 9).toList = ([2, 2, 1, 0, 0, 255, 255, 255, 255, 0, 0, 0, 0, 1, 0, 0, 0, 64, 0, 0, 0, 3, 0, 0, 0, 9] : List UInt8) := by
    rw [ByteArray.toList_eq]
    decide
  unfold grafterlaw14_awake.f
  rw [Option.bind_some, Option.bind_some, ckput_ok k _ _ _ _ _ g1 (by omega), Option.bind_some]
  dsimp only
  rw [ckget_enc k _ _ _ _ _ g1 hk, Option.bind_some, ckput_bad k _ _ _ _ _ g2 (by omega), Option.bind_some, get_none k hk, Option.bind_some, if_pos e1]
  dsimp only
  rw [num_eq, Option.bind_some, if_pos rfl, scheck_eq k _ _ _ _ _ (by decide) (by decide) (by omega), Option.bind_some, if_pos rfl, num_eq, Option.bind_some, if_pos rfl, Option.bind_some, if_pos rfl, Option.bind_some, if_pos rfl, ckmay_eq k _ _ _ _ _ (by omega), decide_eq_true g1]
  rfl

def gS : ByteArray := encS [258, -1] [0, 1] 64 3 9
theorem gbad (k : Nat) (s : ByteArray) (h : ¬ (fitS s ∧ okS s ((bl s).getD 0 0))) (hk : 1000 ≤ k) : check_Get.f k s = some ([], [], 0, 0, 0, 1400) := by
  rw [ckget_eq k s hk]
  by_cases hf : fitS s
  · rw [if_pos hf]
    unfold finS
    rw [if_neg (fun q => h ⟨hf, q⟩)]
  · rw [if_neg hf]
theorem gz : gS.size = 26 := encS_size _ _ _ _ _
theorem b1 : ∀ q : Fin 26, ¬ (fitS (gS.extract 0 q.val) ∧ okS (gS.extract 0 q.val) ((bl (gS.extract 0 q.val)).getD 0 0)) := by decide +kernel
theorem b2 : ¬ (fitS (gS ++ (⟨#[120]⟩ : ByteArray)) ∧ okS (gS ++ (⟨#[120]⟩ : ByteArray)) ((bl (gS ++ (⟨#[120]⟩ : ByteArray))).getD 0 0)) := by decide +kernel
theorem b3 : ¬ (fitS ((⟨#[3]⟩ : ByteArray) ++ (gS.extract 1 26)) ∧ okS ((⟨#[3]⟩ : ByteArray) ++ (gS.extract 1 26)) ((bl ((⟨#[3]⟩ : ByteArray) ++ (gS.extract 1 26))).getD 0 0)) := by decide +kernel
theorem b4_ : ¬ (fitS ((gS.extract 0 25) ++ (⟨#[33]⟩ : ByteArray)) ∧ okS ((gS.extract 0 25) ++ (⟨#[33]⟩ : ByteArray)) ((bl ((gS.extract 0 25) ++ (⟨#[33]⟩ : ByteArray))).getD 0 0)) := by decide +kernel
theorem b5 : ¬ (fitS (((gS.extract 0 4) ++ (⟨#[127]⟩ : ByteArray)) ++ (gS.extract 5 26)) ∧ okS (((gS.extract 0 4) ++ (⟨#[127]⟩ : ByteArray)) ++ (gS.extract 5 26)) ((bl (((gS.extract 0 4) ++ (⟨#[127]⟩ : ByteArray)) ++ (gS.extract 5 26))).getD 0 0)) := by decide +kernel
theorem cgiven_eq : grafterlaw14_given.f = some ([258, -1], [0, 1], 64, 3, 9) := rfl
theorem cf_j1 (k : Nat) (x1 : Int) (ws vs : List Int) (r m st : Int) (h : ¬ okCk ws vs r m st) (hk : 1100 ≤ k) : grafterlaw14_CheckForms.j1 k x1 (⟨#[]⟩ : ByteArray) 1400 gS false ws vs r m st = some true := by
  obtain ⟨k, rfl⟩ : ∃ j, k = j + 1 := ⟨k - 1, by omega⟩
  have hz := gz
  obtain ⟨q, hq, e⟩ : ∃ q : Nat, q < 26 ∧ wrap64 (Int.tmod (IntKind.u64.wrap x1) 26) = (q : Int) := by
    have hu := wrap_u64_bd x1
    obtain ⟨u, eu⟩ : ∃ u, IntKind.u64.wrap x1 = u := ⟨_, rfl⟩
    rw [eu] at hu
    rw [eu, tmod_pos u _ hu]
    exact ⟨(u % 26).toNat, by omega, by rw [wrap_id _ (by omega) (by omega)]; omega⟩
  have g1 := gbad k _ (b1 ⟨q, hq⟩) (by omega)
  have g2 := gbad k _ b2 (by omega)
  have g3 := gbad k _ b3 (by omega)
  have g4 := gbad k _ b4_ (by omega)
  have g5 := gbad k _ b5 (by omega)
  dsimp only at g1
  obtain ⟨s, hs⟩ : ∃ s, s = gS := ⟨_, rfl⟩
  rw [← hs] at hz g1 g2 g3 g4 g5 ⊢
  clear hs
  rw [← hz] at g3 g5
  rw [grafterlaw14_CheckForms.j1, if_neg (by decide), e, if_pos (by omega), if_pos (by omega), Int.toNat_natCast, g1, Option.bind_some, if_pos (by omega), g2, Option.bind_some, if_pos (by omega), if_pos (by rw [ByteArray.size_extract]; omega), g3, Option.bind_some, if_pos (by decide), if_pos (by omega), if_pos (by rw [ByteArray.size_extract]; omega), g4, Option.bind_some, if_pos (by decide), if_pos (by omega), if_pos (by rw [ByteArray.size_extract]; omega), if_pos (by omega), if_pos (by rw [ByteArray.size_append, ByteArray.size_extract, ByteArray.size_extract, show (⟨#[127]⟩ : ByteArray).size = 1 from rfl]; omega), g5, Option.bind_some, if_pos ((toList_size _).2 rfl), ckmay_eq k _ _ _ _ _ (by omega), decide_eq_false h, Option.bind_some, if_neg (by decide)]
  rfl
theorem cf_j0 (k : Nat) (x1 : Int) (ws vs : List Int) (r m st : Int) (h : ¬ okCk ws vs r m st) (hk : 1200 ≤ k) : grafterlaw14_CheckForms.j0 k x1 ws vs r m st = some true := by
  obtain ⟨k, rfl⟩ : ∃ j, k = j + 1 := ⟨k - 1, by omega⟩
  have gk : okCk [258, -1] [0, 1] 64 3 9 := by decide
  rw [grafterlaw14_CheckForms.j0, ckput_bad k _ _ _ _ _ h (by omega), Option.bind_some, cgiven_eq, Option.bind_some]
  dsimp only
  rw [ckput_ok k _ _ _ _ _ gk (by omega), Option.bind_some]
  dsimp only
  rw [num_eq, Option.bind_some, if_pos rfl, show ((encS [258, -1] [0, 1] 64 3 9).size : Int) = 26 from congrArg (fun n : Nat => (n : Int)) gz, show ((26 : Int) != 26) = false from rfl]
  exact cf_j1 k x1 ws vs r m st h (by omega)
theorem CheckForms_at (a0 a1 : Int) : grafterlaw14_CheckForms.f 2000 a0 a1 = some true := by
  obtain ⟨d, hd, d1, d2⟩ : ∃ d, wrap64 (1 + Go.bits .and .i64 a1 1023) = d ∧ 1 ≤ d ∧ d ≤ 1024 := by
    rw [and_mask a1 10 (by decide) 1023 (by decide)]
    exact ⟨_, rfl, by rw [wrap_id _ (by omega) (by omega)]; omega, by rw [wrap_id _ (by omega) (by omega)]; omega⟩
  unfold grafterlaw14_CheckForms.f
  rw [ckawake_eq 2000 (by omega), Option.bind_some, if_pos rfl, cgiven_eq, Option.bind_some]
  simp only [hd]
  clear hd
  obtain ⟨n, hn⟩ : ∃ n, Int.tmod (IntKind.u64.wrap a0) 9 = n := ⟨_, rfl⟩
  simp only [hn]
  clear hn
  have w : ∀ x : Int, -2147483648 ≤ x → x ≤ 2147483648 → wrap64 x = x := fun x h1 h2 => wrap_id x (by omega) (by omega)
  rw [w (1073741824 + d) (by omega) (by omega), w (-1073741824 - d) (by omega) (by omega), w (64 - d) (by omega) (by omega), w (58982 + d) (by omega) (by omega), w (-d) (by omega) (by omega), w (32 + d) (by omega) (by omega), w (16 + d) (by omega) (by omega)]
  have A := fun ws vs r m st h => cf_j0 2000 a1 ws vs r m st h (by omega)
  by_cases h : n = 0
  · rw [if_pos h]; exact A _ _ _ _ _ (by decide)
  rw [if_neg h]; clear h
  by_cases h : n = 1
  · rw [if_pos h, if_pos (by decide)]; exact A _ _ _ _ _ (by decide)
  rw [if_neg h]; clear h
  by_cases h : n = 2
  · rw [if_pos h, if_pos (by decide)]
    exact A [1073741824 + d, -1] _ _ _ _ (fun q => by have h9 := (q.1.1.2 (1073741824 + d) List.mem_cons_self).2; omega)
  rw [if_neg h]; clear h
  by_cases h : n = 3
  · rw [if_pos h, if_pos (by decide)]
    exact A _ [-1073741824 - d, 1] _ _ _ (fun q => by have h9 := (q.1.2.1.2 (-1073741824 - d) List.mem_cons_self).1; omega)
  rw [if_neg h]; clear h
  by_cases h : n = 4
  · rw [if_pos h]; exact A _ _ _ _ _ (fun q => by have h9 := q.2.2.1.1.1; omega)
  rw [if_neg h]; clear h
  by_cases h : n = 5
  · rw [if_pos h]; exact A _ _ _ _ _ (fun q => by have h9 := q.2.2.1.2.2; omega)
  rw [if_neg h]; clear h
  by_cases h : n = 6
  · rw [if_pos h]; exact A _ _ _ _ _ (fun q => by have h9 := q.2.2.2.1; omega)
  rw [if_neg h]; clear h
  by_cases h : n = 7
  · rw [if_pos h]; exact A _ _ _ _ _ (fun q => by have h9 := q.2.2.2.2; omega)
  rw [if_neg h]; clear h
  rw [if_pos (by omega), if_pos (by omega)]
  exact A _ _ _ _ _ (fun q => by have h9 := q.1.1.1; rw [List.length_replicate] at h9; omega)
theorem CheckForms : grafterlaw14_CheckForms.Pure := fun a0 a1 _ _ => ⟨2000, CheckForms_at a0 a1⟩

end Go.Proofs.Ytbhkmgidokonkaa.Pure
