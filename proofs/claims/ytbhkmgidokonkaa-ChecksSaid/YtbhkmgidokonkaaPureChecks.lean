/- P14.1, R4: for every checkpoint and every text, of any lengths that fit a machine: Put, Get and May of package check answer what the document's reference answers, what was put comes back, and nothing that is written over the answer turns the question. No condition. -/
import Derived.Test.YtbhkmgidokonkaaPChecksx10
import Derived.Test.YtbhkmgidokonkaaHelp
namespace Go.Proofs.Ytbhkmgidokonkaa.Pure
open Go.RowKit Go.Proofs.Ytbhkmgidokonkaa Go.Proofs.Ytbhkmgidokonkaa.PChecks Go.Proofs.YtbhkmgidokonkaaW.PrintWords Go.Proofs.YtbhkmgidokonkaaW.PrintLast Go.Proofs.YtbhkmgidokonkaaW.PrintMore
set_option linter.unusedVariables false
set_option linter.unusedSimpArgs false

theorem rd_nat (l : List Int) (i : Nat) (h : i < l.length) : rd l (i : Int) = l[i] := by
  unfold rd; rw [Int.toNat_natCast, List.getD_eq_getElem?_getD, List.getElem?_eq_getElem h]; rfl
theorem same_l0 (l m : List Int) (hl : l.length = m.length) (hb : l.length ≤ 4611686018427387904) : ∀ (d k i : Nat), i + d = l.length → d < k →
    grafterlaw0_SameInts.l0 k l m (i : Int) = some (decide (l.drop i = m.drop i)) := by
  intro d
  induction d with
  | zero =>
    intro k i hi hk
    obtain ⟨k, rfl⟩ : ∃ j, k = j + 1 := ⟨k - 1, by omega⟩
    rw [grafterlaw0_SameInts.l0, if_neg (by omega), List.drop_eq_nil_of_le (by omega), List.drop_eq_nil_of_le (by omega)]
    rfl
  | succ d ih =>
    intro k i hi hk
    obtain ⟨k, rfl⟩ : ∃ j, k = j + 1 := ⟨k - 1, by omega⟩
    have h1 : i < l.length := by omega
    have h2 : i < m.length := by omega
    rw [grafterlaw0_SameInts.l0, if_pos (by omega), if_pos (by omega), if_pos (by omega), rd_nat l i h1, rd_nat m i h2]
    rw [List.drop_eq_getElem_cons h1, List.drop_eq_getElem_cons h2]
    by_cases e : l[i] = m[i]
    · rw [if_pos e, wrap_id _ (by omega) (by omega), show ((i : Int) + 1) = ((i + 1 : Nat) : Int) by omega, ih k (i + 1) (by omega) (by omega)]
      refine congrArg some (decide_eq_decide.2 ?_)
      rw [List.cons.injEq]
      exact ⟨fun h => ⟨e, h⟩, fun h => h.2⟩
    · rw [if_neg e, decide_eq_false]
      rw [List.cons.injEq]
      exact fun h => e h.1
theorem same_eq (k : Nat) (l m : List Int) (hb : l.length ≤ 4611686018427387904) (hk : l.length < k) : grafterlaw0_SameInts.f k l m = some (decide (l = m)) := by
  unfold grafterlaw0_SameInts.f
  by_cases h : (l.length : Int) = (m.length : Int)
  · rw [if_pos h]
    have := same_l0 l m (by omega) hb l.length k 0 (by omega) hk
    simpa using this
  · rw [if_neg h, decide_eq_false]
    rintro rfl
    exact h rfl

theorem fmay_eq (a : Int) : fix_May.f a = some (decide (okI a)) := by
  unfold fix_May.f okI
  by_cases h : a ≥ -1073741824
  · rw [if_pos h]; refine congrArg some (decide_eq_decide.2 ?_); omega
  · rw [if_neg h]; refine congrArg some (Eq.symm (decide_eq_false ?_)); omega
theorem index_l0 (l : List Int) (hb : l.length ≤ 4611686018427387904) : ∀ (d k i : Nat), i + d = l.length → d < k →
    ∃ r, slices_IndexFunc_int_int.l0 k l (l.length : Int) (i : Int) = some r ∧ (0 ≤ r ↔ ¬ ∀ x ∈ l.drop i, okI x) := by
  intro d
  induction d with
  | zero =>
    intro k i hi hk
    obtain ⟨k, rfl⟩ : ∃ j, k = j + 1 := ⟨k - 1, by omega⟩
    refine ⟨-1, by rw [slices_IndexFunc_int_int.l0, if_neg (by omega)], ?_⟩
    rw [List.drop_eq_nil_of_le (by omega)]
    simp
  | succ d ih =>
    intro k i hi hk
    obtain ⟨k, rfl⟩ : ∃ j, k = j + 1 := ⟨k - 1, by omega⟩
    have h1 : i < l.length := by omega
    obtain ⟨r, hr, he⟩ := ih k (i + 1) (by omega) (by omega)
    rw [slices_IndexFunc_int_int.l0, if_pos (by omega), if_pos (by omega), if_pos (by omega), rd_nat l i h1]
    unfold vec_May_1.f
    rw [fmay_eq, List.drop_eq_getElem_cons h1]
    by_cases ho : okI l[i]
    · refine ⟨r, ?_, ?_⟩
      · rw [decide_eq_true ho, wrap_id ((i : Int) + 1) (by omega) (by omega), show ((i : Int) + 1) = ((i + 1 : Nat) : Int) by omega]
        exact hr
      · rw [he, List.forall_mem_cons]
        exact ⟨fun q1 q2 => q1 q2.2, fun q1 q2 => q1 ⟨ho, q2⟩⟩
    · refine ⟨(i : Int), ?_, ?_⟩
      · rw [decide_eq_false ho]; rfl
      · rw [List.forall_mem_cons]
        exact ⟨fun _ q => ho q.1, fun _ => by omega⟩
def okV (l : List Int) : Prop := l.length ≤ 16 ∧ ∀ x ∈ l, okI x
instance (l : List Int) : Decidable (okV l) := inferInstanceAs (Decidable (_ ∧ _))
theorem vmay_eq (k : Nat) (l : List Int) (hk : 20 ≤ k) : vec_May.f k l = some (decide (okV l)) := by
  unfold vec_May.f
  by_cases h : (l.length : Int) ≤ 16
  · obtain ⟨r, hr, he⟩ := index_l0 l (by omega) l.length k 0 (by omega) (by omega)
    rw [List.drop_zero] at he
    rw [if_pos h]
    unfold slices_ContainsFunc_int_int.f slices_IndexFunc_int_int.f
    rw [show ((0 : Nat) : Int) = 0 from rfl] at hr
    rw [hr]
    simp only [Option.bind_some]
    refine congrArg some ?_
    by_cases h2 : ∀ x ∈ l, okI x
    · rw [decide_eq_false (show ¬ (0 ≤ r) from fun q => he.1 q h2), decide_eq_true (show okV l from ⟨by omega, h2⟩)]; rfl
    · rw [decide_eq_true (he.2 h2), decide_eq_false (show ¬ okV l from fun q => h2 q.2)]; rfl
  · rw [if_neg h, decide_eq_false (show ¬ okV l from fun q => by have := q.1; omega)]

theorem rd_L1_nat (l : List (List Int)) (i : Nat) (h : i < l.length) : rd_L1 l (i : Int) = l[i] := by
  unfold rd_L1; rw [Int.toNat_natCast, List.getD_eq_getElem?_getD, List.getElem?_eq_getElem h]; rfl
theorem alike_l0 (L : List (List Int)) (hL : L.length ≤ 8) (h0 : 0 < L.length) : ∀ (d k i : Nat), i + d = L.length → d + 20 < k →
    vec_Alike.l0 k L L (L.length : Int) (i : Int) = some (decide (∀ r ∈ L.drop i, okV r ∧ r.length = L[0].length)) := by
  intro d
  induction d with
  | zero =>
    intro k i hi hk
    obtain ⟨k, rfl⟩ : ∃ j, k = j + 1 := ⟨k - 1, by omega⟩
    rw [vec_Alike.l0, if_neg (by omega), List.drop_eq_nil_of_le (by omega)]
    simp
  | succ d ih =>
    intro k i hi hk
    obtain ⟨k, rfl⟩ : ∃ j, k = j + 1 := ⟨k - 1, by omega⟩
    have h1 : i < L.length := by omega
    rw [vec_Alike.l0, if_pos (by omega), if_pos (by omega), if_pos (by omega), rd_L1_nat L i h1, vmay_eq k _ (by omega), List.drop_eq_getElem_cons h1]
    by_cases ho : okV L[i]
    · rw [decide_eq_true ho]
      simp only [Option.bind_some, if_true]
      rw [if_pos (by omega), show rd_L1 L 0 = L[0] from rd_L1_nat L 0 h0]
      by_cases hl : L[i].length = L[0].length
      · rw [if_pos (by omega), wrap_id ((i : Int) + 1) (by omega) (by omega), show ((i : Int) + 1) = ((i + 1 : Nat) : Int) by omega, ih k (i + 1) (by omega) (by omega)]
        refine congrArg some (decide_eq_decide.2 ?_)
        rw [List.forall_mem_cons]
        exact ⟨fun q => ⟨⟨ho, hl⟩, q⟩, fun q => q.2⟩
      · rw [if_neg (by omega), decide_eq_false]
        intro q
        exact hl (q _ (List.mem_cons_self)).2
    · rw [decide_eq_false ho]
      simp only [Option.bind_some, Bool.false_eq_true, if_false]
      rw [decide_eq_false]
      intro q
      exact ho (q _ (List.mem_cons_self)).1

def like2 (a b : List Int) : Prop := okV a ∧ okV b ∧ a.length = b.length
instance (a b : List Int) : Decidable (like2 a b) := inferInstanceAs (Decidable (_ ∧ _ ∧ _))
theorem alike2 (k : Nat) (a b : List Int) (hk : 30 ≤ k) : vec_Alike.f k [a, b] = some (decide (like2 a b)) := by
  unfold vec_Alike.f
  have := alike_l0 [a, b] (by simp) (by simp) 2 k 0 rfl (by omega)
  rw [show ((0 : Nat) : Int) = 0 from rfl] at this
  rw [this]
  refine congrArg some (decide_eq_decide.2 ?_)
  rw [List.drop_zero, List.forall_mem_cons, List.forall_mem_cons]
  exact ⟨fun q => ⟨q.1.1, q.2.1.1, q.2.1.2.symm⟩, fun q => ⟨⟨q.1, rfl⟩, ⟨q.2.1, q.2.2.symm⟩, fun x hx => absurd hx List.not_mem_nil⟩⟩

theorem num_eq (x : Int) : grafterlaw0_Num.f x = some x := rfl
def okHyper (r m : Int) : Prop := (64 ≤ r ∧ r ≤ 16384) ∧ (0 ≤ m ∧ m ≤ 58982)
instance (a b : Int) : Decidable (okHyper a b) := inferInstanceAs (Decidable (_ ∧ _))
theorem omay_eq (a b : Int) : optim_May.f a b = some (decide (okHyper a b)) := by
  unfold optim_May.f okHyper
  by_cases h1 : a ≥ 64
  · rw [if_pos h1]
    by_cases h2 : a ≤ 16384
    · rw [if_pos h2]
      by_cases h3 : b ≥ 0
      · rw [if_pos h3]; refine congrArg some (decide_eq_decide.2 ?_); omega
      · rw [if_neg h3]; refine congrArg some (Eq.symm (decide_eq_false ?_)); omega
    · rw [if_neg h2]; refine congrArg some (Eq.symm (decide_eq_false ?_)); omega
  · rw [if_neg h1]; refine congrArg some (Eq.symm (decide_eq_false ?_)); omega
theorem hmay_eq (a b : Int) : hyper_May.f a b = some (decide (okHyper a b)) := by
  unfold hyper_May.f; rw [omay_eq]; rfl

theorem toNat_ofInt32 (x : Nat) (h : x < 4294967296) : (BitVec.ofInt 32 (x : Int)).toNat = x := by
  rw [BitVec.toNat_ofInt]
  show ((x : Int) % 4294967296).toNat = x
  omega
theorem wrap_u32 (n : Int) : IntKind.u32.wrap n = n % 4294967296 := by simp [IntKind.wrap, IntKind.signed, IntKind.bits]
theorem w1 (j : Nat) (h : j < 4611686018427387904) : wrap64 ((j : Int) + 1) = ((j + 1 : Nat) : Int) := by unfold wrap64; omega
def bl (s : ByteArray) : List Nat := s.data.toList.map UInt8.toNat
theorem bl_length (s : ByteArray) : (bl s).length = s.size := by unfold bl; rw [List.length_map]; exact data_length s
theorem bl_lt (s : ByteArray) : ∀ b ∈ bl s, b < 256 := by
  intro b hb
  obtain ⟨u, _, rfl⟩ := List.mem_map.1 hb
  exact u.toNat_lt
theorem bt_bl (s : ByteArray) (i : Nat) (h : i < s.size) : bt s (i : Int) = (((bl s)[i]'(by rw [bl_length]; exact h) : Nat) : Int) := by
  rw [← bt_at s (i : Int) (by rw [Int.toNat_natCast]; exact h)]
  unfold bl
  simp only [Int.toNat_natCast, List.getElem_map, Array.getElem_toList]
  rfl
theorem bytes_eq {a b : ByteArray} (h : a.toList = b.toList) : a = b := by
  rw [ByteArray.toList_eq, ByteArray.toList_eq] at h
  cases a; cases b
  congr 1
  exact Array.toList_inj.1 h
theorem bl_inj {a b : ByteArray} (h : bl a = bl b) : a = b := by
  cases a; cases b
  congr 1
  refine Array.toList_inj.1 ?_
  unfold bl at h
  exact List.map_inj_right (fun x y e => UInt8.toNat_inj.1 e) |>.1 h
theorem getD_lt (t : ByteArray) (i : Nat) : (bl t).getD i 0 < 256 := by
  rw [List.getD_eq_getElem?_getD]
  cases h : (bl t)[i]? with
  | none => decide
  | some v => exact bl_lt t v (List.mem_of_getElem? h)
theorem bl_extract (t : ByteArray) (i j : Nat) : bl (t.extract i j) = ((bl t).drop i).take (j - i) := by
  unfold bl
  rw [ByteArray.data_extract, Array.toList_extract, List.extract_eq_take_drop, List.map_take, List.map_drop]
theorem bt_at2 (t : ByteArray) (i j m : Nat) (h : i + j < m) (hm : m ≤ t.size) : bt (t.extract i m) (j : Int) = (((bl t).getD (i + j) 0 : Nat) : Int) := by
  have hs : j < (t.extract i m).size := by rw [ByteArray.size_extract]; omega
  rw [bt_bl _ j hs]
  congr 1
  have h2 : (bl (t.extract i m))[j]? = (bl t)[i + j]? := by
    rw [bl_extract, List.getElem?_take_of_lt (by omega), List.getElem?_drop]
  rw [List.getElem?_eq_getElem (by rw [bl_length]; exact hs)] at h2
  rw [List.getD_eq_getElem?_getD, ← h2]
  rfl

def b4 (x : Int) : List Int := [x % 256, x / 256 % 256, x / 256 / 256 % 256, x / 256 / 256 / 256 % 256]
theorem put_eq (k : Nat) (l : List Int) (x : Int) (hl : l.length ≤ 1000) (hk : 10 ≤ k) : check_put.f k l x = some (l ++ b4 x) := by
  obtain ⟨k, rfl⟩ : ∃ j, k = j + 5 := ⟨k - 5, by omega⟩
  unfold check_put.f
  rw [check_put.l0, if_pos (by decide), if_pos (by omega), show wrap64 (0 + 1) = 1 by unfold wrap64; omega,
    check_put.l0, if_pos (by decide), if_pos (by simp only [List.length_append, List.length_cons, List.length_nil]; omega), show wrap64 (1 + 1) = 2 by unfold wrap64; omega,
    check_put.l0, if_pos (by decide), if_pos (by simp only [List.length_append, List.length_cons, List.length_nil]; omega), show wrap64 (2 + 1) = 3 by unfold wrap64; omega,
    check_put.l0, if_pos (by decide), if_pos (by simp only [List.length_append, List.length_cons, List.length_nil]; omega), show wrap64 (3 + 1) = 4 by unfold wrap64; omega,
    check_put.l0, if_neg (by decide)]
  simp only [List.append_assoc, List.cons_append, List.nil_append, b4]
theorem b4_len (x : Int) : (b4 x).length = 4 := rfl
theorem flat_len : ∀ L : List Int, (L.flatMap b4).length = 4 * L.length
  | [] => rfl
  | x :: xs => by rw [List.flatMap_cons, List.length_append, flat_len xs, b4_len, List.length_cons]; omega
theorem grow_eq (n : Int) (h0 : 0 ≤ n) (h1 : n ≤ 1000) : slices_Grow_int_int.f [] n = some [] := by
  unfold slices_Grow_int_int.f
  rw [if_neg (by omega)]
  by_cases h : n > 0
  · rw [if_pos h, if_pos (by omega)]
  · rw [if_neg h]
theorem concat_eq (k : Nat) (a b c : List Int) (ha : a.length ≤ 100) (hb : b.length ≤ 100) (hc : c.length ≤ 100) (hk : 20 ≤ k) : slices_Concat_int_int.f k [a, b, c] = some (a ++ b ++ c) := by
  obtain ⟨k, rfl⟩ : ∃ j, k = j + 12 := ⟨k - 12, by omega⟩
  have r0 : rd_L1 [a, b, c] 0 = a := rfl
  have r1 : rd_L1 [a, b, c] 1 = b := rfl
  have r2 : rd_L1 [a, b, c] 2 = c := rfl
  have w0 : wrap64 (0 + (a.length : Int)) = (a.length : Int) := (by rw [Int.zero_add]; exact wrap_id _ (by omega) (by omega))
  have w1_ : wrap64 ((a.length : Int) + (b.length : Int)) = (a.length : Int) + (b.length : Int) := wrap_id _ (by omega) (by omega)
  have w2 : wrap64 ((a.length : Int) + (b.length : Int) + (c.length : Int)) = (a.length : Int) + (b.length : Int) + (c.length : Int) := wrap_id _ (by omega) (by omega)
  unfold slices_Concat_int_int.f
  rw [show (([a, b, c] : List (List Int)).length : Int) = 3 from rfl]
  rw [slices_Concat_int_int.l0, if_pos (by decide), if_pos (by decide), if_pos (show (0 : Int) < (([a, b, c] : List (List Int)).length : Int) by show (0 : Int) < 3; decide), r0, w0, if_neg (by omega), show wrap64 (0 + 1) = 1 by unfold wrap64; omega,
    slices_Concat_int_int.l0, if_pos (by decide), if_pos (by decide), if_pos (show (1 : Int) < (([a, b, c] : List (List Int)).length : Int) by show (1 : Int) < 3; decide), r1, w1_, if_neg (by omega), show wrap64 (1 + 1) = 2 by unfold wrap64; omega,
    slices_Concat_int_int.l0, if_pos (by decide), if_pos (by decide), if_pos (show (2 : Int) < (([a, b, c] : List (List Int)).length : Int) by show (2 : Int) < 3; decide), r2, w2, if_neg (by omega), show wrap64 (2 + 1) = 3 by unfold wrap64; omega,
    slices_Concat_int_int.l0, if_neg (by decide), grow_eq _ (by omega) (by omega), Option.bind_some, show (([a, b, c] : List (List Int)).length : Int) = 3 from rfl,
    slices_Concat_int_int.l1, if_pos (by decide), if_pos (by decide), if_pos (show (0 : Int) < (([a, b, c] : List (List Int)).length : Int) by show (0 : Int) < 3; decide), r0, if_pos (by simp only [List.length_nil]; omega), show wrap64 (0 + 1) = 1 by unfold wrap64; omega, List.nil_append,
    slices_Concat_int_int.l1, if_pos (by decide), if_pos (by decide), if_pos (show (1 : Int) < (([a, b, c] : List (List Int)).length : Int) by show (1 : Int) < 3; decide), r1, if_pos (by omega), show wrap64 (1 + 1) = 2 by unfold wrap64; omega,
    slices_Concat_int_int.l1, if_pos (by decide), if_pos (by decide), if_pos (show (2 : Int) < (([a, b, c] : List (List Int)).length : Int) by show (2 : Int) < 3; decide), r2, if_pos (by rw [List.length_append]; omega), show wrap64 (2 + 1) = 3 by unfold wrap64; omega,
    slices_Concat_int_int.l1, if_neg (by decide)]
def okCk (ws vs : List Int) (r m st : Int) : Prop := like2 ws vs ∧ (ws.length : Int) > 0 ∧ okHyper r m ∧ (0 ≤ st ∧ st ≤ 32)
instance (ws vs : List Int) (r m st : Int) : Decidable (okCk ws vs r m st) := inferInstanceAs (Decidable (_ ∧ _))
theorem ckchain {p q : Prop} [Decidable p] [Decidable q] (x : Option Bool) (h : p → x = some (decide q)) : (if p then x else some false) = some (decide (p ∧ q)) := by
  by_cases hp : p
  · rw [if_pos hp, h hp]
    refine congrArg some (decide_eq_decide.2 ?_)
    exact ⟨fun hq => ⟨hp, hq⟩, fun hq => hq.2⟩
  · rw [if_neg hp, decide_eq_false (fun hq => hp hq.1)]
theorem ckchainT {p q : Prop} [Decidable p] [Decidable q] (x : Option Bool) (h : p → x = some (decide q)) : (if decide p = true then x else some false) = some (decide (p ∧ q)) := by
  by_cases hp : p
  · rw [decide_eq_true hp, if_pos rfl, h hp]
    refine congrArg some (decide_eq_decide.2 ?_)
    exact ⟨fun hq => ⟨hp, hq⟩, fun hq => hq.2⟩
  · rw [decide_eq_false hp, if_neg (by decide), decide_eq_false (fun hq => hp hq.1)]
theorem ckmay_eq (k : Nat) (ws vs : List Int) (r m st : Int) (hk : 40 ≤ k) : check_May.f k ws vs r m st = some (decide (okCk ws vs r m st)) := by
  unfold check_May.f
  rw [alike2 k ws vs (by omega), Option.bind_some]
  refine ckchainT _ (fun _ => ?_)
  refine ckchain _ (fun _ => ?_)
  rw [hmay_eq, Option.bind_some]
  refine ckchainT _ (fun _ => ?_)
  refine ckchain _ (fun _ => ?_)
  rfl
def encL (ws vs : List Int) (r m st : Int) : List Int := ([(ws.length : Int) % 256] ++ (ws ++ vs ++ [r, m]).flatMap b4) ++ [st % 256]
def encS (ws vs : List Int) (r m st : Int) : ByteArray := strOfNums (encL ws vs r m st)
theorem put_l0 (L : List Int) (hL : L.length ≤ 100) (p0 p1 : List Int) (p2 p3 st : Int) : ∀ (d k i : Nat) (acc : List Int), i + d = L.length → d + 20 ≤ k → acc.length ≤ 4 * i + 1 →
    check_Put.l0 k acc L (L.length : Int) (i : Int) p0 p1 p2 p3 st = some (strOfNums ((acc ++ (L.drop i).flatMap b4) ++ [st % 256]), 0) := by
  intro d
  induction d with
  | zero =>
    intro k i acc hi hk ha
    obtain ⟨k, rfl⟩ : ∃ j, k = j + 1 := ⟨k - 1, by omega⟩
    rw [check_Put.l0, if_neg (by omega), List.drop_eq_nil_of_le (by omega), if_pos (by omega), List.flatMap_nil, List.append_nil]
  | succ d ih =>
    intro k i acc hi hk ha
    obtain ⟨k, rfl⟩ : ∃ j, k = j + 1 := ⟨k - 1, by omega⟩
    have h1 : i < L.length := by omega
    rw [check_Put.l0, if_pos (by omega), if_pos (by omega), if_pos (by omega), rd_nat L i h1, put_eq k acc _ (by omega) (by omega), Option.bind_some, wrap_id ((i : Int) + 1) (by omega) (by omega), show ((i : Int) + 1) = ((i + 1 : Nat) : Int) by omega]
    rw [ih k (i + 1) _ (by omega) (by omega) (by rw [List.length_append, b4_len]; omega), List.drop_eq_getElem_cons h1, List.flatMap_cons, List.append_assoc acc]
theorem ckput_ok (k : Nat) (ws vs : List Int) (r m st : Int) (h : okCk ws vs r m st) (hk : 200 ≤ k) : check_Put.f k ws vs r m st = some (encS ws vs r m st, 0) := by
  have h1 := h.1.1.1
  have h2 := h.1.2.1.1
  have hl : (ws ++ vs ++ [r, m]).length ≤ 100 := by simp only [List.length_append, List.length_cons, List.length_nil]; omega
  unfold check_Put.f
  rw [ckmay_eq k ws vs r m st (by omega), decide_eq_true h, Option.bind_some, if_pos rfl, concat_eq k ws vs [r, m] (by omega) (by omega) (by simp) (by omega), Option.bind_some]
  have := put_l0 (ws ++ vs ++ [r, m]) hl ws vs r m st (ws ++ vs ++ [r, m]).length k 0 [(ws.length : Int) % 256] (by omega) (by omega) (by simp)
  rw [List.drop_zero] at this
  exact this
theorem ckput_bad (k : Nat) (ws vs : List Int) (r m st : Int) (h : ¬ okCk ws vs r m st) (hk : 200 ≤ k) : check_Put.f k ws vs r m st = some ((⟨#[]⟩ : ByteArray), 1400) := by
  unfold check_Put.f
  rw [ckmay_eq k ws vs r m st (by omega), decide_eq_false h, Option.bind_some, if_neg (by decide)]

theorem upTo_eq (a b c : Int) : grafterref1_upTo.f a b c = some (decide (b ≤ a ∧ a ≤ c)) := by
  unfold grafterref1_upTo.f
  by_cases h : a ≥ b
  · rw [if_pos h]; refine congrArg some (decide_eq_decide.2 ?_); omega
  · rw [if_neg h]; refine congrArg some (Eq.symm (decide_eq_false ?_)); omega

theorem rfmay_eq (a : Int) : grafterref1_FixMay.f a = some (decide (okI a)) := by
  unfold grafterref1_FixMay.f; rw [upTo_eq]; rfl
theorem rvmay_l0 (l : List Int) (hb : l.length ≤ 4611686018427387904) : ∀ (d k i : Nat), i + d = l.length → d < k →
    grafterref1_VecMay.l0 k l (i : Int) = some (decide ((∀ x ∈ l.drop i, okI x) ∧ l.length ≤ 16)) := by
  intro d
  induction d with
  | zero =>
    intro k i hi hk
    obtain ⟨k, rfl⟩ : ∃ j, k = j + 1 := ⟨k - 1, by omega⟩
    rw [grafterref1_VecMay.l0, if_neg (by omega), List.drop_eq_nil_of_le (by omega)]
    refine congrArg some (decide_eq_decide.2 ?_)
    simp
    omega
  | succ d ih =>
    intro k i hi hk
    obtain ⟨k, rfl⟩ : ∃ j, k = j + 1 := ⟨k - 1, by omega⟩
    have h1 : i < l.length := by omega
    rw [grafterref1_VecMay.l0, if_pos (by omega), if_pos (by omega), rd_nat l i h1, rfmay_eq, List.drop_eq_getElem_cons h1]
    by_cases ho : okI l[i]
    · rw [decide_eq_true ho]
      simp only [Option.bind_some, if_true]
      rw [wrap_id ((i : Int) + 1) (by omega) (by omega), show ((i : Int) + 1) = ((i + 1 : Nat) : Int) by omega, ih k (i + 1) (by omega) (by omega)]
      refine congrArg some (decide_eq_decide.2 ?_)
      rw [List.forall_mem_cons]
      exact ⟨fun q => ⟨⟨ho, q.1⟩, q.2⟩, fun q => ⟨q.1.2, q.2⟩⟩
    · rw [decide_eq_false ho]
      simp only [Option.bind_some, Bool.false_eq_true, if_false]
      rw [decide_eq_false]
      exact fun q => ho (q.1 _ List.mem_cons_self)
theorem rvmay_eq (k : Nat) (l : List Int) (hb : l.length ≤ 4611686018427387904) (hk : l.length < k) : grafterref1_VecMay.f k l = some (decide (okV l)) := by
  have := rvmay_l0 l hb l.length k 0 (by omega) hk
  rw [List.drop_zero] at this
  unfold grafterref1_VecMay.f
  rw [show (0 : Int) = ((0 : Nat) : Int) from rfl, this]
  refine congrArg some (decide_eq_decide.2 ?_)
  exact ⟨fun h => ⟨h.2, h.1⟩, fun h => ⟨h.2, h.1⟩⟩

theorem fill_set (z : List Int) (i d : Nat) (h : i < z.length) : (z.take i ++ List.replicate (d + 1) 0).set i z[i] = z.take (i + 1) ++ List.replicate d 0 := by
  have ht : (z.take i).length = i := by rw [List.length_take]; omega
  rw [List.set_append_right _ _ (by omega), ht, Nat.sub_self, List.replicate_succ, List.set_cons_zero, List.take_succ_eq_append_getElem h, List.append_assoc]
  rfl
theorem fill_len (z : List Int) (i d : Nat) (h : i + d = z.length) : (z.take i ++ List.replicate d 0).length = z.length := by
  rw [List.length_append, List.length_take, List.length_replicate]; omega

theorem u32_or (x y : Nat) (hx : x < 4294967296) (hy : y < 4294967296) : Go.bits .or .u32 (x : Int) (y : Int) = ((x ||| y : Nat) : Int) := by
  show IntKind.u32.wrap (((BitVec.ofInt 32 (x : Int) ||| BitVec.ofInt 32 (y : Int)).toNat : Nat) : Int) = _
  rw [BitVec.toNat_or, toNat_ofInt32 x hx, toNat_ofInt32 y hy, wrap_u32]
  have : x ||| y < 2 ^ 32 := Nat.or_lt_two_pow hx hy
  have : x ||| y < 4294967296 := this
  omega
theorem or_at (x n c i : Nat) (hc : c = 2 ^ i) (hx : x < c) : x ||| n * c = x + c * n := by
  subst hc
  have := Nat.two_pow_add_eq_or_of_lt (i := i) (b := x) hx n
  rw [Nat.or_comm, Nat.mul_comm n, ← this, Nat.add_comm]
theorem shl_at (n i c : Nat) (hc : c = 2 ^ (8 * i)) (hi : i < 4) (hn : n < 256) (hb : n * c < 4294967296) : shl .u32 ((n : Int) % 4294967296) (wrap64 (8 * (i : Int))) = ((n * c : Nat) : Int) := by
  have h1 : wrap64 (8 * (i : Int)) = ((8 * i : Nat) : Int) := by unfold wrap64; omega
  have h2 : min (8 * i) (IntKind.u32.bits) = 8 * i := Nat.min_eq_left (by show 8 * i ≤ 32; omega)
  unfold shl
  rw [h1, Int.toNat_natCast, h2, wrap_u32, show (n : Int) % 4294967296 = (n : Int) by omega, show ((2 : Int) ^ (8 * i)) = ((2 ^ (8 * i) : Nat) : Int) by rw [Int.natCast_pow]; rfl, ← hc, ← Int.natCast_mul]
  omega
theorem get_step (k : Nat) (s : ByteArray) (x i n c y : Nat) (hc : c = 2 ^ (8 * i)) (hc2 : c ≤ 16777216) (hi : i < 4) (hs : 4 ≤ s.size) (hx : x < c) (hn : n < 256) (e : bt s (i : Int) = (n : Int)) (hy : y = x + c * n) :
    check_get.l0 (k + 1) s (x : Int) (i : Int) = check_get.l0 k s (y : Int) ((i + 1 : Nat) : Int) := by
  have hb : n * c ≤ 255 * 16777216 := Nat.mul_le_mul (by omega) hc2
  rw [check_get.l0, if_pos (by omega), if_pos (by omega), if_pos (by omega), if_pos (by unfold wrap64; omega), e, shl_at n i c hc hi hn (by omega), u32_or x (n * c) (by omega) (by omega), or_at x n c (8 * i) hc hx, ← hy, show wrap64 ((i : Int) + 1) = ((i + 1 : Nat) : Int) by unfold wrap64; omega]
def valN (v : Nat) : Int := if v < 2147483648 then (v : Int) else (v : Int) - 4294967296
theorem val_w (v : Nat) (h : v < 4294967296) : wrap64 (wrap32 (v : Int)) = valN v := by
  unfold wrap64 wrap32 valN
  split <;> omega
def sum4 (a b c d : Nat) : Nat := a + 256 * b + 65536 * c + 16777216 * d
theorem get_val (k : Nat) (s : ByteArray) (n0 n1 n2 n3 : Nat) (hs : 4 ≤ s.size) (b0 : n0 < 256) (b1 : n1 < 256) (b2 : n2 < 256) (b3 : n3 < 256) (e0 : bt s ((0 : Nat) : Int) = (n0 : Int)) (e1 : bt s ((1 : Nat) : Int) = (n1 : Int)) (e2 : bt s ((2 : Nat) : Int) = (n2 : Int)) (e3 : bt s ((3 : Nat) : Int) = (n3 : Int)) (hk : 10 ≤ k) :
    check_get.f k s = some (valN (sum4 n0 n1 n2 n3)) := by
  obtain ⟨k, rfl⟩ : ∃ j, k = j + 5 := ⟨k - 5, by omega⟩
  obtain ⟨y1, h1⟩ : ∃ y, y = 0 + 1 * n0 := ⟨_, rfl⟩
  obtain ⟨y2, h2⟩ : ∃ y, y = y1 + 256 * n1 := ⟨_, rfl⟩
  obtain ⟨y3, h3⟩ : ∃ y, y = y2 + 65536 * n2 := ⟨_, rfl⟩
  obtain ⟨y4, h4⟩ : ∃ y, y = y3 + 16777216 * n3 := ⟨_, rfl⟩
  have s0 := get_step (k + 4) s 0 0 n0 1 y1 (by decide) (by decide) (by decide) hs (by decide) b0 e0 h1
  have s1 := get_step (k + 3) s y1 1 n1 256 y2 (by decide) (by decide) (by decide) hs (by omega) b1 e1 h2
  have s2 := get_step (k + 2) s y2 2 n2 65536 y3 (by decide) (by decide) (by decide) hs (by omega) b2 e2 h3
  have s3 := get_step (k + 1) s y3 3 n3 16777216 y4 (by decide) (by decide) (by decide) hs (by omega) b3 e3 h4
  have h5 : sum4 n0 n1 n2 n3 = y4 := by unfold sum4; omega
  have h6 : y4 < 4294967296 := by omega
  rw [h5]
  clear h1 h2 h3 h4 h5
  unfold check_get.f
  rw [show ((0 : Nat) : Int) = 0 from rfl] at s0
  rw [s0, s1, s2, s3, check_get.l0, if_neg (by decide), val_w y4 h6]
def w4 (s : ByteArray) (a : Nat) : Int := valN (sum4 ((bl s).getD a 0) ((bl s).getD (a + 1) 0) ((bl s).getD (a + 2) 0) ((bl s).getD (a + 3) 0))
theorem get_eq (k : Nat) (s : ByteArray) (a : Nat) (h : a + 4 ≤ s.size) (hk : 10 ≤ k) : check_get.f k (s.extract a s.size) = some (w4 s a) := by
  have hz : 4 ≤ (s.extract a s.size).size := by rw [ByteArray.size_extract]; omega
  have e0 := bt_at2 s a 0 s.size (by omega) (by omega)
  rw [Nat.add_zero] at e0
  exact get_val k _ _ _ _ _ hz (getD_lt s a) (getD_lt s (a + 1)) (getD_lt s (a + 2)) (getD_lt s (a + 3)) e0 (bt_at2 s a 1 s.size (by omega) (by omega)) (bt_at2 s a 2 s.size (by omega) (by omega)) (bt_at2 s a 3 s.size (by omega) (by omega)) hk
def xsOf (s : ByteArray) (m : Nat) : List Int := (List.range m).map fun i => w4 s (1 + 4 * i)
theorem xsOf_len (s : ByteArray) (m : Nat) : (xsOf s m).length = m := by unfold xsOf; simp
theorem xsOf_get (s : ByteArray) (m i : Nat) (h : i < (xsOf s m).length) : (xsOf s m)[i] = w4 s (1 + 4 * i) := by
  have hm : i < m := by rw [xsOf_len] at h; exact h
  have h2 : (xsOf s m)[i]? = some (w4 s (1 + 4 * i)) := by
    unfold xsOf
    rw [List.getElem?_map, List.getElem?_range hm]; rfl
  rw [List.getElem?_eq_getElem h] at h2
  exact Option.some.inj h2
def lastB (s : ByteArray) : Int := ((bl s).getD (s.size - 1) 0 : Nat)
def Wof (s : ByteArray) (n : Nat) : List Int := (xsOf s (2 * n + 2)).take n
def Vof (s : ByteArray) (n : Nat) : List Int := ((xsOf s (2 * n + 2)).take (2 * n)).drop n
def okS (s : ByteArray) (n : Nat) : Prop := okCk (Wof s n) (Vof s n) (w4 s (1 + 4 * (2 * n))) (w4 s (1 + 4 * (2 * n + 1))) (lastB s)
instance (s : ByteArray) (n : Nat) : Decidable (okS s n) := inferInstanceAs (Decidable (okCk ..))
def finS (s : ByteArray) (n : Nat) : List Int × List Int × Int × Int × Int × Int := if okS s n then (Wof s n, Vof s n, w4 s (1 + 4 * (2 * n)), w4 s (1 + 4 * (2 * n + 1)), lastB s, 0) else ([], [], 0, 0, 0, 1400)
theorem bt_last (s : ByteArray) (h : 0 < s.size) : wrap64 (bt s (((s.size - 1 : Nat) : Nat) : Int)) = lastB s := by
  have hb := getD_lt s (s.size - 1)
  have hl : s.size - 1 < (bl s).length := by rw [bl_length]; omega
  unfold lastB
  rw [bt_bl s (s.size - 1) (by omega)]
  rw [List.getD_eq_getElem?_getD, List.getElem?_eq_getElem hl, Option.getD_some] at hb ⊢
  unfold wrap64
  omega
theorem get_loop (s : ByteArray) (n : Nat) (hn : n ≤ 255) (hs : s.size = 10 + 8 * n) : ∀ (d k i : Nat), i + d = 2 * n + 2 → d + 100 ≤ k →
    check_Get.l0 k s (n : Int) ((xsOf s (2 * n + 2)).take i ++ List.replicate d 0) ((2 * n + 2 : Nat) : Int) (i : Int) = some (finS s n) := by
  intro d
  have hz := xsOf_len s (2 * n + 2)
  induction d with
  | zero =>
    intro k i hi hk
    obtain ⟨k, rfl⟩ : ∃ j, k = j + 1 := ⟨k - 1, by omega⟩
    have w2 : wrap64 (2 * (n : Int)) = ((2 * n : Nat) : Int) := by unfold wrap64; omega
    have w3 : wrap64 (((2 * n : Nat) : Int) + 1) = ((2 * n + 1 : Nat) : Int) := by unfold wrap64; omega
    have w4_ : wrap64 ((s.size : Int) - 1) = ((s.size - 1 : Nat) : Int) := by unfold wrap64; omega
    have hr : ∀ j, j < 2 * n + 2 → rd (xsOf s (2 * n + 2)) (j : Int) = w4 s (1 + 4 * j) := fun j hj => by
      rw [rd_nat _ j (by rw [hz]; exact hj), xsOf_get]
    rw [check_Get.l0, if_neg (by omega), List.replicate_zero, List.append_nil, List.take_of_length_le (by omega), if_pos (by omega), if_pos (by omega), Option.bind_some, w2, if_pos (by omega), if_pos (by omega), Int.toNat_natCast, Int.toNat_natCast]
    unfold slices_Clone_int_int.f
    rw [if_pos (by rw [List.length_drop, List.length_take]; omega), Option.bind_some, if_pos (by omega), if_pos (by omega), w3, if_pos (by omega), if_pos (by omega), w4_, if_pos (by omega), if_pos (by omega), bt_last s (by omega), hr _ (by omega), hr _ (by omega)]
    rw [ckmay_eq k _ _ _ _ _ (by omega), Option.bind_some]
    show _ = some (if okS s n then _ else _)
    by_cases h : okS s n
    · rw [if_pos h]
      unfold okS Wof Vof at h
      rw [decide_eq_true h, if_pos rfl]; rfl
    · rw [if_neg h]
      unfold okS Wof Vof at h
      rw [decide_eq_false h, if_neg (by decide)]
  | succ d ih =>
    intro k i hi hk
    obtain ⟨k, rfl⟩ : ∃ j, k = j + 1 := ⟨k - 1, by omega⟩
    have h1 : i < (xsOf s (2 * n + 2)).length := by omega
    have hl := fill_len (xsOf s (2 * n + 2)) i (d + 1) (by omega)
    have w1_ : wrap64 (1 + wrap64 (4 * (i : Int))) = ((1 + 4 * i : Nat) : Int) := by unfold wrap64; omega
    rw [check_Get.l0, if_pos (by omega), w1_, if_pos (by omega), if_pos (by omega), Int.toNat_natCast, get_eq k s _ (by omega) (by omega), Option.bind_some, if_pos (by omega), if_pos (by omega), Int.toNat_natCast, ← xsOf_get s (2 * n + 2) i h1, fill_set _ i d h1, show wrap64 ((i : Int) + 1) = ((i + 1 : Nat) : Int) by unfold wrap64; omega]
    exact ih k (i + 1) (by omega) (by omega)
def fitS (s : ByteArray) : Prop := 0 < s.size ∧ s.size = 10 + 8 * (bl s).getD 0 0
instance (s : ByteArray) : Decidable (fitS s) := inferInstanceAs (Decidable (_ ∧ _))
theorem bt_first (s : ByteArray) (h : 0 < s.size) : bt s 0 = (((bl s).getD 0 0 : Nat) : Int) := by
  have hl : 0 < (bl s).length := by rw [bl_length]; omega
  have := bt_bl s 0 h
  rw [show ((0 : Nat) : Int) = 0 from rfl] at this
  rw [this, List.getD_eq_getElem?_getD, List.getElem?_eq_getElem hl, Option.getD_some]
theorem toList_size (s : ByteArray) : s.toList = [] ↔ s.size = 0 := by
  rw [ByteArray.toList_eq]
  constructor
  · intro h
    have := congrArg List.length h
    rw [Array.length_toList] at this
    exact this
  · intro h
    exact List.eq_nil_of_length_eq_zero (by rw [Array.length_toList]; exact h)
theorem ckget_eq (k : Nat) (s : ByteArray) (hk : 1000 ≤ k) : check_Get.f k s = some (if fitS s then finS s ((bl s).getD 0 0) else ([], [], 0, 0, 0, 1400)) := by
  obtain ⟨k, rfl⟩ : ∃ j, k = j + 1 := ⟨k - 1, by omega⟩
  unfold check_Get.f
  by_cases h0 : s.size = 0
  · rw [if_pos ((toList_size s).2 h0), check_Get.j0, if_pos rfl, if_neg (fun q => by have := q.1; omega)]
  · have hb := getD_lt s 0
    rw [if_neg (fun q => h0 ((toList_size s).1 q)), if_pos (by omega), bt_first s (by omega)]
    have w0 : wrap64 (2 + wrap64 (4 * wrap64 (wrap64 (2 * wrap64 (((bl s).getD 0 0 : Nat) : Int)) + 2))) = ((10 + 8 * (bl s).getD 0 0 : Nat) : Int) := by unfold wrap64; omega
    have w1_ : wrap64 (wrap64 (2 * wrap64 (((bl s).getD 0 0 : Nat) : Int)) + 2) = ((2 * (bl s).getD 0 0 + 2 : Nat) : Int) := by unfold wrap64; omega
    have w2 : wrap64 (((bl s).getD 0 0 : Nat) : Int) = (((bl s).getD 0 0 : Nat) : Int) := by unfold wrap64; omega
    rw [w0]
    by_cases h1 : s.size = 10 + 8 * (bl s).getD 0 0
    · rw [show ((s.size : Int) != ((10 + 8 * (bl s).getD 0 0 : Nat) : Int)) = false by rw [← h1]; simp, check_Get.j0, if_neg (by decide), if_pos (by omega), bt_first s (by omega), w1_, w2, if_pos (by omega), if_pos (by omega), Option.bind_some, Int.toNat_natCast, if_pos ⟨by omega, h1⟩]
      have := get_loop s ((bl s).getD 0 0) (by omega) h1 (2 * (bl s).getD 0 0 + 2) k 0 (by omega) (by omega)
      rw [List.take_zero, List.nil_append] at this
      rw [List.length_replicate]
      exact this
    · rw [show ((s.size : Int) != ((10 + 8 * (bl s).getD 0 0 : Nat) : Int)) = true by rw [bne_iff_ne]; omega, check_Get.j0, if_pos rfl, if_neg (fun q => h1 q.2)]

theorem bl_str (L : List Int) (h : ∀ x ∈ L, 0 ≤ x ∧ x < 256) : bl (strOfNums L) = L.map Int.toNat := by
  unfold bl
  rw [strOfNums_data, List.map_map]
  refine List.map_congr_left (fun x hx => ?_)
  have := h x hx
  show (UInt8.ofNat x.toNat).toNat = x.toNat
  rw [UInt8.toNat_ofNat']
  omega
theorem getD_str (L : List Int) (h : ∀ x ∈ L, 0 ≤ x ∧ x < 256) (j : Nat) : (bl (strOfNums L)).getD j 0 = (L.getD j 0).toNat := by
  rw [bl_str L h, List.getD_eq_getElem?_getD, List.getElem?_map, List.getD_eq_getElem?_getD]
  cases L[j]? <;> rfl
theorem flat_get : ∀ (L : List Int) (i j : Nat) (h : i < L.length), j < 4 → (L.flatMap b4)[4 * i + j]? = (b4 L[i])[j]?
  | [], _, _, h, _ => absurd h (by simp)
  | x :: xs, 0, j, _, hj => by
    rw [List.flatMap_cons, List.getElem?_append_left (by rw [b4_len]; omega), Nat.mul_zero, Nat.zero_add]
    rfl
  | x :: xs, i + 1, j, h, hj => by
    rw [List.flatMap_cons, List.getElem?_append_right (by rw [b4_len]; omega), b4_len, show 4 * (i + 1) + j - 4 = 4 * i + j by omega, flat_get xs i j (by rw [List.length_cons] at h; omega) hj]
    rfl
theorem b4_bd (x : Int) : ∀ y ∈ b4 x, 0 ≤ y ∧ y < 256 := by
  intro y hy
  unfold b4 at hy
  simp only [List.mem_cons, List.not_mem_nil, or_false] at hy
  rcases hy with rfl | rfl | rfl | rfl <;> omega
theorem encL_bd (ws vs : List Int) (r m st : Int) : ∀ y ∈ encL ws vs r m st, 0 ≤ y ∧ y < 256 := by
  intro y hy
  unfold encL at hy
  rcases List.mem_append.1 hy with hy | hy
  · rcases List.mem_append.1 hy with hy | hy
    · rw [List.mem_singleton.1 hy]; omega
    · obtain ⟨x, _, hx⟩ := List.mem_flatMap.1 hy
      exact b4_bd x y hx
  · rw [List.mem_singleton.1 hy]; omega
theorem encL_len (ws vs : List Int) (r m st : Int) : (encL ws vs r m st).length = 10 + 4 * (ws.length + vs.length) := by
  unfold encL
  rw [List.length_append, List.length_append, flat_len]
  simp only [List.length_append, List.length_cons, List.length_nil]
  omega
theorem encS_size (ws vs : List Int) (r m st : Int) : (encS ws vs r m st).size = 10 + 4 * (ws.length + vs.length) := by
  unfold encS; rw [strOfNums_size, encL_len]
theorem enc_at (ws vs : List Int) (r m st : Int) (i j : Nat) (h : i < (ws ++ vs ++ [r, m]).length) (hj : j < 4) : (bl (encS ws vs r m st)).getD (1 + 4 * i + j) 0 = ((b4 (ws ++ vs ++ [r, m])[i]).getD j 0).toNat := by
  unfold encS
  rw [getD_str _ (encL_bd ws vs r m st), List.getD_eq_getElem?_getD, List.getD_eq_getElem?_getD, ← flat_get _ i j h hj]
  unfold encL
  rw [List.getElem?_append_left (by rw [List.length_append, flat_len]; simp only [List.length_cons, List.length_nil]; omega), List.getElem?_append_right (by simp only [List.length_cons, List.length_nil]; omega)]
  rw [show 1 + 4 * i + j - [(ws.length : Int) % 256].length = 4 * i + j by simp only [List.length_cons, List.length_nil]; omega]
theorem sum_b4 (x : Int) : ((sum4 (x % 256).toNat (x / 256 % 256).toNat (x / 256 / 256 % 256).toNat (x / 256 / 256 / 256 % 256).toNat : Nat) : Int) = x % 4294967296 := by
  unfold sum4
  omega
theorem val_of (v : Nat) (x : Int) (h : (v : Int) = x % 4294967296) (h1 : -2147483648 ≤ x) (h2 : x < 2147483648) : valN v = x := by
  unfold valN
  split <;> omega
theorem enc_sum (ws vs : List Int) (r m st : Int) (i : Nat) (h : i < (ws ++ vs ++ [r, m]).length) : ((sum4 ((bl (encS ws vs r m st)).getD (1 + 4 * i) 0) ((bl (encS ws vs r m st)).getD (1 + 4 * i + 1) 0) ((bl (encS ws vs r m st)).getD (1 + 4 * i + 2) 0) ((bl (encS ws vs r m st)).getD (1 + 4 * i + 3) 0) : Nat) : Int) = (ws ++ vs ++ [r, m])[i] % 4294967296 := by
  have e0 := enc_at ws vs r m st i 0 h (by decide)
  rw [Nat.add_zero] at e0
  rw [e0, enc_at ws vs r m st i 1 h (by decide), enc_at ws vs r m st i 2 h (by decide), enc_at ws vs r m st i 3 h (by decide)]
  exact sum_b4 _
theorem all_bd (ws vs : List Int) (r m st : Int) (h : okCk ws vs r m st) : ∀ x ∈ ws ++ vs ++ [r, m], -1073741824 ≤ x ∧ x ≤ 1073741824 := by
  intro x hx
  rcases List.mem_append.1 hx with hx | hx
  · rcases List.mem_append.1 hx with hx | hx
    · exact h.1.1.2 x hx
    · exact h.1.2.1.2 x hx
  · have hh := h.2.2.1
    unfold okHyper at hh
    simp only [List.mem_cons, List.not_mem_nil, or_false] at hx
    rcases hx with rfl | rfl <;> omega
theorem enc_w4 (ws vs : List Int) (r m st : Int) (h : okCk ws vs r m st) (i : Nat) (hi : i < (ws ++ vs ++ [r, m]).length) : w4 (encS ws vs r m st) (1 + 4 * i) = (ws ++ vs ++ [r, m])[i] := by
  have hb := all_bd ws vs r m st h _ (List.getElem_mem hi)
  exact val_of _ _ (enc_sum ws vs r m st i hi) (by omega) (by omega)
theorem enc_xs (ws vs : List Int) (r m st : Int) (h : okCk ws vs r m st) : xsOf (encS ws vs r m st) (2 * ws.length + 2) = ws ++ vs ++ [r, m] := by
  have hv := h.1.2.2
  have hl : (ws ++ vs ++ [r, m]).length = 2 * ws.length + 2 := by simp only [List.length_append, List.length_cons, List.length_nil]; omega
  refine List.ext_getElem (by rw [xsOf_len, hl]) (fun i h1 h2 => ?_)
  rw [xsOf_get, enc_w4 ws vs r m st h i h2]
theorem enc_first (ws vs : List Int) (r m st : Int) (h : ws.length ≤ 16) : (bl (encS ws vs r m st)).getD 0 0 = ws.length := by
  unfold encS
  rw [getD_str _ (encL_bd ws vs r m st)]
  show ((ws.length : Int) % 256).toNat = ws.length
  omega
theorem enc_last (ws vs : List Int) (r m st : Int) (h0 : 0 ≤ st) (h1 : st ≤ 32) : lastB (encS ws vs r m st) = st := by
  unfold lastB
  rw [encS_size]
  unfold encS
  rw [getD_str _ (encL_bd ws vs r m st), List.getD_eq_getElem?_getD]
  unfold encL
  rw [List.getElem?_append_right (by rw [List.length_append, flat_len]; simp only [List.length_append, List.length_cons, List.length_nil]; omega)]
  rw [show (10 + 4 * (ws.length + vs.length) - 1) - ([(ws.length : Int) % 256] ++ (ws ++ vs ++ [r, m]).flatMap b4).length = 0 by rw [List.length_append, flat_len]; simp only [List.length_append, List.length_cons, List.length_nil]; omega]
  show (((st % 256).toNat : Nat) : Int) = st
  omega
theorem enc_fit (ws vs : List Int) (r m st : Int) (h : okCk ws vs r m st) : fitS (encS ws vs r m st) := by
  have hv := h.1.2.2
  have h1 := h.1.1.1
  unfold fitS
  rw [encS_size, enc_first ws vs r m st h1]
  omega
theorem enc_fin (ws vs : List Int) (r m st : Int) (h : okCk ws vs r m st) : finS (encS ws vs r m st) ws.length = (ws, vs, r, m, st, 0) := by
  have hv := h.1.2.2
  have hx := enc_xs ws vs r m st h
  have hW : Wof (encS ws vs r m st) ws.length = ws := by
    unfold Wof
    rw [hx, List.append_assoc, List.take_left]
  have hV : Vof (encS ws vs r m st) ws.length = vs := by
    unfold Vof
    rw [hx, List.take_left' (by rw [List.length_append]; omega), List.drop_left]
  have hl : (ws ++ vs ++ [r, m]).length = 2 * ws.length + 2 := by simp only [List.length_append, List.length_cons, List.length_nil]; omega
  have g1 : (ws ++ vs ++ [r, m])[2 * ws.length]? = some r := by
    rw [List.getElem?_append_right (by rw [List.length_append]; omega), show 2 * ws.length - (ws ++ vs).length = 0 by rw [List.length_append]; omega]; rfl
  have g2 : (ws ++ vs ++ [r, m])[2 * ws.length + 1]? = some m := by
    rw [List.getElem?_append_right (by rw [List.length_append]; omega), show 2 * ws.length + 1 - (ws ++ vs).length = 1 by rw [List.length_append]; omega]; rfl
  have hr : w4 (encS ws vs r m st) (1 + 4 * (2 * ws.length)) = r := by
    rw [enc_w4 ws vs r m st h _ (by omega)]
    rw [List.getElem?_eq_getElem (by omega)] at g1
    exact Option.some.inj g1
  have hm : w4 (encS ws vs r m st) (1 + 4 * (2 * ws.length + 1)) = m := by
    rw [enc_w4 ws vs r m st h _ (by omega)]
    rw [List.getElem?_eq_getElem (by omega)] at g2
    exact Option.some.inj g2
  have hs := enc_last ws vs r m st h.2.2.2.1 h.2.2.2.2
  have ho : okS (encS ws vs r m st) ws.length := by
    unfold okS
    rw [hW, hV, hr, hm, hs]
    exact h
  unfold finS
  rw [if_pos ho, hW, hV, hr, hm, hs]
theorem ckget_enc (k : Nat) (ws vs : List Int) (r m st : Int) (h : okCk ws vs r m st) (hk : 1000 ≤ k) : check_Get.f k (encS ws vs r m st) = some (ws, vs, r, m, st, 0) := by
  rw [ckget_eq k _ hk, if_pos (enc_fit ws vs r m st h), enc_first ws vs r m st h.1.1.1, enc_fin ws vs r m st h]
theorem scheck_eq (k : Nat) (ws vs : List Int) (r m st : Int) (h1 : ws.length ≤ 16) (h2 : vs.length ≤ 16) (hk : 100 ≤ k) : grafterlaw0_SameCheck.f k ws vs r m st ws vs r m st = some true := by
  unfold grafterlaw0_SameCheck.f
  rw [same_eq k ws ws (by omega) (by omega), decide_eq_true rfl, Option.bind_some, if_pos rfl, same_eq k vs vs (by omega) (by omega), decide_eq_true rfl, Option.bind_some, if_pos rfl, if_pos (by simp)]
  simp
theorem get_none (k : Nat) (hk : 1000 ≤ k) : check_Get.f k (⟨#[]⟩ : ByteArray) = some ([], [], 0, 0, 0, 1400) := by
  rw [ckget_eq k _ hk, if_neg (fun q => absurd q.1 (by decide))]
theorem ckawake_eq (k : Nat) (hk : 1000 ≤ k) : grafterlaw14_awake.f k = some true := by
  have g1 : okCk [258, -1] [0, 1] 64 3 9 := by decide
  have g2 : ¬ okCk [] [] 0 0 0 := by decide
  have e1 : (encS [258, -1] [0, 1] 64 3 9).toList = ([2, 2, 1, 0, 0, 255, 255, 255, 255, 0, 0, 0, 0, 1, 0, 0, 0, 64, 0, 0, 0, 3, 0, 0, 0, 9] : List UInt8) := by
    rw [ByteArray.toList_eq]
    decide
  unfold grafterlaw14_awake.f
  rw [Option.bind_some, Option.bind_some, ckput_ok k _ _ _ _ _ g1 (by omega), Option.bind_some]
  dsimp only
  rw [ckget_enc k _ _ _ _ _ g1 hk, Option.bind_some, ckput_bad k _ _ _ _ _ g2 (by omega), Option.bind_some, get_none k hk, Option.bind_some, if_pos e1]
  dsimp only
  rw [num_eq, Option.bind_some, if_pos rfl, scheck_eq k _ _ _ _ _ (by decide) (by decide) (by omega), Option.bind_some, if_pos rfl, num_eq, Option.bind_some, if_pos rfl, Option.bind_some, if_pos rfl, Option.bind_some, if_pos rfl, ckmay_eq k _ _ _ _ _ (by omega), decide_eq_true g1]
  rfl

theorem up12_eq (a b c : Int) : grafterref12_upTo.f a b c = some (decide (b ≤ a ∧ a ≤ c)) := by
  unfold grafterref12_upTo.f
  by_cases h : a ≥ b
  · rw [if_pos h]
    refine congrArg some (decide_eq_decide.2 ?_)
    exact ⟨fun q => ⟨h, q⟩, fun q => q.2⟩
  · rw [if_neg h, decide_eq_false (fun q => h q.1)]
theorem rhm_eq (a b : Int) : grafterref1_HyperMay.f a b = some (decide (okHyper a b)) := by
  unfold grafterref1_HyperMay.f
  rw [upTo_eq, upTo_eq, Option.bind_some, Option.bind_some]
  exact ckchainT (p := 64 ≤ a ∧ a ≤ 16384) (q := 0 ≤ b ∧ b ≤ 58982) _ (fun _ => rfl)
theorem rckmay_eq (k : Nat) (ws vs : List Int) (r m st : Int) (h1 : ws.length ≤ 4611686018427387904) (h2 : vs.length ≤ 4611686018427387904) (k1 : ws.length < k) (k2 : vs.length < k) : grafterref12_CheckMay.f k ws vs r m st = some (decide (okCk ws vs r m st)) := by
  have e : okCk ws vs r m st ↔ (okV ws ∧ okV vs ∧ (ws.length : Int) = (vs.length : Int) ∧ (ws.length : Int) > 0 ∧ okHyper r m ∧ (0 ≤ st ∧ st ≤ 32)) :=
    ⟨fun q => ⟨q.1.1, q.1.2.1, by have := q.1.2.2; omega, q.2.1, q.2.2.1, q.2.2.2⟩, fun q => ⟨⟨q.1, q.2.1, by have := q.2.2.1; omega⟩, q.2.2.2.1, q.2.2.2.2.1, q.2.2.2.2.2⟩⟩
  rw [decide_eq_decide.2 e]
  unfold grafterref12_CheckMay.f
  rw [rvmay_eq k ws h1 k1, Option.bind_some]
  refine ckchainT _ (fun _ => ?_)
  rw [rvmay_eq k vs h2 k2, Option.bind_some]
  refine ckchainT _ (fun _ => ?_)
  refine ckchain _ (fun _ => ?_)
  refine ckchain _ (fun _ => ?_)
  rw [rhm_eq, Option.bind_some]
  refine ckchainT _ (fun _ => ?_)
  rw [up12_eq, Option.bind_some]

theorem str_app (a b : List Int) : strOfNums (a ++ b) = strOfNums a ++ strOfNums b := by
  refine ByteArray.ext (Array.toList_inj.1 ?_)
  rw [ByteArray.data_append, Array.toList_append, strOfNums_data, strOfNums_data, strOfNums_data, List.map_append]
theorem sh_at (x : Int) (i c : Nat) (hc : c = 2 ^ (8 * i)) (hi : i < 4) : shr .i64 x (wrap64 (8 * (i : Int))) = x / (c : Int) := by
  have h1 : wrap64 (8 * (i : Int)) = ((8 * i : Nat) : Int) := by unfold wrap64; omega
  have h2 : min (8 * i) (IntKind.i64.bits) = 8 * i := Nat.min_eq_left (by show 8 * i ≤ 64; omega)
  unfold shr
  rw [h1, Int.toNat_natCast, h2, hc, Int.natCast_pow]
  rfl
theorem low_step (k : Nat) (x m : Int) (l : List Int) (i c : Nat) (hc : c = 2 ^ (8 * i)) (hi : i < 4) (hm : (i : Int) < m) (hl : i < l.length) : grafterref12_low.l0 (k + 1) x m l (i : Int) = grafterref12_low.l0 k x m (l.set i (x / (c : Int) % 256)) ((i + 1 : Nat) : Int) := by
  rw [grafterref12_low.l0, if_pos hm, if_pos (by unfold wrap64; omega), if_pos (by omega), if_pos (by omega), sh_at x i c hc hi, Int.toNat_natCast, show wrap64 ((i : Int) + 1) = ((i + 1 : Nat) : Int) by unfold wrap64; omega]
theorem low1_eq (k : Nat) (x : Int) (hk : 10 ≤ k) : grafterref12_low.f k x 1 = some (strOfNums [x % 256]) := by
  obtain ⟨k, rfl⟩ : ∃ j, k = j + 2 := ⟨k - 2, by omega⟩
  have s0 := low_step (k + 1) x 1 [0] 0 1 (by decide) (by decide) (by decide) (by decide)
  rw [show ((0 : Nat) : Int) = 0 from rfl] at s0
  unfold grafterref12_low.f
  rw [if_pos (by decide), if_pos (by decide)]
  show grafterref12_low.l0 (k + 2) x 1 [0] 0 = _
  rw [s0, grafterref12_low.l0, if_neg (by decide)]
  refine congrArg (fun z => some (strOfNums [z % 256])) ?_
  exact Int.ediv_one x
theorem low4_eq (k : Nat) (x : Int) (hk : 10 ≤ k) : grafterref12_low.f k x 4 = some (strOfNums (b4 x)) := by
  obtain ⟨k, rfl⟩ : ∃ j, k = j + 5 := ⟨k - 5, by omega⟩
  have s0 := low_step (k + 4) x 4 [0, 0, 0, 0] 0 1 (by decide) (by decide) (by decide) (by decide)
  have s1 := low_step (k + 3) x 4 [x / ((1 : Nat) : Int) % 256, 0, 0, 0] 1 256 (by decide) (by decide) (by decide) (by simp)
  have s2 := low_step (k + 2) x 4 [x / ((1 : Nat) : Int) % 256, x / ((256 : Nat) : Int) % 256, 0, 0] 2 65536 (by decide) (by decide) (by decide) (by simp)
  have s3 := low_step (k + 1) x 4 [x / ((1 : Nat) : Int) % 256, x / ((256 : Nat) : Int) % 256, x / ((65536 : Nat) : Int) % 256, 0] 3 16777216 (by decide) (by decide) (by decide) (by simp)
  rw [show ((0 : Nat) : Int) = 0 from rfl] at s0
  simp only [List.set_cons_zero, List.set_cons_succ] at s0 s1 s2 s3
  unfold grafterref12_low.f
  rw [if_pos (by decide), if_pos (by decide)]
  show grafterref12_low.l0 (k + 5) x 4 [0, 0, 0, 0] 0 = _
  rw [s0, s1, s2, s3, grafterref12_low.l0, if_neg (by decide)]
  refine congrArg (fun z => some (strOfNums z)) ?_
  clear s0 s1 s2 s3
  have e0 : x / ((1 : Nat) : Int) = x := Int.ediv_one x
  have e2 : x / ((65536 : Nat) : Int) = x / 256 / 256 := by omega
  have e3 : x / ((16777216 : Nat) : Int) = x / 256 / 256 / 256 := by omega
  unfold b4
  rw [e0, e2, e3]
  rfl
theorem rput_l1 (A L : List Int) (hL : L.length ≤ 16) (r m st : Int) : ∀ (d k i : Nat) (acc : List Int), i + d = L.length → d + 20 ≤ k → acc.length ≤ 100 + 4 * i →
    grafterref12_PutCheck.l1 k (strOfNums acc) (i : Int) A L r m st = some (strOfNums (acc ++ (L.drop i).flatMap b4 ++ b4 r ++ b4 m ++ [st % 256]), 0) := by
  intro d
  induction d with
  | zero =>
    intro k i acc hi hk ha
    obtain ⟨k, rfl⟩ : ∃ j, k = j + 1 := ⟨k - 1, by omega⟩
    rw [grafterref12_PutCheck.l1, if_neg (by omega), List.drop_eq_nil_of_le (by omega), List.flatMap_nil, List.append_nil, low4_eq k r (by omega), low4_eq k m (by omega), low1_eq k st (by omega), Option.bind_some, Option.bind_some, Option.bind_some, ← str_app, ← str_app, ← str_app]
    simp only [strOfNums_size, List.length_append, b4_len, List.length_cons, List.length_nil]
    rw [if_pos (by omega), if_pos (by omega), if_pos (by omega)]
  | succ d ih =>
    intro k i acc hi hk ha
    obtain ⟨k, rfl⟩ : ∃ j, k = j + 1 := ⟨k - 1, by omega⟩
    have h1 : i < L.length := by omega
    rw [grafterref12_PutCheck.l1, if_pos (by omega), if_pos (by omega), rd_nat L i h1, low4_eq k _ (by omega), Option.bind_some, if_pos (by rw [strOfNums_size, strOfNums_size, b4_len]; omega), ← str_app, wrap_id ((i : Int) + 1) (by omega) (by omega), show ((i : Int) + 1) = ((i + 1 : Nat) : Int) by omega]
    rw [ih k (i + 1) _ (by omega) (by omega) (by rw [List.length_append, b4_len]; omega), List.drop_eq_getElem_cons h1, List.flatMap_cons, List.append_assoc acc]
theorem rput_l0 (A L : List Int) (hA : A.length ≤ 16) (hL : L.length ≤ 16) (r m st : Int) : ∀ (d k i : Nat) (acc : List Int), i + d = A.length → d + 60 ≤ k → acc.length ≤ 1 + 4 * i →
    grafterref12_PutCheck.l0 k (strOfNums acc) (i : Int) A L r m st = some (strOfNums (acc ++ (A.drop i).flatMap b4 ++ L.flatMap b4 ++ b4 r ++ b4 m ++ [st % 256]), 0) := by
  intro d
  induction d with
  | zero =>
    intro k i acc hi hk ha
    obtain ⟨k, rfl⟩ : ∃ j, k = j + 1 := ⟨k - 1, by omega⟩
    have := rput_l1 A L hL r m st L.length k 0 acc (by omega) (by omega) (by omega)
    rw [List.drop_zero, show ((0 : Nat) : Int) = 0 from rfl] at this
    rw [grafterref12_PutCheck.l0, if_neg (by omega), List.drop_eq_nil_of_le (by omega), List.flatMap_nil, List.append_nil, this]
  | succ d ih =>
    intro k i acc hi hk ha
    obtain ⟨k, rfl⟩ : ∃ j, k = j + 1 := ⟨k - 1, by omega⟩
    have h1 : i < A.length := by omega
    rw [grafterref12_PutCheck.l0, if_pos (by omega), if_pos (by omega), rd_nat A i h1, low4_eq k _ (by omega), Option.bind_some, if_pos (by rw [strOfNums_size, strOfNums_size, b4_len]; omega), ← str_app, wrap_id ((i : Int) + 1) (by omega) (by omega), show ((i : Int) + 1) = ((i + 1 : Nat) : Int) by omega]
    rw [ih k (i + 1) _ (by omega) (by omega) (by rw [List.length_append, b4_len]; omega), List.drop_eq_getElem_cons h1, List.flatMap_cons, List.append_assoc acc]
theorem rput_ok (k : Nat) (ws vs : List Int) (r m st : Int) (h : okCk ws vs r m st) (hk : 100 ≤ k) : grafterref12_PutCheck.f k ws vs r m st = some (encS ws vs r m st, 0) := by
  have h1 := h.1.1.1
  have h2 := h.1.2.1.1
  unfold grafterref12_PutCheck.f
  rw [rckmay_eq k _ _ _ _ _ (by omega) (by omega) (by omega) (by omega), decide_eq_true h, Option.bind_some, if_pos rfl, low1_eq k _ (by omega), Option.bind_some]
  have := rput_l0 ws vs h1 h2 r m st ws.length k 0 [(ws.length : Int) % 256] (by omega) (by omega) (by simp)
  rw [List.drop_zero, show ((0 : Nat) : Int) = 0 from rfl] at this
  rw [this]
  refine congrArg (fun z => some (strOfNums z, 0)) ?_
  unfold encL
  simp only [List.flatMap_append, List.flatMap_cons, List.flatMap_nil, List.append_assoc, List.append_nil]
theorem rput_bad (k : Nat) (ws vs : List Int) (r m st : Int) (h : ¬ okCk ws vs r m st) (h1 : ws.length ≤ 4611686018427387904) (h2 : vs.length ≤ 4611686018427387904) (k1 : ws.length < k) (k2 : vs.length < k) : grafterref12_PutCheck.f k ws vs r m st = some ((⟨#[]⟩ : ByteArray), 1400) := by
  unfold grafterref12_PutCheck.f
  rw [rckmay_eq k _ _ _ _ _ h1 h2 k1 k2, decide_eq_false h, Option.bind_some, if_neg (by decide)]

theorem or_i64 (x y : Nat) (hx : x < 4294967296) (hy : y < 4294967296) : Go.bits .or .i64 (x : Int) (y : Int) = ((x ||| y : Nat) : Int) := by
  rw [i64_or, show ((x : Int) % 18446744073709551616).toNat = x by omega, show ((y : Int) % 18446744073709551616).toNat = y by omega]
  have : x ||| y < 2 ^ 32 := Nat.or_lt_two_pow hx hy
  have : x ||| y < 4294967296 := this
  unfold wrap64
  omega
theorem num_step (k : Nat) (s : ByteArray) (x i n y : Nat) (hx : x < 16777216) (hn : n < 256) (hi : i < s.size) (hb : i ≤ 1000) (e : bt s (i : Int) = (n : Int)) (hy : y = 256 * x + n) :
    grafterref12_num.l0 (k + 1) s (x : Int) (i : Int) = grafterref12_num.l0 k s (y : Int) ((i : Int) - 1) := by
  have h1 : wrap64 ((x : Int) * 256) = ((256 * x : Nat) : Int) := by unfold wrap64; omega
  have h2 : wrap64 (n : Int) = (n : Int) := by unfold wrap64; omega
  have h3 := Nat.two_pow_add_eq_or_of_lt (i := 8) (b := n) hn x
  rw [show (2 : Nat) ^ 8 = 256 from rfl] at h3
  rw [grafterref12_num.l0, if_pos (by omega), if_pos (by omega), if_pos (by omega), e, h1, h2, or_i64 (256 * x) n (by omega) (by omega), ← h3, ← hy]
  rw [show wrap64 ((i : Int) - 1) = (i : Int) - 1 by clear e hy h1 h2 h3; unfold wrap64; omega]
theorem num_val (k : Nat) (s : ByteArray) (n0 n1 n2 n3 : Nat) (hs : s.size = 4) (b0 : n0 < 256) (b1 : n1 < 256) (b2 : n2 < 256) (b3 : n3 < 256) (e0 : bt s ((0 : Nat) : Int) = (n0 : Int)) (e1 : bt s ((1 : Nat) : Int) = (n1 : Int)) (e2 : bt s ((2 : Nat) : Int) = (n2 : Int)) (e3 : bt s ((3 : Nat) : Int) = (n3 : Int)) (hk : 10 ≤ k) :
    grafterref12_num.f k s = some ((sum4 n0 n1 n2 n3 : Nat) : Int) := by
  obtain ⟨k, rfl⟩ : ∃ j, k = j + 5 := ⟨k - 5, by omega⟩
  obtain ⟨y1, h1⟩ : ∃ y, y = 256 * 0 + n3 := ⟨_, rfl⟩
  obtain ⟨y2, h2⟩ : ∃ y, y = 256 * y1 + n2 := ⟨_, rfl⟩
  obtain ⟨y3, h3⟩ : ∃ y, y = 256 * y2 + n1 := ⟨_, rfl⟩
  obtain ⟨y4, h4⟩ : ∃ y, y = 256 * y3 + n0 := ⟨_, rfl⟩
  have s0 := num_step (k + 4) s 0 3 n3 y1 (by decide) b3 (by omega) (by decide) e3 h1
  have s1 := num_step (k + 3) s y1 2 n2 y2 (by omega) b2 (by omega) (by decide) e2 h2
  have s2 := num_step (k + 2) s y2 1 n1 y3 (by omega) b1 (by omega) (by decide) e1 h3
  have s3 := num_step (k + 1) s y3 0 n0 y4 (by omega) b0 (by omega) (by decide) e0 h4
  have h5 : sum4 n0 n1 n2 n3 = y4 := by unfold sum4; omega
  rw [h5]
  clear h1 h2 h3 h4 h5
  unfold grafterref12_num.f
  rw [hs, show wrap64 (((4 : Nat) : Int) - 1) = 3 by unfold wrap64; omega]
  rw [show ((3 : Nat) : Int) = 3 from rfl, show ((0 : Nat) : Int) = 0 from rfl, show (3 : Int) - 1 = 2 from rfl] at s0
  rw [show ((2 : Nat) : Int) = 2 from rfl, show (2 : Int) - 1 = 1 from rfl] at s1
  rw [show ((1 : Nat) : Int) = 1 from rfl, show (1 : Int) - 1 = 0 from rfl] at s2
  rw [show ((0 : Nat) : Int) = 0 from rfl, show (0 : Int) - 1 = -1 from rfl] at s3
  rw [s0, s1, s2, s3, grafterref12_num.l0, if_neg (by decide)]
theorem num_at (k : Nat) (s : ByteArray) (a b : Nat) (hb : b = a + 4) (h : b ≤ s.size) (hk : 10 ≤ k) : grafterref12_num.f k (s.extract a b) = some ((sum4 ((bl s).getD a 0) ((bl s).getD (a + 1) 0) ((bl s).getD (a + 2) 0) ((bl s).getD (a + 3) 0) : Nat) : Int) := by
  have e0 := bt_at2 s a 0 b (by omega) (by omega)
  rw [Nat.add_zero] at e0
  exact num_val k _ _ _ _ _ (by rw [ByteArray.size_extract]; omega) (getD_lt s a) (getD_lt s (a + 1)) (getD_lt s (a + 2)) (getD_lt s (a + 3)) e0 (bt_at2 s a 1 b (by omega) (by omega)) (bt_at2 s a 2 b (by omega) (by omega)) (bt_at2 s a 3 b (by omega) (by omega)) hk

theorem b4_val (n0 n1 n2 n3 : Nat) (b0 : n0 < 256) (b1 : n1 < 256) (b2 : n2 < 256) (b3 : n3 < 256) : b4 (valN (sum4 n0 n1 n2 n3)) = [(n0 : Int), (n1 : Int), (n2 : Int), (n3 : Int)] := by
  obtain ⟨v, hv⟩ : ∃ v : Int, v = valN (sum4 n0 n1 n2 n3) := ⟨_, rfl⟩
  have h : v % 4294967296 = n0 + 256 * n1 + 65536 * n2 + 16777216 * n3 := by
    rw [hv]; unfold valN sum4; split <;> omega
  rw [← hv]
  clear hv
  have c0 : v % 256 = (n0 : Int) := by omega
  have c1 : v / 256 % 256 = (n1 : Int) := by omega
  have c2 : v / 256 / 256 % 256 = (n2 : Int) := by omega
  have c3 : v / 256 / 256 / 256 % 256 = (n3 : Int) := by omega
  unfold b4
  rw [c0, c1, c2, c3]
theorem b4_w4 (s : ByteArray) (a : Nat) : b4 (w4 s a) = [(((bl s).getD a 0 : Nat) : Int), (((bl s).getD (a + 1) 0 : Nat) : Int), (((bl s).getD (a + 2) 0 : Nat) : Int), (((bl s).getD (a + 3) 0 : Nat) : Int)] :=
  b4_val _ _ _ _ (getD_lt s a) (getD_lt s (a + 1)) (getD_lt s (a + 2)) (getD_lt s (a + 3))
theorem w32_sum (n0 n1 n2 n3 : Nat) (b0 : n0 < 256) (b1 : n1 < 256) (b2 : n2 < 256) (b3 : n3 < 256) : wrap64 (wrap32 (((sum4 n0 n1 n2 n3 : Nat) : Int) % 4294967296)) = valN (sum4 n0 n1 n2 n3) := by
  have h : sum4 n0 n1 n2 n3 < 4294967296 := by unfold sum4; omega
  rw [show ((sum4 n0 n1 n2 n3 : Nat) : Int) % 4294967296 = ((sum4 n0 n1 n2 n3 : Nat) : Int) by omega]
  exact val_w _ h
theorem getw (s : ByteArray) (a : Nat) : wrap64 (wrap32 (((sum4 ((bl s).getD a 0) ((bl s).getD (a + 1) 0) ((bl s).getD (a + 2) 0) ((bl s).getD (a + 3) 0) : Nat) : Int) % 4294967296)) = w4 s a :=
  w32_sum _ _ _ _ (getD_lt s a) (getD_lt s (a + 1)) (getD_lt s (a + 2)) (getD_lt s (a + 3))

def uN (s : ByteArray) (a : Nat) : Nat := sum4 ((bl s).getD a 0) ((bl s).getD (a + 1) 0) ((bl s).getD (a + 2) 0) ((bl s).getD (a + 3) 0)
theorem uN_lt (s : ByteArray) (a : Nat) : uN s a < 4294967296 := by
  have h0 := getD_lt s a
  have h1 := getD_lt s (a + 1)
  have h2 := getD_lt s (a + 2)
  have h3 := getD_lt s (a + 3)
  unfold uN sum4
  omega
theorem w4_u (s : ByteArray) (a : Nat) : w4 s a = valN (uN s a) := rfl
theorem num_u (k : Nat) (s : ByteArray) (a b : Nat) (hb : b = a + 4) (h : b ≤ s.size) (hk : 10 ≤ k) : grafterref12_num.f k (s.extract a b) = some ((uN s a : Nat) : Int) := num_at k s a b hb h hk
theorem get_u (s : ByteArray) (a : Nat) : wrap64 (wrap32 (((uN s a : Nat) : Int) % 4294967296)) = w4 s a := getw s a
def WsN (s : ByteArray) (i : Nat) : List Int := (List.range i).map fun j => w4 s (1 + 4 * j)
def VsN (s : ByteArray) (n i : Nat) : List Int := (List.range i).map fun j => w4 s (1 + 4 * n + 4 * j)
theorem WsN_len (s : ByteArray) (i : Nat) : (WsN s i).length = i := by unfold WsN; simp
theorem VsN_len (s : ByteArray) (n i : Nat) : (VsN s n i).length = i := by unfold VsN; simp
theorem WsN_succ (s : ByteArray) (i : Nat) : WsN s i ++ [w4 s (1 + 4 * i)] = WsN s (i + 1) := by
  unfold WsN; rw [List.range_succ, List.map_append]; rfl
theorem VsN_succ (s : ByteArray) (n i : Nat) : VsN s n i ++ [w4 s (1 + 4 * n + 4 * i)] = VsN s n (i + 1) := by
  unfold VsN; rw [List.range_succ, List.map_append]; rfl
theorem Wof_eq (s : ByteArray) (n : Nat) : Wof s n = WsN s n := by
  unfold Wof WsN xsOf
  rw [← List.map_take, List.take_range, Nat.min_eq_left (by omega)]
theorem Vof_eq (s : ByteArray) (n : Nat) : Vof s n = VsN s n n := by
  show ((xsOf s (2 * n + 2)).take (2 * n)).drop n = (List.range n).map fun j => w4 s (1 + 4 * n + 4 * j)
  refine List.ext_getElem (by rw [List.length_drop, List.length_take, xsOf_len, List.length_map, List.length_range]; omega) (fun i h1 h2 => ?_)
  rw [List.getElem_drop, List.getElem_take, xsOf_get, List.getElem_map, List.getElem_range]
  refine congrArg (w4 s) ?_
  omega
theorem okHyper_u (a b : Nat) : okHyper ((a : Nat) : Int) ((b : Nat) : Int) → okHyper (valN a) (valN b) ∧ valN a = a ∧ valN b = b := by
  unfold okHyper valN
  intro h
  rw [if_pos (by omega), if_pos (by omega)]
  exact ⟨h, rfl, rfl⟩
theorem okHyper_v (a b : Nat) (ha : a < 4294967296) (hb : b < 4294967296) : okHyper (valN a) (valN b) → okHyper ((a : Nat) : Int) ((b : Nat) : Int) := by
  intro h
  have h1 : a < 2147483648 := by
    refine Nat.lt_of_not_le (fun q => ?_)
    unfold okHyper valN at h
    rw [if_neg (by omega)] at h
    omega
  have h2 : b < 2147483648 := by
    refine Nat.lt_of_not_le (fun q => ?_)
    unfold okHyper valN at h
    rw [if_neg (show ¬ b < 2147483648 by omega)] at h
    omega
  unfold okHyper valN at h
  rw [if_pos h1, if_pos h2] at h
  exact h
theorem okS_iff (s : ByteArray) (n : Nat) : okCk (WsN s n) (VsN s n n) ((uN s (1 + 8 * n) : Nat) : Int) ((uN s (5 + 8 * n) : Nat) : Int) (lastB s) ↔ okS s n := by
  unfold okS
  rw [Wof_eq, Vof_eq, w4_u, w4_u, show 1 + 4 * (2 * n) = 1 + 8 * n by omega, show 1 + 4 * (2 * n + 1) = 5 + 8 * n by omega]
  exact ⟨fun q => ⟨q.1, q.2.1, (okHyper_u _ _ q.2.2.1).1, q.2.2.2⟩, fun q => ⟨q.1, q.2.1, okHyper_v _ _ (uN_lt s _) (uN_lt s _) q.2.2.1, q.2.2.2⟩⟩
theorem cut_all (s : ByteArray) (n : Nat) : Wof s n ++ Vof s n ++ [w4 s (1 + 4 * (2 * n)), w4 s (1 + 4 * (2 * n + 1))] = xsOf s (2 * n + 2) := by
  have hl : (Wof s n ++ Vof s n).length = 2 * n := by rw [Wof_eq, Vof_eq, List.length_append, WsN_len, VsN_len]; omega
  refine List.ext_getElem (by rw [List.length_append, hl, xsOf_len]; rfl) (fun i h1 h2 => ?_)
  rw [xsOf_len] at h2
  rw [xsOf_get]
  by_cases hi : i < 2 * n
  · rw [List.getElem_append_left (by omega)]
    by_cases hj : i < n
    · rw [List.getElem_append_left (by rw [Wof_eq, WsN_len]; exact hj)]
      simp only [Wof_eq]
      unfold WsN
      rw [List.getElem_map, List.getElem_range]
    · rw [List.getElem_append_right (by rw [Wof_eq, WsN_len]; omega)]
      simp only [Wof_eq, Vof_eq, WsN_len]
      unfold VsN
      rw [List.getElem_map, List.getElem_range]
      refine congrArg (w4 s) ?_
      omega
  · rw [List.getElem_append_right (by omega)]
    by_cases hj : i = 2 * n
    · subst hj
      simp only [hl, Nat.sub_self]
      rfl
    · have : i = 2 * n + 1 := by omega
      subst this
      simp only [hl, show 2 * n + 1 - 2 * n = 1 by omega]
      rfl
theorem re_enc (s : ByteArray) (n : Nat) (hn : n = (bl s).getD 0 0) (hs : s.size = 10 + 8 * n) (ho : okS s n) : encS (Wof s n) (Vof s n) (w4 s (1 + 4 * (2 * n))) (w4 s (1 + 4 * (2 * n + 1))) (lastB s) = s := by
  have hw : (Wof s n).length = n := by rw [Wof_eq, WsN_len]
  have hv : (Vof s n).length = n := by rw [Vof_eq, VsN_len]
  have hc := cut_all s n
  obtain ⟨E, hE⟩ : ∃ E, E = encS (Wof s n) (Vof s n) (w4 s (1 + 4 * (2 * n))) (w4 s (1 + 4 * (2 * n + 1))) (lastB s) := ⟨_, rfl⟩
  have hz : E.size = s.size := by rw [hE, encS_size, hw, hv, hs]; omega
  have h0 : (bl E).getD 0 0 = (bl s).getD 0 0 := by
    rw [hE, enc_first _ _ _ _ _ ho.1.1.1, hw, hn]
  have hlast : (bl E).getD (s.size - 1) 0 = (bl s).getD (s.size - 1) 0 := by
    have q := enc_last (Wof s n) (Vof s n) (w4 s (1 + 4 * (2 * n))) (w4 s (1 + 4 * (2 * n + 1))) (lastB s) ho.2.2.2.1 ho.2.2.2.2
    rw [← hE] at q
    unfold lastB at q
    rw [hz] at q
    omega
  have hmid : ∀ i j, i < 2 * n + 2 → j < 4 → (bl E).getD (1 + 4 * i + j) 0 = (bl s).getD (1 + 4 * i + j) 0 := by
    intro i j hi hj
    have hlen : (Wof s n ++ Vof s n ++ [w4 s (1 + 4 * (2 * n)), w4 s (1 + 4 * (2 * n + 1))]).length = 2 * n + 2 := by rw [hc, xsOf_len]
    rw [hE, enc_at _ _ _ _ _ i j (by omega) hj]
    have e : (Wof s n ++ Vof s n ++ [w4 s (1 + 4 * (2 * n)), w4 s (1 + 4 * (2 * n + 1))])[i]'(by omega) = w4 s (1 + 4 * i) := by
      simp only [hc]
      rw [xsOf_get]
    rw [e, b4_w4]
    match j, hj with
    | 0, _ => rfl
    | 1, _ => rfl
    | 2, _ => rfl
    | 3, _ => rfl
  rw [← hE]
  refine bl_inj (List.ext_getElem (by rw [bl_length, bl_length, hz]) (fun p h1 h2 => ?_))
  have g : (bl E).getD p 0 = (bl s).getD p 0 := by
    rw [bl_length] at h2
    by_cases c0 : p = 0
    · rw [c0]; exact h0
    · by_cases c1 : p = s.size - 1
      · rw [c1]; exact hlast
      · have := hmid ((p - 1) / 4) ((p - 1) % 4) (by omega) (by omega)
        rw [show 1 + 4 * ((p - 1) / 4) + (p - 1) % 4 = p by omega] at this
        exact this
  rw [List.getD_eq_getElem?_getD, List.getD_eq_getElem?_getD, List.getElem?_eq_getElem h1, List.getElem?_eq_getElem h2, Option.getD_some, Option.getD_some] at g
  exact g
theorem rget_exit (k : Nat) (s : ByteArray) (n : Nat) (hk : 400 ≤ k) (hn : n = (bl s).getD 0 0) (hb : n ≤ 255) (hs : s.size = 10 + 8 * n) :
    grafterref12_GetCheck.l0 k s (n : Int) (n : Int) (WsN s n) (VsN s n n) 0 0 0 = some (finS s n) := by
  obtain ⟨k, rfl⟩ : ∃ j, k = j + 1 := ⟨k - 1, by omega⟩
  have w1_ : wrap64 (1 + wrap64 (8 * (n : Int))) = ((1 + 8 * n : Nat) : Int) := by unfold wrap64; omega
  have w2_ : wrap64 (((1 + 8 * n : Nat) : Int) + 4) = ((5 + 8 * n : Nat) : Int) := by unfold wrap64; omega
  have w3_ : wrap64 (((1 + 8 * n : Nat) : Int) + 8) = ((s.size - 1 : Nat) : Int) := by unfold wrap64; omega
  have hlW := WsN_len s n
  have hlV := VsN_len s n n
  rw [grafterref12_GetCheck.l0, if_neg (by omega), w1_, w2_, w3_, if_pos (by omega), if_pos (by omega), if_pos (by omega), Int.toNat_natCast, Int.toNat_natCast, num_u k s _ _ (by omega) (by omega) (by omega), Option.bind_some]
  rw [if_pos (by omega), if_pos (by omega), if_pos (by omega), Int.toNat_natCast, num_u k s _ _ (by omega) (by omega) (by omega), Option.bind_some, if_pos (by omega), if_pos (by omega), bt_last s (by omega)]
  have hi := okS_iff s n
  by_cases ho : okS s n
  · have ho2 := hi.2 ho
    have hu := okHyper_u _ _ ho2.2.2.1
    have hr := re_enc s n hn hs ho
    rw [Wof_eq, Vof_eq, w4_u, w4_u, show 1 + 4 * (2 * n) = 1 + 8 * n by omega, show 1 + 4 * (2 * n + 1) = 5 + 8 * n by omega, hu.2.1, hu.2.2] at hr
    rw [rput_ok k _ _ _ _ _ ho2 (by omega), Option.bind_some]
    dsimp only
    rw [if_pos rfl, hr, if_pos rfl]
    unfold finS
    rw [if_pos ho, Wof_eq, Vof_eq, w4_u, w4_u, show 1 + 4 * (2 * n) = 1 + 8 * n by omega, show 1 + 4 * (2 * n + 1) = 5 + 8 * n by omega, hu.2.1, hu.2.2]
  · rw [rput_bad k _ _ _ _ _ (fun q => ho (hi.1 q)) (by omega) (by omega) (by omega) (by omega), Option.bind_some]
    dsimp only
    rw [if_neg (by decide)]
    unfold finS
    rw [if_neg ho]
theorem rget_loop (s : ByteArray) (n : Nat) (hn : n = (bl s).getD 0 0) (hb : n ≤ 255) (hs : s.size = 10 + 8 * n) : ∀ (d k i : Nat), i + d = n → d + 400 ≤ k →
    grafterref12_GetCheck.l0 k s (n : Int) (i : Int) (WsN s i) (VsN s n i) 0 0 0 = some (finS s n) := by
  intro d
  induction d with
  | zero =>
    intro k i hi hk
    obtain rfl : i = n := by omega
    exact rget_exit k s i (by omega) hn hb hs
  | succ d ih =>
    intro k i hi hk
    obtain ⟨k, rfl⟩ : ∃ j, k = j + 1 := ⟨k - 1, by omega⟩
    have w1_ : wrap64 (1 + wrap64 (4 * (i : Int))) = ((1 + 4 * i : Nat) : Int) := by unfold wrap64; omega
    have w2_ : wrap64 (5 + wrap64 (4 * (i : Int))) = ((5 + 4 * i : Nat) : Int) := by unfold wrap64; omega
    have w3_ : wrap64 (wrap64 (1 + wrap64 (4 * (n : Int))) + wrap64 (4 * (i : Int))) = ((1 + 4 * n + 4 * i : Nat) : Int) := by
      rw [wrap_id (4 * (n : Int)) (by omega) (by omega), wrap_id (4 * (i : Int)) (by omega) (by omega), wrap_id (1 + 4 * (n : Int)) (by omega) (by omega), wrap_id _ (by omega) (by omega)]; omega
    have w4_ : wrap64 (wrap64 (5 + wrap64 (4 * (n : Int))) + wrap64 (4 * (i : Int))) = ((5 + 4 * n + 4 * i : Nat) : Int) := by
      rw [wrap_id (4 * (n : Int)) (by omega) (by omega), wrap_id (4 * (i : Int)) (by omega) (by omega), wrap_id (5 + 4 * (n : Int)) (by omega) (by omega), wrap_id _ (by omega) (by omega)]; omega
    have w5_ : wrap64 ((i : Int) + 1) = ((i + 1 : Nat) : Int) := by unfold wrap64; omega
    have hlW := WsN_len s i
    have hlV := VsN_len s n i
    rw [grafterref12_GetCheck.l0, if_pos (by omega)]
    simp only [w1_, w2_, w3_, w4_, w5_]
    clear w1_ w2_ w3_ w4_ w5_
    rw [if_pos (by omega), if_pos (by omega), if_pos (by omega), Int.toNat_natCast, Int.toNat_natCast, num_u k s _ _ (by omega) (by omega) (by omega), Option.bind_some, if_pos (by omega), if_pos (by omega), if_pos (by omega), if_pos (by omega), Int.toNat_natCast, Int.toNat_natCast, num_u k s _ _ (by omega) (by omega) (by omega), Option.bind_some, if_pos (by omega), get_u, get_u, WsN_succ, VsN_succ]
    exact ih k (i + 1) (by omega) (by omega)
theorem rget_eq (k : Nat) (s : ByteArray) (hk : 1000 ≤ k) : grafterref12_GetCheck.f k s = some (if fitS s then finS s ((bl s).getD 0 0) else ([], [], 0, 0, 0, 1400)) := by
  obtain ⟨k, rfl⟩ : ∃ j, k = j + 1 := ⟨k - 1, by omega⟩
  unfold grafterref12_GetCheck.f
  by_cases h0 : s.size = 0
  · rw [if_pos (by omega), grafterref12_GetCheck.j0, if_pos rfl, if_neg (fun q => by have := q.1; omega)]
  · have hb := getD_lt s 0
    have w0 : wrap64 (10 + wrap64 (8 * wrap64 (((bl s).getD 0 0 : Nat) : Int))) = ((10 + 8 * (bl s).getD 0 0 : Nat) : Int) := by unfold wrap64; omega
    have w2 : wrap64 (((bl s).getD 0 0 : Nat) : Int) = (((bl s).getD 0 0 : Nat) : Int) := by unfold wrap64; omega
    rw [if_neg (by omega), if_pos (by omega), bt_first s (by omega), w0]
    by_cases h1 : s.size = 10 + 8 * (bl s).getD 0 0
    · rw [show ((s.size : Int) != ((10 + 8 * (bl s).getD 0 0 : Nat) : Int)) = false by rw [← h1]; simp, grafterref12_GetCheck.j0, if_neg (by decide), if_pos (by omega), bt_first s (by omega), w2, if_pos ⟨by omega, h1⟩]
      exact rget_loop s ((bl s).getD 0 0) rfl (by omega) h1 ((bl s).getD 0 0) k 0 (by omega) (by omega)
    · rw [show ((s.size : Int) != ((10 + 8 * (bl s).getD 0 0 : Nat) : Int)) = true by rw [bne_iff_ne]; omega, grafterref12_GetCheck.j0, if_pos rfl, if_neg (fun q => h1 q.2)]

theorem spoil_l0 : ∀ (d k i : Nat) (l : List Int), l.length ≤ 4611686018427387904 → i + d = l.length → d < k → ∃ r, grafterlaw0_SpoilInts.l0 k l (i : Int) = some r := by
  intro d
  induction d with
  | zero =>
    intro k i l hb hi hk
    obtain ⟨k, rfl⟩ : ∃ j, k = j + 1 := ⟨k - 1, by omega⟩
    exact ⟨l, by rw [grafterlaw0_SpoilInts.l0, if_neg (by omega)]⟩
  | succ d ih =>
    intro k i l hb hi hk
    obtain ⟨k, rfl⟩ : ∃ j, k = j + 1 := ⟨k - 1, by omega⟩
    rw [grafterlaw0_SpoilInts.l0, if_pos (by omega), if_pos (by omega), wrap_id ((i : Int) + 1) (by omega) (by omega), show ((i : Int) + 1) = ((i + 1 : Nat) : Int) by omega]
    exact ih k (i + 1) _ (by rw [List.length_set]; exact hb) (by rw [List.length_set]; omega) (by omega)
theorem spoil_any (k : Nat) (l : List Int) (hb : l.length ≤ 4611686018427387904) (hk : l.length < k) : ∃ r, grafterlaw0_SpoilInts.f k l = some r :=
  spoil_l0 l.length k 0 l hb (by omega) hk

theorem scheck_any (k : Nat) (ws vs : List Int) (r m st : Int) (h1 : ws.length ≤ 4611686018427387904) (h2 : vs.length ≤ 4611686018427387904) (k1 : ws.length < k) (k2 : vs.length < k) : grafterlaw0_SameCheck.f k ws vs r m st ws vs r m st = some true := by
  unfold grafterlaw0_SameCheck.f
  rw [same_eq k ws ws h1 k1, decide_eq_true rfl, Option.bind_some, if_pos rfl, same_eq k vs vs h2 k2, decide_eq_true rfl, Option.bind_some, if_pos rfl, if_pos (by simp)]
  simp
theorem copy_ck (ws vs : List Int) (r m st : Int) (h1 : ws.length < 17592186044416) (h2 : vs.length < 17592186044416) : grafterlaw0_CopyCheck.f ws vs r m st = some (ws, vs, r, m, st) := by
  unfold grafterlaw0_CopyCheck.f
  rw [Option.bind_some, if_pos (by rw [List.length_nil]; omega), Option.bind_some, if_pos (by rw [List.length_nil]; omega), List.nil_append, List.nil_append]
theorem spoil_ck (k : Nat) (ws vs : List Int) (r m st : Int) (h1 : ws.length ≤ 16) (h2 : vs.length ≤ 16) (hk : 100 ≤ k) : ∃ t, grafterlaw0_SpoilCheck.f k ws vs r m st = some t := by
  obtain ⟨t1, e1⟩ := spoil_any k ws (by omega) (by omega)
  obtain ⟨t2, e2⟩ := spoil_any k vs (by omega) (by omega)
  unfold grafterlaw0_SpoilCheck.f
  rw [e1, Option.bind_some, e2, Option.bind_some]
  exact ⟨t2, rfl⟩
theorem get_split (s : ByteArray) : ∃ (p1 p2 : List Int) (p3 p4 p5 p6 : Int), (if fitS s then finS s ((bl s).getD 0 0) else ([], [], 0, 0, 0, 1400)) = (p1, p2, p3, p4, p5, p6) ∧
    ((p6 = 0 ∧ okCk p1 p2 p3 p4 p5 ∧ encS p1 p2 p3 p4 p5 = s) ∨ (p6 = 1400 ∧ p1 = [] ∧ p2 = [] ∧ p3 = 0 ∧ p4 = 0 ∧ p5 = 0)) := by
  by_cases hf : fitS s
  · rw [if_pos hf]
    unfold finS
    by_cases ho : okS s ((bl s).getD 0 0)
    · rw [if_pos ho]
      exact ⟨_, _, _, _, _, _, rfl, .inl ⟨rfl, ho, re_enc s _ rfl hf.2 ho⟩⟩
    · rw [if_neg ho]
      exact ⟨_, _, _, _, _, _, rfl, .inr ⟨rfl, rfl, rfl, rfl, rfl, rfl⟩⟩
  · rw [if_neg hf]
    exact ⟨_, _, _, _, _, _, rfl, .inr ⟨rfl, rfl, rfl, rfl, rfl, rfl⟩⟩
theorem ckj1 (k : Nat) (ws vs : List Int) (r m st : Int) (p1 p2 : List Int) (p3 p4 p5 : Int) (h1 : ws.length ≤ 4611686018427387904) (h2 : vs.length ≤ 4611686018427387904) (k1 : ws.length < k) (k2 : vs.length < k) (hp1 : p1.length ≤ 16) (hp2 : p2.length ≤ 16) (hk : 1000 ≤ k) :
    grafterlaw14_Checks.j1 (k + 1) false ws vs r m st ws vs r m st p1 p2 p3 p4 p5 = some true := by
  obtain ⟨t, e⟩ := spoil_ck k p1 p2 p3 p4 p5 hp1 hp2 (by omega)
  rw [grafterlaw14_Checks.j1, if_neg (by decide), e, Option.bind_some, scheck_any k ws vs r m st h1 h2 k1 k2, Option.bind_some, if_pos rfl, ckawake_eq k hk, Option.bind_some]
theorem Checks_at (ws vs : List Int) (r m st : Int) (s : ByteArray) (h1 : ws.length < 17592186044416) (h2 : vs.length < 17592186044416) (k : Nat) (k1 : ws.length < k) (k2 : vs.length < k) (hk : 1000 ≤ k) :
    grafterlaw14_Checks.f (k + 2) ws vs r m st s = some true := by
  have nb : ¬ okCk [] [] 0 0 0 := by decide
  obtain ⟨p1, p2, p3, p4, p5, p6, eG, hG⟩ := get_split s
  have hp : p1.length ≤ 16 ∧ p2.length ≤ 16 := by
    rcases hG with ⟨_, q, _⟩ | ⟨_, q1, q2, _⟩
    · exact ⟨q.1.1.1, q.1.2.1.1⟩
    · rw [q1, q2]; exact ⟨by decide, by decide⟩
  -- Put of what was got
  have ePut : ∃ (t : ByteArray) (j : Int), check_Put.f (k + 2) p1 p2 p3 p4 p5 = some (t, j) ∧ (p6 = 0 → t = s ∧ j = 0) := by
    rcases hG with ⟨q0, q, qs⟩ | ⟨q0, q1, q2, q3, q4, q5⟩
    · exact ⟨_, _, ckput_ok (k + 2) _ _ _ _ _ q (by omega), fun _ => ⟨qs, rfl⟩⟩
    · subst q0; subst q1; subst q2; subst q3; subst q4; subst q5
      exact ⟨_, _, ckput_bad (k + 2) _ _ _ _ _ nb (by omega), fun q => absurd q (by decide)⟩
  obtain ⟨t, j, ePut, hPut⟩ := ePut
  have h6 : p6 = 0 ∨ p6 = 1400 := hG.elim (fun q => .inl q.1) (fun q => .inr q.1)
  clear hG
  unfold grafterlaw14_Checks.f
  rw [copy_ck ws vs r m st h1 h2, Option.bind_some]
  dsimp only
  by_cases h : okCk ws vs r m st
  · rw [ckput_ok (k + 2) _ _ _ _ _ h (by omega), Option.bind_some, rput_ok (k + 2) _ _ _ _ _ h (by omega), Option.bind_some, ckget_eq (k + 2) s (by omega), Option.bind_some, rget_eq (k + 2) s (by omega), Option.bind_some, eG]
    dsimp only
    rw [ckget_enc (k + 2) _ _ _ _ _ h (by omega), Option.bind_some, ePut, Option.bind_some, if_pos rfl]
    dsimp only
    rw [num_eq, Option.bind_some, if_pos rfl, scheck_eq (k + 2) p1 p2 p3 p4 p5 hp.1 hp.2 (by omega), Option.bind_some, if_pos rfl, num_eq, Option.bind_some, if_pos rfl, ckmay_eq (k + 2) _ _ _ _ _ (by omega), Option.bind_some, rckmay_eq (k + 2) _ _ _ _ _ (by omega) (by omega) (by omega) (by omega), Option.bind_some, bne_self_eq_false]
    rw [grafterlaw14_Checks.j0, if_neg (by decide), num_eq, Option.bind_some, if_pos rfl, scheck_any (k + 1) ws vs r m st (by omega) (by omega) (by omega) (by omega), Option.bind_some, if_pos rfl, num_eq, Option.bind_some, if_pos rfl, num_eq, Option.bind_some]
    rcases h6 with h6 | h6
    · obtain ⟨ht, hj⟩ := hPut h6
      rw [if_pos h6, ht, hj, if_pos rfl]
      first | rw [num_eq, Option.bind_some] | rw [Option.bind_some]
      exact ckj1 k ws vs r m st p1 p2 p3 p4 p5 (by omega) (by omega) k1 k2 hp.1 hp.2 hk
    · rw [if_neg (by omega)]
      exact ckj1 k ws vs r m st p1 p2 p3 p4 p5 (by omega) (by omega) k1 k2 hp.1 hp.2 hk
  · rw [ckput_bad (k + 2) _ _ _ _ _ h (by omega), Option.bind_some, rput_bad (k + 2) _ _ _ _ _ h (by omega) (by omega) (by omega) (by omega), Option.bind_some, ckget_eq (k + 2) s (by omega), Option.bind_some, rget_eq (k + 2) s (by omega), Option.bind_some, eG]
    dsimp only
    rw [get_none (k + 2) (by omega), Option.bind_some, ePut, Option.bind_some, if_pos rfl]
    dsimp only
    rw [num_eq, Option.bind_some, if_pos rfl, scheck_eq (k + 2) p1 p2 p3 p4 p5 hp.1 hp.2 (by omega), Option.bind_some, if_pos rfl, num_eq, Option.bind_some, if_pos rfl, ckmay_eq (k + 2) _ _ _ _ _ (by omega), Option.bind_some, rckmay_eq (k + 2) _ _ _ _ _ (by omega) (by omega) (by omega) (by omega), Option.bind_some, bne_self_eq_false]
    rw [grafterlaw14_Checks.j0, if_neg (by decide), num_eq, Option.bind_some, if_neg (by decide), num_eq, Option.bind_some]
    rcases h6 with h6 | h6
    · obtain ⟨ht, hj⟩ := hPut h6
      rw [if_pos h6, ht, hj, if_pos rfl]
      first | rw [num_eq, Option.bind_some] | rw [Option.bind_some]
      exact ckj1 k ws vs r m st p1 p2 p3 p4 p5 (by omega) (by omega) k1 k2 hp.1 hp.2 hk
    · rw [if_neg (by omega)]
      exact ckj1 k ws vs r m st p1 p2 p3 p4 p5 (by omega) (by omega) k1 k2 hp.1 hp.2 hk
theorem Checks : grafterlaw14_Checks.Pure := fun ws vs r m st s _ h1 _ _ h2 _ _ _ _ _ => ⟨ws.length + vs.length + 1000 + 2, Checks_at ws vs r m st s (by omega) (by omega) (ws.length + vs.length + 1000) (by omega) (by omega) (by omega)⟩

end Go.Proofs.Ytbhkmgidokonkaa.Pure
