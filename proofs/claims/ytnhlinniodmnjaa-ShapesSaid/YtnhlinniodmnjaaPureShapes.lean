/- P5.1, P5.2, R4: for every shape, seed and place, of any int values, May, Size and Init of package shape answer what the document's reference answers. No condition. -/
import Derived.Test.YtnhlinniodmnjaaPShapesx3
import Derived.Test.YtnhlinniodmnjaaHelp
import Derived.Test.YtnhlinniodmnjaaHelpDraw
namespace Go.Proofs.Ytnhlinniodmnjaa.Pure
open Go.RowKit Go.Proofs.Ytnhlinniodmnjaa Go.Proofs.Ytnhlinniodmnjaa.PShapes Go.Proofs.YtnhlinniodmnjaaW.PrintWords Go.Proofs.YtnhlinniodmnjaaW.PrintLast Go.Proofs.YtnhlinniodmnjaaW.PrintMore
set_option linter.unusedVariables false
set_option linter.unusedSimpArgs false

theorem dmay_eq (s k : Int) : draw_May.f s k = some (decide (okS s ∧ okK k)) := by
  unfold draw_May.f draw_Seed.f okS okK
  by_cases h : s ≥ 0
  · rw [if_pos h]
    by_cases h2 : s ≤ 65535
    · rw [decide_eq_true h2]
      simp only [Option.bind_some, if_true]
      by_cases h3 : k ≥ 0
      · rw [if_pos h3]; refine congrArg some (decide_eq_decide.2 ?_); omega
      · rw [if_neg h3]; refine congrArg some (Eq.symm (decide_eq_false ?_)); omega
    · rw [decide_eq_false h2]
      simp only [Option.bind_some, Bool.false_eq_true, if_false]
      refine congrArg some (Eq.symm (decide_eq_false ?_)); omega
  · rw [if_neg h]
    simp only [Option.bind_some, Bool.false_eq_true, if_false]
    refine congrArg some (Eq.symm (decide_eq_false ?_)); omega
theorem three_eq (s k : Int) (hs : okS s) (hk : okK k) : draw_three s k = drawI s k := by
  have h0 := x0I_bd s k
  have h1 := mixI_bd (x0I s k)
  have h2 := mixI_bd (mixI (x0I s k))
  have h3 := mixI_bd (mixI (mixI (x0I s k)))
  unfold draw_three draw_end draw_mix draw_x0
  rw [x0_and s k hs hk, mix_i64 _ h0.1 h0.2, mix_i64 _ h1.1 h1.2, mix_i64 _ h2.1 h2.2, tmod_pos _ _ (by omega)]
  rfl
theorem of_ok (s k : Int) (hs : okS s) (hk : okK k) : draw_Of.f s k = some (drawI s k, 0) := by
  unfold draw_Of.f; rw [dmay_eq, decide_eq_true ⟨hs, hk⟩]
  simp only [Option.bind_some, if_true]; rw [three_eq s k hs hk]
theorem of_bad (s k : Int) (h : ¬ (okS s ∧ okK k)) : draw_Of.f s k = some (0, 300) := by
  unfold draw_Of.f; rw [dmay_eq, decide_eq_false h]
  simp
theorem of_any (s k : Int) (hs : okS s) (hk : okK k) : ∃ d, draw_Of.f s k = some (d, 0) ∧ d = drawI s k := ⟨_, of_ok s k hs hk, rfl⟩

theorem upTo_eq (a b c : Int) : grafterref1_upTo.f a b c = some (decide (b ≤ a ∧ a ≤ c)) := by
  unfold grafterref1_upTo.f
  by_cases h : a ≥ b
  · rw [if_pos h]; refine congrArg some (decide_eq_decide.2 ?_); omega
  · rw [if_neg h]; refine congrArg some (Eq.symm (decide_eq_false ?_)); omega
theorem rl0_eq (n : Nat) (x : Int) (h0 : 0 ≤ x) (h1 : x < 2147483648) : grafterref1_Draw.l0 (n + 4) x 0 = some (mixI (mixI (mixI x)) / 256 % 65536, 0) := by
  have e1 := mixI_bd x
  have e2 := mixI_bd (mixI x)
  have e3 := mixI_bd (mixI (mixI x))
  rw [grafterref1_Draw.l0, if_pos (by decide), mix_tmod x h0 h1, show wrap64 ((0 : Int) + 1) = 1 by decide +kernel]
  rw [grafterref1_Draw.l0, if_pos (by decide), mix_tmod _ e1.1 e1.2, show wrap64 ((1 : Int) + 1) = 2 by decide +kernel]
  rw [grafterref1_Draw.l0, if_pos (by decide), mix_tmod _ e2.1 e2.2, show wrap64 ((2 : Int) + 1) = 3 by decide +kernel]
  rw [grafterref1_Draw.l0, if_neg (by decide), tmod_pos _ _ (by omega)]
theorem rdraw_ok (n : Nat) (s k : Int) (hs : okS s) (hk : okK k) : grafterref1_Draw.f (n + 5) s k = some (drawI s k, 0) := by
  have h0 := x0I_bd s k
  unfold grafterref1_Draw.f
  rw [upTo_eq, upTo_eq, decide_eq_true (show 0 ≤ s ∧ s ≤ 65535 from hs), decide_eq_true (show 0 ≤ k ∧ k ≤ 1048576 from hk)]
  simp only [Option.bind_some, if_true]
  rw [grafterref1_Draw.j0, if_neg (by decide), x0_tmod s k hs hk, rl0_eq n _ h0.1 h0.2]
  rfl
theorem rdraw_bad (n : Nat) (s k : Int) (h : ¬ (okS s ∧ okK k)) : grafterref1_Draw.f (n + 5) s k = some (0, 300) := by
  unfold grafterref1_Draw.f
  rw [upTo_eq, upTo_eq]
  by_cases hs : okS s
  · have hk : ¬ okK k := fun hk => h ⟨hs, hk⟩
    rw [decide_eq_true (show 0 ≤ s ∧ s ≤ 65535 from hs), decide_eq_false (show ¬ (0 ≤ k ∧ k ≤ 1048576) from hk)]
    simp only [Option.bind_some, if_true]
    rw [grafterref1_Draw.j0, if_pos (by decide)]
  · rw [decide_eq_false (show ¬ (0 ≤ s ∧ s ≤ 65535) from hs)]
    simp only [Option.bind_some, Bool.false_eq_true, if_false]
    rw [grafterref1_Draw.j0, if_pos rfl]

theorem rd_nat (l : List Int) (i : Nat) (h : i < l.length) : rd l (i : Int) = l[i] := by
  unfold rd; rw [Int.toNat_natCast, List.getD_eq_getElem?_getD, List.getElem?_eq_getElem h]; rfl
theorem same_l0 (l m : List Int) (hl : l.length = m.length) (hb : l.length ≤ 4611686018427387904) : ∀ (d k i : Nat), i + d = l.length → d < k →
    grafterlaw0_SameInts.l0 k l m (i : Int) = some (decide (l.drop i = m.drop i)) := by
  intro d
  induction d with
  | zero =>
    intro k i hi hk
    obtain ⟨k, rfl⟩ : ∃ j, k = j + 1 := ⟨k - 1, by omega⟩
    rw [grafterlaw0_SameInts.l0, if_neg (by omega), List.drop_eq_nil_of_le (by omega), List.drop_eq_nil_of_le (by omega)]
    rfl
  | succ d ih =>
    intro k i hi hk
    obtain ⟨k, rfl⟩ : ∃ j, k = j + 1 := ⟨k - 1, by omega⟩
    have h1 : i < l.length := by omega
    have h2 : i < m.length := by omega
    rw [grafterlaw0_SameInts.l0, if_pos (by omega), if_pos (by omega), if_pos (by omega), rd_nat l i h1, rd_nat m i h2]
    rw [List.drop_eq_getElem_cons h1, List.drop_eq_getElem_cons h2]
    by_cases e : l[i] = m[i]
    · rw [if_pos e, wrap_id _ (by omega) (by omega), show ((i : Int) + 1) = ((i + 1 : Nat) : Int) by omega, ih k (i + 1) (by omega) (by omega)]
      refine congrArg some (decide_eq_decide.2 ?_)
      rw [List.cons.injEq]
      exact ⟨fun h => ⟨e, h⟩, fun h => h.2⟩
    · rw [if_neg e, decide_eq_false]
      rw [List.cons.injEq]
      exact fun h => e h.1
theorem same_eq (k : Nat) (l m : List Int) (hb : l.length ≤ 4611686018427387904) (hk : l.length < k) : grafterlaw0_SameInts.f k l m = some (decide (l = m)) := by
  unfold grafterlaw0_SameInts.f
  by_cases h : (l.length : Int) = (m.length : Int)
  · rw [if_pos h]
    have := same_l0 l m (by omega) hb l.length k 0 (by omega) hk
    simpa using this
  · rw [if_neg h, decide_eq_false]
    rintro rfl
    exact h rfl

def okShape (a b : Int) : Prop := (1 ≤ a ∧ a ≤ 3) ∧ (1 ≤ b ∧ b ≤ 3)
instance (a b : Int) : Decidable (okShape a b) := inferInstanceAs (Decidable (_ ∧ _))
def sizeI (a b : Int) : Int := b * (a + 1) + b + 1
theorem num_eq (x : Int) : grafterlaw0_Num.f x = some x := rfl
theorem sizeI_bd (a b : Int) (h : okShape a b) : (4 ≤ sizeI a b ∧ sizeI a b ≤ 16) ∧ (0 ≤ b * (a + 1) ∧ b * (a + 1) ≤ 12) := by
  obtain ⟨⟨h1, h2⟩, h3, h4⟩ := h
  have ha : a = 1 ∨ a = 2 ∨ a = 3 := by omega
  unfold sizeI
  rcases ha with rfl | rfl | rfl <;> omega
theorem smay_eq (a b : Int) : shape_May.f a b = some (decide (okShape a b)) := by
  unfold shape_May.f okShape
  by_cases h1 : a ≥ 1
  · rw [if_pos h1]
    by_cases h2 : a ≤ 3
    · rw [if_pos h2]
      by_cases h3 : b ≥ 1
      · rw [if_pos h3]; refine congrArg some (decide_eq_decide.2 ?_); omega
      · rw [if_neg h3]; refine congrArg some (Eq.symm (decide_eq_false ?_)); omega
    · rw [if_neg h2]; refine congrArg some (Eq.symm (decide_eq_false ?_)); omega
  · rw [if_neg h1]; refine congrArg some (Eq.symm (decide_eq_false ?_)); omega
theorem many_eq (a b : Int) (h : okShape a b) : shape_Many.f a b = some (sizeI a b) := by
  obtain ⟨h1, h2⟩ := sizeI_bd a b h
  unfold shape_Many.f
  unfold sizeI at h1
  have h3 := h.1
  have h4 := h.2
  rw [wrap_id (a + 1) (by omega) (by omega), wrap_id (b * (a + 1)) (by omega) (by omega), wrap_id (b * (a + 1) + b) (by omega) (by omega), wrap_id _ (by omega) (by omega)]
  rfl
theorem size_ok (a b : Int) (h : okShape a b) : shape_Size.f a b = some (sizeI a b, 0) := by
  unfold shape_Size.f; rw [smay_eq, decide_eq_true h]
  simp only [Option.bind_some, if_true]; rw [many_eq a b h]; rfl
theorem size_bad (a b : Int) (h : ¬ okShape a b) : shape_Size.f a b = some (0, 500) := by
  unfold shape_Size.f; rw [smay_eq, decide_eq_false h]; simp
def initL (s f : Int) (n : Nat) : List Int := (List.range n).map fun (i : Nat) => drawI s (f + (i : Int)) - 32768
theorem initL_len (s f : Int) (n : Nat) : (initL s f n).length = n := by unfold initL; simp
theorem initL_succ (s f : Int) (n : Nat) : initL s f (n + 1) = initL s f n ++ [drawI s (f + (n : Int)) - 32768] := by unfold initL; rw [List.range_succ]; simp
theorem initL_get? (s f : Int) (n i : Nat) (h : i < n) : (initL s f n)[i]? = some (drawI s (f + (i : Int)) - 32768) := by
  unfold initL; rw [List.getElem?_map, List.getElem?_range h]; rfl
theorem initL_get (s f : Int) (n i : Nat) (h : i < (initL s f n).length) : (initL s f n)[i] = drawI s (f + (i : Int)) - 32768 := by
  have h2 := initL_get? s f n i (by rw [initL_len] at h; exact h)
  rw [List.getElem?_eq_getElem h] at h2
  exact Option.some.inj h2
theorem init_l0 (s f : Int) (hs : okS s) (hf : 0 ≤ f) : ∀ (d k i : Nat), f + (i : Int) + (d : Int) ≤ 1048577 → d < k →
    shape_Init.l0 k s f (initL s f i ++ List.replicate d 0) ((i + d : Nat) : Int) (i : Int) = some (initL s f (i + d), 0) := by
  intro d
  induction d with
  | zero =>
    intro k i hb hk
    obtain ⟨k, rfl⟩ : ∃ j, k = j + 1 := ⟨k - 1, by omega⟩
    rw [shape_Init.l0, if_neg (by omega)]
    simp
  | succ d ih =>
    intro k i hb hk
    obtain ⟨k, rfl⟩ : ∃ j, k = j + 1 := ⟨k - 1, by omega⟩
    have hK : okK (f + (i : Int)) := by unfold okK; omega
    have hd := drawI_bd s (f + (i : Int))
    have hset : (initL s f i ++ List.replicate (d + 1) 0).set i (drawI s (f + (i : Int)) - 32768) = initL s f (i + 1) ++ List.replicate d 0 := by
      rw [initL_succ, List.set_append_right _ _ (by rw [initL_len]; omega), initL_len, Nat.sub_self, List.replicate_succ, List.set_cons_zero, List.append_assoc]; rfl
    rw [shape_Init.l0, if_pos (by omega), wrap_id (f + (i : Int)) (by omega) (by omega), of_ok s _ hs hK]
    simp only [Option.bind_some]
    rw [if_pos (by omega), if_pos (by rw [List.length_append, initL_len, List.length_replicate]; omega), wrap_id (drawI s (f + (i : Int)) - 32768) (by omega) (by omega), wrap_id ((i : Int) + 1) (by omega) (by omega), Int.toNat_natCast, hset]
    have := ih k (i + 1) (by omega) (by omega)
    rw [show ((i : Int) + 1) = ((i + 1 : Nat) : Int) by omega, show i + (d + 1) = i + 1 + d by omega]
    exact this
def okFrom (f : Int) : Prop := 0 ≤ f ∧ f ≤ 1048560
instance (a : Int) : Decidable (okFrom a) := inferInstanceAs (Decidable (_ ∧ _))
theorem init_ok (k : Nat) (a b s f : Int) (h : okShape a b) (hs : okS s) (hf : okFrom f) (hk : 20 ≤ k) : shape_Init.f k a b s f = some (initL s f (sizeI a b).toNat, 0) := by
  obtain ⟨k, rfl⟩ : ∃ j, k = j + 1 := ⟨k - 1, by omega⟩
  have hK : okK f := by unfold okFrom at hf; unfold okK; omega
  obtain ⟨h1, _⟩ := sizeI_bd a b h
  unfold shape_Init.f
  rw [smay_eq, decide_eq_true h]
  simp only [Option.bind_some, if_true]
  rw [dmay_eq, decide_eq_true ⟨hs, hK⟩]
  simp only [Option.bind_some, if_true]
  rw [decide_eq_false (show ¬ f > 1048560 from by unfold okFrom at hf; omega), shape_Init.j0, if_neg (by decide), many_eq a b h]
  simp only [Option.bind_some]
  rw [if_pos (by omega), if_pos (by omega)]
  have := init_l0 s f hs hf.1 (sizeI a b).toNat k 0 (by unfold okFrom at hf; omega) (by omega)
  simp only [Nat.zero_add] at this
  rw [List.length_replicate]
  exact this
theorem init_bad (k : Nat) (a b s f : Int) (h : ¬ (okShape a b ∧ okS s ∧ okFrom f)) (hk : 1 ≤ k) : shape_Init.f k a b s f = some ([], 500) := by
  obtain ⟨k, rfl⟩ : ∃ j, k = j + 1 := ⟨k - 1, by omega⟩
  unfold shape_Init.f
  rw [smay_eq]
  by_cases h1 : okShape a b
  · rw [decide_eq_true h1]
    simp only [Option.bind_some, if_true]
    rw [dmay_eq]
    by_cases h2 : okS s ∧ okK f
    · rw [decide_eq_true h2]
      simp only [Option.bind_some, if_true]
      have h3 : f > 1048560 := by
        rcases Int.lt_or_le 1048560 f with h3 | h3
        · exact h3
        · exact absurd ⟨h1, h2.1, h2.2.1, h3⟩ h
      rw [decide_eq_true h3, shape_Init.j0, if_pos rfl]
    · rw [decide_eq_false h2]
      simp only [Option.bind_some, Bool.false_eq_true, if_false]
      rw [shape_Init.j0, if_pos rfl]
  · rw [decide_eq_false h1]
    simp only [Option.bind_some, Bool.false_eq_true, if_false]
    rw [shape_Init.j0, if_pos rfl]

theorem rsmay_eq (a b : Int) : grafterref1_ShapeMay.f a b = some (decide (okShape a b)) := by
  unfold grafterref1_ShapeMay.f
  rw [upTo_eq, upTo_eq]
  by_cases h1 : 1 ≤ a ∧ a ≤ 3
  · rw [decide_eq_true h1]
    simp only [Option.bind_some, if_true]
    refine congrArg some (decide_eq_decide.2 ?_)
    exact ⟨fun h => ⟨h1, h⟩, fun h => h.2⟩
  · rw [decide_eq_false h1]
    simp only [Option.bind_some, Bool.false_eq_true, if_false]
    refine congrArg some (Eq.symm (decide_eq_false ?_))
    exact fun h => h1 h.1
theorem rmany_eq (a b : Int) (h : okShape a b) : grafterref1_size.f a b = some (sizeI a b) := by
  obtain ⟨h1, h2⟩ := sizeI_bd a b h
  unfold grafterref1_size.f
  unfold sizeI at h1
  have h3 := h.1
  have h4 := h.2
  rw [wrap_id (a + 1) (by omega) (by omega), wrap_id (b * (a + 1)) (by omega) (by omega), wrap_id (b * (a + 1) + b) (by omega) (by omega), wrap_id _ (by omega) (by omega)]
  rfl
theorem rinit_l0 (a b s f : Int) (h : okShape a b) (hs : okS s) (hf : okFrom f) : ∀ (d k i : Nat), (i : Int) + (d : Int) = sizeI a b → d + 6 ≤ k →
    grafterref1_Init.l0 k s f (initL s f i) (i : Int) a b = some (initL s f (i + d), 0) := by
  have hsz := (sizeI_bd a b h).1
  unfold okFrom at hf
  intro d
  induction d with
  | zero =>
    intro k i hi hk
    obtain ⟨k, rfl⟩ : ∃ j, k = j + 1 := ⟨k - 1, by omega⟩
    rw [grafterref1_Init.l0, rmany_eq a b h]
    simp only [Option.bind_some]
    rw [if_neg (by omega)]
    rfl
  | succ d ih =>
    intro k i hi hk
    obtain ⟨k, rfl⟩ : ∃ j, k = j + 5 + 1 := ⟨k - 6, by omega⟩
    have hK : okK (f + (i : Int)) := by unfold okK; omega
    have hd := drawI_bd s (f + (i : Int))
    rw [grafterref1_Init.l0, rmany_eq a b h]
    simp only [Option.bind_some]
    rw [if_pos (by omega), wrap_id (f + (i : Int)) (by omega) (by omega), rdraw_ok k s _ hs hK]
    simp only [Option.bind_some]
    rw [if_pos (by rw [initL_len]; omega), wrap_id (drawI s (f + (i : Int)) - 32768) (by omega) (by omega), wrap_id ((i : Int) + 1) (by omega) (by omega), ← initL_succ]
    have := ih (k + 5) (i + 1) (by omega) (by omega)
    rw [show ((i : Int) + 1) = ((i + 1 : Nat) : Int) by omega, show i + (d + 1) = i + 1 + d by omega]
    exact this
theorem rinit_ok (k : Nat) (a b s f : Int) (h : okShape a b) (hs : okS s) (hf : okFrom f) (hk : 30 ≤ k) : grafterref1_Init.f k a b s f = some (initL s f (sizeI a b).toNat, 0) := by
  obtain ⟨k, rfl⟩ : ∃ j, k = j + 1 := ⟨k - 1, by omega⟩
  obtain ⟨h1, _⟩ := sizeI_bd a b h
  unfold grafterref1_Init.f
  rw [rsmay_eq, upTo_eq, upTo_eq, decide_eq_true h, decide_eq_true (show 0 ≤ s ∧ s ≤ 65535 from hs), decide_eq_true (show 0 ≤ f ∧ f ≤ 1048560 from hf)]
  simp only [Option.bind_some, if_true]
  rw [grafterref1_Init.j0, if_neg (by decide)]
  have := rinit_l0 a b s f h hs hf (sizeI a b).toNat k 0 (by omega) (by omega)
  simp only [Nat.zero_add] at this
  exact this
theorem rinit_bad (k : Nat) (a b s f : Int) (h : ¬ (okShape a b ∧ okS s ∧ okFrom f)) (hk : 1 ≤ k) : grafterref1_Init.f k a b s f = some ([], 500) := by
  obtain ⟨k, rfl⟩ : ∃ j, k = j + 1 := ⟨k - 1, by omega⟩
  unfold grafterref1_Init.f
  rw [rsmay_eq, upTo_eq, upTo_eq]
  by_cases h1 : okShape a b
  · rw [decide_eq_true h1]
    simp only [Option.bind_some, if_true]
    by_cases h2 : 0 ≤ s ∧ s ≤ 65535
    · rw [decide_eq_true h2]
      simp only [if_true]
      have h3 : ¬ (0 ≤ f ∧ f ≤ 1048560) := fun h3 => h ⟨h1, h2, h3⟩
      rw [decide_eq_false h3, grafterref1_Init.j0, if_pos (by decide)]
    · rw [decide_eq_false h2]
      simp only [Bool.false_eq_true, if_false]
      rw [grafterref1_Init.j0, if_pos rfl]
  · rw [decide_eq_false h1]
    simp only [Option.bind_some, Bool.false_eq_true, if_false]
    rw [grafterref1_Init.j0, if_pos rfl]
theorem awake_eq (k : Nat) (hk : 40 ≤ k) : grafterlaw5_awake.f k = some true := by
  have e : sizeI 1 1 = 4 := rfl
  have e2 : sizeI 2 3 = 13 := rfl
  have h1 := init_ok k 1 1 7 11 (by decide) (by decide) (by decide) (by omega)
  have h2 := rinit_ok k 1 1 7 11 (by decide) (by decide) (by decide) (by omega)
  have h3 := size_ok 2 3 (by decide)
  have hl := initL_len 7 11 (sizeI 1 1).toNat
  rw [e] at h1 h2 hl
  rw [e2] at h3
  have hl4 : (initL 7 11 (4 : Int).toNat).length = 4 := hl
  have h5 := same_eq k (initL 7 11 (4 : Int).toNat) (initL 7 11 (4 : Int).toNat) (by omega) (by omega)
  obtain ⟨l, el⟩ : ∃ l, initL 7 11 (4 : Int).toNat = l := ⟨_, rfl⟩
  rw [el] at h1 h2 h5 hl4
  clear el hl
  unfold grafterlaw5_awake.f
  rw [h1, h2, h3, size_bad 0 0 (by decide), init_bad k 1 1 7 (-1) (by decide) (by omega), smay_eq, decide_eq_true (by decide)]
  simp only [Option.bind_some, if_true]
  rw [h5]
  simp [num_eq, hl4]

theorem spoil_l0 : ∀ (d k i : Nat) (l : List Int), l.length ≤ 4611686018427387904 → i + d = l.length → d < k → ∃ r, grafterlaw0_SpoilInts.l0 k l (i : Int) = some r := by
  intro d
  induction d with
  | zero =>
    intro k i l hb hi hk
    obtain ⟨k, rfl⟩ : ∃ j, k = j + 1 := ⟨k - 1, by omega⟩
    exact ⟨l, by rw [grafterlaw0_SpoilInts.l0, if_neg (by omega)]⟩
  | succ d ih =>
    intro k i l hb hi hk
    obtain ⟨k, rfl⟩ : ∃ j, k = j + 1 := ⟨k - 1, by omega⟩
    rw [grafterlaw0_SpoilInts.l0, if_pos (by omega), if_pos (by omega), wrap_id ((i : Int) + 1) (by omega) (by omega), show ((i : Int) + 1) = ((i + 1 : Nat) : Int) by omega]
    exact ih k (i + 1) _ (by rw [List.length_set]; exact hb) (by rw [List.length_set]; omega) (by omega)
theorem spoil_any (k : Nat) (l : List Int) (hb : l.length ≤ 4611686018427387904) (hk : l.length < k) : ∃ r, grafterlaw0_SpoilInts.f k l = some r :=
  spoil_l0 l.length k 0 l hb (by omega) hk

theorem rsize_ok (a b : Int) (h : okShape a b) : grafterref1_Size.f a b = some (sizeI a b, 0) := by
  unfold grafterref1_Size.f; rw [rsmay_eq, decide_eq_true h]
  simp only [Option.bind_some, if_true]; rw [rmany_eq a b h]; rfl
theorem rsize_bad (a b : Int) (h : ¬ okShape a b) : grafterref1_Size.f a b = some (0, 500) := by
  unfold grafterref1_Size.f; rw [rsmay_eq, decide_eq_false h]; simp
theorem tail_eq (k : Nat) (l : List Int) (hl : l.length ≤ 16) (hk : 50 ≤ k) : grafterlaw5_Shapes.j0 k l false = some true := by
  obtain ⟨k, rfl⟩ : ∃ j, k = j + 1 := ⟨k - 1, by omega⟩
  obtain ⟨r, hr⟩ := spoil_any k l (by omega) (by omega)
  rw [grafterlaw5_Shapes.j0, if_neg (by decide), hr, awake_eq k (by omega)]; rfl
theorem both_init (k : Nat) (a b s f : Int) (hk : 50 ≤ k) : ∃ l e, l.length ≤ 16 ∧ shape_Init.f k a b s f = some (l, e) ∧ grafterref1_Init.f k a b s f = some (l, e) := by
  by_cases h : okShape a b ∧ okS s ∧ okFrom f
  · have hz := (sizeI_bd a b h.1).1
    exact ⟨_, _, by rw [initL_len]; omega, init_ok k a b s f h.1 h.2.1 h.2.2 (by omega), rinit_ok k a b s f h.1 h.2.1 h.2.2 (by omega)⟩
  · exact ⟨_, _, by simp, init_bad k a b s f h (by omega), rinit_bad k a b s f h (by omega)⟩
theorem both_size (a b : Int) : ∃ n e, shape_Size.f a b = some (n, e) ∧ grafterref1_Size.f a b = some (n, e) := by
  by_cases h : okShape a b
  · exact ⟨_, _, size_ok a b h, rsize_ok a b h⟩
  · exact ⟨_, _, size_bad a b h, rsize_bad a b h⟩
theorem Shapes_at (a b s f : Int) : grafterlaw5_Shapes.f 60 a b s f = some true := by
  obtain ⟨l, e, hl, h1, h2⟩ := both_init 60 a b s f (by omega)
  obtain ⟨n, g, h3, h4⟩ := both_size a b
  unfold grafterlaw5_Shapes.f
  rw [h1, h2, h3, h4]
  simp only [Option.bind_some, if_true, num_eq]
  rw [same_eq 60 l l (by omega) (by omega)]
  simp only [decide_true, Option.bind_some, if_true]
  rw [smay_eq, rsmay_eq]
  simp only [Option.bind_some, bne_self_eq_false]
  exact tail_eq 60 l hl (by omega)
theorem Shapes : grafterlaw5_Shapes.Pure := fun a b s f _ _ _ _ => ⟨60, Shapes_at a b s f⟩

end Go.Proofs.Ytnhlinniodmnjaa.Pure
