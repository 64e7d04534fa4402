-- Written by a program of this session (pprint.py) out of the translation, with hand-proved walks pasted in.
import Derived.Test.YtmkpngdpikadhaaPHyperFirstx0
import Derived.Test.YtmkpngdpikadhaaPHyperFirstx1
import Derived.Test.YtmkpngdpikadhaaPHyperFirstx2
import Derived.Test.YtmkpngdpikadhaaPHyperFirstx3
namespace Go.Proofs.Ytmkpngdpikadhaa.PHyperFirst
open Go.RowKit Go.Proofs.YtmkpngdpikadhaaW.PrintWords Go.Proofs.YtmkpngdpikadhaaW.PrintLast Go.Proofs.YtmkpngdpikadhaaW.PrintMore
attribute [local go_sem] max2_int min2_int max_two min_two max_three min_three max_four min_four   -- for this text's walks alone
set_option linter.unusedVariables false
set_option linter.unusedSimpArgs false

attribute [local go_sem high] eqA43
/-! ### grafterref1_upTo: function 50 -/
def grafterref1_upTo.f (a0 : Int) (a1 : Int) (a2 : Int) : Option (Bool) := if a0 ≥ a1 then (some (decide (a0 ≤ a2))) else (some false)
set_option maxHeartbeats 8000000 in
set_option maxRecDepth 100000 in
theorem grafterref1_upTo.calls (a0 : Int) (a1 : Int) (a2 : Int) (r : Bool) (w : World) (h : grafterref1_upTo.f a0 a1 a2 = some r) :
    Calls Try.prog 50 #[.int .i64 a0, .int .i64 a1, .int .i64 a2] w fun e w' => e = .returned (.bool r) ∧ Drawn0 w w' := by
  have H : (if a0 ≥ a1 then (some (decide (a0 ≤ a2))) else (some false)) = some r := h
  clear h
  by_cases c4 : a0 ≥ a1
  · rw [if_pos c4] at H
    have c4b0 : decide (a1 ≤ a0) = true := decide_eq_true c4
    clear c4
    obtain rfl := Option.some.inj H
    go_enter Try.func50, Try.ntmps50
    go_wp2
    go_ret
    exact ⟨by first | rfl | (simp; done) | (simp [*]; done), by repeat (first | exact Drawn0.refl _ | apply Drawn0.step)⟩
  · rw [if_neg c4] at H
    have c4b0 : decide (a1 ≤ a0) = false := decide_eq_false c4
    clear c4
    obtain rfl := Option.some.inj H
    go_enter Try.func50, Try.ntmps50
    go_wp2
    go_ret
    exact ⟨by first | rfl | (simp; done) | (simp [*]; done), by repeat (first | exact Drawn0.refl _ | apply Drawn0.step)⟩

/-! ### grafterref1_Draw: function 58 -/
mutual
def grafterref1_Draw.j0 : Nat → Int → Int → Bool → Option (Int × Int)
  | 0, _, _, _ => none
  | k + 1, x0, x1, x15 => if x15 = true then (some (0, 300)) else (grafterref1_Draw.l0 k (Int.tmod (wrap64 ((wrap64 ((wrap64 (40503 * x0)) + (wrap64 (30011 * x1)))) + 12345)) 2147483648) 0)
def grafterref1_Draw.l0 : Nat → Int → Int → Option (Int × Int)
  | 0, _, _ => none
  | k + 1, x6, x7 => if x7 < 3 then (grafterref1_Draw.l0 k (Int.tmod (wrap64 ((wrap64 ((Go.bits .xor .i64 x6 (x6 / 32768)) * 1103515)) + 12345)) 2147483648) (wrap64 (x7 + 1))) else (some (Int.tmod (x6 / 256) 65536, 0))
end
def grafterref1_Draw.f (k : Nat) (a0 : Int) (a1 : Int) : Option (Int × Int) := (grafterref1_upTo.f a0 0 65535).bind fun t162 => (if t162 = true then ((grafterref1_upTo.f a1 0 1048576).bind fun t163 => (grafterref1_Draw.j0 k a0 a1 (!t163))) else (grafterref1_Draw.j0 k a0 a1 true))
theorem grafterref1_Draw.mono_l : ∀ k, (∀ y0 y1 y2, LeO (grafterref1_Draw.j0 k y0 y1 y2) (grafterref1_Draw.j0 (k + 1) y0 y1 y2)) ∧ (∀ y0 y1, LeO (grafterref1_Draw.l0 k y0 y1) (grafterref1_Draw.l0 (k + 1) y0 y1))
  | 0 => ⟨fun _ _ _ r h => by simp [grafterref1_Draw.j0] at h, fun _ _ r h => by simp [grafterref1_Draw.l0] at h⟩
  | k + 1 => by
    obtain ⟨ih0, ih1⟩ := grafterref1_Draw.mono_l k
    refine ⟨?_, ?_⟩
    · intro y0 y1 y2
      unfold grafterref1_Draw.j0
      repeat' first
      | (with_reducible exact ih0 _ _ _)
      | (with_reducible exact ih1 _ _)
      | (with_reducible exact LeO.refl _)
      | (with_reducible exact LeO.none _)
      | (with_reducible refine LeO.ite ?_ ?_)
      | (with_reducible refine LeO.bind ?_ (fun _ => ?_))
      | exact ih0 _ _ _
      | exact ih1 _ _
      | exact LeO.none _
      | refine LeO.ite ?_ ?_
      | refine LeO.bind ?_ (fun _ => ?_)
    · intro y0 y1
      unfold grafterref1_Draw.l0
      repeat' first
      | (with_reducible exact ih0 _ _ _)
      | (with_reducible exact ih1 _ _)
      | (with_reducible exact LeO.refl _)
      | (with_reducible exact LeO.none _)
      | (with_reducible refine LeO.ite ?_ ?_)
      | (with_reducible refine LeO.bind ?_ (fun _ => ?_))
      | exact ih0 _ _ _
      | exact ih1 _ _
      | exact LeO.none _
      | refine LeO.ite ?_ ?_
      | refine LeO.bind ?_ (fun _ => ?_)
theorem grafterref1_Draw.mono : ∀ a0 a1 k, LeO (grafterref1_Draw.f k a0 a1) (grafterref1_Draw.f (k + 1) a0 a1) := by
  intro a0 a1 k
  obtain ⟨ih0, ih1⟩ := grafterref1_Draw.mono_l k
  unfold grafterref1_Draw.f
  repeat' first
      | (with_reducible exact ih0 _ _ _)
      | (with_reducible exact ih1 _ _)
      | (with_reducible exact LeO.refl _)
      | (with_reducible exact LeO.none _)
      | (with_reducible refine LeO.ite ?_ ?_)
      | (with_reducible refine LeO.bind ?_ (fun _ => ?_))
      | exact ih0 _ _ _
      | exact ih1 _ _
      | exact LeO.none _
      | refine LeO.ite ?_ ?_
      | refine LeO.bind ?_ (fun _ => ?_)
set_option maxHeartbeats 8000000 in
set_option maxRecDepth 100000 in
theorem grafterref1_Draw.calls (k : Nat) (a0 : Int) (a1 : Int) (r1 : Int) (r2 : Int) (w : World) (h : grafterref1_Draw.f k a0 a1 = some (r1, r2)) :
    Calls Try.prog 58 #[.int .i64 a0, .int .i64 a1] w fun e w' => e = .returned (.tuple #[.int .i64 r1, .int .i64 r2]) ∧ Drawn0 w w' := by
  have H : ((grafterref1_upTo.f a0 0 65535).bind fun t162 => (if t162 = true then ((grafterref1_upTo.f a1 0 1048576).bind fun t163 => (grafterref1_Draw.j0 k a0 a1 (!t163))) else (grafterref1_Draw.j0 k a0 a1 true))) = some (r1, r2) := h
  clear h
  have HC3 := Aside0.mk H
  clear H
  go_enter Try.func58, Try.ntmps58
  go_upto_region 1 with (fail)
  go_cut [15] (fun v15 wc => ∃ (kq : Nat) (x15_2 : Bool), v15 = .bool x15_2 ∧ Aside0 (grafterref1_Draw.j0 kq a0 a1 x15_2 = some (r1, r2)) ∧ Aside0 (kq ≤ k) ∧ Drawn0 w wc)
  case first =>
    have H := HC3.out
    clear HC3
    replace H := Option.bind_eq_some_iff.mp H
    obtain ⟨t162, A40, H⟩ := H
    replace H : (if t162 = true then ((grafterref1_upTo.f a1 0 1048576).bind fun t163 => (grafterref1_Draw.j0 k a0 a1 (!t163))) else (grafterref1_Draw.j0 k a0 a1 true)) = some (r1, r2) := H
    have A4 := Aside0.mk A40
    clear A40
    by_cases c5 : t162 = true
    · subst c5
      have H1 : ((grafterref1_upTo.f a1 0 1048576).bind fun t163 => (grafterref1_Draw.j0 k a0 a1 (!t163))) = some (r1, r2) := by rw [if_pos rfl] at H; exact H
      clear H
      have H := H1
      clear H1
      replace H := Option.bind_eq_some_iff.mp H
      obtain ⟨t163, A60, H⟩ := H
      replace H : (grafterref1_Draw.j0 k a0 a1 (!t163)) = some (r1, r2) := H
      have A6 := Aside0.mk A60
      clear A60
      have H' := Aside0.mk H
      clear H
      go_wp2_with (first | ((with_reducible refine gate_callee (f := 50) rfl ?_); refine goesL_ (some 9) rfl rfl Try.func50 (by kernel_rfl) rfl #[.int .i64 a0, .int .i64 0, .int .i64 65535] rfl (by (try simp only [List.map_toArray, List.map_cons, List.map_nil]); first | done | rfl | (simp only [List.length_drop, List.length_take]; rfl)) ?_; (with_reducible refine (grafterref1_upTo.calls a0 0 65535 true _ A4.out).mono ?_); rintro e w' ⟨rfl, ⟨nd, rfl⟩⟩; refine ⟨_, rfl, ?_⟩) | (go_at_call 50; (with_reducible refine (grafterref1_upTo.calls a1 0 1048576 t163 _ A6.out).mono ?_); rintro e w' ⟨rfl, ⟨nd, rfl⟩⟩))
      go_meet
      case rel => exact ⟨_, (!t163), (by first | rfl | (simp; done) | (simp [*]; done)), H', ⟨by first | omega | exact Nat.le_refl _⟩, by repeat (first | exact Drawn0.refl _ | apply Drawn0.step)⟩
    · replace c5 := Bool.eq_false_iff.mpr c5
      subst c5
      have H1 : (grafterref1_Draw.j0 k a0 a1 true) = some (r1, r2) := by rw [if_neg (show ¬ (false = true) by decide)] at H; exact H
      clear H
      have H := H1
      clear H1
      have H' := Aside0.mk H
      clear H
      go_wp2_with (first | ((with_reducible refine gate_callee (f := 50) rfl ?_); refine goesL_ (some 9) rfl rfl Try.func50 (by kernel_rfl) rfl #[.int .i64 a0, .int .i64 0, .int .i64 65535] rfl (by (try simp only [List.map_toArray, List.map_cons, List.map_nil]); first | done | rfl | (simp only [List.length_drop, List.length_take]; rfl)) ?_; (with_reducible refine (grafterref1_upTo.calls a0 0 65535 false _ A4.out).mono ?_); rintro e w' ⟨rfl, ⟨nd, rfl⟩⟩; refine ⟨_, rfl, ?_⟩))
      go_meet
      case rel => exact ⟨_, (true), (by first | rfl | (simp; done) | (simp [*]; done)), H', ⟨by first | omega | exact Nat.le_refl _⟩, by repeat (first | exact Drawn0.refl _ | apply Drawn0.step)⟩
  case rest =>
    clear HC3
    try clear p2
    try clear c5
    obtain ⟨kq, x15_2, rfl, HA, HJ2, ⟨mc2, rfl⟩⟩ := hcut
    cases kq with
    | zero => exact absurd HA.out (by simp [grafterref1_Draw.j0])
    | succ kj2 =>
      have H := HA.out
      clear HA
      simp only [grafterref1_Draw.j0] at H
      by_cases c7 : x15_2 = true
      · subst c7
        have H1 : (some (0, 300)) = some (r1, r2) := by rw [if_pos rfl] at H; exact H
        clear H
        have H := H1
        clear H1
        simp only [Option.some.injEq, Prod.mk.injEq] at H
        obtain ⟨rfl, rfl⟩ := H
        go_wp2
        go_ret2
        exact ⟨by first | rfl | (simp; done) | (simp [*]; done), by repeat (first | exact Drawn0.refl _ | apply Drawn0.step)⟩
      · replace c7 := Bool.eq_false_iff.mpr c7
        subst c7
        have H1 : (grafterref1_Draw.l0 kj2 (Int.tmod (wrap64 ((wrap64 ((wrap64 (40503 * a0)) + (wrap64 (30011 * a1)))) + 12345)) 2147483648) 0) = some (r1, r2) := by rw [if_neg (show ¬ (false = true) by decide)] at H; exact H
        clear H
        have H := H1
        clear H1
        have H' := Aside0.mk H
        clear H
        go_wp2
        go_loopg [6, 7] kj2 (fun kq v6 v7 w' => ∃ (x6_2 : Int) (x7_2 : Int), v6 = .int .i64 x6_2 ∧ v7 = .int .i64 x7_2 ∧ Aside0 (grafterref1_Draw.l0 kq x6_2 x7_2 = some (r1, r2)) ∧ Aside0 (kq ≤ kj2) ∧ Drawn0 w w')
        case atStart => exact ⟨(Int.tmod (wrap64 ((wrap64 ((wrap64 (40503 * a0)) + (wrap64 (30011 * a1)))) + 12345)) 2147483648), (0), (by first | rfl | (simp; done) | (simp [*]; done)), (by first | rfl | (simp; done) | (simp [*]; done)), H', ⟨Nat.le_refl _⟩, by repeat (first | exact Drawn0.refl _ | apply Drawn0.step)⟩
        case round =>
          clear H'
          try clear c2
          try clear p2
          try clear c5
          try clear p6
          try clear c7
          try clear p2
          obtain ⟨x6_2, x7_2, rfl, rfl, HA, HK2, ⟨m2, rfl⟩⟩ := hrel
          cases gk with
          | zero => exact absurd HA.out (by simp [grafterref1_Draw.l0])
          | succ k2 =>
            have H := HA.out
            clear HA
            simp only [grafterref1_Draw.l0] at H
            by_cases c8 : x7_2 < 3
            · rw [if_pos c8] at H
              have c8b0 : decide (x7_2 < 3) = true := decide_eq_true c8
              clear c8
              have H' := Aside0.mk H
              clear H
              go_wp2
              go_roundg k2
              case measure => have := HJ2.out; have := HK2.out; omega
              case rel => exact ⟨(Int.tmod (wrap64 ((wrap64 ((Go.bits .xor .i64 x6_2 (x6_2 / 32768)) * 1103515)) + 12345)) 2147483648), (wrap64 (x7_2 + 1)), (by first | rfl | (simp; done) | (simp [*]; done)), (by first | rfl | (simp; done) | (simp [*]; done)), H', ⟨by have := HJ2.out; have := HK2.out; omega⟩, by repeat (first | exact Drawn0.refl _ | apply Drawn0.step)⟩
            · rw [if_neg c8] at H
              have c8b0 : decide (x7_2 < 3) = false := decide_eq_false c8
              clear c8
              simp only [Option.some.injEq, Prod.mk.injEq] at H
              obtain ⟨rfl, rfl⟩ := H
              go_wp2
              go_ret2
              exact ⟨by first | rfl | (simp; done) | (simp [*]; done), by repeat (first | exact Drawn0.refl _ | apply Drawn0.step)⟩

/-! ### grafterref1_Pick: function 35 -/
def grafterref1_Pick.f (k : Nat) (a0 : Int) (a1 : Int) (a2 : Int) : Option (Int × Int) := (grafterref1_Draw.f k a0 a1).bind fun bt164 => (if bt164.2 = 0 then ((grafterref1_upTo.f a2 1 65536).bind fun t166 => (if t166 = true then (some ((wrap64 (bt164.1 * a2)) / 65536, 0)) else (some (0, 300)))) else (some (0, 300)))
theorem grafterref1_Pick.mono : ∀ a0 a1 a2 k, LeO (grafterref1_Pick.f k a0 a1 a2) (grafterref1_Pick.f (k + 1) a0 a1 a2) := by
  intro a0 a1 a2 k
  unfold grafterref1_Pick.f
  repeat' first
      | (with_reducible exact grafterref1_Draw.mono _ _ _)
      | (with_reducible exact LeO.refl _)
      | (with_reducible exact LeO.none _)
      | (with_reducible refine LeO.ite ?_ ?_)
      | (with_reducible refine LeO.bind ?_ (fun _ => ?_))
      | exact grafterref1_Draw.mono _ _ _
      | exact LeO.none _
      | refine LeO.ite ?_ ?_
      | refine LeO.bind ?_ (fun _ => ?_)
set_option maxHeartbeats 8000000 in
set_option maxRecDepth 100000 in
theorem grafterref1_Pick.calls (k : Nat) (a0 : Int) (a1 : Int) (a2 : Int) (r1 : Int) (r2 : Int) (w : World) (h : grafterref1_Pick.f k a0 a1 a2 = some (r1, r2)) :
    Calls Try.prog 35 #[.int .i64 a0, .int .i64 a1, .int .i64 a2] w fun e w' => e = .returned (.tuple #[.int .i64 r1, .int .i64 r2]) ∧ Drawn0 w w' := by
  have H : ((grafterref1_Draw.f k a0 a1).bind fun bt164 => (if bt164.2 = 0 then ((grafterref1_upTo.f a2 1 65536).bind fun t166 => (if t166 = true then (some ((wrap64 (bt164.1 * a2)) / 65536, 0)) else (some (0, 300)))) else (some (0, 300)))) = some (r1, r2) := h
  clear h
  replace H := Option.bind_eq_some_iff.mp H
  obtain ⟨⟨t164, t165⟩, A40, H⟩ := H
  replace H : (if t165 = 0 then ((grafterref1_upTo.f a2 1 65536).bind fun t166 => (if t166 = true then (some ((wrap64 (t164 * a2)) / 65536, 0)) else (some (0, 300)))) else (some (0, 300))) = some (r1, r2) := H
  have A4 := Aside0.mk A40
  clear A40
  by_cases c5 : t165 = 0
  · rw [if_pos c5] at H
    have c5b0 : (t165 == 0) = true := beq_iff_eq.mpr c5
    have c5b1 : (t165 != 0) = false := bne_eq_false_iff_eq.mpr c5
    clear c5
    replace H := Option.bind_eq_some_iff.mp H
    obtain ⟨t166, A60, H⟩ := H
    replace H : (if t166 = true then (some ((wrap64 (t164 * a2)) / 65536, 0)) else (some (0, 300))) = some (r1, r2) := H
    have A6 := Aside0.mk A60
    clear A60
    by_cases c7 : t166 = true
    · subst c7
      have H1 : (some ((wrap64 (t164 * a2)) / 65536, 0)) = some (r1, r2) := by rw [if_pos rfl] at H; exact H
      clear H
      have H := H1
      clear H1
      simp only [Option.some.injEq, Prod.mk.injEq] at H
      obtain ⟨rfl, rfl⟩ := H
      go_enter Try.func35, Try.ntmps35
      go_wp2_with (first | ((with_reducible refine gate_callee (f := 58) rfl ?_); refine goesL_ (some 13) rfl rfl Try.func58 (by kernel_rfl) rfl #[.int .i64 a0, .int .i64 a1] rfl (by (try simp only [List.map_toArray, List.map_cons, List.map_nil]); first | done | rfl | (simp only [List.length_drop, List.length_take]; rfl)) ?_; (with_reducible refine (grafterref1_Draw.calls k a0 a1 t164 t165 _ A4.out).mono ?_); rintro e w' ⟨rfl, ⟨nd, rfl⟩⟩; refine ⟨_, rfl, ?_⟩) | (go_at_call 50; (with_reducible refine (grafterref1_upTo.calls a2 1 65536 true _ A6.out).mono ?_); rintro e w' ⟨rfl, ⟨nd, rfl⟩⟩))
      go_ret2
      exact ⟨by first | rfl | (simp; done) | (simp [*]; done), by repeat (first | exact Drawn0.refl _ | apply Drawn0.step)⟩
    · replace c7 := Bool.eq_false_iff.mpr c7
      subst c7
      have H1 : (some (0, 300)) = some (r1, r2) := by rw [if_neg (show ¬ (false = true) by decide)] at H; exact H
      clear H
      have H := H1
      clear H1
      simp only [Option.some.injEq, Prod.mk.injEq] at H
      obtain ⟨rfl, rfl⟩ := H
      go_enter Try.func35, Try.ntmps35
      go_wp2_with (first | ((with_reducible refine gate_callee (f := 58) rfl ?_); refine goesL_ (some 13) rfl rfl Try.func58 (by kernel_rfl) rfl #[.int .i64 a0, .int .i64 a1] rfl (by (try simp only [List.map_toArray, List.map_cons, List.map_nil]); first | done | rfl | (simp only [List.length_drop, List.length_take]; rfl)) ?_; (with_reducible refine (grafterref1_Draw.calls k a0 a1 t164 t165 _ A4.out).mono ?_); rintro e w' ⟨rfl, ⟨nd, rfl⟩⟩; refine ⟨_, rfl, ?_⟩) | (go_at_call 50; (with_reducible refine (grafterref1_upTo.calls a2 1 65536 false _ A6.out).mono ?_); rintro e w' ⟨rfl, ⟨nd, rfl⟩⟩))
      go_ret2
      exact ⟨by first | rfl | (simp; done) | (simp [*]; done), by repeat (first | exact Drawn0.refl _ | apply Drawn0.step)⟩
  · rw [if_neg c5] at H
    have c5b0 : (t165 == 0) = false := beq_eq_false_iff_ne.mpr c5
    have c5b1 : (t165 != 0) = true := bne_iff_ne.mpr c5
    simp only [Option.some.injEq, Prod.mk.injEq] at H
    obtain ⟨rfl, rfl⟩ := H
    go_enter Try.func35, Try.ntmps35
    go_wp2_with (first | ((with_reducible refine gate_callee (f := 58) rfl ?_); refine goesL_ (some 13) rfl rfl Try.func58 (by kernel_rfl) rfl #[.int .i64 a0, .int .i64 a1] rfl (by (try simp only [List.map_toArray, List.map_cons, List.map_nil]); first | done | rfl | (simp only [List.length_drop, List.length_take]; rfl)) ?_; (with_reducible refine (grafterref1_Draw.calls k a0 a1 t164 t165 _ A4.out).mono ?_); rintro e w' ⟨rfl, ⟨nd, rfl⟩⟩; refine ⟨_, rfl, ?_⟩))
    go_ret2
    exact ⟨by first | rfl | (simp; done) | (simp [*]; done), by repeat (first | exact Drawn0.refl _ | apply Drawn0.step)⟩

/-! ### grafterlaw11_HyperFirst: function 12 -/
def grafterlaw11_HyperFirst.f (k : Nat) (a0 : Int) (a1 : Int) : Option (Bool) := (grafterlaw11_awake.f k).bind fun t167 => (if t167 = true then ((hyper_First.f k (Go.bits .and .i64 a0 65535) (Go.bits .and .i64 a1 7)).bind fun bt168 => ((grafterref1_Pick.f k (Go.bits .and .i64 a0 65535) (wrap64 (40000 + (wrap64 (2 * (Go.bits .and .i64 a1 7))))) 16321).bind fun bt172 => ((grafterref1_Pick.f k (Go.bits .and .i64 a0 65535) (wrap64 (40001 + (wrap64 (2 * (Go.bits .and .i64 a1 7))))) 58983).bind fun bt174 => ((hyper_Resample.f k (Go.bits .and .i64 a0 65535) (wrap64 (40000 + (wrap64 (2 * (Go.bits .and .i64 a1 7)))))).bind fun bt176 => ((grafterlaw0_Num.f bt168.2.2).bind fun t180 => (if t180 = 0 then (if bt172.2 = 0 then (if bt174.2 = 0 then ((grafterlaw0_Num.f bt176.2.2).bind fun t181 => (if t181 = 0 then (if (bt168.1 == bt176.1 && (bt168.2.1 == bt176.2.1)) = true then (some (bt168.1 == (wrap64 (64 + bt172.1)) && (bt168.2.1 == bt174.1))) else (some false)) else (some false))) else (some false)) else (some false)) else (some false))))))) else (some false))
theorem grafterlaw11_HyperFirst.mono : ∀ a0 a1 k, LeO (grafterlaw11_HyperFirst.f k a0 a1) (grafterlaw11_HyperFirst.f (k + 1) a0 a1) := by
  intro a0 a1 k
  unfold grafterlaw11_HyperFirst.f
  repeat' first
      | (with_reducible exact grafterlaw11_awake.mono _)
      | (with_reducible exact grafterref1_Pick.mono _ _ _ _)
      | (with_reducible exact hyper_First.mono _ _ _)
      | (with_reducible exact hyper_Resample.mono _ _ _)
      | (with_reducible exact LeO.refl _)
      | (with_reducible exact LeO.none _)
      | (with_reducible refine LeO.ite ?_ ?_)
      | (with_reducible refine LeO.bind ?_ (fun _ => ?_))
      | exact grafterlaw11_awake.mono _
      | exact grafterref1_Pick.mono _ _ _ _
      | exact hyper_First.mono _ _ _
      | exact hyper_Resample.mono _ _ _
      | exact LeO.none _
      | refine LeO.ite ?_ ?_
      | refine LeO.bind ?_ (fun _ => ?_)
set_option maxHeartbeats 8000000 in
set_option maxRecDepth 100000 in
theorem grafterlaw11_HyperFirst.calls (k : Nat) (a0 : Int) (a1 : Int) (r : Bool) (w : World) (hrt : r = true) (h : grafterlaw11_HyperFirst.f k a0 a1 = some r) :
    Calls Try.prog 12 #[.int .i64 a0, .int .i64 a1] w fun e w' => e = .returned (.bool r) ∧ Below w.heap.size w w' := by
  have HRT := Aside0.mk hrt
  clear hrt
  have hu43 := Try.underlying43
  have HB := Aside0.mk (Below.refl w.heap.size w)
  have H : ((grafterlaw11_awake.f k).bind fun t167 => (if t167 = true then ((hyper_First.f k (Go.bits .and .i64 a0 65535) (Go.bits .and .i64 a1 7)).bind fun bt168 => ((grafterref1_Pick.f k (Go.bits .and .i64 a0 65535) (wrap64 (40000 + (wrap64 (2 * (Go.bits .and .i64 a1 7))))) 16321).bind fun bt172 => ((grafterref1_Pick.f k (Go.bits .and .i64 a0 65535) (wrap64 (40001 + (wrap64 (2 * (Go.bits .and .i64 a1 7))))) 58983).bind fun bt174 => ((hyper_Resample.f k (Go.bits .and .i64 a0 65535) (wrap64 (40000 + (wrap64 (2 * (Go.bits .and .i64 a1 7)))))).bind fun bt176 => ((grafterlaw0_Num.f bt168.2.2).bind fun t180 => (if t180 = 0 then (if bt172.2 = 0 then (if bt174.2 = 0 then ((grafterlaw0_Num.f bt176.2.2).bind fun t181 => (if t181 = 0 then (if (bt168.1 == bt176.1 && (bt168.2.1 == bt176.2.1)) = true then (some (bt168.1 == (wrap64 (64 + bt172.1)) && (bt168.2.1 == bt174.1))) else (some false)) else (some false))) else (some false)) else (some false)) else (some false))))))) else (some false))) = some r := h
  clear h
  replace H := Option.bind_eq_some_iff.mp H
  obtain ⟨t167, A30, H⟩ := H
  replace H : (if t167 = true then ((hyper_First.f k (Go.bits .and .i64 a0 65535) (Go.bits .and .i64 a1 7)).bind fun bt168 => ((grafterref1_Pick.f k (Go.bits .and .i64 a0 65535) (wrap64 (40000 + (wrap64 (2 * (Go.bits .and .i64 a1 7))))) 16321).bind fun bt172 => ((grafterref1_Pick.f k (Go.bits .and .i64 a0 65535) (wrap64 (40001 + (wrap64 (2 * (Go.bits .and .i64 a1 7))))) 58983).bind fun bt174 => ((hyper_Resample.f k (Go.bits .and .i64 a0 65535) (wrap64 (40000 + (wrap64 (2 * (Go.bits .and .i64 a1 7)))))).bind fun bt176 => ((grafterlaw0_Num.f bt168.2.2).bind fun t180 => (if t180 = 0 then (if bt172.2 = 0 then (if bt174.2 = 0 then ((grafterlaw0_Num.f bt176.2.2).bind fun t181 => (if t181 = 0 then (if (bt168.1 == bt176.1 && (bt168.2.1 == bt176.2.1)) = true then (some (bt168.1 == (wrap64 (64 + bt172.1)) && (bt168.2.1 == bt174.1))) else (some false)) else (some false))) else (some false)) else (some false)) else (some false))))))) else (some false)) = some r := H
  have A3 := Aside0.mk A30
  clear A30
  by_cases c4 : t167 = true
  · subst c4
    have H1 : ((hyper_First.f k (Go.bits .and .i64 a0 65535) (Go.bits .and .i64 a1 7)).bind fun bt168 => ((grafterref1_Pick.f k (Go.bits .and .i64 a0 65535) (wrap64 (40000 + (wrap64 (2 * (Go.bits .and .i64 a1 7))))) 16321).bind fun bt172 => ((grafterref1_Pick.f k (Go.bits .and .i64 a0 65535) (wrap64 (40001 + (wrap64 (2 * (Go.bits .and .i64 a1 7))))) 58983).bind fun bt174 => ((hyper_Resample.f k (Go.bits .and .i64 a0 65535) (wrap64 (40000 + (wrap64 (2 * (Go.bits .and .i64 a1 7)))))).bind fun bt176 => ((grafterlaw0_Num.f bt168.2.2).bind fun t180 => (if t180 = 0 then (if bt172.2 = 0 then (if bt174.2 = 0 then ((grafterlaw0_Num.f bt176.2.2).bind fun t181 => (if t181 = 0 then (if (bt168.1 == bt176.1 && (bt168.2.1 == bt176.2.1)) = true then (some (bt168.1 == (wrap64 (64 + bt172.1)) && (bt168.2.1 == bt174.1))) else (some false)) else (some false))) else (some false)) else (some false)) else (some false))))))) = some r := by rw [if_pos rfl] at H; exact H
    clear H
    have H := H1
    clear H1
    replace H := Option.bind_eq_some_iff.mp H
    obtain ⟨⟨t168, t169, t170⟩, A50, H⟩ := H
    replace H : ((grafterref1_Pick.f k (Go.bits .and .i64 a0 65535) (wrap64 (40000 + (wrap64 (2 * (Go.bits .and .i64 a1 7))))) 16321).bind fun bt172 => ((grafterref1_Pick.f k (Go.bits .and .i64 a0 65535) (wrap64 (40001 + (wrap64 (2 * (Go.bits .and .i64 a1 7))))) 58983).bind fun bt174 => ((hyper_Resample.f k (Go.bits .and .i64 a0 65535) (wrap64 (40000 + (wrap64 (2 * (Go.bits .and .i64 a1 7)))))).bind fun bt176 => ((grafterlaw0_Num.f t170).bind fun t180 => (if t180 = 0 then (if bt172.2 = 0 then (if bt174.2 = 0 then ((grafterlaw0_Num.f bt176.2.2).bind fun t181 => (if t181 = 0 then (if (t168 == bt176.1 && (t169 == bt176.2.1)) = true then (some (t168 == (wrap64 (64 + bt172.1)) && (t169 == bt174.1))) else (some false)) else (some false))) else (some false)) else (some false)) else (some false)))))) = some r := H
    have A5 := Aside0.mk A50
    clear A50
    replace H := Option.bind_eq_some_iff.mp H
    obtain ⟨⟨t172, t173⟩, A60, H⟩ := H
    replace H : ((grafterref1_Pick.f k (Go.bits .and .i64 a0 65535) (wrap64 (40001 + (wrap64 (2 * (Go.bits .and .i64 a1 7))))) 58983).bind fun bt174 => ((hyper_Resample.f k (Go.bits .and .i64 a0 65535) (wrap64 (40000 + (wrap64 (2 * (Go.bits .and .i64 a1 7)))))).bind fun bt176 => ((grafterlaw0_Num.f t170).bind fun t180 => (if t180 = 0 then (if t173 = 0 then (if bt174.2 = 0 then ((grafterlaw0_Num.f bt176.2.2).bind fun t181 => (if t181 = 0 then (if (t168 == bt176.1 && (t169 == bt176.2.1)) = true then (some (t168 == (wrap64 (64 + t172)) && (t169 == bt174.1))) else (some false)) else (some false))) else (some false)) else (some false)) else (some false))))) = some r := H
    have A6 := Aside0.mk A60
    clear A60
    replace H := Option.bind_eq_some_iff.mp H
    obtain ⟨⟨t174, t175⟩, A70, H⟩ := H
    replace H : ((hyper_Resample.f k (Go.bits .and .i64 a0 65535) (wrap64 (40000 + (wrap64 (2 * (Go.bits .and .i64 a1 7)))))).bind fun bt176 => ((grafterlaw0_Num.f t170).bind fun t180 => (if t180 = 0 then (if t173 = 0 then (if t175 = 0 then ((grafterlaw0_Num.f bt176.2.2).bind fun t181 => (if t181 = 0 then (if (t168 == bt176.1 && (t169 == bt176.2.1)) = true then (some (t168 == (wrap64 (64 + t172)) && (t169 == t174))) else (some false)) else (some false))) else (some false)) else (some false)) else (some false)))) = some r := H
    have A7 := Aside0.mk A70
    clear A70
    replace H := Option.bind_eq_some_iff.mp H
    obtain ⟨⟨t176, t177, t178⟩, A80, H⟩ := H
    replace H : ((grafterlaw0_Num.f t170).bind fun t180 => (if t180 = 0 then (if t173 = 0 then (if t175 = 0 then ((grafterlaw0_Num.f t178).bind fun t181 => (if t181 = 0 then (if (t168 == t176 && (t169 == t177)) = true then (some (t168 == (wrap64 (64 + t172)) && (t169 == t174))) else (some false)) else (some false))) else (some false)) else (some false)) else (some false))) = some r := H
    have A8 := Aside0.mk A80
    clear A80
    replace H := Option.bind_eq_some_iff.mp H
    obtain ⟨t180, A90, H⟩ := H
    replace H : (if t180 = 0 then (if t173 = 0 then (if t175 = 0 then ((grafterlaw0_Num.f t178).bind fun t181 => (if t181 = 0 then (if (t168 == t176 && (t169 == t177)) = true then (some (t168 == (wrap64 (64 + t172)) && (t169 == t174))) else (some false)) else (some false))) else (some false)) else (some false)) else (some false)) = some r := H
    have A9 := Aside0.mk A90
    clear A90
    by_cases c10 : t180 = 0
    · rw [if_pos c10] at H
      have c10b0 : (t180 == 0) = true := beq_iff_eq.mpr c10
      have c10b1 : (t180 != 0) = false := bne_eq_false_iff_eq.mpr c10
      clear c10
      by_cases c11 : t173 = 0
      · rw [if_pos c11] at H
        have c11b0 : (t173 == 0) = true := beq_iff_eq.mpr c11
        have c11b1 : (t173 != 0) = false := bne_eq_false_iff_eq.mpr c11
        clear c11
        by_cases c12 : t175 = 0
        · rw [if_pos c12] at H
          have c12b0 : (t175 == 0) = true := beq_iff_eq.mpr c12
          have c12b1 : (t175 != 0) = false := bne_eq_false_iff_eq.mpr c12
          clear c12
          replace H := Option.bind_eq_some_iff.mp H
          obtain ⟨t181, A130, H⟩ := H
          replace H : (if t181 = 0 then (if (t168 == t176 && (t169 == t177)) = true then (some (t168 == (wrap64 (64 + t172)) && (t169 == t174))) else (some false)) else (some false)) = some r := H
          have A13 := Aside0.mk A130
          clear A130
          by_cases c14 : t181 = 0
          · rw [if_pos c14] at H
            have c14b0 : (t181 == 0) = true := beq_iff_eq.mpr c14
            have c14b1 : (t181 != 0) = false := bne_eq_false_iff_eq.mpr c14
            clear c14
            by_cases c15 : (t168 == t176 && (t169 == t177)) = true
            · rw [if_pos c15] at H
              have c15b0 : (t168 == t176 && (t169 == t177)) = true := c15
              (try (have c15b1 : decide (t168 = t176 && (t169 == t177)) = true := by simpa using c15))
              (try (have c15b2 : (t168 == t176 && (t169 == t177)) = true := by simpa using c15))
              clear c15
              obtain rfl := Option.some.inj H
              go_enter Try.func12, Try.ntmps12
              go_wp2_with (first | ((with_reducible refine gate_callee (f := 34) rfl ?_); refine goesL_ (some 15) rfl rfl Try.func34 (by kernel_rfl) rfl #[] rfl (by (try simp only [List.map_toArray, List.map_cons, List.map_nil]); first | done | rfl | (simp only [List.length_drop, List.length_take]; rfl)) ?_; (with_reducible refine (grafterlaw11_awake.calls k  true _ rfl A3.out).mono ?_); rintro e w16 ⟨rfl, hb⟩; refine ⟨_, rfl, ?_⟩; have n0_ := Aside0.mk (below_step (by repeat (first | (with_reducible first | exact HB.out | apply below_alloc | apply pw_below_drewN | apply below_drew1) | exact HB.out)) hb); clear HB; have HB := n0_; clear n0_; (try clear hb); (try clear hb2); (try clear hk); (try clear hi)) | ((with_reducible refine gate_callee (f := 28) rfl ?_); refine goesL_ (some 24) rfl rfl Try.func28 (by kernel_rfl) rfl #[.int .i64 (Go.bits .and .i64 a0 65535), .int .i64 (Go.bits .and .i64 a1 7)] rfl (by (try simp only [List.map_toArray, List.map_cons, List.map_nil]); first | done | rfl | (simp only [List.length_drop, List.length_take]; rfl)) ?_; (with_reducible refine (hyper_First.calls k (Go.bits .and .i64 a0 65535) (Go.bits .and .i64 a1 7) t168 t169 t170 _ A5.out).mono ?_); rintro e w17 ⟨rfl, hb⟩; refine ⟨_, rfl, ?_⟩; have n0_ := Aside0.mk (below_step (by repeat (first | (with_reducible first | exact HB.out | apply below_alloc | apply pw_below_drewN | apply below_drew1) | exact HB.out)) hb); clear HB; have HB := n0_; clear n0_; (try clear hb); (try clear hb2); (try clear hk); (try clear hi)) | ((with_reducible refine gate_dst (N := 7) rfl ?_); refine box_event ?hg (N := 7) ?hd (cs := #[.int .i64 0, .int .i64 0]) (t := 43) ?hr ?_; (case hd => rfl); (case hg => rfl); (case hr => first | (go_simp; done) | (go_simp; rfl)); intro gb171 hg w18 hbox hb; have n0_ := Aside0.mk (below_step (by repeat (first | (with_reducible first | exact HB.out | apply below_alloc | apply pw_below_drewN | apply below_drew1) | exact HB.out)) hb); have n1_ := Aside0.mk (hbox); have n2_ := Aside0.mk ((by rw [hg]; exact (below_size (by repeat (first | (with_reducible first | exact HB.out | apply below_alloc | apply pw_below_drewN | apply below_drew1) | exact HB.out))) : w.heap.size ≤ gb171)); have n3_ := Aside0.mk ((by rw [hg]; exact (below_size (by repeat (first | (with_reducible first | exact HB.out | apply below_alloc | apply pw_below_drewN | apply below_drew1) | exact HB.out))) : w.heap.size ≤ gb171)); clear HB; have HB := n0_; have BK171 := n1_; have GW171 := n2_; have GE171 := n3_; clear n0_ n1_ n2_ n3_; clear hb hbox hg; have hcz19_0 : w18.cell? ⟨gb171, 0, none⟩ = some (.int .i64 0) := (blk_cell BK171.out 0).trans rfl; have hcz19_1 : w18.cell? ⟨gb171, 1, none⟩ = some (.int .i64 0) := (blk_cell BK171.out 1).trans rfl; have hfz19_0 := blk_frozen BK171.out 0; have hfz19_1 := blk_frozen BK171.out 1) | ((with_reducible refine gate_callee (f := 35) rfl ?_); refine goesL_ (some 32) rfl rfl Try.func35 (by kernel_rfl) rfl #[.int .i64 (Go.bits .and .i64 a0 65535), .int .i64 (wrap64 (40000 + (wrap64 (2 * (Go.bits .and .i64 a1 7))))), .int .i64 16321] rfl (by (try simp only [List.map_toArray, List.map_cons, List.map_nil]); first | done | rfl | (simp only [List.length_drop, List.length_take]; rfl)) ?_; (with_reducible refine (grafterref1_Pick.calls k (Go.bits .and .i64 a0 65535) (wrap64 (40000 + (wrap64 (2 * (Go.bits .and .i64 a1 7))))) 16321 t172 t173 _ A6.out).mono ?_); rintro e w' ⟨rfl, ⟨nd, rfl⟩⟩; refine ⟨_, rfl, ?_⟩) | ((with_reducible refine gate_callee (f := 35) rfl ?_); refine goesL_ (some 40) rfl rfl Try.func35 (by kernel_rfl) rfl #[.int .i64 (Go.bits .and .i64 a0 65535), .int .i64 (wrap64 (40001 + (wrap64 (2 * (Go.bits .and .i64 a1 7))))), .int .i64 58983] rfl (by (try simp only [List.map_toArray, List.map_cons, List.map_nil]); first | done | rfl | (simp only [List.length_drop, List.length_take]; rfl)) ?_; (with_reducible refine (grafterref1_Pick.calls k (Go.bits .and .i64 a0 65535) (wrap64 (40001 + (wrap64 (2 * (Go.bits .and .i64 a1 7))))) 58983 t174 t175 _ A7.out).mono ?_); rintro e w' ⟨rfl, ⟨nd, rfl⟩⟩; refine ⟨_, rfl, ?_⟩) | ((with_reducible refine gate_callee (f := 30) rfl ?_); refine goesL_ (some 48) rfl rfl Try.func30 (by kernel_rfl) rfl #[.int .i64 (Go.bits .and .i64 a0 65535), .int .i64 (wrap64 (40000 + (wrap64 (2 * (Go.bits .and .i64 a1 7)))))] rfl (by (try simp only [List.map_toArray, List.map_cons, List.map_nil]); first | done | rfl | (simp only [List.length_drop, List.length_take]; rfl)) ?_; (with_reducible refine (hyper_Resample.calls k (Go.bits .and .i64 a0 65535) (wrap64 (40000 + (wrap64 (2 * (Go.bits .and .i64 a1 7))))) t176 t177 t178 _ A8.out).mono ?_); rintro e w20 ⟨rfl, hb⟩; refine ⟨_, rfl, ?_⟩; have n0_ := Aside0.mk (blk_below (g := gb171) (o := .cells #[.int .i64 t168, .int .i64 t169] 43 (0, 0)) (by (with_reducible repeat (first | refine blk_drewN ?_ _ | refine blk_drew ?_ | refine blk_alloc ?_ _)); refine blk_put (cs := #[.int .i64 t168, .int .i64 0]) ?_ 1 _ rfl; (with_reducible repeat (first | refine blk_drewN ?_ _ | refine blk_drew ?_ | refine blk_alloc ?_ _)); refine blk_put (cs := #[.int .i64 0, .int .i64 0]) ?_ 0 _ rfl; (with_reducible repeat (first | refine blk_drewN ?_ _ | refine blk_drew ?_ | refine blk_alloc ?_ _)); exact BK171.out) hb); have n1_ := Aside0.mk (below_step (by repeat (first | (with_reducible first | exact HB.out | apply below_alloc | apply pw_below_drewN | apply below_drew1 | refine below_set ?_ GE171.out) | exact HB.out)) hb); clear BK171; clear HB; have BK171 := n0_; have HB := n1_; clear n0_ n1_; (try clear hb); (try clear hb2); (try clear hk); (try clear hi)) | ((with_reducible refine gate_dst (N := 13) rfl ?_); refine box_event ?hg (N := 13) ?hd (cs := #[.int .i64 0, .int .i64 0]) (t := 43) ?hr ?_; (case hd => rfl); (case hg => rfl); (case hr => first | (go_simp; done) | (go_simp; rfl)); intro gb179 hg w21 hbox hb; have n0_ := Aside0.mk (blk_below (g := gb171) (o := .cells #[.int .i64 t168, .int .i64 t169] 43 (0, 0)) (by (with_reducible repeat (first | refine blk_drewN ?_ _ | refine blk_drew ?_ | refine blk_alloc ?_ _)); exact BK171.out) hb); have n1_ := Aside0.mk (below_step (by repeat (first | (with_reducible first | exact HB.out | apply below_alloc | apply pw_below_drewN | apply below_drew1 | refine below_set ?_ GE171.out) | exact HB.out)) hb); have n2_ := Aside0.mk (hbox); have n3_ := Aside0.mk ((by rw [hg]; exact (below_size (by repeat (first | (with_reducible first | exact HB.out | apply below_alloc | apply pw_below_drewN | apply below_drew1 | refine below_set ?_ GE171.out) | exact HB.out))) : w.heap.size ≤ gb179)); have n4_ := Aside0.mk ((by rw [hg]; exact (below_size (by repeat (first | (with_reducible first | exact HB.out | apply below_alloc | apply pw_below_drewN | apply below_drew1 | refine below_set ?_ GE171.out) | exact HB.out))) : w.heap.size ≤ gb179)); have n5_ := Aside0.mk ((by rw [hg]; exact Nat.ne_of_lt (blk_lt (g := gb171) (o := .cells #[.int .i64 t168, .int .i64 t169] 43 (0, 0)) (by (with_reducible repeat (first | refine blk_drewN ?_ _ | refine blk_drew ?_ | refine blk_alloc ?_ _)); exact BK171.out)) : gb171 ≠ gb179)); have n6_ := Aside0.mk ((by rw [hg]; exact Nat.ne_of_gt (blk_lt (g := gb171) (o := .cells #[.int .i64 t168, .int .i64 t169] 43 (0, 0)) (by (with_reducible repeat (first | refine blk_drewN ?_ _ | refine blk_drew ?_ | refine blk_alloc ?_ _)); exact BK171.out)) : gb179 ≠ gb171)); clear BK171; clear HB; have BK171 := n0_; have HB := n1_; have BK179 := n2_; have GW179 := n3_; have GE179 := n4_; have NB171_179 := n5_; have NB179_171 := n6_; clear n0_ n1_ n2_ n3_ n4_ n5_ n6_; clear hb hbox hg; have hnb22 := NB179_171.out; have hnc22 := NB171_179.out; have hcz23_0 : w21.cell? ⟨gb179, 0, none⟩ = some (.int .i64 0) := (blk_cell BK179.out 0).trans rfl; have hcz23_1 : w21.cell? ⟨gb179, 1, none⟩ = some (.int .i64 0) := (blk_cell BK179.out 1).trans rfl; have hfz23_0 := blk_frozen BK179.out 0; have hfz23_1 := blk_frozen BK179.out 1) | ((with_reducible refine gate_callee (f := 23) rfl ?_); refine goesL_ (some 52) rfl rfl Try.func23 (by kernel_rfl) rfl #[.int .i64 t170] rfl (by (try simp only [List.map_toArray, List.map_cons, List.map_nil]); first | done | rfl | (simp only [List.length_drop, List.length_take]; rfl)) ?_; (with_reducible refine (grafterlaw0_Num.calls t170 t180 _ A9.out).mono ?_); rintro e w' ⟨rfl, ⟨nd, rfl⟩⟩; refine ⟨_, rfl, ?_⟩) | (go_at_call 23; (with_reducible refine (grafterlaw0_Num.calls t178 t181 _ A13.out).mono ?_); rintro e w' ⟨rfl, ⟨nd, rfl⟩⟩; have hcz24_0 : w21.cell? ⟨gb171, 0, none⟩ = some (.int .i64 t168) := (blk_cell BK171.out 0).trans rfl; have hcz24_1 : w21.cell? ⟨gb171, 1, none⟩ = some (.int .i64 t169) := (blk_cell BK171.out 1).trans rfl; have hfz24_0 := blk_frozen BK171.out 0; have hfz24_1 := blk_frozen BK171.out 1))
              go_ret
              exact ⟨by first | rfl | (simp [errW_none, errW_some] <;> rfl) | (simp [*, errW_none, errW_some] <;> rfl), by repeat (first | (with_reducible first | exact HB.out | apply below_alloc | apply pw_below_drewN | apply below_drew1 | refine below_set ?_ GE171.out | refine below_set ?_ GE179.out) | exact HB.out)⟩
            · rw [if_neg c15] at H
              have c15b0 : (t168 == t176 && (t169 == t177)) = false := by simpa using c15
              (try (have c15b1 : decide (t168 = t176 && (t169 == t177)) = false := by simpa using c15))
              (try (have c15b2 : (t168 == t176 && (t169 == t177)) = false := by simpa using c15))
              (try (have c15b3 : ¬ (t168 = t176 && (t169 == t177)) := by simpa using c15))
              clear c15
              exact absurd ((Option.some.inj H).trans HRT.out) Bool.false_ne_true
          · rw [if_neg c14] at H
            have c14b0 : (t181 == 0) = false := beq_eq_false_iff_ne.mpr c14
            have c14b1 : (t181 != 0) = true := bne_iff_ne.mpr c14
            exact absurd ((Option.some.inj H).trans HRT.out) Bool.false_ne_true
        · rw [if_neg c12] at H
          have c12b0 : (t175 == 0) = false := beq_eq_false_iff_ne.mpr c12
          have c12b1 : (t175 != 0) = true := bne_iff_ne.mpr c12
          exact absurd ((Option.some.inj H).trans HRT.out) Bool.false_ne_true
      · rw [if_neg c11] at H
        have c11b0 : (t173 == 0) = false := beq_eq_false_iff_ne.mpr c11
        have c11b1 : (t173 != 0) = true := bne_iff_ne.mpr c11
        exact absurd ((Option.some.inj H).trans HRT.out) Bool.false_ne_true
    · rw [if_neg c10] at H
      have c10b0 : (t180 == 0) = false := beq_eq_false_iff_ne.mpr c10
      have c10b1 : (t180 != 0) = true := bne_iff_ne.mpr c10
      exact absurd ((Option.some.inj H).trans HRT.out) Bool.false_ne_true
  · replace c4 := Bool.eq_false_iff.mpr c4
    subst c4
    have H1 : (some false) = some r := by rw [if_neg (show ¬ (false = true) by decide)] at H; exact H
    clear H
    have H := H1
    clear H1
    exact absurd ((Option.some.inj H).trans HRT.out) Bool.false_ne_true

/-- THE ONE PURE STATEMENT of grafterlaw11_HyperFirst: yours. -/
def grafterlaw11_HyperFirst.Pure : Prop := ∀ (a0 : Int) (a1 : Int), (Lit.int .i64 a0).wf = true → (Lit.int .i64 a1).wf = true → ∃ k, grafterlaw11_HyperFirst.f k a0 a1 = some true
theorem grafterlaw11_HyperFirst.walk (P : grafterlaw11_HyperFirst.Pure) (a0 : Int) (a1 : Int) (w : World) (w0 : (Lit.int .i64 a0).wf = true) (w1 : (Lit.int .i64 a1).wf = true) :
    Calls Try.prog 12 #[.int .i64 a0, .int .i64 a1] w fun e w' => e = .returned (.bool true) ∧ Below w.heap.size w w' := by
  obtain ⟨k, h⟩ := P a0 a1 w0 w1
  refine (grafterlaw11_HyperFirst.calls k a0 a1 true w rfl h).mono ?_
  rintro e w' ⟨rfl, hd⟩
  exact ⟨rfl, hd⟩

end Go.Proofs.Ytmkpngdpikadhaa.PHyperFirst
