-- Written by a program of this session (pprint.py) out of the translation, with hand-proved walks pasted in.
import Derived.Test.YtbhkmgidokonkaaPFramesx0
import Derived.Test.YtbhkmgidokonkaaPFramesx1
namespace Go.Proofs.Ytbhkmgidokonkaa.PFrames
open Go.RowKit Go.Proofs.YtbhkmgidokonkaaW.PrintWords Go.Proofs.YtbhkmgidokonkaaW.PrintLast Go.Proofs.YtbhkmgidokonkaaW.PrintMore
attribute [local go_sem] max2_int min2_int max_two min_two max_three min_three max_four min_four   -- for this text's walks alone
set_option linter.unusedVariables false
set_option linter.unusedSimpArgs false

/-! ### grafterref12_num: function 70 -/
def grafterref12_num.l0 : Nat → ByteArray → Int → Int → Option (Int)
  | 0, _, _, _ => none
  | k + 1, x0, x3, x4 => if x4 ≥ 0 then (if 0 ≤ x4 then (if x4 < (x0.size : Int) then (grafterref12_num.l0 k x0 (Go.bits .or .i64 (wrap64 (x3 * 256)) (wrap64 (bt x0 x4))) (wrap64 (x4 - 1))) else (none)) else (none)) else (some x3)
def grafterref12_num.f (k : Nat) (a0 : ByteArray) : Option (Int) := grafterref12_num.l0 k a0 0 (wrap64 ((a0.size : Int) - 1))
theorem grafterref12_num.mono_l : ∀ k, (∀ y0 y1 y2, LeO (grafterref12_num.l0 k y0 y1 y2) (grafterref12_num.l0 (k + 1) y0 y1 y2))
  | 0 => fun _ _ _ r h => by simp [grafterref12_num.l0] at h
  | k + 1 => by
    have ih0 := grafterref12_num.mono_l k
    · intro y0 y1 y2
      unfold grafterref12_num.l0
      repeat' first
      | (with_reducible exact ih0 _ _ _)
      | (with_reducible exact LeO.refl _)
      | (with_reducible exact LeO.none _)
      | (with_reducible refine LeO.ite ?_ ?_)
      | (with_reducible refine LeO.bind ?_ (fun _ => ?_))
      | exact ih0 _ _ _
      | exact LeO.none _
      | refine LeO.ite ?_ ?_
      | refine LeO.bind ?_ (fun _ => ?_)
theorem grafterref12_num.mono : ∀ a0 k, LeO (grafterref12_num.f k a0) (grafterref12_num.f (k + 1) a0) := by
  intro a0 k
  have ih0 := grafterref12_num.mono_l k
  unfold grafterref12_num.f
  repeat' first
      | (with_reducible exact ih0 _ _ _)
      | (with_reducible exact LeO.refl _)
      | (with_reducible exact LeO.none _)
      | (with_reducible refine LeO.ite ?_ ?_)
      | (with_reducible refine LeO.bind ?_ (fun _ => ?_))
      | exact ih0 _ _ _
      | exact LeO.none _
      | refine LeO.ite ?_ ?_
      | refine LeO.bind ?_ (fun _ => ?_)
set_option maxHeartbeats 8000000 in
set_option maxRecDepth 100000 in
theorem grafterref12_num.calls (k : Nat) (a0 : ByteArray) (r : Int) (w : World) (h : grafterref12_num.f k a0 = some r) :
    Calls Try.prog 70 #[.string a0] w fun e w' => e = .returned (.int .i64 r) ∧ Drawn0 w w' := by
  have H : (grafterref12_num.l0 k a0 0 (wrap64 ((a0.size : Int) - 1))) = some r := h
  clear h
  have H' := Aside0.mk H
  clear H
  go_enter Try.func70, Try.ntmps70
  go_wp2
  go_loopg [3, 4] k (fun kq v3 v4 w' => ∃ (x3_1 : Int) (x4_1 : Int), v3 = .int .i64 x3_1 ∧ v4 = .int .i64 x4_1 ∧ Aside0 (grafterref12_num.l0 kq a0 x3_1 x4_1 = some r) ∧ Aside0 (kq ≤ k) ∧ Drawn0 w w')
  case atStart => exact ⟨(0), (wrap64 ((a0.size : Int) - 1)), (by first | rfl | (simp; done) | (simp [*]; done)), (by first | rfl | (simp; done) | (simp [*]; done)), H', ⟨Nat.le_refl _⟩, by repeat (first | exact Drawn0.refl _ | apply Drawn0.step)⟩
  case round =>
    clear H'
    obtain ⟨x3_1, x4_1, rfl, rfl, HA, HK1, ⟨m1, rfl⟩⟩ := hrel
    cases gk with
    | zero => exact absurd HA.out (by simp [grafterref12_num.l0])
    | succ k1 =>
      have H := HA.out
      clear HA
      simp only [grafterref12_num.l0] at H
      by_cases c2 : x4_1 ≥ 0
      · rw [if_pos c2] at H
        have c2b0 : decide (0 ≤ x4_1) = true := decide_eq_true c2
        clear c2
        by_cases c3 : 0 ≤ x4_1
        · rw [if_pos c3] at H
          have c3b0 : decide (0 ≤ x4_1) = true := decide_eq_true c3
          clear c3
          by_cases c4 : x4_1 < (a0.size : Int)
          · rw [if_pos c4] at H
            have c4b0 : decide (x4_1 < (a0.size : Int)) = true := decide_eq_true c4
            clear c4
            have H' := Aside0.mk H
            clear H
            have p5 : 0 ≤ (x4_1 : Int) := of_decide_eq_true (by first | (with_reducible assumption) | assumption)
            have q5 : x4_1 < (a0.size : Int) := of_decide_eq_true (by first | (with_reducible assumption) | assumption)
            have hx5 := bt_at a0 x4_1
            replace p5 := eq_true p5
            replace q5 := eq_true q5
            go_wp2
            go_roundg k1
            case measure => have := HK1.out; omega
            case rel => exact ⟨(Go.bits .or .i64 (wrap64 (x3_1 * 256)) (wrap64 (bt a0 x4_1))), (wrap64 (x4_1 - 1)), (by first | rfl | (simp; done) | (simp [*]; done)), (by first | rfl | (simp; done) | (simp [*]; done)), H', ⟨by have := HK1.out; omega⟩, by repeat (first | exact Drawn0.refl _ | apply Drawn0.step)⟩
          · rw [if_neg c4] at H
            exact absurd H (by simp)
        · rw [if_neg c3] at H
          exact absurd H (by simp)
      · rw [if_neg c2] at H
        have c2b0 : decide (0 ≤ x4_1) = false := decide_eq_false c2
        clear c2
        obtain rfl := Option.some.inj H
        go_wp2
        go_ret
        exact ⟨by first | rfl | (simp; done) | (simp [*]; done), by repeat (first | exact Drawn0.refl _ | apply Drawn0.step)⟩

/-! ### grafterref12_GetFrame: function 25 -/
mutual
def grafterref12_GetFrame.j0 : Nat → ByteArray → Int → Bool → Option (ByteArray × Int × Int)
  | 0, _, _, _ => none
  | k + 1, x0, x1, x25 => if x25 = true then (some ((⟨#[]⟩ : ByteArray), 0, 1600)) else (if 0 ≤ x1 then (if x1 ≤ (wrap64 (x1 + 2)) then (if (wrap64 (x1 + 2)) ≤ (x0.size : Int) then ((grafterref12_num.f k (x0.extract (x1 : Int).toNat ((wrap64 (x1 + 2)) : Int).toNat)).bind fun t120 => (if t120 > 1024 then (grafterref12_GetFrame.j1 k x0 x1 t120 true) else (grafterref12_GetFrame.j1 k x0 x1 t120 (decide ((wrap64 ((x0.size : Int) - x1)) < (wrap64 (6 + t120))))))) else (none)) else (none)) else (none))
def grafterref12_GetFrame.j1 : Nat → ByteArray → Int → Int → Bool → Option (ByteArray × Int × Int)
  | 0, _, _, _, _ => none
  | k + 1, x0, x1, x7, x42 => if x42 = true then (some ((⟨#[]⟩ : ByteArray), 0, 1600)) else (if 0 ≤ (wrap64 (x1 + 2)) then (if (wrap64 (x1 + 2)) ≤ (wrap64 ((wrap64 (x1 + 2)) + x7)) then (if (wrap64 ((wrap64 (x1 + 2)) + x7)) ≤ (x0.size : Int) then ((grafterref12_PutFrame.f k (x0.extract ((wrap64 (x1 + 2)) : Int).toNat ((wrap64 ((wrap64 (x1 + 2)) + x7)) : Int).toNat)).bind fun bt121 => (if 0 ≤ x1 then (if x1 ≤ (wrap64 ((wrap64 (x1 + 6)) + x7)) then (if (wrap64 ((wrap64 (x1 + 6)) + x7)) ≤ (x0.size : Int) then (if bt121.1.toList = (x0.extract (x1 : Int).toNat ((wrap64 ((wrap64 (x1 + 6)) + x7)) : Int).toNat).toList then (some (x0.extract ((wrap64 (x1 + 2)) : Int).toNat ((wrap64 ((wrap64 (x1 + 2)) + x7)) : Int).toNat, wrap64 ((wrap64 (x1 + 6)) + x7), 0)) else (some ((⟨#[]⟩ : ByteArray), 0, 1600))) else (none)) else (none)) else (none))) else (none)) else (none)) else (none))
end
def grafterref12_GetFrame.f (k : Nat) (a0 : ByteArray) (a1 : Int) : Option (ByteArray × Int × Int) := if a1 < 0 then (grafterref12_GetFrame.j0 k a0 a1 true) else (if a1 > (a0.size : Int) then (grafterref12_GetFrame.j0 k a0 a1 true) else (grafterref12_GetFrame.j0 k a0 a1 (decide ((wrap64 ((a0.size : Int) - a1)) < 6))))
theorem grafterref12_GetFrame.mono_l : ∀ k, (∀ y0 y1 y2, LeO (grafterref12_GetFrame.j0 k y0 y1 y2) (grafterref12_GetFrame.j0 (k + 1) y0 y1 y2)) ∧ (∀ y0 y1 y2 y3, LeO (grafterref12_GetFrame.j1 k y0 y1 y2 y3) (grafterref12_GetFrame.j1 (k + 1) y0 y1 y2 y3))
  | 0 => ⟨fun _ _ _ r h => by simp [grafterref12_GetFrame.j0] at h, fun _ _ _ _ r h => by simp [grafterref12_GetFrame.j1] at h⟩
  | k + 1 => by
    obtain ⟨ih0, ih1⟩ := grafterref12_GetFrame.mono_l k
    refine ⟨?_, ?_⟩
    · intro y0 y1 y2
      unfold grafterref12_GetFrame.j0
      repeat' first
      | (with_reducible exact ih0 _ _ _)
      | (with_reducible exact ih1 _ _ _ _)
      | (with_reducible exact grafterref12_PutFrame.mono _ _)
      | (with_reducible exact grafterref12_num.mono _ _)
      | (with_reducible exact LeO.refl _)
      | (with_reducible exact LeO.none _)
      | (with_reducible refine LeO.ite ?_ ?_)
      | (with_reducible refine LeO.bind ?_ (fun _ => ?_))
      | exact ih0 _ _ _
      | exact ih1 _ _ _ _
      | exact grafterref12_PutFrame.mono _ _
      | exact grafterref12_num.mono _ _
      | exact LeO.none _
      | refine LeO.ite ?_ ?_
      | refine LeO.bind ?_ (fun _ => ?_)
    · intro y0 y1 y2 y3
      unfold grafterref12_GetFrame.j1
      repeat' first
      | (with_reducible exact ih0 _ _ _)
      | (with_reducible exact ih1 _ _ _ _)
      | (with_reducible exact grafterref12_PutFrame.mono _ _)
      | (with_reducible exact grafterref12_num.mono _ _)
      | (with_reducible exact LeO.refl _)
      | (with_reducible exact LeO.none _)
      | (with_reducible refine LeO.ite ?_ ?_)
      | (with_reducible refine LeO.bind ?_ (fun _ => ?_))
      | exact ih0 _ _ _
      | exact ih1 _ _ _ _
      | exact grafterref12_PutFrame.mono _ _
      | exact grafterref12_num.mono _ _
      | exact LeO.none _
      | refine LeO.ite ?_ ?_
      | refine LeO.bind ?_ (fun _ => ?_)
theorem grafterref12_GetFrame.mono : ∀ a0 a1 k, LeO (grafterref12_GetFrame.f k a0 a1) (grafterref12_GetFrame.f (k + 1) a0 a1) := by
  intro a0 a1 k
  obtain ⟨ih0, ih1⟩ := grafterref12_GetFrame.mono_l k
  unfold grafterref12_GetFrame.f
  repeat' first
      | (with_reducible exact ih0 _ _ _)
      | (with_reducible exact ih1 _ _ _ _)
      | (with_reducible exact grafterref12_PutFrame.mono _ _)
      | (with_reducible exact grafterref12_num.mono _ _)
      | (with_reducible exact LeO.refl _)
      | (with_reducible exact LeO.none _)
      | (with_reducible refine LeO.ite ?_ ?_)
      | (with_reducible refine LeO.bind ?_ (fun _ => ?_))
      | exact ih0 _ _ _
      | exact ih1 _ _ _ _
      | exact grafterref12_PutFrame.mono _ _
      | exact grafterref12_num.mono _ _
      | exact LeO.none _
      | refine LeO.ite ?_ ?_
      | refine LeO.bind ?_ (fun _ => ?_)
set_option maxHeartbeats 8000000 in
set_option maxRecDepth 100000 in
theorem grafterref12_GetFrame.calls (k : Nat) (a0 : ByteArray) (a1 : Int) (r1 : ByteArray) (r2 : Int) (r3 : Int) (w : World) (h : grafterref12_GetFrame.f k a0 a1 = some (r1, r2, r3)) :
    Calls Try.prog 25 #[.string a0, .int .i64 a1] w fun e w' => e = .returned (.tuple #[.string r1, .int .i64 r2, .int .i64 r3]) ∧ Below w.heap.size w w' := by
  have HB := Aside0.mk (Below.refl w.heap.size w)
  have H : (if a1 < 0 then (grafterref12_GetFrame.j0 k a0 a1 true) else (if a1 > (a0.size : Int) then (grafterref12_GetFrame.j0 k a0 a1 true) else (grafterref12_GetFrame.j0 k a0 a1 (decide ((wrap64 ((a0.size : Int) - a1)) < 6))))) = some (r1, r2, r3) := h
  clear h
  have HC3 := Aside0.mk H
  clear H
  go_enter Try.func25, Try.ntmps25
  go_upto_region 1 with (fail)
  go_cut [25] (fun v25 wc => ∃ (kq : Nat) (x25_2 : Bool), v25 = .bool x25_2 ∧ Aside0 (grafterref12_GetFrame.j0 kq a0 a1 x25_2 = some (r1, r2, r3)) ∧ Aside0 (kq ≤ k) ∧ Aside0 (Below w.heap.size w wc))
  case first =>
    have H := HC3.out
    clear HC3
    by_cases c4 : a1 < 0
    · rw [if_pos c4] at H
      have c4b0 : decide (a1 < 0) = true := decide_eq_true c4
      clear c4
      (first | rw [c4b0] | (simp only [i64_w, i32_w]; rw [c4b0]) | skip)
      have H' := Aside0.mk H
      clear H
      go_wp2
      go_meet
      case rel => exact ⟨_, (true), (by first | rfl | (simp; done) | (simp [*]; done)), H', ⟨by first | omega | exact Nat.le_refl _⟩, ⟨by repeat (first | (with_reducible first | exact HB.out | apply below_alloc | apply pw_below_drewN | apply below_drew1) | exact HB.out)⟩⟩
    · rw [if_neg c4] at H
      have c4b0 : decide (a1 < 0) = false := decide_eq_false c4
      clear c4
      (first | rw [c4b0] | (simp only [i64_w, i32_w]; rw [c4b0]) | skip)
      by_cases c5 : a1 > (a0.size : Int)
      · rw [if_pos c5] at H
        have c5b0 : decide ((a0.size : Int) < a1) = true := decide_eq_true c5
        clear c5
        have H' := Aside0.mk H
        clear H
        go_wp2
        go_meet
        case rel => exact ⟨_, (true), (by first | rfl | (simp; done) | (simp [*]; done)), H', ⟨by first | omega | exact Nat.le_refl _⟩, ⟨by repeat (first | (with_reducible first | exact HB.out | apply below_alloc | apply pw_below_drewN | apply below_drew1) | exact HB.out)⟩⟩
      · rw [if_neg c5] at H
        have c5b0 : decide ((a0.size : Int) < a1) = false := decide_eq_false c5
        clear c5
        have H' := Aside0.mk H
        clear H
        go_wp2
        go_meet
        case rel => exact ⟨_, (decide ((wrap64 ((a0.size : Int) - a1)) < 6)), (by first | rfl | (simp; done) | (simp [*]; done)), H', ⟨by first | omega | exact Nat.le_refl _⟩, ⟨by repeat (first | (with_reducible first | exact HB.out | apply below_alloc | apply pw_below_drewN | apply below_drew1) | exact HB.out)⟩⟩
  case rest =>
    clear HC3
    try clear c2
    try clear p2
    try clear c4
    try clear c4b0
    try clear c5
    try clear c5b0
    obtain ⟨kq, x25_2, rfl, HA, HJ2, HB⟩ := hcut
    cases kq with
    | zero => exact absurd HA.out (by simp [grafterref12_GetFrame.j0])
    | succ kj2 =>
      have H := HA.out
      clear HA
      simp only [grafterref12_GetFrame.j0] at H
      by_cases c6 : x25_2 = true
      · subst c6
        have H1 : (some ((⟨#[]⟩ : ByteArray), 0, 1600)) = some (r1, r2, r3) := by rw [if_pos rfl] at H; exact H
        clear H
        have H := H1
        clear H1
        simp only [Option.some.injEq, Prod.mk.injEq] at H
        obtain ⟨rfl, rfl, rfl⟩ := H
        go_wp2
        go_ret3
        exact ⟨by first | rfl | (simp [errW_none, errW_some] <;> rfl) | (simp [*, errW_none, errW_some] <;> rfl), by repeat (first | (with_reducible first | exact HB.out | apply below_alloc | apply pw_below_drewN | apply below_drew1) | exact HB.out)⟩
      · replace c6 := Bool.eq_false_iff.mpr c6
        subst c6
        have H1 : (if 0 ≤ a1 then (if a1 ≤ (wrap64 (a1 + 2)) then (if (wrap64 (a1 + 2)) ≤ (a0.size : Int) then ((grafterref12_num.f kj2 (a0.extract (a1 : Int).toNat ((wrap64 (a1 + 2)) : Int).toNat)).bind fun t120 => (if t120 > 1024 then (grafterref12_GetFrame.j1 kj2 a0 a1 t120 true) else (grafterref12_GetFrame.j1 kj2 a0 a1 t120 (decide ((wrap64 ((a0.size : Int) - a1)) < (wrap64 (6 + t120))))))) else (none)) else (none)) else (none)) = some (r1, r2, r3) := by rw [if_neg (show ¬ (false = true) by decide)] at H; exact H
        clear H
        have H := H1
        clear H1
        by_cases c7 : 0 ≤ a1
        · rw [if_pos c7] at H
          have c7b0 := eq_true c7
          have c7b1 : decide (0 ≤ a1) = true := decide_eq_true c7
          clear c7
          by_cases c8 : a1 ≤ (wrap64 (a1 + 2))
          · rw [if_pos c8] at H
            have c8b0 := eq_true c8
            have c8b1 : decide (a1 ≤ (wrap64 (a1 + 2))) = true := decide_eq_true c8
            by_cases c9 : (wrap64 (a1 + 2)) ≤ (a0.size : Int)
            · rw [if_pos c9] at H
              have c9b0 := eq_true c9
              have c9b1 : decide ((wrap64 (a1 + 2)) ≤ (a0.size : Int)) = true := decide_eq_true c9
              replace H := Option.bind_eq_some_iff.mp H
              obtain ⟨t120, A100, H⟩ := H
              replace H : (if t120 > 1024 then (grafterref12_GetFrame.j1 kj2 a0 a1 t120 true) else (grafterref12_GetFrame.j1 kj2 a0 a1 t120 (decide ((wrap64 ((a0.size : Int) - a1)) < (wrap64 (6 + t120)))))) = some (r1, r2, r3) := H
              have A10 := Aside0.mk A100
              clear A100
              have HC11 := Aside0.mk H
              clear H
              go_upto_region 4 with (first | ((with_reducible refine gate_callee (f := 70) rfl ?_); refine goesL_ (some 31) rfl rfl Try.func70 (by kernel_rfl) rfl #[.string (a0.extract (a1 : Int).toNat ((wrap64 (a1 + 2)) : Int).toNat)] rfl (by (try simp only [List.map_toArray, List.map_cons, List.map_nil]); first | done | rfl | (simp only [List.length_drop, List.length_take]; rfl)) ?_; (with_reducible refine (grafterref12_num.calls kj2 (a0.extract (a1 : Int).toNat ((wrap64 (a1 + 2)) : Int).toNat) t120 _ A10.out).mono ?_); rintro e w' ⟨rfl, ⟨nd, rfl⟩⟩; refine ⟨_, rfl, ?_⟩))
              (try simp only [Act.put, List.setIfInBounds_toArray, List.set_cons_zero, List.set_cons_succ])
              go_cut [42] (fun v42 wc => ∃ (kq : Nat) (x42_10 : Bool), v42 = .bool x42_10 ∧ Aside0 (grafterref12_GetFrame.j1 kq a0 a1 t120 x42_10 = some (r1, r2, r3)) ∧ Aside0 (kq ≤ kj2) ∧ Aside0 (Below w.heap.size w wc))
              case first =>
                have H := HC11.out
                clear HC11
                by_cases c12 : t120 > 1024
                · rw [if_pos c12] at H
                  have c12b0 : decide (1024 < t120) = true := decide_eq_true c12
                  clear c12
                  (first | rw [c12b0] | (simp only [i64_w, i32_w]; rw [c12b0]) | skip)
                  have H' := Aside0.mk H
                  clear H
                  go_wp2
                  go_meet
                  case rel => exact ⟨_, (true), (by first | rfl | (simp; done) | (simp [*]; done)), H', ⟨by have := HJ2.out; first | omega | exact Nat.le_refl _⟩, ⟨by repeat (first | (with_reducible first | exact HB.out | apply below_alloc | apply pw_below_drewN | apply below_drew1) | exact HB.out)⟩⟩
                · rw [if_neg c12] at H
                  have c12b0 : decide (1024 < t120) = false := decide_eq_false c12
                  clear c12
                  (first | rw [c12b0] | (simp only [i64_w, i32_w]; rw [c12b0]) | skip)
                  have H' := Aside0.mk H
                  clear H
                  go_wp2
                  go_meet
                  case rel => exact ⟨_, (decide ((wrap64 ((a0.size : Int) - a1)) < (wrap64 (6 + t120)))), (by first | rfl | (simp; done) | (simp [*]; done)), H', ⟨by have := HJ2.out; first | omega | exact Nat.le_refl _⟩, ⟨by repeat (first | (with_reducible first | exact HB.out | apply below_alloc | apply pw_below_drewN | apply below_drew1) | exact HB.out)⟩⟩
              case rest =>
                clear HC11
                try clear c1
                try clear c2
                try clear p2
                try clear c4
                try clear c4b0
                try clear c5
                try clear c5b0
                try clear c6
                try clear p6
                try clear c7
                try clear c7b0
                try clear c7b1
                try clear c8
                try clear c8b0
                try clear c8b1
                try clear c9
                try clear c9b0
                try clear c9b1
                try clear c12
                try clear c12b0
                try clear p2
                obtain ⟨kq, x42_10, rfl, HA, HJ10, HB⟩ := hcut
                cases kq with
                | zero => exact absurd HA.out (by simp [grafterref12_GetFrame.j1])
                | succ kj10 =>
                  have H := HA.out
                  clear HA
                  simp only [grafterref12_GetFrame.j1] at H
                  by_cases c13 : x42_10 = true
                  · subst c13
                    have H1 : (some ((⟨#[]⟩ : ByteArray), 0, 1600)) = some (r1, r2, r3) := by rw [if_pos rfl] at H; exact H
                    clear H
                    have H := H1
                    clear H1
                    simp only [Option.some.injEq, Prod.mk.injEq] at H
                    obtain ⟨rfl, rfl, rfl⟩ := H
                    go_wp2
                    go_ret3
                    exact ⟨by first | rfl | (simp [errW_none, errW_some] <;> rfl) | (simp [*, errW_none, errW_some] <;> rfl), by repeat (first | (with_reducible first | exact HB.out | apply below_alloc | apply pw_below_drewN | apply below_drew1) | exact HB.out)⟩
                  · replace c13 := Bool.eq_false_iff.mpr c13
                    subst c13
                    have H1 : (if 0 ≤ (wrap64 (a1 + 2)) then (if (wrap64 (a1 + 2)) ≤ (wrap64 ((wrap64 (a1 + 2)) + t120)) then (if (wrap64 ((wrap64 (a1 + 2)) + t120)) ≤ (a0.size : Int) then ((grafterref12_PutFrame.f kj10 (a0.extract ((wrap64 (a1 + 2)) : Int).toNat ((wrap64 ((wrap64 (a1 + 2)) + t120)) : Int).toNat)).bind fun bt121 => (if 0 ≤ a1 then (if a1 ≤ (wrap64 ((wrap64 (a1 + 6)) + t120)) then (if (wrap64 ((wrap64 (a1 + 6)) + t120)) ≤ (a0.size : Int) then (if bt121.1.toList = (a0.extract (a1 : Int).toNat ((wrap64 ((wrap64 (a1 + 6)) + t120)) : Int).toNat).toList then (some (a0.extract ((wrap64 (a1 + 2)) : Int).toNat ((wrap64 ((wrap64 (a1 + 2)) + t120)) : Int).toNat, wrap64 ((wrap64 (a1 + 6)) + t120), 0)) else (some ((⟨#[]⟩ : ByteArray), 0, 1600))) else (none)) else (none)) else (none))) else (none)) else (none)) else (none)) = some (r1, r2, r3) := by rw [if_neg (show ¬ (false = true) by decide)] at H; exact H
                    clear H
                    have H := H1
                    clear H1
                    obtain ⟨ji14, hji14⟩ : ∃ j_ : Int, (wrap64 (a1 + 2)) = j_ := ⟨_, rfl⟩
                    replace H : (if 0 ≤ (ji14) then (if (ji14) ≤ (wrap64 ((ji14) + t120)) then (if (wrap64 ((ji14) + t120)) ≤ (a0.size : Int) then ((grafterref12_PutFrame.f kj10 (a0.extract ((ji14) : Int).toNat ((wrap64 ((ji14) + t120)) : Int).toNat)).bind fun bt121 => (if 0 ≤ a1 then (if a1 ≤ (wrap64 ((wrap64 (a1 + 6)) + t120)) then (if (wrap64 ((wrap64 (a1 + 6)) + t120)) ≤ (a0.size : Int) then (if bt121.1.toList = (a0.extract (a1 : Int).toNat ((wrap64 ((wrap64 (a1 + 6)) + t120)) : Int).toNat).toList then (some (a0.extract ((ji14) : Int).toNat ((wrap64 ((ji14) + t120)) : Int).toNat, wrap64 ((wrap64 (a1 + 6)) + t120), 0)) else (some ((⟨#[]⟩ : ByteArray), 0, 1600))) else (none)) else (none)) else (none))) else (none)) else (none)) else (none)) = some (r1, r2, r3) := by first | (rw [hji14] at H; exact H) | (simp only [hji14] at H ⊢; exact H)
                    (try rw [hji14] at c8b0)
                    (try rw [hji14] at c8b1)
                    (try rw [hji14] at c8)
                    (try rw [hji14] at c9b0)
                    (try rw [hji14] at c9b1)
                    (try rw [hji14] at c9)
                    have hji14w : (IntKind.i64.wrap (a1 + 2)) = ji14 := (i64_w _).trans hji14
                    by_cases c15 : 0 ≤ (ji14)
                    · rw [if_pos c15] at H
                      have c15b0 := eq_true c15
                      have c15b1 : decide (0 ≤ (ji14)) = true := decide_eq_true c15
                      clear c15
                      by_cases c16 : (ji14) ≤ (wrap64 ((ji14) + t120))
                      · rw [if_pos c16] at H
                        have c16b0 := eq_true c16
                        have c16b1 : decide ((ji14) ≤ (wrap64 ((ji14) + t120))) = true := decide_eq_true c16
                        by_cases c17 : (wrap64 ((ji14) + t120)) ≤ (a0.size : Int)
                        · rw [if_pos c17] at H
                          have c17b0 := eq_true c17
                          have c17b1 : decide ((wrap64 ((ji14) + t120)) ≤ (a0.size : Int)) = true := decide_eq_true c17
                          replace H := Option.bind_eq_some_iff.mp H
                          obtain ⟨⟨t121, t122⟩, A180, H⟩ := H
                          replace H : (if 0 ≤ a1 then (if a1 ≤ (wrap64 ((wrap64 (a1 + 6)) + t120)) then (if (wrap64 ((wrap64 (a1 + 6)) + t120)) ≤ (a0.size : Int) then (if t121.toList = (a0.extract (a1 : Int).toNat ((wrap64 ((wrap64 (a1 + 6)) + t120)) : Int).toNat).toList then (some (a0.extract ((ji14) : Int).toNat ((wrap64 ((ji14) + t120)) : Int).toNat, wrap64 ((wrap64 (a1 + 6)) + t120), 0)) else (some ((⟨#[]⟩ : ByteArray), 0, 1600))) else (none)) else (none)) else (none)) = some (r1, r2, r3) := H
                          have A18 := Aside0.mk A180
                          clear A180
                          by_cases c19 : 0 ≤ a1
                          · rw [if_pos c19] at H
                            have c19b0 := eq_true c19
                            have c19b1 : decide (0 ≤ a1) = true := decide_eq_true c19
                            clear c19
                            by_cases c20 : a1 ≤ (wrap64 ((wrap64 (a1 + 6)) + t120))
                            · rw [if_pos c20] at H
                              have c20b0 := eq_true c20
                              have c20b1 : decide (a1 ≤ (wrap64 ((wrap64 (a1 + 6)) + t120))) = true := decide_eq_true c20
                              by_cases c21 : (wrap64 ((wrap64 (a1 + 6)) + t120)) ≤ (a0.size : Int)
                              · rw [if_pos c21] at H
                                have c21b0 := eq_true c21
                                have c21b1 : decide ((wrap64 ((wrap64 (a1 + 6)) + t120)) ≤ (a0.size : Int)) = true := decide_eq_true c21
                                by_cases c22 : t121.toList = (a0.extract (a1 : Int).toNat ((wrap64 ((wrap64 (a1 + 6)) + t120)) : Int).toNat).toList
                                · rw [if_pos c22] at H
                                  have c22b0 : (t121.toList == (a0.extract (a1 : Int).toNat ((wrap64 ((wrap64 (a1 + 6)) + t120)) : Int).toNat).toList) = true := beq_iff_eq.mpr c22
                                  have c22b1 : (t121.toList != (a0.extract (a1 : Int).toNat ((wrap64 ((wrap64 (a1 + 6)) + t120)) : Int).toNat).toList) = false := bne_eq_false_iff_eq.mpr c22
                                  clear c22
                                  simp only [Option.some.injEq, Prod.mk.injEq] at H
                                  obtain ⟨rfl, rfl, rfl⟩ := H
                                  go_wp2_with (first | ((with_reducible refine gate_callee (f := 23) rfl ?_); refine goesL_ (some 53) rfl rfl Try.func23 (by kernel_rfl) rfl #[.string (a0.extract ((ji14) : Int).toNat ((wrap64 ((ji14) + t120)) : Int).toNat)] rfl (by (try simp only [List.map_toArray, List.map_cons, List.map_nil]); first | done | (simp only [hji14]; rfl) | rfl | (simp only [List.length_drop, List.length_take]; rfl)) ?_; (with_reducible refine (grafterref12_PutFrame.calls kj10 (a0.extract ((ji14) : Int).toNat ((wrap64 ((ji14) + t120)) : Int).toNat) t121 t122 _ A18.out).mono ?_); rintro e w23 ⟨rfl, hb⟩; refine ⟨_, rfl, ?_⟩; have n0_ := Aside0.mk (below_step (by repeat (first | (with_reducible first | exact HB.out | apply below_alloc | apply pw_below_drewN | apply below_drew1) | exact HB.out)) hb); clear HB; have HB := n0_; clear n0_; (try clear hb); (try clear hb2); (try clear hk); (try clear hi)))
                                  all_goals go_ret3
                                  all_goals exact ⟨by first | (simp only [← hji14_]; split <;> first | (exfalso; omega) | (simp [ByteArray.extract_zero_size]; done) | (simp [ByteArray.extract_zero_size, *]; done)) | rfl | (simp [errW_none, errW_some] <;> rfl) | (simp only [← hji14]; first | rfl | (simp [errW_none, errW_some] <;> rfl)) | (simp [*, errW_none, errW_some] <;> rfl), by repeat (first | (with_reducible first | exact HB.out | apply below_alloc | apply pw_below_drewN | apply below_drew1) | exact HB.out)⟩
                                · rw [if_neg c22] at H
                                  have c22b0 : (t121.toList == (a0.extract (a1 : Int).toNat ((wrap64 ((wrap64 (a1 + 6)) + t120)) : Int).toNat).toList) = false := beq_eq_false_iff_ne.mpr c22
                                  have c22b1 : (t121.toList != (a0.extract (a1 : Int).toNat ((wrap64 ((wrap64 (a1 + 6)) + t120)) : Int).toNat).toList) = true := bne_iff_ne.mpr c22
                                  simp only [Option.some.injEq, Prod.mk.injEq] at H
                                  obtain ⟨rfl, rfl, rfl⟩ := H
                                  go_wp2_with (first | ((with_reducible refine gate_callee (f := 23) rfl ?_); refine goesL_ (some 53) rfl rfl Try.func23 (by kernel_rfl) rfl #[.string (a0.extract ((ji14) : Int).toNat ((wrap64 ((ji14) + t120)) : Int).toNat)] rfl (by (try simp only [List.map_toArray, List.map_cons, List.map_nil]); first | done | (simp only [hji14]; rfl) | rfl | (simp only [List.length_drop, List.length_take]; rfl)) ?_; (with_reducible refine (grafterref12_PutFrame.calls kj10 (a0.extract ((ji14) : Int).toNat ((wrap64 ((ji14) + t120)) : Int).toNat) t121 t122 _ A18.out).mono ?_); rintro e w24 ⟨rfl, hb⟩; refine ⟨_, rfl, ?_⟩; have n0_ := Aside0.mk (below_step (by repeat (first | (with_reducible first | exact HB.out | apply below_alloc | apply pw_below_drewN | apply below_drew1) | exact HB.out)) hb); clear HB; have HB := n0_; clear n0_; (try clear hb); (try clear hb2); (try clear hk); (try clear hi)))
                                  all_goals go_ret3
                                  all_goals exact ⟨by first | (simp only [← hji14_]; split <;> first | (exfalso; omega) | (simp [ByteArray.extract_zero_size]; done) | (simp [ByteArray.extract_zero_size, *]; done)) | rfl | (simp [errW_none, errW_some] <;> rfl) | (simp only [← hji14]; first | rfl | (simp [errW_none, errW_some] <;> rfl)) | (simp [*, errW_none, errW_some] <;> rfl), by repeat (first | (with_reducible first | exact HB.out | apply below_alloc | apply pw_below_drewN | apply below_drew1) | exact HB.out)⟩
                              · rw [if_neg c21] at H
                                exact absurd H (by simp)
                            · rw [if_neg c20] at H
                              exact absurd H (by simp)
                          · rw [if_neg c19] at H
                            exact absurd H (by simp)
                        · rw [if_neg c17] at H
                          exact absurd H (by simp)
                      · rw [if_neg c16] at H
                        exact absurd H (by simp)
                    · rw [if_neg c15] at H
                      exact absurd H (by simp)
            · rw [if_neg c9] at H
              exact absurd H (by simp)
          · rw [if_neg c8] at H
            exact absurd H (by simp)
        · rw [if_neg c7] at H
          exact absurd H (by simp)

/-! ### grafterlaw0_Num: function 26 -/
def grafterlaw0_Num.f (a0 : Int) : Option (Int) := some a0
set_option maxHeartbeats 8000000 in
set_option maxRecDepth 100000 in
theorem grafterlaw0_Num.calls (a0 : Int) (r : Int) (w : World) (h : grafterlaw0_Num.f a0 = some r) :
    Calls Try.prog 26 #[.int .i64 a0] w fun e w' => e = .returned (.int .i64 r) ∧ Drawn0 w w' := by
  have H : (some a0) = some r := h
  clear h
  obtain rfl := Option.some.inj H
  go_enter Try.func26, Try.ntmps26
  go_wp2
  go_ret
  exact ⟨by first | rfl | (simp; done) | (simp [*]; done), by repeat (first | exact Drawn0.refl _ | apply Drawn0.step)⟩

/-! ### grafterlaw16_awake: function 27 -/
def grafterlaw16_awake.f (k : Nat)  : Option (Bool) := (frame_Put.f k (⟨#[49]⟩ : ByteArray)).bind fun bt123 => (if 1 + bt123.1.size ≤ 9223372036854775807 then (if ((⟨#[63]⟩ : ByteArray) ++ bt123.1).size + 1 ≤ 9223372036854775807 then ((frame_Get.f k (((⟨#[63]⟩ : ByteArray) ++ bt123.1) ++ (⟨#[63]⟩ : ByteArray)) 1).bind fun bt125 => ((frame_Get.f k bt123.1 1).bind fun bt128 => ((frame_Get.f k bt123.1 (-1)).bind fun bt131 => (if (bt123.1.size : Int) = 7 then ((grafterlaw0_Num.f bt123.2).bind fun t134 => (if t134 = 0 then (if bt125.1.toList = ([49] : List UInt8) then (if bt125.2.1 = 8 then ((grafterlaw0_Num.f bt125.2.2).bind fun t135 => (if t135 = 0 then ((grafterlaw0_Num.f bt128.2.2).bind fun t136 => (if t136 = 1600 then ((grafterlaw0_Num.f bt131.2.2).bind fun t137 => (some (t137 == 1600))) else (some false))) else (some false))) else (some false)) else (some false)) else (some false))) else (some false))))) else (none)) else (none))
theorem grafterlaw16_awake.mono : ∀ k, LeO (grafterlaw16_awake.f k ) (grafterlaw16_awake.f (k + 1) ) := by
  intro  k
  unfold grafterlaw16_awake.f
  repeat' first
      | (with_reducible exact frame_Get.mono _ _ _)
      | (with_reducible exact frame_Put.mono _ _)
      | (with_reducible exact LeO.refl _)
      | (with_reducible exact LeO.none _)
      | (with_reducible refine LeO.ite ?_ ?_)
      | (with_reducible refine LeO.bind ?_ (fun _ => ?_))
      | exact frame_Get.mono _ _ _
      | exact frame_Put.mono _ _
      | exact LeO.none _
      | refine LeO.ite ?_ ?_
      | refine LeO.bind ?_ (fun _ => ?_)
set_option maxHeartbeats 8000000 in
set_option maxRecDepth 100000 in
theorem grafterlaw16_awake.calls (k : Nat)  (r : Bool) (w : World) (hrt : r = true) (h : grafterlaw16_awake.f k  = some r) :
    Calls Try.prog 27 #[] w fun e w' => e = .returned (.bool r) ∧ Below w.heap.size w w' := by
  have HRT := Aside0.mk hrt
  clear hrt
  have HB := Aside0.mk (Below.refl w.heap.size w)
  have H : ((frame_Put.f k (⟨#[49]⟩ : ByteArray)).bind fun bt123 => (if 1 + bt123.1.size ≤ 9223372036854775807 then (if ((⟨#[63]⟩ : ByteArray) ++ bt123.1).size + 1 ≤ 9223372036854775807 then ((frame_Get.f k (((⟨#[63]⟩ : ByteArray) ++ bt123.1) ++ (⟨#[63]⟩ : ByteArray)) 1).bind fun bt125 => ((frame_Get.f k bt123.1 1).bind fun bt128 => ((frame_Get.f k bt123.1 (-1)).bind fun bt131 => (if (bt123.1.size : Int) = 7 then ((grafterlaw0_Num.f bt123.2).bind fun t134 => (if t134 = 0 then (if bt125.1.toList = ([49] : List UInt8) then (if bt125.2.1 = 8 then ((grafterlaw0_Num.f bt125.2.2).bind fun t135 => (if t135 = 0 then ((grafterlaw0_Num.f bt128.2.2).bind fun t136 => (if t136 = 1600 then ((grafterlaw0_Num.f bt131.2.2).bind fun t137 => (some (t137 == 1600))) else (some false))) else (some false))) else (some false)) else (some false)) else (some false))) else (some false))))) else (none)) else (none))) = some r := h
  clear h
  replace H := Option.bind_eq_some_iff.mp H
  obtain ⟨⟨t123, t124⟩, A10, H⟩ := H
  replace H : (if 1 + t123.size ≤ 9223372036854775807 then (if ((⟨#[63]⟩ : ByteArray) ++ t123).size + 1 ≤ 9223372036854775807 then ((frame_Get.f k (((⟨#[63]⟩ : ByteArray) ++ t123) ++ (⟨#[63]⟩ : ByteArray)) 1).bind fun bt125 => ((frame_Get.f k t123 1).bind fun bt128 => ((frame_Get.f k t123 (-1)).bind fun bt131 => (if (t123.size : Int) = 7 then ((grafterlaw0_Num.f t124).bind fun t134 => (if t134 = 0 then (if bt125.1.toList = ([49] : List UInt8) then (if bt125.2.1 = 8 then ((grafterlaw0_Num.f bt125.2.2).bind fun t135 => (if t135 = 0 then ((grafterlaw0_Num.f bt128.2.2).bind fun t136 => (if t136 = 1600 then ((grafterlaw0_Num.f bt131.2.2).bind fun t137 => (some (t137 == 1600))) else (some false))) else (some false))) else (some false)) else (some false)) else (some false))) else (some false))))) else (none)) else (none)) = some r := H
  have A1 := Aside0.mk A10
  clear A10
  by_cases c2 : 1 + t123.size ≤ 9223372036854775807
  · rw [if_pos c2] at H
    have c2b0 := eq_true c2
    have c2b1 : decide (1 + t123.size ≤ 9223372036854775807) = true := decide_eq_true c2
    try have c2b2 : (9223372036854775807 < 1 + t123.size) = False := eq_false (Nat.not_lt.2 c2)
    try simp only [ByteArray.size_append] at c2b2
    by_cases c3 : ((⟨#[63]⟩ : ByteArray) ++ t123).size + 1 ≤ 9223372036854775807
    · rw [if_pos c3] at H
      have c3b0 := eq_true c3
      have c3b1 : decide (((⟨#[63]⟩ : ByteArray) ++ t123).size + 1 ≤ 9223372036854775807) = true := decide_eq_true c3
      try have c3b2 : (9223372036854775807 < ((⟨#[63]⟩ : ByteArray) ++ t123).size + 1) = False := eq_false (Nat.not_lt.2 c3)
      try simp only [ByteArray.size_append] at c3b2
      try have c3b3 : (9223372036854775807 < 1 + t123.size + 1) = False := c3b2
      replace H := Option.bind_eq_some_iff.mp H
      obtain ⟨⟨t125, t126, t127⟩, A40, H⟩ := H
      replace H : ((frame_Get.f k t123 1).bind fun bt128 => ((frame_Get.f k t123 (-1)).bind fun bt131 => (if (t123.size : Int) = 7 then ((grafterlaw0_Num.f t124).bind fun t134 => (if t134 = 0 then (if t125.toList = ([49] : List UInt8) then (if t126 = 8 then ((grafterlaw0_Num.f t127).bind fun t135 => (if t135 = 0 then ((grafterlaw0_Num.f bt128.2.2).bind fun t136 => (if t136 = 1600 then ((grafterlaw0_Num.f bt131.2.2).bind fun t137 => (some (t137 == 1600))) else (some false))) else (some false))) else (some false)) else (some false)) else (some false))) else (some false)))) = some r := H
      have A4 := Aside0.mk A40
      clear A40
      replace H := Option.bind_eq_some_iff.mp H
      obtain ⟨⟨t128, t129, t130⟩, A50, H⟩ := H
      replace H : ((frame_Get.f k t123 (-1)).bind fun bt131 => (if (t123.size : Int) = 7 then ((grafterlaw0_Num.f t124).bind fun t134 => (if t134 = 0 then (if t125.toList = ([49] : List UInt8) then (if t126 = 8 then ((grafterlaw0_Num.f t127).bind fun t135 => (if t135 = 0 then ((grafterlaw0_Num.f t130).bind fun t136 => (if t136 = 1600 then ((grafterlaw0_Num.f bt131.2.2).bind fun t137 => (some (t137 == 1600))) else (some false))) else (some false))) else (some false)) else (some false)) else (some false))) else (some false))) = some r := H
      have A5 := Aside0.mk A50
      clear A50
      replace H := Option.bind_eq_some_iff.mp H
      obtain ⟨⟨t131, t132, t133⟩, A60, H⟩ := H
      replace H : (if (t123.size : Int) = 7 then ((grafterlaw0_Num.f t124).bind fun t134 => (if t134 = 0 then (if t125.toList = ([49] : List UInt8) then (if t126 = 8 then ((grafterlaw0_Num.f t127).bind fun t135 => (if t135 = 0 then ((grafterlaw0_Num.f t130).bind fun t136 => (if t136 = 1600 then ((grafterlaw0_Num.f t133).bind fun t137 => (some (t137 == 1600))) else (some false))) else (some false))) else (some false)) else (some false)) else (some false))) else (some false)) = some r := H
      have A6 := Aside0.mk A60
      clear A60
      by_cases c7 : (t123.size : Int) = 7
      · rw [if_pos c7] at H
        have c7b0 : ((t123.size : Int) == 7) = true := beq_iff_eq.mpr c7
        have c7b1 : ((t123.size : Int) != 7) = false := bne_eq_false_iff_eq.mpr c7
        clear c7
        replace H := Option.bind_eq_some_iff.mp H
        obtain ⟨t134, A80, H⟩ := H
        replace H : (if t134 = 0 then (if t125.toList = ([49] : List UInt8) then (if t126 = 8 then ((grafterlaw0_Num.f t127).bind fun t135 => (if t135 = 0 then ((grafterlaw0_Num.f t130).bind fun t136 => (if t136 = 1600 then ((grafterlaw0_Num.f t133).bind fun t137 => (some (t137 == 1600))) else (some false))) else (some false))) else (some false)) else (some false)) else (some false)) = some r := H
        have A8 := Aside0.mk A80
        clear A80
        by_cases c9 : t134 = 0
        · rw [if_pos c9] at H
          have c9b0 : (t134 == 0) = true := beq_iff_eq.mpr c9
          have c9b1 : (t134 != 0) = false := bne_eq_false_iff_eq.mpr c9
          clear c9
          by_cases c10 : t125.toList = ([49] : List UInt8)
          · rw [if_pos c10] at H
            have c10b0 : (t125.toList == ([49] : List UInt8)) = true := beq_iff_eq.mpr c10
            have c10b1 : (t125.toList != ([49] : List UInt8)) = false := bne_eq_false_iff_eq.mpr c10
            clear c10
            by_cases c11 : t126 = 8
            · rw [if_pos c11] at H
              have c11b0 : (t126 == 8) = true := beq_iff_eq.mpr c11
              have c11b1 : (t126 != 8) = false := bne_eq_false_iff_eq.mpr c11
              clear c11
              replace H := Option.bind_eq_some_iff.mp H
              obtain ⟨t135, A120, H⟩ := H
              replace H : (if t135 = 0 then ((grafterlaw0_Num.f t130).bind fun t136 => (if t136 = 1600 then ((grafterlaw0_Num.f t133).bind fun t137 => (some (t137 == 1600))) else (some false))) else (some false)) = some r := H
              have A12 := Aside0.mk A120
              clear A120
              by_cases c13 : t135 = 0
              · rw [if_pos c13] at H
                have c13b0 : (t135 == 0) = true := beq_iff_eq.mpr c13
                have c13b1 : (t135 != 0) = false := bne_eq_false_iff_eq.mpr c13
                clear c13
                replace H := Option.bind_eq_some_iff.mp H
                obtain ⟨t136, A140, H⟩ := H
                replace H : (if t136 = 1600 then ((grafterlaw0_Num.f t133).bind fun t137 => (some (t137 == 1600))) else (some false)) = some r := H
                have A14 := Aside0.mk A140
                clear A140
                by_cases c15 : t136 = 1600
                · rw [if_pos c15] at H
                  have c15b0 : (t136 == 1600) = true := beq_iff_eq.mpr c15
                  have c15b1 : (t136 != 1600) = false := bne_eq_false_iff_eq.mpr c15
                  clear c15
                  replace H := Option.bind_eq_some_iff.mp H
                  obtain ⟨t137, A160, H⟩ := H
                  replace H : (some (t137 == 1600)) = some r := H
                  have A16 := Aside0.mk A160
                  clear A160
                  obtain rfl := Option.some.inj H
                  go_enter Try.func27, Try.ntmps27
                  go_wp2_with (first | ((with_reducible refine gate_callee (f := 22) rfl ?_); refine goesL_ (some 13) rfl rfl Try.func22 (by kernel_rfl) rfl #[.string (⟨#[49]⟩ : ByteArray)] rfl (by (try simp only [List.map_toArray, List.map_cons, List.map_nil]); first | done | rfl | (simp only [List.length_drop, List.length_take]; rfl)) ?_; (with_reducible refine (frame_Put.calls k (⟨#[49]⟩ : ByteArray) t123 t124 _ A1.out).mono ?_); rintro e w17 ⟨rfl, hb⟩; refine ⟨_, rfl, ?_⟩; have n0_ := Aside0.mk (below_step (by repeat (first | (with_reducible first | exact HB.out | apply below_alloc | apply pw_below_drewN | apply below_drew1) | exact HB.out)) hb); clear HB; have HB := n0_; clear n0_; (try clear hb); (try clear hb2); (try clear hk); (try clear hi)) | ((with_reducible refine gate_callee (f := 24) rfl ?_); refine goesL_ (some 20) rfl rfl Try.func24 (by kernel_rfl) rfl #[.string (((⟨#[63]⟩ : ByteArray) ++ t123) ++ (⟨#[63]⟩ : ByteArray)), .int .i64 1] rfl (by (try simp only [List.map_toArray, List.map_cons, List.map_nil]); first | done | rfl | (simp only [List.length_drop, List.length_take]; rfl)) ?_; (with_reducible refine (frame_Get.calls k (((⟨#[63]⟩ : ByteArray) ++ t123) ++ (⟨#[63]⟩ : ByteArray)) 1 t125 t126 t127 _ A4.out).mono ?_); rintro e w18 ⟨rfl, hb⟩; refine ⟨_, rfl, ?_⟩; have n0_ := Aside0.mk (below_step (by repeat (first | (with_reducible first | exact HB.out | apply below_alloc | apply pw_below_drewN | apply below_drew1) | exact HB.out)) hb); clear HB; have HB := n0_; clear n0_; (try clear hb); (try clear hb2); (try clear hk); (try clear hi); (try clear A4)) | ((with_reducible refine gate_callee (f := 24) rfl ?_); refine goesL_ (some 26) rfl rfl Try.func24 (by kernel_rfl) rfl #[.string t123, .int .i64 1] rfl (by (try simp only [List.map_toArray, List.map_cons, List.map_nil]); first | done | rfl | (simp only [List.length_drop, List.length_take]; rfl)) ?_; (with_reducible refine (frame_Get.calls k t123 1 t128 t129 t130 _ A5.out).mono ?_); rintro e w19 ⟨rfl, hb⟩; refine ⟨_, rfl, ?_⟩; have n0_ := Aside0.mk (below_step (by repeat (first | (with_reducible first | exact HB.out | apply below_alloc | apply pw_below_drewN | apply below_drew1) | exact HB.out)) hb); clear HB; have HB := n0_; clear n0_; (try clear hb); (try clear hb2); (try clear hk); (try clear hi); (try clear A5)) | ((with_reducible refine gate_callee (f := 24) rfl ?_); refine goesL_ (some 32) rfl rfl Try.func24 (by kernel_rfl) rfl #[.string t123, .int .i64 (-1)] rfl (by (try simp only [List.map_toArray, List.map_cons, List.map_nil]); first | done | rfl | (simp only [List.length_drop, List.length_take]; rfl)) ?_; (with_reducible refine (frame_Get.calls k t123 (-1) t131 t132 t133 _ A6.out).mono ?_); rintro e w20 ⟨rfl, hb⟩; refine ⟨_, rfl, ?_⟩; have n0_ := Aside0.mk (below_step (by repeat (first | (with_reducible first | exact HB.out | apply below_alloc | apply pw_below_drewN | apply below_drew1) | exact HB.out)) hb); clear HB; have HB := n0_; clear n0_; (try clear hb); (try clear hb2); (try clear hk); (try clear hi); (try clear A6)) | (go_at_call 26; (with_reducible refine (grafterlaw0_Num.calls t124 t134 _ A8.out).mono ?_); rintro e w' ⟨rfl, ⟨nd, rfl⟩⟩; (try clear A8)) | (go_at_call 26; (with_reducible refine (grafterlaw0_Num.calls t127 t135 _ A12.out).mono ?_); rintro e w' ⟨rfl, ⟨nd, rfl⟩⟩; (try clear A12)) | (go_at_call 26; (with_reducible refine (grafterlaw0_Num.calls t130 t136 _ A14.out).mono ?_); rintro e w' ⟨rfl, ⟨nd, rfl⟩⟩; (try clear A14)) | (go_at_call 26; (with_reducible refine (grafterlaw0_Num.calls t133 t137 _ A16.out).mono ?_); rintro e w' ⟨rfl, ⟨nd, rfl⟩⟩; (try clear A16)))
                  go_ret
                  exact ⟨by first | rfl | (simp [errW_none, errW_some] <;> rfl) | (simp [*, errW_none, errW_some] <;> rfl), by repeat (first | (with_reducible first | exact HB.out | apply below_alloc | apply pw_below_drewN | apply below_drew1) | exact HB.out)⟩
                · rw [if_neg c15] at H
                  have c15b0 : (t136 == 1600) = false := beq_eq_false_iff_ne.mpr c15
                  have c15b1 : (t136 != 1600) = true := bne_iff_ne.mpr c15
                  exact absurd ((Option.some.inj H).trans HRT.out) Bool.false_ne_true
              · rw [if_neg c13] at H
                have c13b0 : (t135 == 0) = false := beq_eq_false_iff_ne.mpr c13
                have c13b1 : (t135 != 0) = true := bne_iff_ne.mpr c13
                exact absurd ((Option.some.inj H).trans HRT.out) Bool.false_ne_true
            · rw [if_neg c11] at H
              have c11b0 : (t126 == 8) = false := beq_eq_false_iff_ne.mpr c11
              have c11b1 : (t126 != 8) = true := bne_iff_ne.mpr c11
              exact absurd ((Option.some.inj H).trans HRT.out) Bool.false_ne_true
          · rw [if_neg c10] at H
            have c10b0 : (t125.toList == ([49] : List UInt8)) = false := beq_eq_false_iff_ne.mpr c10
            have c10b1 : (t125.toList != ([49] : List UInt8)) = true := bne_iff_ne.mpr c10
            exact absurd ((Option.some.inj H).trans HRT.out) Bool.false_ne_true
        · rw [if_neg c9] at H
          have c9b0 : (t134 == 0) = false := beq_eq_false_iff_ne.mpr c9
          have c9b1 : (t134 != 0) = true := bne_iff_ne.mpr c9
          exact absurd ((Option.some.inj H).trans HRT.out) Bool.false_ne_true
      · rw [if_neg c7] at H
        have c7b0 : ((t123.size : Int) == 7) = false := beq_eq_false_iff_ne.mpr c7
        have c7b1 : ((t123.size : Int) != 7) = true := bne_iff_ne.mpr c7
        exact absurd ((Option.some.inj H).trans HRT.out) Bool.false_ne_true
    · rw [if_neg c3] at H
      exact absurd H (by simp)
  · rw [if_neg c2] at H
    exact absurd H (by simp)

/-! ### grafterlaw16_Frames: function 3 -/
def grafterlaw16_Frames.f (k : Nat) (a0 : ByteArray) (a1 : ByteArray) (a2 : Int) : Option (Bool) := (frame_Put.f k a0).bind fun bt138 => ((grafterref12_PutFrame.f k a0).bind fun bt140 => ((frame_Get.f k a1 a2).bind fun bt142 => ((grafterref12_GetFrame.f k a1 a2).bind fun bt145 => ((frame_Get.f k bt138.1 0).bind fun bt148 => (if bt138.1.toList = bt140.1.toList then ((grafterlaw0_Num.f bt138.2).bind fun t151 => (if t151 = bt140.2 then (if bt142.1.toList = bt145.1.toList then (if bt142.2.1 = bt145.2.1 then ((grafterlaw0_Num.f bt142.2.2).bind fun t152 => (if t152 = bt145.2.2 then ((grafterlaw0_Num.f bt138.2).bind fun t153 => (if t153 = 0 then (if bt148.1.toList = a0.toList then (if bt148.2.1 = (bt138.1.size : Int) then ((grafterlaw0_Num.f bt148.2.2).bind fun t154 => (if t154 = 0 then ((grafterlaw16_awake.f k).bind fun t155 => (some t155)) else (some false))) else (some false)) else (some false)) else ((grafterlaw16_awake.f k).bind fun t156 => (some t156)))) else (some false))) else (some false)) else (some false)) else (some false))) else (some false))))))
theorem grafterlaw16_Frames.mono : ∀ a0 a1 a2 k, LeO (grafterlaw16_Frames.f k a0 a1 a2) (grafterlaw16_Frames.f (k + 1) a0 a1 a2) := by
  intro a0 a1 a2 k
  unfold grafterlaw16_Frames.f
  repeat' first
      | (with_reducible exact frame_Get.mono _ _ _)
      | (with_reducible exact frame_Put.mono _ _)
      | (with_reducible exact grafterlaw16_awake.mono _)
      | (with_reducible exact grafterref12_GetFrame.mono _ _ _)
      | (with_reducible exact grafterref12_PutFrame.mono _ _)
      | (with_reducible exact LeO.refl _)
      | (with_reducible exact LeO.none _)
      | (with_reducible refine LeO.ite ?_ ?_)
      | (with_reducible refine LeO.bind ?_ (fun _ => ?_))
      | exact frame_Get.mono _ _ _
      | exact frame_Put.mono _ _
      | exact grafterlaw16_awake.mono _
      | exact grafterref12_GetFrame.mono _ _ _
      | exact grafterref12_PutFrame.mono _ _
      | exact LeO.none _
      | refine LeO.ite ?_ ?_
      | refine LeO.bind ?_ (fun _ => ?_)
set_option maxHeartbeats 8000000 in
set_option maxRecDepth 100000 in
theorem grafterlaw16_Frames.calls (k : Nat) (a0 : ByteArray) (a1 : ByteArray) (a2 : Int) (r : Bool) (w : World) (hrt : r = true) (h : grafterlaw16_Frames.f k a0 a1 a2 = some r) :
    Calls Try.prog 3 #[.string a0, .string a1, .int .i64 a2] w fun e w' => e = .returned (.bool r) ∧ Below w.heap.size w w' := by
  have HRT := Aside0.mk hrt
  clear hrt
  have HB := Aside0.mk (Below.refl w.heap.size w)
  have H : ((frame_Put.f k a0).bind fun bt138 => ((grafterref12_PutFrame.f k a0).bind fun bt140 => ((frame_Get.f k a1 a2).bind fun bt142 => ((grafterref12_GetFrame.f k a1 a2).bind fun bt145 => ((frame_Get.f k bt138.1 0).bind fun bt148 => (if bt138.1.toList = bt140.1.toList then ((grafterlaw0_Num.f bt138.2).bind fun t151 => (if t151 = bt140.2 then (if bt142.1.toList = bt145.1.toList then (if bt142.2.1 = bt145.2.1 then ((grafterlaw0_Num.f bt142.2.2).bind fun t152 => (if t152 = bt145.2.2 then ((grafterlaw0_Num.f bt138.2).bind fun t153 => (if t153 = 0 then (if bt148.1.toList = a0.toList then (if bt148.2.1 = (bt138.1.size : Int) then ((grafterlaw0_Num.f bt148.2.2).bind fun t154 => (if t154 = 0 then ((grafterlaw16_awake.f k).bind fun t155 => (some t155)) else (some false))) else (some false)) else (some false)) else ((grafterlaw16_awake.f k).bind fun t156 => (some t156)))) else (some false))) else (some false)) else (some false)) else (some false))) else (some false))))))) = some r := h
  clear h
  replace H := Option.bind_eq_some_iff.mp H
  obtain ⟨⟨t138, t139⟩, A40, H⟩ := H
  replace H : ((grafterref12_PutFrame.f k a0).bind fun bt140 => ((frame_Get.f k a1 a2).bind fun bt142 => ((grafterref12_GetFrame.f k a1 a2).bind fun bt145 => ((frame_Get.f k t138 0).bind fun bt148 => (if t138.toList = bt140.1.toList then ((grafterlaw0_Num.f t139).bind fun t151 => (if t151 = bt140.2 then (if bt142.1.toList = bt145.1.toList then (if bt142.2.1 = bt145.2.1 then ((grafterlaw0_Num.f bt142.2.2).bind fun t152 => (if t152 = bt145.2.2 then ((grafterlaw0_Num.f t139).bind fun t153 => (if t153 = 0 then (if bt148.1.toList = a0.toList then (if bt148.2.1 = (t138.size : Int) then ((grafterlaw0_Num.f bt148.2.2).bind fun t154 => (if t154 = 0 then ((grafterlaw16_awake.f k).bind fun t155 => (some t155)) else (some false))) else (some false)) else (some false)) else ((grafterlaw16_awake.f k).bind fun t156 => (some t156)))) else (some false))) else (some false)) else (some false)) else (some false))) else (some false)))))) = some r := H
  have A4 := Aside0.mk A40
  clear A40
  replace H := Option.bind_eq_some_iff.mp H
  obtain ⟨⟨t140, t141⟩, A50, H⟩ := H
  replace H : ((frame_Get.f k a1 a2).bind fun bt142 => ((grafterref12_GetFrame.f k a1 a2).bind fun bt145 => ((frame_Get.f k t138 0).bind fun bt148 => (if t138.toList = t140.toList then ((grafterlaw0_Num.f t139).bind fun t151 => (if t151 = t141 then (if bt142.1.toList = bt145.1.toList then (if bt142.2.1 = bt145.2.1 then ((grafterlaw0_Num.f bt142.2.2).bind fun t152 => (if t152 = bt145.2.2 then ((grafterlaw0_Num.f t139).bind fun t153 => (if t153 = 0 then (if bt148.1.toList = a0.toList then (if bt148.2.1 = (t138.size : Int) then ((grafterlaw0_Num.f bt148.2.2).bind fun t154 => (if t154 = 0 then ((grafterlaw16_awake.f k).bind fun t155 => (some t155)) else (some false))) else (some false)) else (some false)) else ((grafterlaw16_awake.f k).bind fun t156 => (some t156)))) else (some false))) else (some false)) else (some false)) else (some false))) else (some false))))) = some r := H
  have A5 := Aside0.mk A50
  clear A50
  replace H := Option.bind_eq_some_iff.mp H
  obtain ⟨⟨t142, t143, t144⟩, A60, H⟩ := H
  replace H : ((grafterref12_GetFrame.f k a1 a2).bind fun bt145 => ((frame_Get.f k t138 0).bind fun bt148 => (if t138.toList = t140.toList then ((grafterlaw0_Num.f t139).bind fun t151 => (if t151 = t141 then (if t142.toList = bt145.1.toList then (if t143 = bt145.2.1 then ((grafterlaw0_Num.f t144).bind fun t152 => (if t152 = bt145.2.2 then ((grafterlaw0_Num.f t139).bind fun t153 => (if t153 = 0 then (if bt148.1.toList = a0.toList then (if bt148.2.1 = (t138.size : Int) then ((grafterlaw0_Num.f bt148.2.2).bind fun t154 => (if t154 = 0 then ((grafterlaw16_awake.f k).bind fun t155 => (some t155)) else (some false))) else (some false)) else (some false)) else ((grafterlaw16_awake.f k).bind fun t156 => (some t156)))) else (some false))) else (some false)) else (some false)) else (some false))) else (some false)))) = some r := H
  have A6 := Aside0.mk A60
  clear A60
  replace H := Option.bind_eq_some_iff.mp H
  obtain ⟨⟨t145, t146, t147⟩, A70, H⟩ := H
  replace H : ((frame_Get.f k t138 0).bind fun bt148 => (if t138.toList = t140.toList then ((grafterlaw0_Num.f t139).bind fun t151 => (if t151 = t141 then (if t142.toList = t145.toList then (if t143 = t146 then ((grafterlaw0_Num.f t144).bind fun t152 => (if t152 = t147 then ((grafterlaw0_Num.f t139).bind fun t153 => (if t153 = 0 then (if bt148.1.toList = a0.toList then (if bt148.2.1 = (t138.size : Int) then ((grafterlaw0_Num.f bt148.2.2).bind fun t154 => (if t154 = 0 then ((grafterlaw16_awake.f k).bind fun t155 => (some t155)) else (some false))) else (some false)) else (some false)) else ((grafterlaw16_awake.f k).bind fun t156 => (some t156)))) else (some false))) else (some false)) else (some false)) else (some false))) else (some false))) = some r := H
  have A7 := Aside0.mk A70
  clear A70
  replace H := Option.bind_eq_some_iff.mp H
  obtain ⟨⟨t148, t149, t150⟩, A80, H⟩ := H
  replace H : (if t138.toList = t140.toList then ((grafterlaw0_Num.f t139).bind fun t151 => (if t151 = t141 then (if t142.toList = t145.toList then (if t143 = t146 then ((grafterlaw0_Num.f t144).bind fun t152 => (if t152 = t147 then ((grafterlaw0_Num.f t139).bind fun t153 => (if t153 = 0 then (if t148.toList = a0.toList then (if t149 = (t138.size : Int) then ((grafterlaw0_Num.f t150).bind fun t154 => (if t154 = 0 then ((grafterlaw16_awake.f k).bind fun t155 => (some t155)) else (some false))) else (some false)) else (some false)) else ((grafterlaw16_awake.f k).bind fun t156 => (some t156)))) else (some false))) else (some false)) else (some false)) else (some false))) else (some false)) = some r := H
  have A8 := Aside0.mk A80
  clear A80
  by_cases c9 : t138.toList = t140.toList
  · rw [if_pos c9] at H
    have c9b0 : (t138.toList == t140.toList) = true := beq_iff_eq.mpr c9
    have c9b1 : (t138.toList != t140.toList) = false := bne_eq_false_iff_eq.mpr c9
    clear c9
    replace H := Option.bind_eq_some_iff.mp H
    obtain ⟨t151, A100, H⟩ := H
    replace H : (if t151 = t141 then (if t142.toList = t145.toList then (if t143 = t146 then ((grafterlaw0_Num.f t144).bind fun t152 => (if t152 = t147 then ((grafterlaw0_Num.f t139).bind fun t153 => (if t153 = 0 then (if t148.toList = a0.toList then (if t149 = (t138.size : Int) then ((grafterlaw0_Num.f t150).bind fun t154 => (if t154 = 0 then ((grafterlaw16_awake.f k).bind fun t155 => (some t155)) else (some false))) else (some false)) else (some false)) else ((grafterlaw16_awake.f k).bind fun t156 => (some t156)))) else (some false))) else (some false)) else (some false)) else (some false)) = some r := H
    have A10 := Aside0.mk A100
    clear A100
    by_cases c11 : t151 = t141
    · rw [if_pos c11] at H
      have c11b0 : (t151 == t141) = true := beq_iff_eq.mpr c11
      have c11b1 : (t151 != t141) = false := bne_eq_false_iff_eq.mpr c11
      clear c11
      by_cases c12 : t142.toList = t145.toList
      · rw [if_pos c12] at H
        have c12b0 : (t142.toList == t145.toList) = true := beq_iff_eq.mpr c12
        have c12b1 : (t142.toList != t145.toList) = false := bne_eq_false_iff_eq.mpr c12
        clear c12
        by_cases c13 : t143 = t146
        · rw [if_pos c13] at H
          have c13b0 : (t143 == t146) = true := beq_iff_eq.mpr c13
          have c13b1 : (t143 != t146) = false := bne_eq_false_iff_eq.mpr c13
          clear c13
          replace H := Option.bind_eq_some_iff.mp H
          obtain ⟨t152, A140, H⟩ := H
          replace H : (if t152 = t147 then ((grafterlaw0_Num.f t139).bind fun t153 => (if t153 = 0 then (if t148.toList = a0.toList then (if t149 = (t138.size : Int) then ((grafterlaw0_Num.f t150).bind fun t154 => (if t154 = 0 then ((grafterlaw16_awake.f k).bind fun t155 => (some t155)) else (some false))) else (some false)) else (some false)) else ((grafterlaw16_awake.f k).bind fun t156 => (some t156)))) else (some false)) = some r := H
          have A14 := Aside0.mk A140
          clear A140
          by_cases c15 : t152 = t147
          · rw [if_pos c15] at H
            have c15b0 : (t152 == t147) = true := beq_iff_eq.mpr c15
            have c15b1 : (t152 != t147) = false := bne_eq_false_iff_eq.mpr c15
            clear c15
            replace H := Option.bind_eq_some_iff.mp H
            obtain ⟨t153, A160, H⟩ := H
            replace H : (if t153 = 0 then (if t148.toList = a0.toList then (if t149 = (t138.size : Int) then ((grafterlaw0_Num.f t150).bind fun t154 => (if t154 = 0 then ((grafterlaw16_awake.f k).bind fun t155 => (some t155)) else (some false))) else (some false)) else (some false)) else ((grafterlaw16_awake.f k).bind fun t156 => (some t156))) = some r := H
            have A16 := Aside0.mk A160
            clear A160
            by_cases c17 : t153 = 0
            · rw [if_pos c17] at H
              have c17b0 : (t153 == 0) = true := beq_iff_eq.mpr c17
              have c17b1 : (t153 != 0) = false := bne_eq_false_iff_eq.mpr c17
              clear c17
              by_cases c18 : t148.toList = a0.toList
              · rw [if_pos c18] at H
                have c18b0 : (t148.toList == a0.toList) = true := beq_iff_eq.mpr c18
                have c18b1 : (t148.toList != a0.toList) = false := bne_eq_false_iff_eq.mpr c18
                clear c18
                by_cases c19 : t149 = (t138.size : Int)
                · rw [if_pos c19] at H
                  have c19b0 : (t149 == (t138.size : Int)) = true := beq_iff_eq.mpr c19
                  have c19b1 : (t149 != (t138.size : Int)) = false := bne_eq_false_iff_eq.mpr c19
                  clear c19
                  replace H := Option.bind_eq_some_iff.mp H
                  obtain ⟨t154, A200, H⟩ := H
                  replace H : (if t154 = 0 then ((grafterlaw16_awake.f k).bind fun t155 => (some t155)) else (some false)) = some r := H
                  have A20 := Aside0.mk A200
                  clear A200
                  by_cases c21 : t154 = 0
                  · rw [if_pos c21] at H
                    have c21b0 : (t154 == 0) = true := beq_iff_eq.mpr c21
                    have c21b1 : (t154 != 0) = false := bne_eq_false_iff_eq.mpr c21
                    clear c21
                    replace H := Option.bind_eq_some_iff.mp H
                    obtain ⟨t155, A220, H⟩ := H
                    replace H : (some t155) = some r := H
                    have A22 := Aside0.mk A220
                    clear A220
                    obtain rfl := Option.some.inj H
                    go_enter Try.func3, Try.ntmps3
                    go_wp2_with (first | ((with_reducible refine gate_callee (f := 22) rfl ?_); refine goesL_ (some 22) rfl rfl Try.func22 (by kernel_rfl) rfl #[.string a0] rfl (by (try simp only [List.map_toArray, List.map_cons, List.map_nil]); first | done | rfl | (simp only [List.length_drop, List.length_take]; rfl)) ?_; (with_reducible refine (frame_Put.calls k a0 t138 t139 _ A4.out).mono ?_); rintro e w23 ⟨rfl, hb⟩; refine ⟨_, rfl, ?_⟩; have n0_ := Aside0.mk (below_step (by repeat (first | (with_reducible first | exact HB.out | apply below_alloc | apply pw_below_drewN | apply below_drew1) | exact HB.out)) hb); clear HB; have HB := n0_; clear n0_; (try clear hb); (try clear hb2); (try clear hk); (try clear hi)) | ((with_reducible refine gate_callee (f := 23) rfl ?_); refine goesL_ (some 27) rfl rfl Try.func23 (by kernel_rfl) rfl #[.string a0] rfl (by (try simp only [List.map_toArray, List.map_cons, List.map_nil]); first | done | rfl | (simp only [List.length_drop, List.length_take]; rfl)) ?_; (with_reducible refine (grafterref12_PutFrame.calls k a0 t140 t141 _ A5.out).mono ?_); rintro e w24 ⟨rfl, hb⟩; refine ⟨_, rfl, ?_⟩; have n0_ := Aside0.mk (below_step (by repeat (first | (with_reducible first | exact HB.out | apply below_alloc | apply pw_below_drewN | apply below_drew1) | exact HB.out)) hb); clear HB; have HB := n0_; clear n0_; (try clear hb); (try clear hb2); (try clear hk); (try clear hi)) | ((with_reducible refine gate_callee (f := 24) rfl ?_); refine goesL_ (some 33) rfl rfl Try.func24 (by kernel_rfl) rfl #[.string a1, .int .i64 a2] rfl (by (try simp only [List.map_toArray, List.map_cons, List.map_nil]); first | done | rfl | (simp only [List.length_drop, List.length_take]; rfl)) ?_; (with_reducible refine (frame_Get.calls k a1 a2 t142 t143 t144 _ A6.out).mono ?_); rintro e w25 ⟨rfl, hb⟩; refine ⟨_, rfl, ?_⟩; have n0_ := Aside0.mk (below_step (by repeat (first | (with_reducible first | exact HB.out | apply below_alloc | apply pw_below_drewN | apply below_drew1) | exact HB.out)) hb); clear HB; have HB := n0_; clear n0_; (try clear hb); (try clear hb2); (try clear hk); (try clear hi); (try clear A6)) | ((with_reducible refine gate_callee (f := 25) rfl ?_); refine goesL_ (some 40) rfl rfl Try.func25 (by kernel_rfl) rfl #[.string a1, .int .i64 a2] rfl (by (try simp only [List.map_toArray, List.map_cons, List.map_nil]); first | done | rfl | (simp only [List.length_drop, List.length_take]; rfl)) ?_; (with_reducible refine (grafterref12_GetFrame.calls k a1 a2 t145 t146 t147 _ A7.out).mono ?_); rintro e w26 ⟨rfl, hb⟩; refine ⟨_, rfl, ?_⟩; have n0_ := Aside0.mk (below_step (by repeat (first | (with_reducible first | exact HB.out | apply below_alloc | apply pw_below_drewN | apply below_drew1) | exact HB.out)) hb); clear HB; have HB := n0_; clear n0_; (try clear hb); (try clear hb2); (try clear hk); (try clear hi)) | ((with_reducible refine gate_callee (f := 24) rfl ?_); refine goesL_ (some 46) rfl rfl Try.func24 (by kernel_rfl) rfl #[.string t138, .int .i64 0] rfl (by (try simp only [List.map_toArray, List.map_cons, List.map_nil]); first | done | rfl | (simp only [List.length_drop, List.length_take]; rfl)) ?_; (with_reducible refine (frame_Get.calls k t138 0 t148 t149 t150 _ A8.out).mono ?_); rintro e w27 ⟨rfl, hb⟩; refine ⟨_, rfl, ?_⟩; have n0_ := Aside0.mk (below_step (by repeat (first | (with_reducible first | exact HB.out | apply below_alloc | apply pw_below_drewN | apply below_drew1) | exact HB.out)) hb); clear HB; have HB := n0_; clear n0_; (try clear hb); (try clear hb2); (try clear hk); (try clear hi); (try clear A8)) | (go_at_call 26; (with_reducible refine (grafterlaw0_Num.calls t139 t151 _ A10.out).mono ?_); rintro e w' ⟨rfl, ⟨nd, rfl⟩⟩; (try clear A10)) | (go_at_call 26; (with_reducible refine (grafterlaw0_Num.calls t144 t152 _ A14.out).mono ?_); rintro e w' ⟨rfl, ⟨nd, rfl⟩⟩; (try clear A14)) | (go_at_call 26; (with_reducible refine (grafterlaw0_Num.calls t139 t153 _ A16.out).mono ?_); rintro e w' ⟨rfl, ⟨nd, rfl⟩⟩; (try clear A16)) | (go_at_call 26; (with_reducible refine (grafterlaw0_Num.calls t150 t154 _ A20.out).mono ?_); rintro e w' ⟨rfl, ⟨nd, rfl⟩⟩; (try clear A20)) | (go_at_call 27; (with_reducible refine (grafterlaw16_awake.calls k  t155 _ HRT.out A22.out).mono ?_); rintro e w28 ⟨rfl, hb⟩; have n0_ := Aside0.mk (below_step (by repeat (first | (with_reducible first | exact HB.out | apply below_alloc | apply pw_below_drewN | apply below_drew1) | exact HB.out)) hb); clear HB; have HB := n0_; clear n0_; (try clear hb); (try clear hb2); (try clear hk); (try clear hi)))
                    go_ret
                    exact ⟨by first | rfl | (simp [errW_none, errW_some] <;> rfl) | (simp [*, errW_none, errW_some] <;> rfl), by repeat (first | (with_reducible first | exact HB.out | apply below_alloc | apply pw_below_drewN | apply below_drew1) | exact HB.out)⟩
                  · rw [if_neg c21] at H
                    have c21b0 : (t154 == 0) = false := beq_eq_false_iff_ne.mpr c21
                    have c21b1 : (t154 != 0) = true := bne_iff_ne.mpr c21
                    exact absurd ((Option.some.inj H).trans HRT.out) Bool.false_ne_true
                · rw [if_neg c19] at H
                  have c19b0 : (t149 == (t138.size : Int)) = false := beq_eq_false_iff_ne.mpr c19
                  have c19b1 : (t149 != (t138.size : Int)) = true := bne_iff_ne.mpr c19
                  exact absurd ((Option.some.inj H).trans HRT.out) Bool.false_ne_true
              · rw [if_neg c18] at H
                have c18b0 : (t148.toList == a0.toList) = false := beq_eq_false_iff_ne.mpr c18
                have c18b1 : (t148.toList != a0.toList) = true := bne_iff_ne.mpr c18
                exact absurd ((Option.some.inj H).trans HRT.out) Bool.false_ne_true
            · rw [if_neg c17] at H
              have c17b0 : (t153 == 0) = false := beq_eq_false_iff_ne.mpr c17
              have c17b1 : (t153 != 0) = true := bne_iff_ne.mpr c17
              replace H := Option.bind_eq_some_iff.mp H
              obtain ⟨t156, A440, H⟩ := H
              replace H : (some t156) = some r := H
              have A44 := Aside0.mk A440
              clear A440
              obtain rfl := Option.some.inj H
              go_enter Try.func3, Try.ntmps3
              go_wp2_with (first | ((with_reducible refine gate_callee (f := 22) rfl ?_); refine goesL_ (some 22) rfl rfl Try.func22 (by kernel_rfl) rfl #[.string a0] rfl (by (try simp only [List.map_toArray, List.map_cons, List.map_nil]); first | done | rfl | (simp only [List.length_drop, List.length_take]; rfl)) ?_; (with_reducible refine (frame_Put.calls k a0 t138 t139 _ A4.out).mono ?_); rintro e w45 ⟨rfl, hb⟩; refine ⟨_, rfl, ?_⟩; have n0_ := Aside0.mk (below_step (by repeat (first | (with_reducible first | exact HB.out | apply below_alloc | apply pw_below_drewN | apply below_drew1) | exact HB.out)) hb); clear HB; have HB := n0_; clear n0_; (try clear hb); (try clear hb2); (try clear hk); (try clear hi)) | ((with_reducible refine gate_callee (f := 23) rfl ?_); refine goesL_ (some 27) rfl rfl Try.func23 (by kernel_rfl) rfl #[.string a0] rfl (by (try simp only [List.map_toArray, List.map_cons, List.map_nil]); first | done | rfl | (simp only [List.length_drop, List.length_take]; rfl)) ?_; (with_reducible refine (grafterref12_PutFrame.calls k a0 t140 t141 _ A5.out).mono ?_); rintro e w46 ⟨rfl, hb⟩; refine ⟨_, rfl, ?_⟩; have n0_ := Aside0.mk (below_step (by repeat (first | (with_reducible first | exact HB.out | apply below_alloc | apply pw_below_drewN | apply below_drew1) | exact HB.out)) hb); clear HB; have HB := n0_; clear n0_; (try clear hb); (try clear hb2); (try clear hk); (try clear hi)) | ((with_reducible refine gate_callee (f := 24) rfl ?_); refine goesL_ (some 33) rfl rfl Try.func24 (by kernel_rfl) rfl #[.string a1, .int .i64 a2] rfl (by (try simp only [List.map_toArray, List.map_cons, List.map_nil]); first | done | rfl | (simp only [List.length_drop, List.length_take]; rfl)) ?_; (with_reducible refine (frame_Get.calls k a1 a2 t142 t143 t144 _ A6.out).mono ?_); rintro e w47 ⟨rfl, hb⟩; refine ⟨_, rfl, ?_⟩; have n0_ := Aside0.mk (below_step (by repeat (first | (with_reducible first | exact HB.out | apply below_alloc | apply pw_below_drewN | apply below_drew1) | exact HB.out)) hb); clear HB; have HB := n0_; clear n0_; (try clear hb); (try clear hb2); (try clear hk); (try clear hi); (try clear A6)) | ((with_reducible refine gate_callee (f := 25) rfl ?_); refine goesL_ (some 40) rfl rfl Try.func25 (by kernel_rfl) rfl #[.string a1, .int .i64 a2] rfl (by (try simp only [List.map_toArray, List.map_cons, List.map_nil]); first | done | rfl | (simp only [List.length_drop, List.length_take]; rfl)) ?_; (with_reducible refine (grafterref12_GetFrame.calls k a1 a2 t145 t146 t147 _ A7.out).mono ?_); rintro e w48 ⟨rfl, hb⟩; refine ⟨_, rfl, ?_⟩; have n0_ := Aside0.mk (below_step (by repeat (first | (with_reducible first | exact HB.out | apply below_alloc | apply pw_below_drewN | apply below_drew1) | exact HB.out)) hb); clear HB; have HB := n0_; clear n0_; (try clear hb); (try clear hb2); (try clear hk); (try clear hi)) | ((with_reducible refine gate_callee (f := 24) rfl ?_); refine goesL_ (some 46) rfl rfl Try.func24 (by kernel_rfl) rfl #[.string t138, .int .i64 0] rfl (by (try simp only [List.map_toArray, List.map_cons, List.map_nil]); first | done | rfl | (simp only [List.length_drop, List.length_take]; rfl)) ?_; (with_reducible refine (frame_Get.calls k t138 0 t148 t149 t150 _ A8.out).mono ?_); rintro e w49 ⟨rfl, hb⟩; refine ⟨_, rfl, ?_⟩; have n0_ := Aside0.mk (below_step (by repeat (first | (with_reducible first | exact HB.out | apply below_alloc | apply pw_below_drewN | apply below_drew1) | exact HB.out)) hb); clear HB; have HB := n0_; clear n0_; (try clear hb); (try clear hb2); (try clear hk); (try clear hi); (try clear A8)) | (go_at_call 26; (with_reducible refine (grafterlaw0_Num.calls t139 t151 _ A10.out).mono ?_); rintro e w' ⟨rfl, ⟨nd, rfl⟩⟩; (try clear A10)) | (go_at_call 26; (with_reducible refine (grafterlaw0_Num.calls t144 t152 _ A14.out).mono ?_); rintro e w' ⟨rfl, ⟨nd, rfl⟩⟩; (try clear A14)) | (go_at_call 26; (with_reducible refine (grafterlaw0_Num.calls t139 t153 _ A16.out).mono ?_); rintro e w' ⟨rfl, ⟨nd, rfl⟩⟩; (try clear A16)) | (go_at_call 27; (with_reducible refine (grafterlaw16_awake.calls k  t156 _ HRT.out A44.out).mono ?_); rintro e w50 ⟨rfl, hb⟩; have n0_ := Aside0.mk (below_step (by repeat (first | (with_reducible first | exact HB.out | apply below_alloc | apply pw_below_drewN | apply below_drew1) | exact HB.out)) hb); clear HB; have HB := n0_; clear n0_; (try clear hb); (try clear hb2); (try clear hk); (try clear hi)))
              go_ret
              exact ⟨by first | rfl | (simp [errW_none, errW_some] <;> rfl) | (simp [*, errW_none, errW_some] <;> rfl), by repeat (first | (with_reducible first | exact HB.out | apply below_alloc | apply pw_below_drewN | apply below_drew1) | exact HB.out)⟩
          · rw [if_neg c15] at H
            have c15b0 : (t152 == t147) = false := beq_eq_false_iff_ne.mpr c15
            have c15b1 : (t152 != t147) = true := bne_iff_ne.mpr c15
            exact absurd ((Option.some.inj H).trans HRT.out) Bool.false_ne_true
        · rw [if_neg c13] at H
          have c13b0 : (t143 == t146) = false := beq_eq_false_iff_ne.mpr c13
          have c13b1 : (t143 != t146) = true := bne_iff_ne.mpr c13
          exact absurd ((Option.some.inj H).trans HRT.out) Bool.false_ne_true
      · rw [if_neg c12] at H
        have c12b0 : (t142.toList == t145.toList) = false := beq_eq_false_iff_ne.mpr c12
        have c12b1 : (t142.toList != t145.toList) = true := bne_iff_ne.mpr c12
        exact absurd ((Option.some.inj H).trans HRT.out) Bool.false_ne_true
    · rw [if_neg c11] at H
      have c11b0 : (t151 == t141) = false := beq_eq_false_iff_ne.mpr c11
      have c11b1 : (t151 != t141) = true := bne_iff_ne.mpr c11
      exact absurd ((Option.some.inj H).trans HRT.out) Bool.false_ne_true
  · rw [if_neg c9] at H
    have c9b0 : (t138.toList == t140.toList) = false := beq_eq_false_iff_ne.mpr c9
    have c9b1 : (t138.toList != t140.toList) = true := bne_iff_ne.mpr c9
    exact absurd ((Option.some.inj H).trans HRT.out) Bool.false_ne_true

/-- THE ONE PURE STATEMENT of grafterlaw16_Frames: yours. -/
def grafterlaw16_Frames.Pure : Prop := ∀ (a0 : ByteArray) (a1 : ByteArray) (a2 : Int), a0.size ≤ 140737488351232 → a1.size ≤ 140737488351232 → (Lit.int .i64 a2).wf = true → ∃ k, grafterlaw16_Frames.f k a0 a1 a2 = some true
theorem grafterlaw16_Frames.walk (P : grafterlaw16_Frames.Pure) (a0 : ByteArray) (a1 : ByteArray) (a2 : Int) (w : World) (w0 : a0.size ≤ 140737488351232) (w1 : a1.size ≤ 140737488351232) (w2 : (Lit.int .i64 a2).wf = true) :
    Calls Try.prog 3 #[.string a0, .string a1, .int .i64 a2] w fun e w' => e = .returned (.bool true) ∧ Below w.heap.size w w' := by
  obtain ⟨k, h⟩ := P a0 a1 a2 w0 w1 w2
  refine (grafterlaw16_Frames.calls k a0 a1 a2 true w rfl h).mono ?_
  rintro e w' ⟨rfl, hd⟩
  exact ⟨rfl, hd⟩

end Go.Proofs.Ytbhkmgidokonkaa.PFrames
