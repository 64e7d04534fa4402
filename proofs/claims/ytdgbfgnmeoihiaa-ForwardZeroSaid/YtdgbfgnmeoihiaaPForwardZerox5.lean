-- Written by a program of this session (pprint.py) out of the translation, with hand-proved walks pasted in.
import Derived.Test.YtdgbfgnmeoihiaaPForwardZerox0
import Derived.Test.YtdgbfgnmeoihiaaPForwardZerox1
import Derived.Test.YtdgbfgnmeoihiaaPForwardZerox2
import Derived.Test.YtdgbfgnmeoihiaaPForwardZerox3
import Derived.Test.YtdgbfgnmeoihiaaPForwardZerox4
namespace Go.Proofs.Ytdgbfgnmeoihiaa.PForwardZero
open Go.RowKit Go.Proofs.YtdgbfgnmeoihiaaW.PrintWords Go.Proofs.YtdgbfgnmeoihiaaW.PrintLast Go.Proofs.YtdgbfgnmeoihiaaW.PrintMore
attribute [local go_sem] max2_int min2_int max_two min_two max_three min_three max_four min_four   -- for this text's walks alone
set_option linter.unusedVariables false
set_option linter.unusedSimpArgs false

/-! ### grafterlaw6_ForwardZero: function 13 -/
def grafterlaw6_ForwardZero.j0 : Nat → List Int → Int → Bool → Int → Int → Option (Bool)
  | 0, _, _, _, _, _ => none
  | k + 1, x1, x7, x35, x203000, x203001 => if x35 = true then (some true) else (if 0 ≤ (wrap64 ((wrap64 (x203001 * (wrap64 (x203000 + 2)))) + 1)) then (if (wrap64 ((wrap64 (x203001 * (wrap64 (x203000 + 2)))) + 1) : Int).toNat ≤ 35184372088832 then ((some (List.replicate (wrap64 ((wrap64 (x203001 * (wrap64 (x203000 + 2)))) + 1) : Int).toNat 0 : List Int)).bind fun y204 => (if 0 ≤ (wrap64 ((y204.length : Int) - 1)) then (if (wrap64 ((y204.length : Int) - 1)) < (y204.length : Int) then ((some (y204.set ((wrap64 ((y204.length : Int) - 1)) : Int).toNat x7 : List Int)).bind fun y207 => ((forward_Out.f k x203000 x203001 y207 x1).bind fun bt208 => ((forward_Hidden.f k x203000 x203001 y207 x1).bind fun bt210 => ((grafterlaw0_Num.f bt208.2).bind fun t214 => (if t214 = 0 then (if bt208.1 = x7 then (if 0 ≤ x203001 then (if (x203001 : Int).toNat ≤ 35184372088832 then ((grafterlaw0_SameInts.f k bt210.1 (List.replicate (x203001 : Int).toNat 0)).bind fun t218 => (if t218 = true then ((grafterlaw0_Num.f bt210.2).bind fun t219 => (some (t219 == 0))) else (some false))) else (none)) else (none)) else (some false)) else (if bt208.1 = 0 then ((grafterlaw0_Num.f bt210.2).bind fun t220 => (some (t220 == 600))) else (some false))))))) else (none)) else (none))) else (none)) else (none))
def grafterlaw6_ForwardZero.f (k : Nat) (a0_0 : Int) (a0_1 : Int) (l1 : List Int) (a2 : Int) : Option (Bool) := (grafterlaw6_awake.f k).bind fun t203 => (if t203 = true then (if a0_0 < 1 then (grafterlaw6_ForwardZero.j0 k l1 (wrap64 ((Go.bits .and .i64 a2 1048575) - 524288)) true a0_0 a0_1) else (if a0_0 > 3 then (grafterlaw6_ForwardZero.j0 k l1 (wrap64 ((Go.bits .and .i64 a2 1048575) - 524288)) true a0_0 a0_1) else (if a0_1 < 1 then (grafterlaw6_ForwardZero.j0 k l1 (wrap64 ((Go.bits .and .i64 a2 1048575) - 524288)) true a0_0 a0_1) else (grafterlaw6_ForwardZero.j0 k l1 (wrap64 ((Go.bits .and .i64 a2 1048575) - 524288)) (decide (a0_1 > 3)) a0_0 a0_1)))) else (some false))
theorem grafterlaw6_ForwardZero.mono_l : ∀ k, (∀ y0 y1 y2 y3 y4, LeO (grafterlaw6_ForwardZero.j0 k y0 y1 y2 y3 y4) (grafterlaw6_ForwardZero.j0 (k + 1) y0 y1 y2 y3 y4))
  | 0 => fun _ _ _ _ _ r h => by simp [grafterlaw6_ForwardZero.j0] at h
  | k + 1 => by
    have ih0 := grafterlaw6_ForwardZero.mono_l k
    · intro y0 y1 y2 y3 y4
      unfold grafterlaw6_ForwardZero.j0
      repeat' first
      | (with_reducible exact ih0 _ _ _ _ _)
      | (with_reducible exact forward_Hidden.mono _ _ _ _ _)
      | (with_reducible exact forward_Out.mono _ _ _ _ _)
      | (with_reducible exact grafterlaw0_SameInts.mono _ _ _)
      | (with_reducible exact grafterlaw6_awake.mono _)
      | (with_reducible exact LeO.refl _)
      | (with_reducible exact LeO.none _)
      | (with_reducible refine LeO.ite ?_ ?_)
      | (with_reducible refine LeO.bind ?_ (fun _ => ?_))
      | exact ih0 _ _ _ _ _
      | exact forward_Hidden.mono _ _ _ _ _
      | exact forward_Out.mono _ _ _ _ _
      | exact grafterlaw0_SameInts.mono _ _ _
      | exact grafterlaw6_awake.mono _
      | exact LeO.none _
      | refine LeO.ite ?_ ?_
      | refine LeO.bind ?_ (fun _ => ?_)
theorem grafterlaw6_ForwardZero.mono : ∀ a0 a1 a2 a3 k, LeO (grafterlaw6_ForwardZero.f k a0 a1 a2 a3) (grafterlaw6_ForwardZero.f (k + 1) a0 a1 a2 a3) := by
  intro a0 a1 a2 a3 k
  have ih0 := grafterlaw6_ForwardZero.mono_l k
  unfold grafterlaw6_ForwardZero.f
  repeat' first
      | (with_reducible exact ih0 _ _ _ _ _)
      | (with_reducible exact forward_Hidden.mono _ _ _ _ _)
      | (with_reducible exact forward_Out.mono _ _ _ _ _)
      | (with_reducible exact grafterlaw0_SameInts.mono _ _ _)
      | (with_reducible exact grafterlaw6_awake.mono _)
      | (with_reducible exact LeO.refl _)
      | (with_reducible exact LeO.none _)
      | (with_reducible refine LeO.ite ?_ ?_)
      | (with_reducible refine LeO.bind ?_ (fun _ => ?_))
      | exact ih0 _ _ _ _ _
      | exact forward_Hidden.mono _ _ _ _ _
      | exact forward_Out.mono _ _ _ _ _
      | exact grafterlaw0_SameInts.mono _ _ _
      | exact grafterlaw6_awake.mono _
      | exact LeO.none _
      | refine LeO.ite ?_ ?_
      | refine LeO.bind ?_ (fun _ => ?_)
set_option maxHeartbeats 8000000 in
set_option maxRecDepth 100000 in
theorem grafterlaw6_ForwardZero.calls (k : Nat) (a0_0 : Int) (a0_1 : Int) (A1 : Option Addr) (c1 : Nat) (l1 : List Int) (a2 : Int) (r : Bool) (w : World) (hrt : r = true) (hr1 : Kd.C (Kd.int .i64) w A1 l1.length l1) (hc1 : l1.length ≤ c1) (h : grafterlaw6_ForwardZero.f k a0_0 a0_1 l1 a2 = some r) :
    Calls Try.prog 13 #[.agg #[.int .i64 a0_0, .int .i64 a0_1], .slice A1 l1.length c1, .int .i64 a2] w fun e w' => e = .returned (.bool r) ∧ Below w.heap.size w w' := by
  have HRT := Aside0.mk hrt
  clear hrt
  have hu23 := Try.underlying23
  have HR1 := Aside0.mk hr1
  have HC1 := Aside0.mk hc1
  clear hr1 hc1
  have HB := Aside0.mk (Below.refl w.heap.size w)
  have H : ((grafterlaw6_awake.f k).bind fun t203 => (if t203 = true then (if a0_0 < 1 then (grafterlaw6_ForwardZero.j0 k l1 (wrap64 ((Go.bits .and .i64 a2 1048575) - 524288)) true a0_0 a0_1) else (if a0_0 > 3 then (grafterlaw6_ForwardZero.j0 k l1 (wrap64 ((Go.bits .and .i64 a2 1048575) - 524288)) true a0_0 a0_1) else (if a0_1 < 1 then (grafterlaw6_ForwardZero.j0 k l1 (wrap64 ((Go.bits .and .i64 a2 1048575) - 524288)) true a0_0 a0_1) else (grafterlaw6_ForwardZero.j0 k l1 (wrap64 ((Go.bits .and .i64 a2 1048575) - 524288)) (decide (a0_1 > 3)) a0_0 a0_1)))) else (some false))) = some r := h
  clear h
  replace H := Option.bind_eq_some_iff.mp H
  obtain ⟨t203, A40, H⟩ := H
  replace H : (if t203 = true then (if a0_0 < 1 then (grafterlaw6_ForwardZero.j0 k l1 (wrap64 ((Go.bits .and .i64 a2 1048575) - 524288)) true a0_0 a0_1) else (if a0_0 > 3 then (grafterlaw6_ForwardZero.j0 k l1 (wrap64 ((Go.bits .and .i64 a2 1048575) - 524288)) true a0_0 a0_1) else (if a0_1 < 1 then (grafterlaw6_ForwardZero.j0 k l1 (wrap64 ((Go.bits .and .i64 a2 1048575) - 524288)) true a0_0 a0_1) else (grafterlaw6_ForwardZero.j0 k l1 (wrap64 ((Go.bits .and .i64 a2 1048575) - 524288)) (decide (a0_1 > 3)) a0_0 a0_1)))) else (some false)) = some r := H
  have A4 := Aside0.mk A40
  clear A40
  by_cases c5 : t203 = true
  · subst c5
    have H1 : (if a0_0 < 1 then (grafterlaw6_ForwardZero.j0 k l1 (wrap64 ((Go.bits .and .i64 a2 1048575) - 524288)) true a0_0 a0_1) else (if a0_0 > 3 then (grafterlaw6_ForwardZero.j0 k l1 (wrap64 ((Go.bits .and .i64 a2 1048575) - 524288)) true a0_0 a0_1) else (if a0_1 < 1 then (grafterlaw6_ForwardZero.j0 k l1 (wrap64 ((Go.bits .and .i64 a2 1048575) - 524288)) true a0_0 a0_1) else (grafterlaw6_ForwardZero.j0 k l1 (wrap64 ((Go.bits .and .i64 a2 1048575) - 524288)) (decide (a0_1 > 3)) a0_0 a0_1)))) = some r := by rw [if_pos rfl] at H; exact H
    clear H
    have H := H1
    clear H1
    have HC6 := Aside0.mk H
    clear H
    go_enter Try.func13, Try.ntmps13
    go_upto_region 4 with (first | ((with_reducible refine gate_dst (N := 3) rfl ?_); (try (refine gate_guard (by rfl) ?_; dsimp only)); refine box_event ?hg (N := 3) ?hd (cs := #[.int .i64 a0_0, .int .i64 a0_1]) (t := 23) ?hr ?_; (case hd => rfl); (case hg => rfl); (case hr => first | (go_simp; done) | (go_simp; rfl)); intro gb202 hg w7 hbox hb; have n0_ := Aside0.mk (below_step (by repeat (first | (with_reducible first | exact HB.out | apply below_alloc | apply pw_below_drewN | apply below_drew1) | exact HB.out)) hb); have n1_ := Aside0.mk (hbox); have n2_ := Aside0.mk ((by rw [hg]; exact (below_size (by repeat (first | (with_reducible first | exact HB.out | apply below_alloc | apply pw_below_drewN | apply below_drew1) | exact HB.out))) : w.heap.size ≤ gb202)); have n3_ := Aside0.mk ((by rw [hg]; exact (below_size (by repeat (first | (with_reducible first | exact HB.out | apply below_alloc | apply pw_below_drewN | apply below_drew1) | exact HB.out))) : w.heap.size ≤ gb202)); clear HB; have HB := n0_; have BK202 := n1_; have GW202 := n2_; have GE202 := n3_; clear n0_ n1_ n2_ n3_; clear hb hbox hg) | ((with_reducible refine gate_callee (f := 40) rfl ?_); refine goesL_ (some 13) rfl rfl Try.func40 (by kernel_rfl) rfl #[] rfl (by (try simp only [List.map_toArray, List.map_cons, List.map_nil]); first | done | rfl | (simp only [List.length_drop, List.length_take]; rfl)) ?_; (with_reducible refine (grafterlaw6_awake.calls k  true _ rfl A4.out).mono ?_); rintro e w8 ⟨rfl, hb⟩; refine ⟨_, rfl, ?_⟩; have n0_ := Aside0.mk (blk_below (g := gb202) (o := .cells #[.int .i64 a0_0, .int .i64 a0_1] 23 (0, 0)) (by (with_reducible repeat (first | refine blk_drewN ?_ _ | refine blk_drew ?_ | refine blk_alloc ?_ _)); exact BK202.out) hb); have n1_ := Aside0.mk (below_step (by repeat (first | (with_reducible first | exact HB.out | apply below_alloc | apply pw_below_drewN | apply below_drew1 | refine below_set ?_ GE202.out) | exact HB.out)) hb); clear BK202; clear HB; have BK202 := n0_; have HB := n1_; clear n0_ n1_; (try clear hb); (try clear hb2); (try clear hk); (try clear hi)))
    (try simp only [Act.put, List.setIfInBounds_toArray, List.set_cons_zero, List.set_cons_succ])
    go_cut [35] (fun v35 wc => ∃ (kq : Nat) (x35_5 : Bool), v35 = .bool x35_5 ∧ Aside0 (grafterlaw6_ForwardZero.j0 kq l1 (wrap64 ((Go.bits .and .i64 a2 1048575) - 524288)) x35_5 a0_0 a0_1 = some r) ∧ Aside0 (kq ≤ k) ∧ Aside0 (wc.heap[gb202]? = some (.cells #[.int .i64 a0_0, .int .i64 a0_1] 23 (0, 0))) ∧ Aside0 (Below w.heap.size w wc))
    case first =>
      have H := HC6.out
      clear HC6
      by_cases c9 : a0_0 < 1
      · rw [if_pos c9] at H
        have c9b0 : decide (a0_0 < 1) = true := decide_eq_true c9
        clear c9
        (first | rw [c9b0] | (simp only [i64_w, i32_w]; rw [c9b0]) | skip)
        have H' := Aside0.mk H
        clear H
        have hcz10_0 : w8.cell? ⟨gb202, 0, none⟩ = some (.int .i64 a0_0) := (blk_cell BK202.out 0).trans rfl
        have hcz10_1 : w8.cell? ⟨gb202, 1, none⟩ = some (.int .i64 a0_1) := (blk_cell BK202.out 1).trans rfl
        have hfz10_0 := blk_frozen BK202.out 0
        have hfz10_1 := blk_frozen BK202.out 1
        go_wp2
        go_meet
        case rel => exact ⟨_, (true), (by first | rfl | (simp; done) | (simp [*]; done)), H', ⟨by first | omega | exact Nat.le_refl _⟩, ⟨by (with_reducible repeat (first | refine blk_drewN ?_ _ | refine blk_drew ?_ | refine blk_alloc ?_ _)); exact BK202.out⟩, ⟨by repeat (first | (with_reducible first | exact HB.out | apply below_alloc | apply pw_below_drewN | apply below_drew1 | refine below_set ?_ GE202.out) | exact HB.out)⟩⟩
      · rw [if_neg c9] at H
        have c9b0 : decide (a0_0 < 1) = false := decide_eq_false c9
        clear c9
        (first | rw [c9b0] | (simp only [i64_w, i32_w]; rw [c9b0]) | skip)
        by_cases c11 : a0_0 > 3
        · rw [if_pos c11] at H
          have c11b0 : decide (3 < a0_0) = true := decide_eq_true c11
          clear c11
          have H' := Aside0.mk H
          clear H
          have hcz12_0 : w8.cell? ⟨gb202, 0, none⟩ = some (.int .i64 a0_0) := (blk_cell BK202.out 0).trans rfl
          have hcz12_1 : w8.cell? ⟨gb202, 1, none⟩ = some (.int .i64 a0_1) := (blk_cell BK202.out 1).trans rfl
          have hfz12_0 := blk_frozen BK202.out 0
          have hfz12_1 := blk_frozen BK202.out 1
          go_wp2
          go_meet
          case rel => exact ⟨_, (true), (by first | rfl | (simp; done) | (simp [*]; done)), H', ⟨by first | omega | exact Nat.le_refl _⟩, ⟨by (with_reducible repeat (first | refine blk_drewN ?_ _ | refine blk_drew ?_ | refine blk_alloc ?_ _)); exact BK202.out⟩, ⟨by repeat (first | (with_reducible first | exact HB.out | apply below_alloc | apply pw_below_drewN | apply below_drew1 | refine below_set ?_ GE202.out) | exact HB.out)⟩⟩
        · rw [if_neg c11] at H
          have c11b0 : decide (3 < a0_0) = false := decide_eq_false c11
          clear c11
          by_cases c13 : a0_1 < 1
          · rw [if_pos c13] at H
            have c13b0 : decide (a0_1 < 1) = true := decide_eq_true c13
            clear c13
            have H' := Aside0.mk H
            clear H
            have hcz14_0 : w8.cell? ⟨gb202, 0, none⟩ = some (.int .i64 a0_0) := (blk_cell BK202.out 0).trans rfl
            have hcz14_1 : w8.cell? ⟨gb202, 1, none⟩ = some (.int .i64 a0_1) := (blk_cell BK202.out 1).trans rfl
            have hfz14_0 := blk_frozen BK202.out 0
            have hfz14_1 := blk_frozen BK202.out 1
            go_wp2
            go_meet
            case rel => exact ⟨_, (true), (by first | rfl | (simp; done) | (simp [*]; done)), H', ⟨by first | omega | exact Nat.le_refl _⟩, ⟨by (with_reducible repeat (first | refine blk_drewN ?_ _ | refine blk_drew ?_ | refine blk_alloc ?_ _)); exact BK202.out⟩, ⟨by repeat (first | (with_reducible first | exact HB.out | apply below_alloc | apply pw_below_drewN | apply below_drew1 | refine below_set ?_ GE202.out) | exact HB.out)⟩⟩
          · rw [if_neg c13] at H
            have c13b0 : decide (a0_1 < 1) = false := decide_eq_false c13
            clear c13
            have H' := Aside0.mk H
            clear H
            have hcz15_0 : w8.cell? ⟨gb202, 0, none⟩ = some (.int .i64 a0_0) := (blk_cell BK202.out 0).trans rfl
            have hcz15_1 : w8.cell? ⟨gb202, 1, none⟩ = some (.int .i64 a0_1) := (blk_cell BK202.out 1).trans rfl
            have hfz15_0 := blk_frozen BK202.out 0
            have hfz15_1 := blk_frozen BK202.out 1
            go_wp2
            go_meet
            case rel => exact ⟨_, (decide (a0_1 > 3)), (by first | rfl | (simp; done) | (simp [*]; done)), H', ⟨by first | omega | exact Nat.le_refl _⟩, ⟨by (with_reducible repeat (first | refine blk_drewN ?_ _ | refine blk_drew ?_ | refine blk_alloc ?_ _)); exact BK202.out⟩, ⟨by repeat (first | (with_reducible first | exact HB.out | apply below_alloc | apply pw_below_drewN | apply below_drew1 | refine below_set ?_ GE202.out) | exact HB.out)⟩⟩
    case rest =>
      clear HC6
      try clear c1
      try clear p2
      try clear c4
      try clear c5
      try clear p6
      try clear c9
      try clear c9b0
      try clear c11
      try clear c11b0
      try clear c13
      try clear c13b0
      try clear hcz10_0
      try clear hcz10_1
      try clear hcz12_0
      try clear hcz12_1
      try clear hcz14_0
      try clear hcz14_1
      try clear hcz15_0
      try clear hcz15_1
      try clear hfz10_0
      try clear hfz10_1
      try clear hfz12_0
      try clear hfz12_1
      try clear hfz14_0
      try clear hfz14_1
      try clear hfz15_0
      try clear hfz15_1
      obtain ⟨kq, x35_5, rfl, HA, HJ5, BK202, HB⟩ := hcut
      cases kq with
      | zero => exact absurd HA.out (by simp [grafterlaw6_ForwardZero.j0])
      | succ kj5 =>
        have H := HA.out
        clear HA
        simp only [grafterlaw6_ForwardZero.j0] at H
        by_cases c16 : x35_5 = true
        · subst c16
          have H1 : (some true) = some r := by rw [if_pos rfl] at H; exact H
          clear H
          have H := H1
          clear H1
          obtain rfl := Option.some.inj H
          go_wp2
          go_ret
          exact ⟨by first | rfl | (simp [errW_none, errW_some] <;> rfl) | (simp [*, errW_none, errW_some] <;> rfl), by repeat (first | (with_reducible first | exact HB.out | apply below_alloc | apply pw_below_drewN | apply below_drew1 | refine below_set ?_ GE202.out) | exact HB.out)⟩
        · replace c16 := Bool.eq_false_iff.mpr c16
          subst c16
          have H1 : (if 0 ≤ (wrap64 ((wrap64 (a0_1 * (wrap64 (a0_0 + 2)))) + 1)) then (if (wrap64 ((wrap64 (a0_1 * (wrap64 (a0_0 + 2)))) + 1) : Int).toNat ≤ 35184372088832 then ((some (List.replicate (wrap64 ((wrap64 (a0_1 * (wrap64 (a0_0 + 2)))) + 1) : Int).toNat 0 : List Int)).bind fun y204 => (if 0 ≤ (wrap64 ((y204.length : Int) - 1)) then (if (wrap64 ((y204.length : Int) - 1)) < (y204.length : Int) then ((some (y204.set ((wrap64 ((y204.length : Int) - 1)) : Int).toNat (wrap64 ((Go.bits .and .i64 a2 1048575) - 524288)) : List Int)).bind fun y207 => ((forward_Out.f kj5 a0_0 a0_1 y207 l1).bind fun bt208 => ((forward_Hidden.f kj5 a0_0 a0_1 y207 l1).bind fun bt210 => ((grafterlaw0_Num.f bt208.2).bind fun t214 => (if t214 = 0 then (if bt208.1 = (wrap64 ((Go.bits .and .i64 a2 1048575) - 524288)) then (if 0 ≤ a0_1 then (if (a0_1 : Int).toNat ≤ 35184372088832 then ((grafterlaw0_SameInts.f kj5 bt210.1 (List.replicate (a0_1 : Int).toNat 0)).bind fun t218 => (if t218 = true then ((grafterlaw0_Num.f bt210.2).bind fun t219 => (some (t219 == 0))) else (some false))) else (none)) else (none)) else (some false)) else (if bt208.1 = 0 then ((grafterlaw0_Num.f bt210.2).bind fun t220 => (some (t220 == 600))) else (some false))))))) else (none)) else (none))) else (none)) else (none)) = some r := by rw [if_neg (show ¬ (false = true) by decide)] at H; exact H
          clear H
          have H := H1
          clear H1
          obtain ⟨ji17, hji17⟩ : ∃ j_ : Int, (wrap64 ((wrap64 (a0_1 * (wrap64 (a0_0 + 2)))) + 1)) = j_ := ⟨_, rfl⟩
          replace H : (if 0 ≤ (ji17) then (if (ji17 : Int).toNat ≤ 35184372088832 then ((some (List.replicate (ji17 : Int).toNat 0 : List Int)).bind fun y204 => (if 0 ≤ (wrap64 ((y204.length : Int) - 1)) then (if (wrap64 ((y204.length : Int) - 1)) < (y204.length : Int) then ((some (y204.set ((wrap64 ((y204.length : Int) - 1)) : Int).toNat (wrap64 ((Go.bits .and .i64 a2 1048575) - 524288)) : List Int)).bind fun y207 => ((forward_Out.f kj5 a0_0 a0_1 y207 l1).bind fun bt208 => ((forward_Hidden.f kj5 a0_0 a0_1 y207 l1).bind fun bt210 => ((grafterlaw0_Num.f bt208.2).bind fun t214 => (if t214 = 0 then (if bt208.1 = (wrap64 ((Go.bits .and .i64 a2 1048575) - 524288)) then (if 0 ≤ a0_1 then (if (a0_1 : Int).toNat ≤ 35184372088832 then ((grafterlaw0_SameInts.f kj5 bt210.1 (List.replicate (a0_1 : Int).toNat 0)).bind fun t218 => (if t218 = true then ((grafterlaw0_Num.f bt210.2).bind fun t219 => (some (t219 == 0))) else (some false))) else (none)) else (none)) else (some false)) else (if bt208.1 = 0 then ((grafterlaw0_Num.f bt210.2).bind fun t220 => (some (t220 == 600))) else (some false))))))) else (none)) else (none))) else (none)) else (none)) = some r := by first | (rw [hji17] at H; exact H) | (simp only [hji17] at H ⊢; exact H)
          have hji17w : (IntKind.i64.wrap ((wrap64 (a0_1 * (wrap64 (a0_0 + 2)))) + 1)) = ji17 := (i64_w _).trans hji17
          by_cases c18 : 0 ≤ (ji17)
          · rw [if_pos c18] at H
            have c18b0 := eq_true c18
            have c18b1 : decide (0 ≤ (ji17)) = true := decide_eq_true c18
            clear c18
            by_cases c19 : (ji17 : Int).toNat ≤ 35184372088832
            · rw [if_pos c19] at H
              have c19b0 := eq_true c19
              have c19b1 : decide ((ji17 : Int).toNat ≤ 35184372088832) = true := decide_eq_true c19
              clear c19
              obtain ⟨y204, hy204⟩ : ∃ y_ : List Int, y_ = (List.replicate (ji17 : Int).toNat 0) := ⟨_, rfl⟩
              replace H : (if 0 ≤ (wrap64 ((y204.length : Int) - 1)) then (if (wrap64 ((y204.length : Int) - 1)) < (y204.length : Int) then ((some (y204.set ((wrap64 ((y204.length : Int) - 1)) : Int).toNat (wrap64 ((Go.bits .and .i64 a2 1048575) - 524288)) : List Int)).bind fun y207 => ((forward_Out.f kj5 a0_0 a0_1 y207 l1).bind fun bt208 => ((forward_Hidden.f kj5 a0_0 a0_1 y207 l1).bind fun bt210 => ((grafterlaw0_Num.f bt208.2).bind fun t214 => (if t214 = 0 then (if bt208.1 = (wrap64 ((Go.bits .and .i64 a2 1048575) - 524288)) then (if 0 ≤ a0_1 then (if (a0_1 : Int).toNat ≤ 35184372088832 then ((grafterlaw0_SameInts.f kj5 bt210.1 (List.replicate (a0_1 : Int).toNat 0)).bind fun t218 => (if t218 = true then ((grafterlaw0_Num.f bt210.2).bind fun t219 => (some (t219 == 0))) else (some false))) else (none)) else (none)) else (some false)) else (if bt208.1 = 0 then ((grafterlaw0_Num.f bt210.2).bind fun t220 => (some (t220 == 600))) else (some false))))))) else (none)) else (none)) = some r := by first | (rw [hy204]; with_reducible exact H) | (have H2_ := (Option.bind_some _ _).symm.trans H; rw [hy204]; with_reducible exact H2_) | (have H2_ := (Option.bind_some _ _).symm.trans H; with_reducible exact H2_) | with_reducible exact H | (rw [hy204]; exact H) | exact H
              have Ny204 := Aside0.mk hy204
              clear hy204
              obtain ⟨ji20, hji20⟩ : ∃ j_ : Int, (wrap64 ((y204.length : Int) - 1)) = j_ := ⟨_, rfl⟩
              replace H : (if 0 ≤ (ji20) then (if (ji20) < (y204.length : Int) then ((some (y204.set ((ji20) : Int).toNat (wrap64 ((Go.bits .and .i64 a2 1048575) - 524288)) : List Int)).bind fun y207 => ((forward_Out.f kj5 a0_0 a0_1 y207 l1).bind fun bt208 => ((forward_Hidden.f kj5 a0_0 a0_1 y207 l1).bind fun bt210 => ((grafterlaw0_Num.f bt208.2).bind fun t214 => (if t214 = 0 then (if bt208.1 = (wrap64 ((Go.bits .and .i64 a2 1048575) - 524288)) then (if 0 ≤ a0_1 then (if (a0_1 : Int).toNat ≤ 35184372088832 then ((grafterlaw0_SameInts.f kj5 bt210.1 (List.replicate (a0_1 : Int).toNat 0)).bind fun t218 => (if t218 = true then ((grafterlaw0_Num.f bt210.2).bind fun t219 => (some (t219 == 0))) else (some false))) else (none)) else (none)) else (some false)) else (if bt208.1 = 0 then ((grafterlaw0_Num.f bt210.2).bind fun t220 => (some (t220 == 600))) else (some false))))))) else (none)) else (none)) = some r := by first | (rw [hji20] at H; exact H) | (simp only [hji20] at H ⊢; exact H)
              have hji20w : (IntKind.i64.wrap ((y204.length : Int) - 1)) = ji20 := (i64_w _).trans hji20
              by_cases c21 : 0 ≤ (ji20)
              · rw [if_pos c21] at H
                have c21b0 : decide (0 ≤ (ji20)) = true := decide_eq_true c21
                clear c21
                by_cases c22 : (ji20) < (y204.length : Int)
                · rw [if_pos c22] at H
                  have c22b0 : decide ((ji20) < (y204.length : Int)) = true := decide_eq_true c22
                  clear c22
                  obtain ⟨y207, hy207⟩ : ∃ y_ : List Int, y_ = (y204.set ((ji20) : Int).toNat (wrap64 ((Go.bits .and .i64 a2 1048575) - 524288))) := ⟨_, rfl⟩
                  replace H : ((forward_Out.f kj5 a0_0 a0_1 y207 l1).bind fun bt208 => ((forward_Hidden.f kj5 a0_0 a0_1 y207 l1).bind fun bt210 => ((grafterlaw0_Num.f bt208.2).bind fun t214 => (if t214 = 0 then (if bt208.1 = (wrap64 ((Go.bits .and .i64 a2 1048575) - 524288)) then (if 0 ≤ a0_1 then (if (a0_1 : Int).toNat ≤ 35184372088832 then ((grafterlaw0_SameInts.f kj5 bt210.1 (List.replicate (a0_1 : Int).toNat 0)).bind fun t218 => (if t218 = true then ((grafterlaw0_Num.f bt210.2).bind fun t219 => (some (t219 == 0))) else (some false))) else (none)) else (none)) else (some false)) else (if bt208.1 = 0 then ((grafterlaw0_Num.f bt210.2).bind fun t220 => (some (t220 == 600))) else (some false)))))) = some r := by first | (rw [hy207]; with_reducible exact H) | (have H2_ := (Option.bind_some _ _).symm.trans H; rw [hy207]; with_reducible exact H2_) | (have H2_ := (Option.bind_some _ _).symm.trans H; with_reducible exact H2_) | with_reducible exact H | (rw [hy207]; exact H) | exact H
                  have Ny207 := Aside0.mk hy207
                  clear hy207
                  replace H := Option.bind_eq_some_iff.mp H
                  obtain ⟨⟨t208, t209⟩, A240, H⟩ := H
                  replace H : ((forward_Hidden.f kj5 a0_0 a0_1 y207 l1).bind fun bt210 => ((grafterlaw0_Num.f t209).bind fun t214 => (if t214 = 0 then (if t208 = (wrap64 ((Go.bits .and .i64 a2 1048575) - 524288)) then (if 0 ≤ a0_1 then (if (a0_1 : Int).toNat ≤ 35184372088832 then ((grafterlaw0_SameInts.f kj5 bt210.1 (List.replicate (a0_1 : Int).toNat 0)).bind fun t218 => (if t218 = true then ((grafterlaw0_Num.f bt210.2).bind fun t219 => (some (t219 == 0))) else (some false))) else (none)) else (none)) else (some false)) else (if t208 = 0 then ((grafterlaw0_Num.f bt210.2).bind fun t220 => (some (t220 == 600))) else (some false))))) = some r := H
                  have A24 := Aside0.mk A240
                  clear A240
                  replace H := Option.bind_eq_some_iff.mp H
                  obtain ⟨⟨t210, t213⟩, A250, H⟩ := H
                  replace H : ((grafterlaw0_Num.f t209).bind fun t214 => (if t214 = 0 then (if t208 = (wrap64 ((Go.bits .and .i64 a2 1048575) - 524288)) then (if 0 ≤ a0_1 then (if (a0_1 : Int).toNat ≤ 35184372088832 then ((grafterlaw0_SameInts.f kj5 t210 (List.replicate (a0_1 : Int).toNat 0)).bind fun t218 => (if t218 = true then ((grafterlaw0_Num.f t213).bind fun t219 => (some (t219 == 0))) else (some false))) else (none)) else (none)) else (some false)) else (if t208 = 0 then ((grafterlaw0_Num.f t213).bind fun t220 => (some (t220 == 600))) else (some false)))) = some r := H
                  have A25 := Aside0.mk A250
                  clear A250
                  replace H := Option.bind_eq_some_iff.mp H
                  obtain ⟨t214, A260, H⟩ := H
                  replace H : (if t214 = 0 then (if t208 = (wrap64 ((Go.bits .and .i64 a2 1048575) - 524288)) then (if 0 ≤ a0_1 then (if (a0_1 : Int).toNat ≤ 35184372088832 then ((grafterlaw0_SameInts.f kj5 t210 (List.replicate (a0_1 : Int).toNat 0)).bind fun t218 => (if t218 = true then ((grafterlaw0_Num.f t213).bind fun t219 => (some (t219 == 0))) else (some false))) else (none)) else (none)) else (some false)) else (if t208 = 0 then ((grafterlaw0_Num.f t213).bind fun t220 => (some (t220 == 600))) else (some false))) = some r := H
                  have A26 := Aside0.mk A260
                  clear A260
                  by_cases c27 : t214 = 0
                  · rw [if_pos c27] at H
                    have c27b0 : (t214 == 0) = true := beq_iff_eq.mpr c27
                    have c27b1 : (t214 != 0) = false := bne_eq_false_iff_eq.mpr c27
                    clear c27
                    by_cases c28 : t208 = (wrap64 ((Go.bits .and .i64 a2 1048575) - 524288))
                    · rw [if_pos c28] at H
                      have c28b0 : (t208 == (wrap64 ((Go.bits .and .i64 a2 1048575) - 524288))) = true := beq_iff_eq.mpr c28
                      (try have c28b4 : (t208 == ((Go.bits .and .i64 a2 1048575) - 524288)) = true := by (have h_ := beq_iff_eq.mp c28b0; unfold wrap64 at h_; exact beq_iff_eq.mpr (by omega)))
                      have c28b1 : (t208 != (wrap64 ((Go.bits .and .i64 a2 1048575) - 524288))) = false := bne_eq_false_iff_eq.mpr c28
                      clear c28
                      by_cases c29 : 0 ≤ a0_1
                      · rw [if_pos c29] at H
                        have c29b0 := eq_true c29
                        have c29b1 : decide (0 ≤ a0_1) = true := decide_eq_true c29
                        clear c29
                        by_cases c30 : (a0_1 : Int).toNat ≤ 35184372088832
                        · rw [if_pos c30] at H
                          have c30b0 := eq_true c30
                          have c30b1 : decide ((a0_1 : Int).toNat ≤ 35184372088832) = true := decide_eq_true c30
                          clear c30
                          obtain ⟨y215, hy215⟩ : ∃ y_ : List Int, y_ = (List.replicate (a0_1 : Int).toNat 0) := ⟨_, rfl⟩
                          replace H : ((grafterlaw0_SameInts.f kj5 t210 y215).bind fun t218 => (if t218 = true then ((grafterlaw0_Num.f t213).bind fun t219 => (some (t219 == 0))) else (some false))) = some r := by first | (rw [hy215]; with_reducible exact H) | (have H2_ := (Option.bind_some _ _).symm.trans H; rw [hy215]; with_reducible exact H2_) | (have H2_ := (Option.bind_some _ _).symm.trans H; with_reducible exact H2_) | with_reducible exact H | (rw [hy215]; exact H) | exact H
                          have Ny215 := Aside0.mk hy215
                          clear hy215
                          replace H := Option.bind_eq_some_iff.mp H
                          obtain ⟨t218, A310, H⟩ := H
                          replace H : (if t218 = true then ((grafterlaw0_Num.f t213).bind fun t219 => (some (t219 == 0))) else (some false)) = some r := H
                          have A31 := Aside0.mk A310
                          clear A310
                          by_cases c32 : t218 = true
                          · subst c32
                            have H1 : ((grafterlaw0_Num.f t213).bind fun t219 => (some (t219 == 0))) = some r := by rw [if_pos rfl] at H; exact H
                            clear H
                            have H := H1
                            clear H1
                            replace H := Option.bind_eq_some_iff.mp H
                            obtain ⟨t219, A330, H⟩ := H
                            replace H : (some (t219 == 0)) = some r := H
                            have A33 := Aside0.mk A330
                            clear A330
                            obtain rfl := Option.some.inj H
                            have hcz34_0 : wc.cell? ⟨gb202, 0, none⟩ = some (.int .i64 a0_0) := (blk_cell BK202.out 0).trans rfl
                            have hcz34_1 : wc.cell? ⟨gb202, 1, none⟩ = some (.int .i64 a0_1) := (blk_cell BK202.out 1).trans rfl
                            have hfz34_0 := blk_frozen BK202.out 0
                            have hfz34_1 := blk_frozen BK202.out 1
                            go_wp2_with (first | ((with_reducible refine gate_dst (N := 43) rfl ?_); (try (refine gate_guard (by rfl) ?_; dsimp only)); refine Kd.R_make (Kd.int .i64) _ 3 rfl (N := 43) rfl 33 _ _ rfl ji17 rfl rfl Try.underlying33 (.int .i64 0) 8 info3 rfl (by decide) (by omega) 0 (ok := fun _ => True) (okp := fun _ => True) rfl (fun _ hk => hk) trivial (of_decide_eq_true (by first | (with_reducible assumption) | assumption)) (Nat.le_trans (Nat.mul_le_mul_right _ (of_decide_eq_true (by first | (with_reducible assumption) | assumption) : ji17.toNat ≤ 35184372088832)) (by omega)) (Below.refl _ _) (Nat.le_refl _) ?_; intro v205 w35 ho36 hb hg_ hnew_; clear hg_ hnew_; (first | rw [← Ny204.out] at ho36 | (simp only [Int.reduceToNat] at ho36; rw [← Ny204.out] at ho36)); have n0_ := Aside0.mk (Kd.R_lower ho36 (below_size (by repeat (first | (with_reducible first | exact HB.out | apply below_alloc | apply pw_below_drewN | apply below_drew1 | refine below_set ?_ GE202.out) | exact HB.out)))); have n1_ := Aside0.mk (blk_below (g := gb202) (o := .cells #[.int .i64 a0_0, .int .i64 a0_1] 23 (0, 0)) (by (with_reducible repeat (first | refine blk_drewN ?_ _ | refine blk_drew ?_ | refine blk_alloc ?_ _)); exact BK202.out) hb); have n2_ := Aside0.mk (below_step (by repeat (first | (with_reducible first | exact HB.out | apply below_alloc | apply pw_below_drewN | apply below_drew1 | refine below_set ?_ GE202.out) | exact HB.out)) hb); clear BK202; clear HB; have HO206 := n0_; have BK202 := n1_; have HB := n2_; clear n0_ n1_ n2_; clear hb ho36; obtain ⟨Ao37, co37, eo37⟩ := Kd.R_slice HO206.out; subst eo37; have p23 : 0 ≤ ((ji20) : Int) := of_decide_eq_true (by first | (with_reducible assumption) | assumption); have q23 : ((ji20) : Int) < ((y204.length : Int) : Int) := of_decide_eq_true (by first | (with_reducible assumption) | assumption); obtain ⟨go23, co23, eo23, gb23, gl23, cl23, HG23⟩ := Kd.R_form HO206.out (by omega); (first | cases eo23 | (injection eo23 with ea_ en_ ec_; (first | subst ea_ | (injection ea_ with ea_; subst ea_)); subst ec_; clear en_)); have GB23 := Aside0.mk gb23; have GG23 := Aside0.mk HG23; clear gb23 gl23 HG23; obtain ⟨hx23_0, hf23_0⟩ := Kd.R_celln 0 HO206.out ((ji20) : Int) p23 q23; replace p23 := eq_true p23; replace q23 := eq_true q23; obtain ⟨hy38_, hz38_⟩ := Kd.R_celln 0 HO206.out ((ji20) : Int) (of_decide_eq_true (by first | (with_reducible assumption) | assumption)) (of_decide_eq_true (by first | (with_reducible assumption) | assumption)); have HP38 := Kd.R_putg HO206.out ((ji20) : Int) (wrap64 ((Go.bits .and .i64 a2 1048575) - 524288))) | ((with_reducible refine gate_store (t := 3) (p := 49) rfl ?_); refine store_event (t := 3) (p := 49) (v := ?vo_w39) (w1 := (w35.setCell ⟨go23, ((ji20) : Int).toNat, none⟩ (.int .i64 (wrap64 ((Go.bits .and .i64 a2 1048575) - 524288))))) ?hg ?ho ?hn ?hr ?_; (case ho => rfl); (case hg => rfl); (case hn => rfl); (case hr => first | (go_simp; done) | (go_simp; rfl)); intro w39 hw; have hg : w35.grownBy w39 (some go23) := (by rw [hw]; exact HP38.2); have hp_ : Kd.R (Kd.int .i64) 3 w39 w.heap.size (fun _ => True) (.slice (some ⟨go23, 0, none⟩) y204.length co37) y207 := (by rw [hw, Ny207.out]; exact HP38.1); clear HP38; have n0_ := Aside0.mk (blk_grown (g := gb202) (o := .cells #[.int .i64 a0_0, .int .i64 a0_1] 23 (0, 0)) (by (with_reducible repeat (first | refine blk_drewN ?_ _ | refine blk_drew ?_ | refine blk_alloc ?_ _)); exact BK202.out) hg (Kd.R_ne HO206.out BK202.out (by decide))); have n1_ := Aside0.mk (hp_); have n2_ := Aside0.mk ((by rw [hw]; exact below_set (HB.out) GB23.out : Below w.heap.size w w39)); clear BK202; clear HO206; clear HB; have BK202 := n0_; have HO206 := n1_; have HB := n2_; clear n0_ n1_ n2_; clear hg hw hp_; have hcz40_0 : w39.cell? ⟨gb202, 0, none⟩ = some (.int .i64 a0_0) := (blk_cell BK202.out 0).trans rfl; have hcz40_1 : w39.cell? ⟨gb202, 1, none⟩ = some (.int .i64 a0_1) := (blk_cell BK202.out 1).trans rfl; have hfz40_0 := blk_frozen BK202.out 0; have hfz40_1 := blk_frozen BK202.out 1) | ((with_reducible refine gate_callee (f := 37) rfl ?_); refine goesL_ (some 54) rfl rfl Try.func37 (by kernel_rfl) rfl #[.agg #[.int .i64 a0_0, .int .i64 a0_1], .slice (some ⟨go23, 0, none⟩) y207.length co37, .slice A1 l1.length c1] rfl (by (try simp only [List.map_toArray, List.map_cons, List.map_nil]); first | done | (rw [show y207.length = y204.length from (Kd.R_reads' HO206.out).1.symm] <;> rfl) | rfl | (simp only [List.length_drop, List.length_take]; rfl)) ?_; (with_reducible refine (forward_Out.calls kj5 a0_0 a0_1 _ _ y207 _ _ l1 t208 t209 _ ?side1 ?side2 ?side3 ?side4 A24.out).mono ?_); (case side1 => repeat (first | exact (Kd.R_reads' HO206.out).2.2 | (with_reducible refine Kd.C_alloc ?_ _) | (with_reducible refine Kd.C_drewN ?_ _) | (with_reducible refine Kd.C_drew ?_))); (case side2 => rw [show y207.length = y204.length from (Kd.R_reads' HO206.out).1.symm]; exact (Kd.R_reads' HO206.out).2.1); (case side3 => repeat (first | exact (Kd.C_below HR1.out HB.out) | (with_reducible refine Kd.C_alloc ?_ _) | (with_reducible refine Kd.C_drewN ?_ _) | (with_reducible refine Kd.C_drew ?_))); (case side4 => exact HC1.out); rintro e w41 ⟨rfl, hb⟩; refine ⟨_, rfl, ?_⟩; have n0_ := Aside0.mk (Kd.R_below (by (with_reducible repeat (first | apply Kd.R_alloc | apply Kd.R_drewN | apply Kd.R_drew)); exact HO206.out) hb); have n1_ := Aside0.mk (blk_below (g := gb202) (o := .cells #[.int .i64 a0_0, .int .i64 a0_1] 23 (0, 0)) (by (with_reducible repeat (first | refine blk_drewN ?_ _ | refine blk_drew ?_ | refine blk_alloc ?_ _)); exact BK202.out) hb); have n2_ := Aside0.mk (below_step (by repeat (first | (with_reducible first | exact HB.out | apply below_alloc | apply pw_below_drewN | apply below_drew1 | refine below_set ?_ GE202.out) | exact HB.out)) hb); clear HO206; clear BK202; clear HB; have HO206 := n0_; have BK202 := n1_; have HB := n2_; clear n0_ n1_ n2_; (try clear hb); (try clear hb2); (try clear hk); (try clear hi); have hcz42_0 : w41.cell? ⟨gb202, 0, none⟩ = some (.int .i64 a0_0) := (blk_cell BK202.out 0).trans rfl; have hcz42_1 : w41.cell? ⟨gb202, 1, none⟩ = some (.int .i64 a0_1) := (blk_cell BK202.out 1).trans rfl; have hfz42_0 := blk_frozen BK202.out 0; have hfz42_1 := blk_frozen BK202.out 1) | ((with_reducible refine gate_callee (f := 35) rfl ?_); refine goesL_ (some 61) rfl rfl Try.func35 (by kernel_rfl) rfl #[.agg #[.int .i64 a0_0, .int .i64 a0_1], .slice (some ⟨go23, 0, none⟩) y207.length co37, .slice A1 l1.length c1] rfl (by (try simp only [List.map_toArray, List.map_cons, List.map_nil]); first | done | (rw [show y207.length = y204.length from (Kd.R_reads' HO206.out).1.symm] <;> rfl) | rfl | (simp only [List.length_drop, List.length_take]; rfl)) ?_; (with_reducible refine (forward_Hidden.calls kj5 a0_0 a0_1 _ _ y207 _ _ l1 t210 t213 _ ?side1 ?side2 ?side3 ?side4 A25.out).mono ?_); (case side1 => repeat (first | exact (Kd.R_reads' HO206.out).2.2 | (with_reducible refine Kd.C_alloc ?_ _) | (with_reducible refine Kd.C_drewN ?_ _) | (with_reducible refine Kd.C_drew ?_))); (case side2 => rw [show y207.length = y204.length from (Kd.R_reads' HO206.out).1.symm]; exact (Kd.R_reads' HO206.out).2.1); (case side3 => repeat (first | exact (Kd.C_below HR1.out HB.out) | (with_reducible refine Kd.C_alloc ?_ _) | (with_reducible refine Kd.C_drewN ?_ _) | (with_reducible refine Kd.C_drew ?_))); (case side4 => exact HC1.out); rintro e w43 ⟨v211, rfl, ho0, hb⟩; refine ⟨_, rfl, ?_⟩; have n0_ := Aside0.mk (Kd.R_elder' (by (with_reducible repeat (first | apply Kd.R_alloc | apply Kd.R_drewN | apply Kd.R_drew)); exact HO206.out) (Kd.R_base ho0) hb); have n1_ := Aside0.mk (Kd.R_lower (Kd.R_new' ho0 (Kd.R_lt (by (with_reducible repeat (first | apply Kd.R_alloc | apply Kd.R_drewN | apply Kd.R_drew)); exact HO206.out))) (below_size (by repeat (first | (with_reducible first | exact HB.out | apply below_alloc | apply pw_below_drewN | apply below_drew1 | refine below_set ?_ GE202.out) | exact HB.out)))); have n2_ := Aside0.mk (blk_below (g := gb202) (o := .cells #[.int .i64 a0_0, .int .i64 a0_1] 23 (0, 0)) (by (with_reducible repeat (first | refine blk_drewN ?_ _ | refine blk_drew ?_ | refine blk_alloc ?_ _)); exact BK202.out) hb); have n3_ := Aside0.mk (below_step (by repeat (first | (with_reducible first | exact HB.out | apply below_alloc | apply pw_below_drewN | apply below_drew1 | refine below_set ?_ GE202.out) | exact HB.out)) hb); clear HO206; clear BK202; clear HB; have HO206 := n0_; have HO212 := n1_; have BK202 := n2_; have HB := n3_; clear n0_ n1_ n2_ n3_; (try clear hb); (try clear hb2); (try clear hk); (try clear hi); (try clear ho0)) | ((with_reducible refine gate_callee (f := 22) rfl ?_); refine goesL_ (some 65) rfl rfl Try.func22 (by kernel_rfl) rfl #[.int .i64 t209] rfl (by (try simp only [List.map_toArray, List.map_cons, List.map_nil]); first | done | rfl | (simp only [List.length_drop, List.length_take]; rfl)) ?_; (with_reducible refine (grafterlaw0_Num.calls t209 t214 _ A26.out).mono ?_); rintro e w' ⟨rfl, ⟨nd, rfl⟩⟩; refine ⟨_, rfl, ?_⟩; have hcz44_0 : w43.cell? ⟨gb202, 0, none⟩ = some (.int .i64 a0_0) := (blk_cell BK202.out 0).trans rfl; have hcz44_1 : w43.cell? ⟨gb202, 1, none⟩ = some (.int .i64 a0_1) := (blk_cell BK202.out 1).trans rfl; have hfz44_0 := blk_frozen BK202.out 0; have hfz44_1 := blk_frozen BK202.out 1; (try clear A26)) | ((with_reducible refine gate_dst (N := 81) rfl ?_); (try (refine gate_guard (by rfl) ?_; dsimp only)); refine Kd.R_make (Kd.int .i64) _ 3 rfl (N := 81) rfl 33 _ _ rfl a0_1 rfl rfl Try.underlying33 (.int .i64 0) 8 info3 rfl (by decide) (by omega) 0 (ok := fun _ => True) (okp := fun _ => True) rfl (fun _ hk => hk) trivial (of_decide_eq_true (by first | (with_reducible assumption) | assumption)) (Nat.le_trans (Nat.mul_le_mul_right _ (of_decide_eq_true (by first | (with_reducible assumption) | assumption) : a0_1.toNat ≤ 35184372088832)) (by omega)) (Below.refl _ _) (Nat.le_refl _) ?_; intro v216 w45 ho46 hb hg_ hnew_; clear hg_ hnew_; (first | rw [← Ny215.out] at ho46 | (simp only [Int.reduceToNat] at ho46; rw [← Ny215.out] at ho46)); have n0_ := Aside0.mk (Kd.R_elder' (by (with_reducible repeat (first | apply Kd.R_alloc | apply Kd.R_drewN | apply Kd.R_drew)); exact HO206.out) (Kd.R_base ho46) hb); have n1_ := Aside0.mk (Kd.R_elder' (by (with_reducible repeat (first | apply Kd.R_alloc | apply Kd.R_drewN | apply Kd.R_drew)); exact HO212.out) (Kd.R_base ho46) hb); have n2_ := Aside0.mk (Kd.R_lower (Kd.R_new' (Kd.R_new' ho46 (Kd.R_lt (by (with_reducible repeat (first | apply Kd.R_alloc | apply Kd.R_drewN | apply Kd.R_drew)); exact HO206.out))) (Kd.R_lt (by (with_reducible repeat (first | apply Kd.R_alloc | apply Kd.R_drewN | apply Kd.R_drew)); exact HO212.out))) (below_size (by repeat (first | (with_reducible first | exact HB.out | apply below_alloc | apply pw_below_drewN | apply below_drew1 | refine below_set ?_ GE202.out) | exact HB.out)))); have n3_ := Aside0.mk (blk_below (g := gb202) (o := .cells #[.int .i64 a0_0, .int .i64 a0_1] 23 (0, 0)) (by (with_reducible repeat (first | refine blk_drewN ?_ _ | refine blk_drew ?_ | refine blk_alloc ?_ _)); exact BK202.out) hb); have n4_ := Aside0.mk (below_step (by repeat (first | (with_reducible first | exact HB.out | apply below_alloc | apply pw_below_drewN | apply below_drew1 | refine below_set ?_ GE202.out) | exact HB.out)) hb); clear HO206; clear HO212; clear BK202; clear HB; have HO206 := n0_; have HO212 := n1_; have HO217 := n2_; have BK202 := n3_; have HB := n4_; clear n0_ n1_ n2_ n3_ n4_; clear hb ho46; obtain ⟨Ao47, co47, eo47⟩ := Kd.R_slice HO212.out; subst eo47; obtain ⟨Ao48, co48, eo48⟩ := Kd.R_slice HO217.out; subst eo48) | (go_at_call 38; (with_reducible refine (grafterlaw0_SameInts.calls kj5 _ _ t210 _ _ y215 true _ ?side1 ?side2 ?side3 ?side4 A31.out).mono ?_); (case side1 => repeat (first | exact (Kd.R_reads' HO212.out).2.2 | (with_reducible refine Kd.C_alloc ?_ _) | (with_reducible refine Kd.C_drewN ?_ _) | (with_reducible refine Kd.C_drew ?_))); (case side2 => exact (Kd.R_reads' HO212.out).2.1); (case side3 => repeat (first | exact (Kd.R_reads' HO217.out).2.2 | (with_reducible refine Kd.C_alloc ?_ _) | (with_reducible refine Kd.C_drewN ?_ _) | (with_reducible refine Kd.C_drew ?_))); (case side4 => exact (Kd.R_reads' HO217.out).2.1); rintro e w' ⟨rfl, ⟨nd, rfl⟩⟩) | (go_at_call 22; (with_reducible refine (grafterlaw0_Num.calls t213 t219 _ A33.out).mono ?_); rintro e w' ⟨rfl, ⟨nd, rfl⟩⟩; (try clear A33)))
                            go_ret
                            exact ⟨by first | rfl | (simp [errW_none, errW_some] <;> rfl) | (simp only [← hji17, ← hji20]; first | rfl | (simp [errW_none, errW_some] <;> rfl)) | (simp [*, errW_none, errW_some] <;> rfl), by repeat (first | (with_reducible first | exact HB.out | apply below_alloc | apply pw_below_drewN | apply below_drew1 | refine below_set ?_ GE202.out) | exact HB.out)⟩
                          · replace c32 := Bool.eq_false_iff.mpr c32
                            subst c32
                            have H1 : (some false) = some r := by rw [if_neg (show ¬ (false = true) by decide)] at H; exact H
                            clear H
                            have H := H1
                            clear H1
                            exact absurd ((Option.some.inj H).trans HRT.out) Bool.false_ne_true
                        · rw [if_neg c30] at H
                          exact absurd H (by simp)
                      · rw [if_neg c29] at H
                        exact absurd H (by simp)
                    · rw [if_neg c28] at H
                      have c28b0 : (t208 == (wrap64 ((Go.bits .and .i64 a2 1048575) - 524288))) = false := beq_eq_false_iff_ne.mpr c28
                      (try have c28b4 : (t208 == ((Go.bits .and .i64 a2 1048575) - 524288)) = false := by (have h_ := beq_eq_false_iff_ne.mp c28b0; unfold wrap64 at h_; exact beq_eq_false_iff_ne.mpr (by omega)))
                      have c28b1 : (t208 != (wrap64 ((Go.bits .and .i64 a2 1048575) - 524288))) = true := bne_iff_ne.mpr c28
                      exact absurd ((Option.some.inj H).trans HRT.out) Bool.false_ne_true
                  · rw [if_neg c27] at H
                    have c27b0 : (t214 == 0) = false := beq_eq_false_iff_ne.mpr c27
                    have c27b1 : (t214 != 0) = true := bne_iff_ne.mpr c27
                    by_cases c74 : t208 = 0
                    · rw [if_pos c74] at H
                      have c74b0 : (t208 == 0) = true := beq_iff_eq.mpr c74
                      have c74b1 : (t208 != 0) = false := bne_eq_false_iff_eq.mpr c74
                      clear c74
                      replace H := Option.bind_eq_some_iff.mp H
                      obtain ⟨t220, A750, H⟩ := H
                      replace H : (some (t220 == 600)) = some r := H
                      have A75 := Aside0.mk A750
                      clear A750
                      obtain rfl := Option.some.inj H
                      have hcz76_0 : wc.cell? ⟨gb202, 0, none⟩ = some (.int .i64 a0_0) := (blk_cell BK202.out 0).trans rfl
                      have hcz76_1 : wc.cell? ⟨gb202, 1, none⟩ = some (.int .i64 a0_1) := (blk_cell BK202.out 1).trans rfl
                      have hfz76_0 := blk_frozen BK202.out 0
                      have hfz76_1 := blk_frozen BK202.out 1
                      go_wp2_with (first | ((with_reducible refine gate_dst (N := 43) rfl ?_); (try (refine gate_guard (by rfl) ?_; dsimp only)); refine Kd.R_make (Kd.int .i64) _ 3 rfl (N := 43) rfl 33 _ _ rfl ji17 rfl rfl Try.underlying33 (.int .i64 0) 8 info3 rfl (by decide) (by omega) 0 (ok := fun _ => True) (okp := fun _ => True) rfl (fun _ hk => hk) trivial (of_decide_eq_true (by first | (with_reducible assumption) | assumption)) (Nat.le_trans (Nat.mul_le_mul_right _ (of_decide_eq_true (by first | (with_reducible assumption) | assumption) : ji17.toNat ≤ 35184372088832)) (by omega)) (Below.refl _ _) (Nat.le_refl _) ?_; intro v205 w77 ho78 hb hg_ hnew_; clear hg_ hnew_; (first | rw [← Ny204.out] at ho78 | (simp only [Int.reduceToNat] at ho78; rw [← Ny204.out] at ho78)); have n0_ := Aside0.mk (Kd.R_lower ho78 (below_size (by repeat (first | (with_reducible first | exact HB.out | apply below_alloc | apply pw_below_drewN | apply below_drew1 | refine below_set ?_ GE202.out) | exact HB.out)))); have n1_ := Aside0.mk (blk_below (g := gb202) (o := .cells #[.int .i64 a0_0, .int .i64 a0_1] 23 (0, 0)) (by (with_reducible repeat (first | refine blk_drewN ?_ _ | refine blk_drew ?_ | refine blk_alloc ?_ _)); exact BK202.out) hb); have n2_ := Aside0.mk (below_step (by repeat (first | (with_reducible first | exact HB.out | apply below_alloc | apply pw_below_drewN | apply below_drew1 | refine below_set ?_ GE202.out) | exact HB.out)) hb); clear BK202; clear HB; have HO206 := n0_; have BK202 := n1_; have HB := n2_; clear n0_ n1_ n2_; clear hb ho78; obtain ⟨Ao79, co79, eo79⟩ := Kd.R_slice HO206.out; subst eo79; have p23 : 0 ≤ ((ji20) : Int) := of_decide_eq_true (by first | (with_reducible assumption) | assumption); have q23 : ((ji20) : Int) < ((y204.length : Int) : Int) := of_decide_eq_true (by first | (with_reducible assumption) | assumption); obtain ⟨go23, co23, eo23, gb23, gl23, cl23, HG23⟩ := Kd.R_form HO206.out (by omega); (first | cases eo23 | (injection eo23 with ea_ en_ ec_; (first | subst ea_ | (injection ea_ with ea_; subst ea_)); subst ec_; clear en_)); have GB23 := Aside0.mk gb23; have GG23 := Aside0.mk HG23; clear gb23 gl23 HG23; obtain ⟨hx23_0, hf23_0⟩ := Kd.R_celln 0 HO206.out ((ji20) : Int) p23 q23; replace p23 := eq_true p23; replace q23 := eq_true q23; obtain ⟨hy80_, hz80_⟩ := Kd.R_celln 0 HO206.out ((ji20) : Int) (of_decide_eq_true (by first | (with_reducible assumption) | assumption)) (of_decide_eq_true (by first | (with_reducible assumption) | assumption)); have HP80 := Kd.R_putg HO206.out ((ji20) : Int) (wrap64 ((Go.bits .and .i64 a2 1048575) - 524288))) | ((with_reducible refine gate_store (t := 3) (p := 49) rfl ?_); refine store_event (t := 3) (p := 49) (v := ?vo_w81) (w1 := (w77.setCell ⟨go23, ((ji20) : Int).toNat, none⟩ (.int .i64 (wrap64 ((Go.bits .and .i64 a2 1048575) - 524288))))) ?hg ?ho ?hn ?hr ?_; (case ho => rfl); (case hg => rfl); (case hn => rfl); (case hr => first | (go_simp; done) | (go_simp; rfl)); intro w81 hw; have hg : w77.grownBy w81 (some go23) := (by rw [hw]; exact HP80.2); have hp_ : Kd.R (Kd.int .i64) 3 w81 w.heap.size (fun _ => True) (.slice (some ⟨go23, 0, none⟩) y204.length co79) y207 := (by rw [hw, Ny207.out]; exact HP80.1); clear HP80; have n0_ := Aside0.mk (blk_grown (g := gb202) (o := .cells #[.int .i64 a0_0, .int .i64 a0_1] 23 (0, 0)) (by (with_reducible repeat (first | refine blk_drewN ?_ _ | refine blk_drew ?_ | refine blk_alloc ?_ _)); exact BK202.out) hg (Kd.R_ne HO206.out BK202.out (by decide))); have n1_ := Aside0.mk (hp_); have n2_ := Aside0.mk ((by rw [hw]; exact below_set (HB.out) GB23.out : Below w.heap.size w w81)); clear BK202; clear HO206; clear HB; have BK202 := n0_; have HO206 := n1_; have HB := n2_; clear n0_ n1_ n2_; clear hg hw hp_; have hcz82_0 : w81.cell? ⟨gb202, 0, none⟩ = some (.int .i64 a0_0) := (blk_cell BK202.out 0).trans rfl; have hcz82_1 : w81.cell? ⟨gb202, 1, none⟩ = some (.int .i64 a0_1) := (blk_cell BK202.out 1).trans rfl; have hfz82_0 := blk_frozen BK202.out 0; have hfz82_1 := blk_frozen BK202.out 1) | ((with_reducible refine gate_callee (f := 37) rfl ?_); refine goesL_ (some 54) rfl rfl Try.func37 (by kernel_rfl) rfl #[.agg #[.int .i64 a0_0, .int .i64 a0_1], .slice (some ⟨go23, 0, none⟩) y207.length co79, .slice A1 l1.length c1] rfl (by (try simp only [List.map_toArray, List.map_cons, List.map_nil]); first | done | (rw [show y207.length = y204.length from (Kd.R_reads' HO206.out).1.symm] <;> rfl) | rfl | (simp only [List.length_drop, List.length_take]; rfl)) ?_; (with_reducible refine (forward_Out.calls kj5 a0_0 a0_1 _ _ y207 _ _ l1 t208 t209 _ ?side1 ?side2 ?side3 ?side4 A24.out).mono ?_); (case side1 => repeat (first | exact (Kd.R_reads' HO206.out).2.2 | (with_reducible refine Kd.C_alloc ?_ _) | (with_reducible refine Kd.C_drewN ?_ _) | (with_reducible refine Kd.C_drew ?_))); (case side2 => rw [show y207.length = y204.length from (Kd.R_reads' HO206.out).1.symm]; exact (Kd.R_reads' HO206.out).2.1); (case side3 => repeat (first | exact (Kd.C_below HR1.out HB.out) | (with_reducible refine Kd.C_alloc ?_ _) | (with_reducible refine Kd.C_drewN ?_ _) | (with_reducible refine Kd.C_drew ?_))); (case side4 => exact HC1.out); rintro e w83 ⟨rfl, hb⟩; refine ⟨_, rfl, ?_⟩; have n0_ := Aside0.mk (Kd.R_below (by (with_reducible repeat (first | apply Kd.R_alloc | apply Kd.R_drewN | apply Kd.R_drew)); exact HO206.out) hb); have n1_ := Aside0.mk (blk_below (g := gb202) (o := .cells #[.int .i64 a0_0, .int .i64 a0_1] 23 (0, 0)) (by (with_reducible repeat (first | refine blk_drewN ?_ _ | refine blk_drew ?_ | refine blk_alloc ?_ _)); exact BK202.out) hb); have n2_ := Aside0.mk (below_step (by repeat (first | (with_reducible first | exact HB.out | apply below_alloc | apply pw_below_drewN | apply below_drew1 | refine below_set ?_ GE202.out) | exact HB.out)) hb); clear HO206; clear BK202; clear HB; have HO206 := n0_; have BK202 := n1_; have HB := n2_; clear n0_ n1_ n2_; (try clear hb); (try clear hb2); (try clear hk); (try clear hi); have hcz84_0 : w83.cell? ⟨gb202, 0, none⟩ = some (.int .i64 a0_0) := (blk_cell BK202.out 0).trans rfl; have hcz84_1 : w83.cell? ⟨gb202, 1, none⟩ = some (.int .i64 a0_1) := (blk_cell BK202.out 1).trans rfl; have hfz84_0 := blk_frozen BK202.out 0; have hfz84_1 := blk_frozen BK202.out 1) | ((with_reducible refine gate_callee (f := 35) rfl ?_); refine goesL_ (some 61) rfl rfl Try.func35 (by kernel_rfl) rfl #[.agg #[.int .i64 a0_0, .int .i64 a0_1], .slice (some ⟨go23, 0, none⟩) y207.length co79, .slice A1 l1.length c1] rfl (by (try simp only [List.map_toArray, List.map_cons, List.map_nil]); first | done | (rw [show y207.length = y204.length from (Kd.R_reads' HO206.out).1.symm] <;> rfl) | rfl | (simp only [List.length_drop, List.length_take]; rfl)) ?_; (with_reducible refine (forward_Hidden.calls kj5 a0_0 a0_1 _ _ y207 _ _ l1 t210 t213 _ ?side1 ?side2 ?side3 ?side4 A25.out).mono ?_); (case side1 => repeat (first | exact (Kd.R_reads' HO206.out).2.2 | (with_reducible refine Kd.C_alloc ?_ _) | (with_reducible refine Kd.C_drewN ?_ _) | (with_reducible refine Kd.C_drew ?_))); (case side2 => rw [show y207.length = y204.length from (Kd.R_reads' HO206.out).1.symm]; exact (Kd.R_reads' HO206.out).2.1); (case side3 => repeat (first | exact (Kd.C_below HR1.out HB.out) | (with_reducible refine Kd.C_alloc ?_ _) | (with_reducible refine Kd.C_drewN ?_ _) | (with_reducible refine Kd.C_drew ?_))); (case side4 => exact HC1.out); rintro e w85 ⟨v211, rfl, ho0, hb⟩; refine ⟨_, rfl, ?_⟩; have n0_ := Aside0.mk (Kd.R_elder' (by (with_reducible repeat (first | apply Kd.R_alloc | apply Kd.R_drewN | apply Kd.R_drew)); exact HO206.out) (Kd.R_base ho0) hb); have n1_ := Aside0.mk (Kd.R_lower (Kd.R_new' ho0 (Kd.R_lt (by (with_reducible repeat (first | apply Kd.R_alloc | apply Kd.R_drewN | apply Kd.R_drew)); exact HO206.out))) (below_size (by repeat (first | (with_reducible first | exact HB.out | apply below_alloc | apply pw_below_drewN | apply below_drew1 | refine below_set ?_ GE202.out) | exact HB.out)))); have n2_ := Aside0.mk (blk_below (g := gb202) (o := .cells #[.int .i64 a0_0, .int .i64 a0_1] 23 (0, 0)) (by (with_reducible repeat (first | refine blk_drewN ?_ _ | refine blk_drew ?_ | refine blk_alloc ?_ _)); exact BK202.out) hb); have n3_ := Aside0.mk (below_step (by repeat (first | (with_reducible first | exact HB.out | apply below_alloc | apply pw_below_drewN | apply below_drew1 | refine below_set ?_ GE202.out) | exact HB.out)) hb); clear HO206; clear BK202; clear HB; have HO206 := n0_; have HO212 := n1_; have BK202 := n2_; have HB := n3_; clear n0_ n1_ n2_ n3_; (try clear hb); (try clear hb2); (try clear hk); (try clear hi); (try clear ho0)) | ((with_reducible refine gate_callee (f := 22) rfl ?_); refine goesL_ (some 65) rfl rfl Try.func22 (by kernel_rfl) rfl #[.int .i64 t209] rfl (by (try simp only [List.map_toArray, List.map_cons, List.map_nil]); first | done | rfl | (simp only [List.length_drop, List.length_take]; rfl)) ?_; (with_reducible refine (grafterlaw0_Num.calls t209 t214 _ A26.out).mono ?_); rintro e w' ⟨rfl, ⟨nd, rfl⟩⟩; refine ⟨_, rfl, ?_⟩; (try clear A26)) | (go_at_call 22; (with_reducible refine (grafterlaw0_Num.calls t213 t220 _ A75.out).mono ?_); rintro e w' ⟨rfl, ⟨nd, rfl⟩⟩; (try clear A75)))
                      go_ret
                      exact ⟨by first | rfl | (simp [errW_none, errW_some] <;> rfl) | (simp only [← hji17, ← hji20]; first | rfl | (simp [errW_none, errW_some] <;> rfl)) | (simp [*, errW_none, errW_some] <;> rfl), by repeat (first | (with_reducible first | exact HB.out | apply below_alloc | apply pw_below_drewN | apply below_drew1 | refine below_set ?_ GE202.out) | exact HB.out)⟩
                    · rw [if_neg c74] at H
                      have c74b0 : (t208 == 0) = false := beq_eq_false_iff_ne.mpr c74
                      have c74b1 : (t208 != 0) = true := bne_iff_ne.mpr c74
                      exact absurd ((Option.some.inj H).trans HRT.out) Bool.false_ne_true
                · rw [if_neg c22] at H
                  exact absurd H (by simp)
              · rw [if_neg c21] at H
                exact absurd H (by simp)
            · rw [if_neg c19] at H
              exact absurd H (by simp)
          · rw [if_neg c18] at H
            exact absurd H (by simp)
  · replace c5 := Bool.eq_false_iff.mpr c5
    subst c5
    have H1 : (some false) = some r := by rw [if_neg (show ¬ (false = true) by decide)] at H; exact H
    clear H
    have H := H1
    clear H1
    exact absurd ((Option.some.inj H).trans HRT.out) Bool.false_ne_true

def grafterlaw6_ForwardZero.Pure : Prop := ∀ (a0_0 : Int) (a0_1 : Int) (l1 : List Int) (a2 : Int), (Lit.int .i64 a0_0).wf = true → (Lit.int .i64 a0_1).wf = true → l1.length ≤ maxLen → l1.length * 8 ≤ 140737488351232 → (∀ x ∈ l1, (Lit.int .i64 x).wf = true) → (Lit.int .i64 a2).wf = true → ∃ k, grafterlaw6_ForwardZero.f k a0_0 a0_1 l1 a2 = some true
theorem grafterlaw6_ForwardZero.walk (P : grafterlaw6_ForwardZero.Pure) (a0_0 : Int) (a0_1 : Int) (a1 : Option Addr) (len1 cap1 : Nat) (z1 : List Int) (a2 : Int) (w : World) (w0_0 : (Lit.int .i64 a0_0).wf = true) (w0_1 : (Lit.int .i64 a0_1).wf = true) (w1 : (a1 = none ∧ len1 = 0 ∧ cap1 = 0 ∧ z1 = []) ∨ ∃ x, a1 = some x ∧ len1 ≤ cap1 ∧ cap1 ≤ maxLen ∧ z1.length = cap1 ∧ (∀ i, i < z1.length → w.cell? (x.add i) = some (.int .i64 (z1.getD i 0))) ∧ ∀ n ∈ z1, (Lit.int .i64 n).wf = true) (y1 : len1 * 8 ≤ 140737488351232) (w2 : (Lit.int .i64 a2).wf = true) :
    Calls Try.prog 13 #[.agg #[.int .i64 a0_0, .int .i64 a0_1], .slice a1 len1 cap1, .int .i64 a2] w fun e w' => e = .returned (.bool true) ∧ Below w.heap.size w w' := by
  obtain ⟨l1, rfl, hr1, hm1, hw1, hc1⟩ := ReadsInt.ofRowC w1
  obtain ⟨k, h⟩ := P a0_0 a0_1 l1 a2 w0_0 w0_1 hm1 y1 hw1 w2
  refine (grafterlaw6_ForwardZero.calls k a0_0 a0_1 _ _ l1 a2 true w rfl (Kd.C_of_reads (d := (0 : Int)) (h1 := fun _ => rfl) hr1) hc1 h).mono ?_
  rintro e w' ⟨rfl, hd⟩
  exact ⟨rfl, hd⟩

end Go.Proofs.Ytdgbfgnmeoihiaa.PForwardZero
