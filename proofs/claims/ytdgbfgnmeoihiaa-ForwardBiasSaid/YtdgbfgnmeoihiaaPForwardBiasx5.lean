-- Written by a program of this session (pprint.py) out of the translation, with hand-proved walks pasted in.
import Derived.Test.YtdgbfgnmeoihiaaPForwardBiasx0
import Derived.Test.YtdgbfgnmeoihiaaPForwardBiasx1
import Derived.Test.YtdgbfgnmeoihiaaPForwardBiasx2
import Derived.Test.YtdgbfgnmeoihiaaPForwardBiasx4
namespace Go.Proofs.Ytdgbfgnmeoihiaa.PForwardBias
open Go.RowKit Go.Proofs.YtdgbfgnmeoihiaaW.PrintWords Go.Proofs.YtdgbfgnmeoihiaaW.PrintLast Go.Proofs.YtdgbfgnmeoihiaaW.PrintMore
attribute [local go_sem] max2_int min2_int max_two min_two max_three min_three max_four min_four   -- for this text's walks alone
set_option linter.unusedVariables false
set_option linter.unusedSimpArgs false

/-! ### grafterlaw6_ForwardBias: function 15 -/
mutual
def grafterlaw6_ForwardBias.j0 : Nat → List Int → List Int → Int → Int → Bool → Int → Int → Option (Bool)
  | 0, _, _, _, _, _, _, _ => none
  | k + 1, x1, x2, x3, x9, x32, x204000, x204001 => if x32 = true then (some (x9 == 0)) else ((some (([] : List Int) : List Int)).bind fun y208 => (if y208.length + x1.length < 17592186044416 then ((some (y208 ++ x1 : List Int)).bind fun y211 => (if 0 ≤ (wrap64 ((y211.length : Int) - 1)) then (if (wrap64 ((y211.length : Int) - 1)) < (y211.length : Int) then ((some (y211.set ((wrap64 ((y211.length : Int) - 1)) : Int).toNat (wrap64 ((rd y211 (wrap64 ((y211.length : Int) - 1))) + (Go.bits .and .i64 x3 65535))) : List Int)).bind fun y215 => (if (rd y215 (wrap64 ((y211.length : Int) - 1))) > 1073741824 then (grafterlaw6_ForwardBias.j1 k x2 x9 (Go.bits .and .i64 x3 65535) y215 true x204000 x204001) else (if x9 > (wrap64 (1073741824 - (Go.bits .and .i64 x3 65535))) then (grafterlaw6_ForwardBias.j1 k x2 x9 (Go.bits .and .i64 x3 65535) y215 true x204000 x204001) else (grafterlaw6_ForwardBias.j1 k x2 x9 (Go.bits .and .i64 x3 65535) y215 (x9 == (-1073741824)) x204000 x204001)))) else (none)) else (none))) else (none)))
def grafterlaw6_ForwardBias.j1 : Nat → List Int → Int → Int → List Int → Bool → Int → Int → Option (Bool)
  | 0, _, _, _, _, _, _, _ => none
  | k + 1, x2, x9, x11, x12, x66, x204000, x204001 => if x66 = true then (some true) else ((forward_Out.f k x204000 x204001 x12 x2).bind fun bt217 => ((grafterlaw0_Num.f bt217.2).bind fun t219 => (if t219 = 0 then (if bt217.1 = (wrap64 (x9 + x11)) then ((grafterref1_FixMay.f bt217.1).bind fun t220 => (some t220)) else (some false)) else (some false))))
end
def grafterlaw6_ForwardBias.f (k : Nat) (a0_0 : Int) (a0_1 : Int) (l1 : List Int) (l2 : List Int) (a3 : Int) : Option (Bool) := (grafterlaw6_awake.f k).bind fun t204 => (if t204 = true then ((forward_Out.f k a0_0 a0_1 l1 l2).bind fun bt205 => ((grafterlaw0_Num.f bt205.2).bind fun t207 => (if t207 = 0 then (grafterlaw6_ForwardBias.j0 k l1 l2 a3 bt205.1 ((l1.length : Int) == 0) a0_0 a0_1) else (grafterlaw6_ForwardBias.j0 k l1 l2 a3 bt205.1 true a0_0 a0_1)))) else (some false))
theorem grafterlaw6_ForwardBias.mono_l : ∀ k, (∀ y0 y1 y2 y3 y4 y5 y6, LeO (grafterlaw6_ForwardBias.j0 k y0 y1 y2 y3 y4 y5 y6) (grafterlaw6_ForwardBias.j0 (k + 1) y0 y1 y2 y3 y4 y5 y6)) ∧ (∀ y0 y1 y2 y3 y4 y5 y6, LeO (grafterlaw6_ForwardBias.j1 k y0 y1 y2 y3 y4 y5 y6) (grafterlaw6_ForwardBias.j1 (k + 1) y0 y1 y2 y3 y4 y5 y6))
  | 0 => ⟨fun _ _ _ _ _ _ _ r h => by simp [grafterlaw6_ForwardBias.j0] at h, fun _ _ _ _ _ _ _ r h => by simp [grafterlaw6_ForwardBias.j1] at h⟩
  | k + 1 => by
    obtain ⟨ih0, ih1⟩ := grafterlaw6_ForwardBias.mono_l k
    refine ⟨?_, ?_⟩
    · intro y0 y1 y2 y3 y4 y5 y6
      unfold grafterlaw6_ForwardBias.j0
      repeat' first
      | (with_reducible exact ih0 _ _ _ _ _ _ _)
      | (with_reducible exact ih1 _ _ _ _ _ _ _)
      | (with_reducible exact forward_Out.mono _ _ _ _ _)
      | (with_reducible exact grafterlaw6_awake.mono _)
      | (with_reducible exact LeO.refl _)
      | (with_reducible exact LeO.none _)
      | (with_reducible refine LeO.ite ?_ ?_)
      | (with_reducible refine LeO.bind ?_ (fun _ => ?_))
      | exact ih0 _ _ _ _ _ _ _
      | exact ih1 _ _ _ _ _ _ _
      | exact forward_Out.mono _ _ _ _ _
      | exact grafterlaw6_awake.mono _
      | exact LeO.none _
      | refine LeO.ite ?_ ?_
      | refine LeO.bind ?_ (fun _ => ?_)
    · intro y0 y1 y2 y3 y4 y5 y6
      unfold grafterlaw6_ForwardBias.j1
      repeat' first
      | (with_reducible exact ih0 _ _ _ _ _ _ _)
      | (with_reducible exact ih1 _ _ _ _ _ _ _)
      | (with_reducible exact forward_Out.mono _ _ _ _ _)
      | (with_reducible exact grafterlaw6_awake.mono _)
      | (with_reducible exact LeO.refl _)
      | (with_reducible exact LeO.none _)
      | (with_reducible refine LeO.ite ?_ ?_)
      | (with_reducible refine LeO.bind ?_ (fun _ => ?_))
      | exact ih0 _ _ _ _ _ _ _
      | exact ih1 _ _ _ _ _ _ _
      | exact forward_Out.mono _ _ _ _ _
      | exact grafterlaw6_awake.mono _
      | exact LeO.none _
      | refine LeO.ite ?_ ?_
      | refine LeO.bind ?_ (fun _ => ?_)
theorem grafterlaw6_ForwardBias.mono : ∀ a0 a1 a2 a3 a4 k, LeO (grafterlaw6_ForwardBias.f k a0 a1 a2 a3 a4) (grafterlaw6_ForwardBias.f (k + 1) a0 a1 a2 a3 a4) := by
  intro a0 a1 a2 a3 a4 k
  obtain ⟨ih0, ih1⟩ := grafterlaw6_ForwardBias.mono_l k
  unfold grafterlaw6_ForwardBias.f
  repeat' first
      | (with_reducible exact ih0 _ _ _ _ _ _ _)
      | (with_reducible exact ih1 _ _ _ _ _ _ _)
      | (with_reducible exact forward_Out.mono _ _ _ _ _)
      | (with_reducible exact grafterlaw6_awake.mono _)
      | (with_reducible exact LeO.refl _)
      | (with_reducible exact LeO.none _)
      | (with_reducible refine LeO.ite ?_ ?_)
      | (with_reducible refine LeO.bind ?_ (fun _ => ?_))
      | exact ih0 _ _ _ _ _ _ _
      | exact ih1 _ _ _ _ _ _ _
      | exact forward_Out.mono _ _ _ _ _
      | exact grafterlaw6_awake.mono _
      | exact LeO.none _
      | refine LeO.ite ?_ ?_
      | refine LeO.bind ?_ (fun _ => ?_)
set_option maxHeartbeats 8000000 in
set_option maxRecDepth 100000 in
theorem grafterlaw6_ForwardBias.calls (k : Nat) (a0_0 : Int) (a0_1 : Int) (A1 : Option Addr) (c1 : Nat) (l1 : List Int) (A2 : Option Addr) (c2 : Nat) (l2 : List Int) (a3 : Int) (r : Bool) (w : World) (hrt : r = true) (hr1 : Kd.C (Kd.int .i64) w A1 l1.length l1) (hc1 : l1.length ≤ c1) (hr2 : Kd.C (Kd.int .i64) w A2 l2.length l2) (hc2 : l2.length ≤ c2) (h : grafterlaw6_ForwardBias.f k a0_0 a0_1 l1 l2 a3 = some r) :
    Calls Try.prog 15 #[.agg #[.int .i64 a0_0, .int .i64 a0_1], .slice A1 l1.length c1, .slice A2 l2.length c2, .int .i64 a3] w fun e w' => e = .returned (.bool r) ∧ Below w.heap.size w w' := by
  have HRT := Aside0.mk hrt
  clear hrt
  have hu23 := Try.underlying23
  have HR1 := Aside0.mk hr1
  have HC1 := Aside0.mk hc1
  clear hr1 hc1
  have HR2 := Aside0.mk hr2
  have HC2 := Aside0.mk hc2
  clear hr2 hc2
  have HB := Aside0.mk (Below.refl w.heap.size w)
  have H : ((grafterlaw6_awake.f k).bind fun t204 => (if t204 = true then ((forward_Out.f k a0_0 a0_1 l1 l2).bind fun bt205 => ((grafterlaw0_Num.f bt205.2).bind fun t207 => (if t207 = 0 then (grafterlaw6_ForwardBias.j0 k l1 l2 a3 bt205.1 ((l1.length : Int) == 0) a0_0 a0_1) else (grafterlaw6_ForwardBias.j0 k l1 l2 a3 bt205.1 true a0_0 a0_1)))) else (some false))) = some r := h
  clear h
  replace H := Option.bind_eq_some_iff.mp H
  obtain ⟨t204, A50, H⟩ := H
  replace H : (if t204 = true then ((forward_Out.f k a0_0 a0_1 l1 l2).bind fun bt205 => ((grafterlaw0_Num.f bt205.2).bind fun t207 => (if t207 = 0 then (grafterlaw6_ForwardBias.j0 k l1 l2 a3 bt205.1 ((l1.length : Int) == 0) a0_0 a0_1) else (grafterlaw6_ForwardBias.j0 k l1 l2 a3 bt205.1 true a0_0 a0_1)))) else (some false)) = some r := H
  have A5 := Aside0.mk A50
  clear A50
  by_cases c6 : t204 = true
  · subst c6
    have H1 : ((forward_Out.f k a0_0 a0_1 l1 l2).bind fun bt205 => ((grafterlaw0_Num.f bt205.2).bind fun t207 => (if t207 = 0 then (grafterlaw6_ForwardBias.j0 k l1 l2 a3 bt205.1 ((l1.length : Int) == 0) a0_0 a0_1) else (grafterlaw6_ForwardBias.j0 k l1 l2 a3 bt205.1 true a0_0 a0_1)))) = some r := by rw [if_pos rfl] at H; exact H
    clear H
    have H := H1
    clear H1
    replace H := Option.bind_eq_some_iff.mp H
    obtain ⟨⟨t205, t206⟩, A70, H⟩ := H
    replace H : ((grafterlaw0_Num.f t206).bind fun t207 => (if t207 = 0 then (grafterlaw6_ForwardBias.j0 k l1 l2 a3 t205 ((l1.length : Int) == 0) a0_0 a0_1) else (grafterlaw6_ForwardBias.j0 k l1 l2 a3 t205 true a0_0 a0_1))) = some r := H
    have A7 := Aside0.mk A70
    clear A70
    have HC8 := Aside0.mk H
    clear H
    go_enter Try.func15, Try.ntmps15
    go_upto_region 4 with (first | ((with_reducible refine gate_dst (N := 4) rfl ?_); (try (refine gate_guard (by rfl) ?_; dsimp only)); refine box_event ?hg (N := 4) ?hd (cs := #[.int .i64 a0_0, .int .i64 a0_1]) (t := 23) ?hr ?_; (case hd => rfl); (case hg => rfl); (case hr => first | (go_simp; done) | (go_simp; rfl)); intro gb203 hg w9 hbox hb; have n0_ := Aside0.mk (below_step (by repeat (first | (with_reducible first | exact HB.out | apply below_alloc | apply pw_below_drewN | apply below_drew1) | exact HB.out)) hb); have n1_ := Aside0.mk (hbox); have n2_ := Aside0.mk ((by rw [hg]; exact (below_size (by repeat (first | (with_reducible first | exact HB.out | apply below_alloc | apply pw_below_drewN | apply below_drew1) | exact HB.out))) : w.heap.size ≤ gb203)); have n3_ := Aside0.mk ((by rw [hg]; exact (below_size (by repeat (first | (with_reducible first | exact HB.out | apply below_alloc | apply pw_below_drewN | apply below_drew1) | exact HB.out))) : w.heap.size ≤ gb203)); clear HB; have HB := n0_; have BK203 := n1_; have GW203 := n2_; have GE203 := n3_; clear n0_ n1_ n2_ n3_; clear hb hbox hg) | ((with_reducible refine gate_callee (f := 40) rfl ?_); refine goesL_ (some 16) rfl rfl Try.func40 (by kernel_rfl) rfl #[] rfl (by (try simp only [List.map_toArray, List.map_cons, List.map_nil]); first | done | rfl | (simp only [List.length_drop, List.length_take]; rfl)) ?_; (with_reducible refine (grafterlaw6_awake.calls k  true _ rfl A5.out).mono ?_); rintro e w10 ⟨rfl, hb⟩; refine ⟨_, rfl, ?_⟩; have n0_ := Aside0.mk (blk_below (g := gb203) (o := .cells #[.int .i64 a0_0, .int .i64 a0_1] 23 (0, 0)) (by (with_reducible repeat (first | refine blk_drewN ?_ _ | refine blk_drew ?_ | refine blk_alloc ?_ _)); exact BK203.out) hb); have n1_ := Aside0.mk (below_step (by repeat (first | (with_reducible first | exact HB.out | apply below_alloc | apply pw_below_drewN | apply below_drew1 | refine below_set ?_ GE203.out) | exact HB.out)) hb); clear BK203; clear HB; have BK203 := n0_; have HB := n1_; clear n0_ n1_; (try clear hb); (try clear hb2); (try clear hk); (try clear hi); have hcz11_0 : w10.cell? ⟨gb203, 0, none⟩ = some (.int .i64 a0_0) := (blk_cell BK203.out 0).trans rfl; have hcz11_1 : w10.cell? ⟨gb203, 1, none⟩ = some (.int .i64 a0_1) := (blk_cell BK203.out 1).trans rfl; have hfz11_0 := blk_frozen BK203.out 0; have hfz11_1 := blk_frozen BK203.out 1) | ((with_reducible refine gate_callee (f := 37) rfl ?_); refine goesL_ (some 22) rfl rfl Try.func37 (by kernel_rfl) rfl #[.agg #[.int .i64 a0_0, .int .i64 a0_1], .slice A1 l1.length c1, .slice A2 l2.length c2] rfl (by (try simp only [List.map_toArray, List.map_cons, List.map_nil]); first | done | rfl | (simp only [List.length_drop, List.length_take]; rfl)) ?_; (with_reducible refine (forward_Out.calls k a0_0 a0_1 _ _ l1 _ _ l2 t205 t206 _ ?side1 ?side2 ?side3 ?side4 A7.out).mono ?_); (case side1 => repeat (first | exact (Kd.C_below HR1.out HB.out) | (with_reducible refine Kd.C_alloc ?_ _) | (with_reducible refine Kd.C_drewN ?_ _) | (with_reducible refine Kd.C_drew ?_))); (case side2 => exact HC1.out); (case side3 => repeat (first | exact (Kd.C_below HR2.out HB.out) | (with_reducible refine Kd.C_alloc ?_ _) | (with_reducible refine Kd.C_drewN ?_ _) | (with_reducible refine Kd.C_drew ?_))); (case side4 => exact HC2.out); rintro e w12 ⟨rfl, hb⟩; refine ⟨_, rfl, ?_⟩; have n0_ := Aside0.mk (blk_below (g := gb203) (o := .cells #[.int .i64 a0_0, .int .i64 a0_1] 23 (0, 0)) (by (with_reducible repeat (first | refine blk_drewN ?_ _ | refine blk_drew ?_ | refine blk_alloc ?_ _)); exact BK203.out) hb); have n1_ := Aside0.mk (below_step (by repeat (first | (with_reducible first | exact HB.out | apply below_alloc | apply pw_below_drewN | apply below_drew1 | refine below_set ?_ GE203.out) | exact HB.out)) hb); clear BK203; clear HB; have BK203 := n0_; have HB := n1_; clear n0_ n1_; (try clear hb); (try clear hb2); (try clear hk); (try clear hi)))
    (try simp only [Act.put, List.setIfInBounds_toArray, List.set_cons_zero, List.set_cons_succ])
    go_cut [32] (fun v32 wc => ∃ (kq : Nat) (x32_7 : Bool), v32 = .bool x32_7 ∧ Aside0 (grafterlaw6_ForwardBias.j0 kq l1 l2 a3 t205 x32_7 a0_0 a0_1 = some r) ∧ Aside0 (kq ≤ k) ∧ Aside0 (wc.heap[gb203]? = some (.cells #[.int .i64 a0_0, .int .i64 a0_1] 23 (0, 0))) ∧ Aside0 (Below w.heap.size w wc))
    case first =>
      have H := HC8.out
      clear HC8
      replace H := Option.bind_eq_some_iff.mp H
      obtain ⟨t207, A130, H⟩ := H
      replace H : (if t207 = 0 then (grafterlaw6_ForwardBias.j0 k l1 l2 a3 t205 ((l1.length : Int) == 0) a0_0 a0_1) else (grafterlaw6_ForwardBias.j0 k l1 l2 a3 t205 true a0_0 a0_1)) = some r := H
      have A13 := Aside0.mk A130
      clear A130
      by_cases c14 : t207 = 0
      · rw [if_pos c14] at H
        have c14b0 : (t207 == 0) = true := beq_iff_eq.mpr c14
        have c14b1 : (t207 != 0) = false := bne_eq_false_iff_eq.mpr c14
        clear c14
        (first | rw [c14b0] | (simp only [i64_w, i32_w]; rw [c14b0]) | skip)
        have H' := Aside0.mk H
        clear H
        go_wp2_with (first | ((with_reducible refine gate_callee (f := 22) rfl ?_); refine goesL_ (some 26) rfl rfl Try.func22 (by kernel_rfl) rfl #[.int .i64 t206] rfl (by (try simp only [List.map_toArray, List.map_cons, List.map_nil]); first | done | rfl | (simp only [List.length_drop, List.length_take]; rfl)) ?_; (with_reducible refine (grafterlaw0_Num.calls t206 t207 _ A13.out).mono ?_); rintro e w' ⟨rfl, ⟨nd, rfl⟩⟩; refine ⟨_, rfl, ?_⟩))
        go_meet
        case rel => exact ⟨_, (((l1.length : Int) == 0)), (by first | rfl | (simp; done) | (simp [*]; done)), H', ⟨by first | omega | exact Nat.le_refl _⟩, ⟨by (with_reducible repeat (first | refine blk_drewN ?_ _ | refine blk_drew ?_ | refine blk_alloc ?_ _)); exact BK203.out⟩, ⟨by repeat (first | (with_reducible first | exact HB.out | apply below_alloc | apply pw_below_drewN | apply below_drew1 | refine below_set ?_ GE203.out) | exact HB.out)⟩⟩
      · rw [if_neg c14] at H
        have c14b0 : (t207 == 0) = false := beq_eq_false_iff_ne.mpr c14
        have c14b1 : (t207 != 0) = true := bne_iff_ne.mpr c14
        (first | rw [c14b0] | (simp only [i64_w, i32_w]; rw [c14b0]) | skip)
        have H' := Aside0.mk H
        clear H
        go_wp2_with (first | ((with_reducible refine gate_callee (f := 22) rfl ?_); refine goesL_ (some 26) rfl rfl Try.func22 (by kernel_rfl) rfl #[.int .i64 t206] rfl (by (try simp only [List.map_toArray, List.map_cons, List.map_nil]); first | done | rfl | (simp only [List.length_drop, List.length_take]; rfl)) ?_; (with_reducible refine (grafterlaw0_Num.calls t206 t207 _ A13.out).mono ?_); rintro e w' ⟨rfl, ⟨nd, rfl⟩⟩; refine ⟨_, rfl, ?_⟩))
        go_meet
        case rel => exact ⟨_, (true), (by first | rfl | (simp; done) | (simp [*]; done)), H', ⟨by first | omega | exact Nat.le_refl _⟩, ⟨by (with_reducible repeat (first | refine blk_drewN ?_ _ | refine blk_drew ?_ | refine blk_alloc ?_ _)); exact BK203.out⟩, ⟨by repeat (first | (with_reducible first | exact HB.out | apply below_alloc | apply pw_below_drewN | apply below_drew1 | refine below_set ?_ GE203.out) | exact HB.out)⟩⟩
    case rest =>
      clear HC8
      try clear c1
      try clear c2
      try clear p2
      try clear c3
      try clear c4
      try clear c6
      try clear c14
      try clear c14b0
      try clear c14b1
      try clear hcz11_0
      try clear hcz11_1
      try clear hfz11_0
      try clear hfz11_1
      obtain ⟨kq, x32_7, rfl, HA, HJ7, BK203, HB⟩ := hcut
      cases kq with
      | zero => exact absurd HA.out (by simp [grafterlaw6_ForwardBias.j0])
      | succ kj7 =>
        have H := HA.out
        clear HA
        simp only [grafterlaw6_ForwardBias.j0] at H
        by_cases c15 : x32_7 = true
        · subst c15
          have H1 : (some (t205 == 0)) = some r := by rw [if_pos rfl] at H; exact H
          clear H
          have H := H1
          clear H1
          obtain rfl := Option.some.inj H
          go_wp2
          go_ret
          exact ⟨by first | rfl | (simp [errW_none, errW_some] <;> rfl) | (simp [*, errW_none, errW_some] <;> rfl), by repeat (first | (with_reducible first | exact HB.out | apply below_alloc | apply pw_below_drewN | apply below_drew1 | refine below_set ?_ GE203.out) | exact HB.out)⟩
        · replace c15 := Bool.eq_false_iff.mpr c15
          subst c15
          have H1 : ((some (([] : List Int) : List Int)).bind fun y208 => (if y208.length + l1.length < 17592186044416 then ((some (y208 ++ l1 : List Int)).bind fun y211 => (if 0 ≤ (wrap64 ((y211.length : Int) - 1)) then (if (wrap64 ((y211.length : Int) - 1)) < (y211.length : Int) then ((some (y211.set ((wrap64 ((y211.length : Int) - 1)) : Int).toNat (wrap64 ((rd y211 (wrap64 ((y211.length : Int) - 1))) + (Go.bits .and .i64 a3 65535))) : List Int)).bind fun y215 => (if (rd y215 (wrap64 ((y211.length : Int) - 1))) > 1073741824 then (grafterlaw6_ForwardBias.j1 kj7 l2 t205 (Go.bits .and .i64 a3 65535) y215 true a0_0 a0_1) else (if t205 > (wrap64 (1073741824 - (Go.bits .and .i64 a3 65535))) then (grafterlaw6_ForwardBias.j1 kj7 l2 t205 (Go.bits .and .i64 a3 65535) y215 true a0_0 a0_1) else (grafterlaw6_ForwardBias.j1 kj7 l2 t205 (Go.bits .and .i64 a3 65535) y215 (t205 == (-1073741824)) a0_0 a0_1)))) else (none)) else (none))) else (none))) = some r := by rw [if_neg (show ¬ (false = true) by decide)] at H; exact H
          clear H
          have H := H1
          clear H1
          obtain ⟨y208, hy208⟩ : ∃ y_ : List Int, y_ = (([] : List Int)) := ⟨_, rfl⟩
          replace H : (if y208.length + l1.length < 17592186044416 then ((some (y208 ++ l1 : List Int)).bind fun y211 => (if 0 ≤ (wrap64 ((y211.length : Int) - 1)) then (if (wrap64 ((y211.length : Int) - 1)) < (y211.length : Int) then ((some (y211.set ((wrap64 ((y211.length : Int) - 1)) : Int).toNat (wrap64 ((rd y211 (wrap64 ((y211.length : Int) - 1))) + (Go.bits .and .i64 a3 65535))) : List Int)).bind fun y215 => (if (rd y215 (wrap64 ((y211.length : Int) - 1))) > 1073741824 then (grafterlaw6_ForwardBias.j1 kj7 l2 t205 (Go.bits .and .i64 a3 65535) y215 true a0_0 a0_1) else (if t205 > (wrap64 (1073741824 - (Go.bits .and .i64 a3 65535))) then (grafterlaw6_ForwardBias.j1 kj7 l2 t205 (Go.bits .and .i64 a3 65535) y215 true a0_0 a0_1) else (grafterlaw6_ForwardBias.j1 kj7 l2 t205 (Go.bits .and .i64 a3 65535) y215 (t205 == (-1073741824)) a0_0 a0_1)))) else (none)) else (none))) else (none)) = some r := by first | (rw [hy208]; with_reducible exact H) | (have H2_ := (Option.bind_some _ _).symm.trans H; rw [hy208]; with_reducible exact H2_) | (have H2_ := (Option.bind_some _ _).symm.trans H; with_reducible exact H2_) | with_reducible exact H | (rw [hy208]; exact H) | exact H
          have Ny208 := Aside0.mk hy208
          clear hy208
          by_cases c16 : y208.length + l1.length < 17592186044416
          · rw [if_pos c16] at H
            have LMc16 := Aside0.mk c16
            clear c16
            obtain ⟨y211, hy211⟩ : ∃ y_ : List Int, y_ = (y208 ++ l1) := ⟨_, rfl⟩
            replace H : (if 0 ≤ (wrap64 ((y211.length : Int) - 1)) then (if (wrap64 ((y211.length : Int) - 1)) < (y211.length : Int) then ((some (y211.set ((wrap64 ((y211.length : Int) - 1)) : Int).toNat (wrap64 ((rd y211 (wrap64 ((y211.length : Int) - 1))) + (Go.bits .and .i64 a3 65535))) : List Int)).bind fun y215 => (if (rd y215 (wrap64 ((y211.length : Int) - 1))) > 1073741824 then (grafterlaw6_ForwardBias.j1 kj7 l2 t205 (Go.bits .and .i64 a3 65535) y215 true a0_0 a0_1) else (if t205 > (wrap64 (1073741824 - (Go.bits .and .i64 a3 65535))) then (grafterlaw6_ForwardBias.j1 kj7 l2 t205 (Go.bits .and .i64 a3 65535) y215 true a0_0 a0_1) else (grafterlaw6_ForwardBias.j1 kj7 l2 t205 (Go.bits .and .i64 a3 65535) y215 (t205 == (-1073741824)) a0_0 a0_1)))) else (none)) else (none)) = some r := by first | (rw [hy211]; with_reducible exact H) | (have H2_ := (Option.bind_some _ _).symm.trans H; rw [hy211]; with_reducible exact H2_) | (have H2_ := (Option.bind_some _ _).symm.trans H; with_reducible exact H2_) | with_reducible exact H | (rw [hy211]; exact H) | exact H
            have Ny211 := Aside0.mk hy211
            clear hy211
            obtain ⟨ji17, hji17⟩ : ∃ j_ : Int, (wrap64 ((y211.length : Int) - 1)) = j_ := ⟨_, rfl⟩
            replace H : (if 0 ≤ (ji17) then (if (ji17) < (y211.length : Int) then ((some (y211.set ((ji17) : Int).toNat (wrap64 ((rd y211 (ji17)) + (Go.bits .and .i64 a3 65535))) : List Int)).bind fun y215 => (if (rd y215 (ji17)) > 1073741824 then (grafterlaw6_ForwardBias.j1 kj7 l2 t205 (Go.bits .and .i64 a3 65535) y215 true a0_0 a0_1) else (if t205 > (wrap64 (1073741824 - (Go.bits .and .i64 a3 65535))) then (grafterlaw6_ForwardBias.j1 kj7 l2 t205 (Go.bits .and .i64 a3 65535) y215 true a0_0 a0_1) else (grafterlaw6_ForwardBias.j1 kj7 l2 t205 (Go.bits .and .i64 a3 65535) y215 (t205 == (-1073741824)) a0_0 a0_1)))) else (none)) else (none)) = some r := by first | (rw [hji17] at H; exact H) | (simp only [hji17] at H ⊢; exact H)
            have hji17w : (IntKind.i64.wrap ((y211.length : Int) - 1)) = ji17 := (i64_w _).trans hji17
            by_cases c18 : 0 ≤ (ji17)
            · rw [if_pos c18] at H
              have c18b0 : decide (0 ≤ (ji17)) = true := decide_eq_true c18
              clear c18
              by_cases c19 : (ji17) < (y211.length : Int)
              · rw [if_pos c19] at H
                have c19b0 : decide ((ji17) < (y211.length : Int)) = true := decide_eq_true c19
                clear c19
                obtain ⟨y215, hy215⟩ : ∃ y_ : List Int, y_ = (y211.set ((ji17) : Int).toNat (wrap64 ((rd y211 (ji17)) + (Go.bits .and .i64 a3 65535)))) := ⟨_, rfl⟩
                replace H : (if (rd y215 (ji17)) > 1073741824 then (grafterlaw6_ForwardBias.j1 kj7 l2 t205 (Go.bits .and .i64 a3 65535) y215 true a0_0 a0_1) else (if t205 > (wrap64 (1073741824 - (Go.bits .and .i64 a3 65535))) then (grafterlaw6_ForwardBias.j1 kj7 l2 t205 (Go.bits .and .i64 a3 65535) y215 true a0_0 a0_1) else (grafterlaw6_ForwardBias.j1 kj7 l2 t205 (Go.bits .and .i64 a3 65535) y215 (t205 == (-1073741824)) a0_0 a0_1))) = some r := by first | (rw [hy215]; with_reducible exact H) | (have H2_ := (Option.bind_some _ _).symm.trans H; rw [hy215]; with_reducible exact H2_) | (have H2_ := (Option.bind_some _ _).symm.trans H; with_reducible exact H2_) | with_reducible exact H | (rw [hy215]; exact H) | exact H
                have Ny215 := Aside0.mk hy215
                clear hy215
                have HC21 := Aside0.mk H
                clear H
                go_upto_region 10 with (first | ((with_reducible refine gate_dst (N := 37) rfl ?_); (try (refine gate_guard (by rfl) ?_; dsimp only)); refine Kd.R_lit (Kd.int .i64) _ 3 ?hg (N := 37) ?hd (xs := ([] : List Int)) (inner := []) (ok := fun _ => True) (okp := fun _ => True) ?hr ?hp (fun _ hk => hk) trivial (Below.refl _ _) (Nat.le_refl _) (by simp) ?_; (case hd => rfl); (case hg => rfl); (case hr => first | (go_simp; done) | (go_simp; rfl)); (case hp => exact (Reps.none _ _)); intro v209 w22 ho23 hb hg_ hnew_; clear hg_ hnew_; (first | rw [← Ny208.out] at ho23 | (simp only [Int.reduceToNat] at ho23; rw [← Ny208.out] at ho23)); have n0_ := Aside0.mk (Kd.R_lower ho23 (below_size (by repeat (first | (with_reducible first | exact HB.out | apply below_alloc | apply pw_below_drewN | apply below_drew1 | refine below_set ?_ GE203.out) | exact HB.out)))); have n1_ := Aside0.mk (blk_below (g := gb203) (o := .cells #[.int .i64 a0_0, .int .i64 a0_1] 23 (0, 0)) (by (with_reducible repeat (first | refine blk_drewN ?_ _ | refine blk_drew ?_ | refine blk_alloc ?_ _)); exact BK203.out) hb); have n2_ := Aside0.mk (below_step (by repeat (first | (with_reducible first | exact HB.out | apply below_alloc | apply pw_below_drewN | apply below_drew1 | refine below_set ?_ GE203.out) | exact HB.out)) hb); clear BK203; clear HB; have HO210 := n0_; have BK203 := n1_; have HB := n2_; clear n0_ n1_ n2_; clear hb ho23) | ((with_reducible refine gate_builtin (b := .append) (xs := #[.tmp 37, .tmp 38]) rfl ?_); (try (refine gate_guard (by rfl) ?_; dsimp only)); at_builtin; refine Kd.R_append_rows (Kd.int .i64) (w0 := w) w.heap.size rfl (.tmp 37) (.tmp 38) 33 3 (.int .i64 0) 8 rfl Try.underlying33 info3 rfl (by decide) (by omega) v209 y208 l1 _ _ _ (fun _ => True) (fun _ => False) rfl rfl ?aO ?aR (fun _ _ h => h) (fun _ h => h.elim) ?aF ?aB ?aS ?aL ?_; (case aR => repeat (first | exact (Kd.C_below HR1.out HB.out) | (with_reducible refine Kd.C_alloc ?_ _) | (with_reducible refine Kd.C_drewN ?_ _) | (with_reducible refine Kd.C_drew ?_))); (case aB => exact (by repeat (first | (with_reducible first | exact HB.out | apply below_alloc | apply pw_below_drewN | apply below_drew1 | refine below_set ?_ GE203.out) | exact HB.out))); (case aF => exact (fun _ _ => trivial)); (case aO => exact (by (with_reducible repeat (first | apply Kd.R_alloc | apply Kd.R_drewN | apply Kd.R_drew)); exact HO210.out)); (case aS => exact (below_size (by repeat (first | (with_reducible first | exact HB.out | apply below_alloc | apply pw_below_drewN | apply below_drew1 | refine below_set ?_ GE203.out) | exact HB.out)))); (case aL => have := LMc16.out; omega); intro v212 w24 ho hb hg hat; rw [← Ny211.out] at ho; have n0_ := Aside0.mk (blk_grown (g := gb203) (o := .cells #[.int .i64 a0_0, .int .i64 a0_1] 23 (0, 0)) (by (with_reducible repeat (first | refine blk_drewN ?_ _ | refine blk_drew ?_ | refine blk_alloc ?_ _)); exact BK203.out) hg (Kd.R_ne HO210.out BK203.out (by decide))); have n1_ := Aside0.mk (hb); have n2_ := Aside0.mk (ho); clear BK203; clear HB; clear HO210; have BK203 := n0_; have HB := n1_; have HO213 := n2_; clear n0_ n1_ n2_; clear ho hb hg hat; obtain ⟨Ao25, co25, eo25⟩ := Kd.R_slice HO213.out; subst eo25; have p214 : 0 ≤ ((ji17) : Int) := of_decide_eq_true (by first | (with_reducible assumption) | assumption); have q214 : (ji17) < (y211.length : Int) := of_decide_eq_true (by first | (with_reducible assumption) | assumption); obtain ⟨ad214, e214, hx214_0⟩ := Kd.at_int (Kd.R_reads' HO213.out).2.2 (ji17) p214 q214; cases e214; replace p214 := eq_true p214; replace q214 := eq_true q214; have p20 : 0 ≤ ((ji17) : Int) := of_decide_eq_true (by first | (with_reducible assumption) | assumption); have q20 : ((ji17) : Int) < ((y211.length : Int) : Int) := of_decide_eq_true (by first | (with_reducible assumption) | assumption); obtain ⟨go20, co20, eo20, gb20, gl20, cl20, HG20⟩ := Kd.R_form HO213.out (by omega); (first | cases eo20 | (injection eo20 with ea_ en_ ec_; (first | subst ea_ | (injection ea_ with ea_; subst ea_)); subst ec_; clear en_)); have GB20 := Aside0.mk gb20; have GG20 := Aside0.mk HG20; clear gb20 gl20 HG20; (first | simp only [add_plain] at hx214_0 | skip); obtain ⟨hx20_0, hf20_0⟩ := Kd.R_celln 0 HO213.out ((ji17) : Int) p20 q20; replace p20 := eq_true p20; replace q20 := eq_true q20; obtain ⟨hy26_, hz26_⟩ := Kd.R_celln 0 HO213.out ((ji17) : Int) (of_decide_eq_true (by first | (with_reducible assumption) | assumption)) (of_decide_eq_true (by first | (with_reducible assumption) | assumption)); have HP26 := Kd.R_putg HO213.out ((ji17) : Int) (wrap64 ((rd y211 (ji17)) + (Go.bits .and .i64 a3 65535)))) | ((with_reducible refine gate_store (t := 3) (p := 51) rfl ?_); refine store_event (t := 3) (p := 51) (v := ?vo_w27) (w1 := (w24.setCell ⟨go20, ((ji17) : Int).toNat, none⟩ (.int .i64 (wrap64 ((rd y211 (ji17)) + (Go.bits .and .i64 a3 65535)))))) ?hg ?ho ?hn ?hr ?_; (case ho => rfl); (case hg => rfl); (case hn => rfl); (case hr => first | (go_simp; done) | (go_simp; rfl)); intro w27 hw; have hg : w24.grownBy w27 (some go20) := (by rw [hw]; exact HP26.2); have hp_ : Kd.R (Kd.int .i64) 3 w27 w.heap.size (fun _ => True) (.slice (some ⟨go20, 0, none⟩) y211.length co25) y215 := (by rw [hw, Ny215.out]; exact HP26.1); clear HP26; have n0_ := Aside0.mk (blk_grown (g := gb203) (o := .cells #[.int .i64 a0_0, .int .i64 a0_1] 23 (0, 0)) (by (with_reducible repeat (first | refine blk_drewN ?_ _ | refine blk_drew ?_ | refine blk_alloc ?_ _)); exact BK203.out) hg (Kd.R_ne HO213.out BK203.out (by decide))); have n1_ := Aside0.mk (hp_); have n2_ := Aside0.mk ((by rw [hw]; exact below_set (HB.out) GB20.out : Below w.heap.size w w27)); clear BK203; clear HO213; clear HB; have BK203 := n0_; have HO213 := n1_; have HB := n2_; clear n0_ n1_ n2_; clear hg hw hp_))
                (try simp only [Act.put, List.setIfInBounds_toArray, List.set_cons_zero, List.set_cons_succ])
                go_cut [66] (fun v66 wc => ∃ (kq : Nat) (x66_20 : Bool), v66 = .bool x66_20 ∧ Aside0 (grafterlaw6_ForwardBias.j1 kq l2 t205 (Go.bits .and .i64 a3 65535) y215 x66_20 a0_0 a0_1 = some r) ∧ Aside0 (kq ≤ kj7) ∧ Aside0 (Kd.R (Kd.int .i64) 3 wc w.heap.size (fun _ => True) (.slice (some ⟨go20, 0, none⟩) y211.length co25) y215) ∧ Aside0 (wc.heap[gb203]? = some (.cells #[.int .i64 a0_0, .int .i64 a0_1] 23 (0, 0))) ∧ Aside0 (Below w.heap.size w wc))
                case first =>
                  have H := HC21.out
                  clear HC21
                  by_cases c28 : (rd y215 (ji17)) > 1073741824
                  · rw [if_pos c28] at H
                    have c28b0 : decide (1073741824 < (rd y215 (ji17))) = true := decide_eq_true c28
                    clear c28
                    (first | rw [c28b0] | (simp only [i64_w, i32_w]; rw [c28b0]) | skip)
                    have H' := Aside0.mk H
                    clear H
                    have p216 : 0 ≤ ((ji17) : Int) := of_decide_eq_true (by first | (with_reducible assumption) | assumption)
                    have q216 : (ji17) < (y215.length : Int) := (by have h_ : ((ji17) : Int) < ((y211.length : Int) : Int) := of_decide_eq_true (by first | (with_reducible assumption) | assumption); first | (have e_ := (Kd.R_reads' HO213.out).1; omega) | simpa only [Ny215.out, List.length_set] using h_)
                    have ql216 : (((ji17) : Int) < ((y211.length : Int) : Int)) = True := eq_true (of_decide_eq_true (by first | (with_reducible assumption) | assumption))
                    obtain ⟨ad216, e216, hx216_0⟩ := Kd.at_int (Kd.R_reads' HO213.out).2.2 (ji17) p216 q216
                    obtain rfl : (⟨go20, 0, none⟩ : Addr) = ad216 := (by injection e216)
                    (first | simp only [add_plain] at hx216_0 | simp only [add_at] at hx216_0 | simp only [Addr.add, Nat.zero_add] at hx216_0 | skip)
                    replace p216 := eq_true p216
                    replace q216 := eq_true q216
                    go_wp2
                    go_meet
                    case rel => exact ⟨_, (true), (by first | rfl | (simp; done) | (simp [*]; done)), H', ⟨by have := HJ7.out; first | omega | exact Nat.le_refl _⟩, ⟨by (with_reducible repeat (first | apply Kd.R_alloc | apply Kd.R_drewN | apply Kd.R_drew)); exact HO213.out⟩, ⟨by (with_reducible repeat (first | refine blk_drewN ?_ _ | refine blk_drew ?_ | refine blk_alloc ?_ _)); exact BK203.out⟩, ⟨by repeat (first | (with_reducible first | exact HB.out | apply below_alloc | apply pw_below_drewN | apply below_drew1 | refine below_set ?_ GE203.out) | exact HB.out)⟩⟩
                  · rw [if_neg c28] at H
                    have c28b0 : decide (1073741824 < (rd y215 (ji17))) = false := decide_eq_false c28
                    clear c28
                    (first | rw [c28b0] | (simp only [i64_w, i32_w]; rw [c28b0]) | skip)
                    by_cases c29 : t205 > (wrap64 (1073741824 - (Go.bits .and .i64 a3 65535)))
                    · rw [if_pos c29] at H
                      have c29b0 : decide ((wrap64 (1073741824 - (Go.bits .and .i64 a3 65535))) < t205) = true := decide_eq_true c29
                      clear c29
                      have H' := Aside0.mk H
                      clear H
                      have p216 : 0 ≤ ((ji17) : Int) := of_decide_eq_true (by first | (with_reducible assumption) | assumption)
                      have q216 : (ji17) < (y215.length : Int) := (by have h_ : ((ji17) : Int) < ((y211.length : Int) : Int) := of_decide_eq_true (by first | (with_reducible assumption) | assumption); first | (have e_ := (Kd.R_reads' HO213.out).1; omega) | simpa only [Ny215.out, List.length_set] using h_)
                      have ql216 : (((ji17) : Int) < ((y211.length : Int) : Int)) = True := eq_true (of_decide_eq_true (by first | (with_reducible assumption) | assumption))
                      obtain ⟨ad216, e216, hx216_0⟩ := Kd.at_int (Kd.R_reads' HO213.out).2.2 (ji17) p216 q216
                      obtain rfl : (⟨go20, 0, none⟩ : Addr) = ad216 := (by injection e216)
                      (first | simp only [add_plain] at hx216_0 | simp only [add_at] at hx216_0 | simp only [Addr.add, Nat.zero_add] at hx216_0 | skip)
                      replace p216 := eq_true p216
                      replace q216 := eq_true q216
                      go_wp2
                      go_meet
                      case rel => exact ⟨_, (true), (by first | rfl | (simp; done) | (simp [*]; done)), H', ⟨by have := HJ7.out; first | omega | exact Nat.le_refl _⟩, ⟨by (with_reducible repeat (first | apply Kd.R_alloc | apply Kd.R_drewN | apply Kd.R_drew)); exact HO213.out⟩, ⟨by (with_reducible repeat (first | refine blk_drewN ?_ _ | refine blk_drew ?_ | refine blk_alloc ?_ _)); exact BK203.out⟩, ⟨by repeat (first | (with_reducible first | exact HB.out | apply below_alloc | apply pw_below_drewN | apply below_drew1 | refine below_set ?_ GE203.out) | exact HB.out)⟩⟩
                    · rw [if_neg c29] at H
                      have c29b0 : decide ((wrap64 (1073741824 - (Go.bits .and .i64 a3 65535))) < t205) = false := decide_eq_false c29
                      clear c29
                      have H' := Aside0.mk H
                      clear H
                      have p216 : 0 ≤ ((ji17) : Int) := of_decide_eq_true (by first | (with_reducible assumption) | assumption)
                      have q216 : (ji17) < (y215.length : Int) := (by have h_ : ((ji17) : Int) < ((y211.length : Int) : Int) := of_decide_eq_true (by first | (with_reducible assumption) | assumption); first | (have e_ := (Kd.R_reads' HO213.out).1; omega) | simpa only [Ny215.out, List.length_set] using h_)
                      have ql216 : (((ji17) : Int) < ((y211.length : Int) : Int)) = True := eq_true (of_decide_eq_true (by first | (with_reducible assumption) | assumption))
                      obtain ⟨ad216, e216, hx216_0⟩ := Kd.at_int (Kd.R_reads' HO213.out).2.2 (ji17) p216 q216
                      obtain rfl : (⟨go20, 0, none⟩ : Addr) = ad216 := (by injection e216)
                      (first | simp only [add_plain] at hx216_0 | simp only [add_at] at hx216_0 | simp only [Addr.add, Nat.zero_add] at hx216_0 | skip)
                      replace p216 := eq_true p216
                      replace q216 := eq_true q216
                      go_wp2
                      go_meet
                      case rel => exact ⟨_, ((t205 == (-1073741824))), (by first | rfl | (simp; done) | (simp [*]; done)), H', ⟨by have := HJ7.out; first | omega | exact Nat.le_refl _⟩, ⟨by (with_reducible repeat (first | apply Kd.R_alloc | apply Kd.R_drewN | apply Kd.R_drew)); exact HO213.out⟩, ⟨by (with_reducible repeat (first | refine blk_drewN ?_ _ | refine blk_drew ?_ | refine blk_alloc ?_ _)); exact BK203.out⟩, ⟨by repeat (first | (with_reducible first | exact HB.out | apply below_alloc | apply pw_below_drewN | apply below_drew1 | refine below_set ?_ GE203.out) | exact HB.out)⟩⟩
                case rest =>
                  clear HC21
                  try clear c1
                  try clear c2
                  try clear p2
                  try clear q2
                  try clear hx2
                  try clear c3
                  try clear c4
                  try clear c6
                  try clear p6
                  try clear c14
                  try clear c14b0
                  try clear c14b1
                  try clear c15
                  try clear c16
                  try clear c18
                  try clear c18b0
                  try clear c19
                  try clear c19b0
                  try clear p20
                  try clear q20
                  try clear hx20
                  try clear hf20
                  try clear p21
                  try clear q21
                  try clear hx21
                  try clear c22
                  try clear c28
                  try clear c28b0
                  try clear c29
                  try clear c29b0
                  try clear hcz11_0
                  try clear hcz11_1
                  try clear hfz11_0
                  try clear hfz11_1
                  try clear hx20_0
                  try clear hx214_0
                  try clear hx216_0
                  try clear p2
                  try clear p20
                  try clear p214
                  try clear p216
                  try clear q20
                  try clear q214
                  try clear q216
                  obtain ⟨kq, x66_20, rfl, HA, HJ20, HO_12, BK203, HB⟩ := hcut
                  have hl12_20 := (Kd.R_reads' HO_12.out).1
                  rw [hl12_20] at HO_12
                  (try simp only [hl12_20])
                  (try simp only [hl12_20] at BK203)
                  cases kq with
                  | zero => exact absurd HA.out (by simp [grafterlaw6_ForwardBias.j1])
                  | succ kj20 =>
                    have H := HA.out
                    clear HA
                    simp only [grafterlaw6_ForwardBias.j1] at H
                    by_cases c30 : x66_20 = true
                    · subst c30
                      have H1 : (some true) = some r := by rw [if_pos rfl] at H; exact H
                      clear H
                      have H := H1
                      clear H1
                      obtain rfl := Option.some.inj H
                      go_wp2
                      all_goals go_ret
                      all_goals exact ⟨by first | (simp only [← hji17_]; split <;> first | (exfalso; omega) | (simp [ByteArray.extract_zero_size]; done) | (simp [ByteArray.extract_zero_size, *]; done)) | rfl | (simp [errW_none, errW_some] <;> rfl) | (simp only [← hji17]; first | rfl | (simp [errW_none, errW_some] <;> rfl)) | (simp [*, errW_none, errW_some] <;> rfl), by repeat (first | (with_reducible first | exact HB.out | apply below_alloc | apply pw_below_drewN | apply below_drew1 | refine below_set ?_ GE203.out) | exact HB.out)⟩
                    · replace c30 := Bool.eq_false_iff.mpr c30
                      subst c30
                      have H1 : ((forward_Out.f kj20 a0_0 a0_1 y215 l2).bind fun bt217 => ((grafterlaw0_Num.f bt217.2).bind fun t219 => (if t219 = 0 then (if bt217.1 = (wrap64 (t205 + (Go.bits .and .i64 a3 65535))) then ((grafterref1_FixMay.f bt217.1).bind fun t220 => (some t220)) else (some false)) else (some false)))) = some r := by rw [if_neg (show ¬ (false = true) by decide)] at H; exact H
                      clear H
                      have H := H1
                      clear H1
                      replace H := Option.bind_eq_some_iff.mp H
                      obtain ⟨⟨t217, t218⟩, A310, H⟩ := H
                      replace H : ((grafterlaw0_Num.f t218).bind fun t219 => (if t219 = 0 then (if t217 = (wrap64 (t205 + (Go.bits .and .i64 a3 65535))) then ((grafterref1_FixMay.f t217).bind fun t220 => (some t220)) else (some false)) else (some false))) = some r := H
                      have A31 := Aside0.mk A310
                      clear A310
                      replace H := Option.bind_eq_some_iff.mp H
                      obtain ⟨t219, A320, H⟩ := H
                      replace H : (if t219 = 0 then (if t217 = (wrap64 (t205 + (Go.bits .and .i64 a3 65535))) then ((grafterref1_FixMay.f t217).bind fun t220 => (some t220)) else (some false)) else (some false)) = some r := H
                      have A32 := Aside0.mk A320
                      clear A320
                      by_cases c33 : t219 = 0
                      · rw [if_pos c33] at H
                        have c33b0 : (t219 == 0) = true := beq_iff_eq.mpr c33
                        have c33b1 : (t219 != 0) = false := bne_eq_false_iff_eq.mpr c33
                        clear c33
                        by_cases c34 : t217 = (wrap64 (t205 + (Go.bits .and .i64 a3 65535)))
                        · rw [if_pos c34] at H
                          have c34b0 : (t217 == (wrap64 (t205 + (Go.bits .and .i64 a3 65535)))) = true := beq_iff_eq.mpr c34
                          (try have c34b4 : (t217 == (t205 + (Go.bits .and .i64 a3 65535))) = true := by (have h_ := beq_iff_eq.mp c34b0; unfold wrap64 at h_; exact beq_iff_eq.mpr (by omega)))
                          have c34b1 : (t217 != (wrap64 (t205 + (Go.bits .and .i64 a3 65535)))) = false := bne_eq_false_iff_eq.mpr c34
                          clear c34
                          replace H := Option.bind_eq_some_iff.mp H
                          obtain ⟨t220, A350, H⟩ := H
                          replace H : (some t220) = some r := H
                          have A35 := Aside0.mk A350
                          clear A350
                          obtain rfl := Option.some.inj H
                          have hcz36_0 : wc.cell? ⟨gb203, 0, none⟩ = some (.int .i64 a0_0) := (blk_cell BK203.out 0).trans rfl
                          have hcz36_1 : wc.cell? ⟨gb203, 1, none⟩ = some (.int .i64 a0_1) := (blk_cell BK203.out 1).trans rfl
                          have hfz36_0 := blk_frozen BK203.out 0
                          have hfz36_1 := blk_frozen BK203.out 1
                          go_wp2_with (first | ((with_reducible refine gate_callee (f := 37) rfl ?_); refine goesL_ (some 71) rfl rfl Try.func37 (by kernel_rfl) rfl #[.agg #[.int .i64 a0_0, .int .i64 a0_1], .slice (some ⟨go20, 0, none⟩) y215.length co25, .slice A2 l2.length c2] rfl (by (try simp only [List.map_toArray, List.map_cons, List.map_nil]); first | done | rfl | (simp only [List.length_drop, List.length_take]; rfl)) ?_; (with_reducible refine (forward_Out.calls kj20 a0_0 a0_1 _ _ y215 _ _ l2 t217 t218 _ ?side1 ?side2 ?side3 ?side4 A31.out).mono ?_); (case side1 => repeat (first | exact (Kd.R_reads' HO_12.out).2.2 | (with_reducible refine Kd.C_alloc ?_ _) | (with_reducible refine Kd.C_drewN ?_ _) | (with_reducible refine Kd.C_drew ?_))); (case side2 => exact (Kd.R_reads' HO_12.out).2.1); (case side3 => repeat (first | exact (Kd.C_below HR2.out HB.out) | (with_reducible refine Kd.C_alloc ?_ _) | (with_reducible refine Kd.C_drewN ?_ _) | (with_reducible refine Kd.C_drew ?_))); (case side4 => exact HC2.out); rintro e w37 ⟨rfl, hb⟩; refine ⟨_, rfl, ?_⟩; have n0_ := Aside0.mk (Kd.R_below (by (with_reducible repeat (first | apply Kd.R_alloc | apply Kd.R_drewN | apply Kd.R_drew)); exact HO_12.out) hb); have n1_ := Aside0.mk (blk_below (g := gb203) (o := .cells #[.int .i64 a0_0, .int .i64 a0_1] 23 (0, 0)) (by (with_reducible repeat (first | refine blk_drewN ?_ _ | refine blk_drew ?_ | refine blk_alloc ?_ _)); exact BK203.out) hb); have n2_ := Aside0.mk (below_step (by repeat (first | (with_reducible first | exact HB.out | apply below_alloc | apply pw_below_drewN | apply below_drew1 | refine below_set ?_ GE203.out) | exact HB.out)) hb); clear HO_12; clear BK203; clear HB; have HO_12 := n0_; have BK203 := n1_; have HB := n2_; clear n0_ n1_ n2_; (try clear hb); (try clear hb2); (try clear hk); (try clear hi)) | ((with_reducible refine gate_callee (f := 22) rfl ?_); refine goesL_ (some 75) rfl rfl Try.func22 (by kernel_rfl) rfl #[.int .i64 t218] rfl (by (try simp only [List.map_toArray, List.map_cons, List.map_nil]); first | done | rfl | (simp only [List.length_drop, List.length_take]; rfl)) ?_; (with_reducible refine (grafterlaw0_Num.calls t218 t219 _ A32.out).mono ?_); rintro e w' ⟨rfl, ⟨nd, rfl⟩⟩; refine ⟨_, rfl, ?_⟩) | (go_at_call 34; (with_reducible refine (grafterref1_FixMay.calls t217 t220 _ A35.out).mono ?_); rintro e w' ⟨rfl, ⟨nd, rfl⟩⟩))
                          all_goals go_ret
                          all_goals exact ⟨by first | (simp only [← hji17_]; split <;> first | (exfalso; omega) | (simp [ByteArray.extract_zero_size]; done) | (simp [ByteArray.extract_zero_size, *]; done)) | rfl | (simp [errW_none, errW_some] <;> rfl) | (simp only [← hji17]; first | rfl | (simp [errW_none, errW_some] <;> rfl)) | (simp [*, errW_none, errW_some] <;> rfl), by repeat (first | (with_reducible first | exact HB.out | apply below_alloc | apply pw_below_drewN | apply below_drew1 | refine below_set ?_ GE203.out) | exact HB.out)⟩
                        · rw [if_neg c34] at H
                          have c34b0 : (t217 == (wrap64 (t205 + (Go.bits .and .i64 a3 65535)))) = false := beq_eq_false_iff_ne.mpr c34
                          (try have c34b4 : (t217 == (t205 + (Go.bits .and .i64 a3 65535))) = false := by (have h_ := beq_eq_false_iff_ne.mp c34b0; unfold wrap64 at h_; exact beq_eq_false_iff_ne.mpr (by omega)))
                          have c34b1 : (t217 != (wrap64 (t205 + (Go.bits .and .i64 a3 65535)))) = true := bne_iff_ne.mpr c34
                          exact absurd ((Option.some.inj H).trans HRT.out) Bool.false_ne_true
                      · rw [if_neg c33] at H
                        have c33b0 : (t219 == 0) = false := beq_eq_false_iff_ne.mpr c33
                        have c33b1 : (t219 != 0) = true := bne_iff_ne.mpr c33
                        exact absurd ((Option.some.inj H).trans HRT.out) Bool.false_ne_true
              · rw [if_neg c19] at H
                exact absurd H (by simp)
            · rw [if_neg c18] at H
              exact absurd H (by simp)
          · rw [if_neg c16] at H
            exact absurd H (by simp)
  · replace c6 := Bool.eq_false_iff.mpr c6
    subst c6
    have H1 : (some false) = some r := by rw [if_neg (show ¬ (false = true) by decide)] at H; exact H
    clear H
    have H := H1
    clear H1
    exact absurd ((Option.some.inj H).trans HRT.out) Bool.false_ne_true

def grafterlaw6_ForwardBias.Pure : Prop := ∀ (a0_0 : Int) (a0_1 : Int) (l1 : List Int) (l2 : List Int) (a3 : Int), (Lit.int .i64 a0_0).wf = true → (Lit.int .i64 a0_1).wf = true → l1.length ≤ maxLen → l1.length * 8 ≤ 140737488351232 → (∀ x ∈ l1, (Lit.int .i64 x).wf = true) → l2.length ≤ maxLen → l2.length * 8 ≤ 140737488351232 → (∀ x ∈ l2, (Lit.int .i64 x).wf = true) → (Lit.int .i64 a3).wf = true → ∃ k, grafterlaw6_ForwardBias.f k a0_0 a0_1 l1 l2 a3 = some true
theorem grafterlaw6_ForwardBias.walk (P : grafterlaw6_ForwardBias.Pure) (a0_0 : Int) (a0_1 : Int) (a1 : Option Addr) (len1 cap1 : Nat) (z1 : List Int) (a2 : Option Addr) (len2 cap2 : Nat) (z2 : List Int) (a3 : Int) (w : World) (w0_0 : (Lit.int .i64 a0_0).wf = true) (w0_1 : (Lit.int .i64 a0_1).wf = true) (w1 : (a1 = none ∧ len1 = 0 ∧ cap1 = 0 ∧ z1 = []) ∨ ∃ x, a1 = some x ∧ len1 ≤ cap1 ∧ cap1 ≤ maxLen ∧ z1.length = cap1 ∧ (∀ i, i < z1.length → w.cell? (x.add i) = some (.int .i64 (z1.getD i 0))) ∧ ∀ n ∈ z1, (Lit.int .i64 n).wf = true) (y1 : len1 * 8 ≤ 140737488351232) (w2 : (a2 = none ∧ len2 = 0 ∧ cap2 = 0 ∧ z2 = []) ∨ ∃ x, a2 = some x ∧ len2 ≤ cap2 ∧ cap2 ≤ maxLen ∧ z2.length = cap2 ∧ (∀ i, i < z2.length → w.cell? (x.add i) = some (.int .i64 (z2.getD i 0))) ∧ ∀ n ∈ z2, (Lit.int .i64 n).wf = true) (y2 : len2 * 8 ≤ 140737488351232) (w3 : (Lit.int .i64 a3).wf = true) :
    Calls Try.prog 15 #[.agg #[.int .i64 a0_0, .int .i64 a0_1], .slice a1 len1 cap1, .slice a2 len2 cap2, .int .i64 a3] w fun e w' => e = .returned (.bool true) ∧ Below w.heap.size w w' := by
  obtain ⟨l1, rfl, hr1, hm1, hw1, hc1⟩ := ReadsInt.ofRowC w1
  obtain ⟨l2, rfl, hr2, hm2, hw2, hc2⟩ := ReadsInt.ofRowC w2
  obtain ⟨k, h⟩ := P a0_0 a0_1 l1 l2 a3 w0_0 w0_1 hm1 y1 hw1 hm2 y2 hw2 w3
  refine (grafterlaw6_ForwardBias.calls k a0_0 a0_1 _ _ l1 _ _ l2 a3 true w rfl (Kd.C_of_reads (d := (0 : Int)) (h1 := fun _ => rfl) hr1) hc1 (Kd.C_of_reads (d := (0 : Int)) (h1 := fun _ => rfl) hr2) hc2 h).mono ?_
  rintro e w' ⟨rfl, hd⟩
  exact ⟨rfl, hd⟩

end Go.Proofs.Ytdgbfgnmeoihiaa.PForwardBias
