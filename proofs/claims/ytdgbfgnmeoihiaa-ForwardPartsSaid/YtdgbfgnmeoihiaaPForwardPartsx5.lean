-- Written by a program of this session (pprint.py) out of the translation, with hand-proved walks pasted in.
import Derived.Test.YtdgbfgnmeoihiaaPForwardPartsx0
import Derived.Test.YtdgbfgnmeoihiaaPForwardPartsx1
import Derived.Test.YtdgbfgnmeoihiaaPForwardPartsx2
import Derived.Test.YtdgbfgnmeoihiaaPForwardPartsx4
namespace Go.Proofs.Ytdgbfgnmeoihiaa.PForwardParts
open Go.RowKit Go.Proofs.YtdgbfgnmeoihiaaW.PrintWords Go.Proofs.YtdgbfgnmeoihiaaW.PrintLast Go.Proofs.YtdgbfgnmeoihiaaW.PrintMore
attribute [local go_sem] max2_int min2_int max_two min_two max_three min_three max_four min_four   -- for this text's walks alone
set_option linter.unusedVariables false
set_option linter.unusedSimpArgs false

/-! ### grafterlaw6_ForwardParts: function 14 -/
mutual
def grafterlaw6_ForwardParts.j0 : Nat → List Int → List Int → Int → Int → Int → Bool → Int → Int → Option (Bool)
  | 0, _, _, _, _, _, _, _, _ => none
  | k + 1, x1, x7, x8, x9, x10, x45, x203000, x203001 => if x45 = true then ((grafterlaw0_Num.f x8).bind fun t212 => ((grafterlaw0_Num.f x10).bind fun t213 => (if t212 = t213 then ((grafterlaw0_Num.f x8).bind fun t214 => (some (t214 == 600))) else (some false)))) else (if (x1.length : Int) = (wrap64 ((wrap64 ((wrap64 (x203001 * (wrap64 (x203000 + 1)))) + x203001)) + 1)) then (grafterlaw6_ForwardParts.l0 k x1 x7 x9 (wrap64 (x203001 * (wrap64 (x203000 + 1)))) 0 0 x203000 x203001) else (some false))
def grafterlaw6_ForwardParts.l0 : Nat → List Int → List Int → Int → Int → Int → Int → Int → Int → Option (Bool)
  | 0, _, _, _, _, _, _, _, _ => none
  | k + 1, x1, x7, x9, x11, x12, x13, x203000, x203001 => if x13 < x203001 then (if 0 ≤ x13 then (if x13 < (x7.length : Int) then (if 0 ≤ (wrap64 (x11 + x13)) then (if (wrap64 (x11 + x13)) < (x1.length : Int) then (grafterlaw6_ForwardParts.l0 k x1 x7 x9 x11 (mx (-1073741824) (mn 1073741824 (wrap64 (x12 + (mx (-1073741824) (mn 1073741824 ((wrap64 ((rd x1 (wrap64 (x11 + x13))) * (mx (-65536) (mn 65536 (rd x7 x13))))) / 65536))))))) (wrap64 (x13 + 1)) x203000 x203001) else (none)) else (none)) else (none)) else (none)) else (if 0 ≤ (wrap64 (x11 + x203001)) then (if (wrap64 (x11 + x203001)) < (x1.length : Int) then (some (x9 == (mx (-1073741824) (mn 1073741824 (wrap64 ((rd x1 (wrap64 (x11 + x203001))) + x12)))))) else (none)) else (none))
end
def grafterlaw6_ForwardParts.f (k : Nat) (a0_0 : Int) (a0_1 : Int) (l1 : List Int) (l2 : List Int) : Option (Bool) := (grafterlaw6_awake.f k).bind fun t203 => (if t203 = true then ((forward_Hidden.f k a0_0 a0_1 l1 l2).bind fun bt204 => ((forward_Out.f k a0_0 a0_1 l1 l2).bind fun bt208 => ((grafterlaw0_Num.f bt204.2).bind fun t210 => (if t210 = 0 then ((grafterlaw0_Num.f bt208.2).bind fun t211 => (if t211 = 0 then (grafterlaw6_ForwardParts.j0 k l1 bt204.1 bt204.2 bt208.1 bt208.2 ((bt204.1.length : Int) != a0_1) a0_0 a0_1) else (grafterlaw6_ForwardParts.j0 k l1 bt204.1 bt204.2 bt208.1 bt208.2 true a0_0 a0_1))) else (grafterlaw6_ForwardParts.j0 k l1 bt204.1 bt204.2 bt208.1 bt208.2 true a0_0 a0_1))))) else (some false))
theorem grafterlaw6_ForwardParts.mono_l : ∀ k, (∀ y0 y1 y2 y3 y4 y5 y6 y7, LeO (grafterlaw6_ForwardParts.j0 k y0 y1 y2 y3 y4 y5 y6 y7) (grafterlaw6_ForwardParts.j0 (k + 1) y0 y1 y2 y3 y4 y5 y6 y7)) ∧ (∀ y0 y1 y2 y3 y4 y5 y6 y7, LeO (grafterlaw6_ForwardParts.l0 k y0 y1 y2 y3 y4 y5 y6 y7) (grafterlaw6_ForwardParts.l0 (k + 1) y0 y1 y2 y3 y4 y5 y6 y7))
  | 0 => ⟨fun _ _ _ _ _ _ _ _ r h => by simp [grafterlaw6_ForwardParts.j0] at h, fun _ _ _ _ _ _ _ _ r h => by simp [grafterlaw6_ForwardParts.l0] at h⟩
  | k + 1 => by
    obtain ⟨ih0, ih1⟩ := grafterlaw6_ForwardParts.mono_l k
    refine ⟨?_, ?_⟩
    · intro y0 y1 y2 y3 y4 y5 y6 y7
      unfold grafterlaw6_ForwardParts.j0
      repeat' first
      | (with_reducible exact ih0 _ _ _ _ _ _ _ _)
      | (with_reducible exact ih1 _ _ _ _ _ _ _ _)
      | (with_reducible exact forward_Hidden.mono _ _ _ _ _)
      | (with_reducible exact forward_Out.mono _ _ _ _ _)
      | (with_reducible exact grafterlaw6_awake.mono _)
      | (with_reducible exact LeO.refl _)
      | (with_reducible exact LeO.none _)
      | (with_reducible refine LeO.ite ?_ ?_)
      | (with_reducible refine LeO.bind ?_ (fun _ => ?_))
      | exact ih0 _ _ _ _ _ _ _ _
      | exact ih1 _ _ _ _ _ _ _ _
      | exact forward_Hidden.mono _ _ _ _ _
      | exact forward_Out.mono _ _ _ _ _
      | exact grafterlaw6_awake.mono _
      | exact LeO.none _
      | refine LeO.ite ?_ ?_
      | refine LeO.bind ?_ (fun _ => ?_)
    · intro y0 y1 y2 y3 y4 y5 y6 y7
      unfold grafterlaw6_ForwardParts.l0
      repeat' first
      | (with_reducible exact ih0 _ _ _ _ _ _ _ _)
      | (with_reducible exact ih1 _ _ _ _ _ _ _ _)
      | (with_reducible exact forward_Hidden.mono _ _ _ _ _)
      | (with_reducible exact forward_Out.mono _ _ _ _ _)
      | (with_reducible exact grafterlaw6_awake.mono _)
      | (with_reducible exact LeO.refl _)
      | (with_reducible exact LeO.none _)
      | (with_reducible refine LeO.ite ?_ ?_)
      | (with_reducible refine LeO.bind ?_ (fun _ => ?_))
      | exact ih0 _ _ _ _ _ _ _ _
      | exact ih1 _ _ _ _ _ _ _ _
      | exact forward_Hidden.mono _ _ _ _ _
      | exact forward_Out.mono _ _ _ _ _
      | exact grafterlaw6_awake.mono _
      | exact LeO.none _
      | refine LeO.ite ?_ ?_
      | refine LeO.bind ?_ (fun _ => ?_)
theorem grafterlaw6_ForwardParts.mono : ∀ a0 a1 a2 a3 k, LeO (grafterlaw6_ForwardParts.f k a0 a1 a2 a3) (grafterlaw6_ForwardParts.f (k + 1) a0 a1 a2 a3) := by
  intro a0 a1 a2 a3 k
  obtain ⟨ih0, ih1⟩ := grafterlaw6_ForwardParts.mono_l k
  unfold grafterlaw6_ForwardParts.f
  repeat' first
      | (with_reducible exact ih0 _ _ _ _ _ _ _ _)
      | (with_reducible exact ih1 _ _ _ _ _ _ _ _)
      | (with_reducible exact forward_Hidden.mono _ _ _ _ _)
      | (with_reducible exact forward_Out.mono _ _ _ _ _)
      | (with_reducible exact grafterlaw6_awake.mono _)
      | (with_reducible exact LeO.refl _)
      | (with_reducible exact LeO.none _)
      | (with_reducible refine LeO.ite ?_ ?_)
      | (with_reducible refine LeO.bind ?_ (fun _ => ?_))
      | exact ih0 _ _ _ _ _ _ _ _
      | exact ih1 _ _ _ _ _ _ _ _
      | exact forward_Hidden.mono _ _ _ _ _
      | exact forward_Out.mono _ _ _ _ _
      | exact grafterlaw6_awake.mono _
      | exact LeO.none _
      | refine LeO.ite ?_ ?_
      | refine LeO.bind ?_ (fun _ => ?_)
set_option maxHeartbeats 8000000 in
set_option maxRecDepth 100000 in
theorem grafterlaw6_ForwardParts.calls (k : Nat) (a0_0 : Int) (a0_1 : Int) (A1 : Option Addr) (c1 : Nat) (l1 : List Int) (A2 : Option Addr) (c2 : Nat) (l2 : List Int) (r : Bool) (w : World) (hrt : r = true) (hr1 : Kd.C (Kd.int .i64) w A1 l1.length l1) (hc1 : l1.length ≤ c1) (hr2 : Kd.C (Kd.int .i64) w A2 l2.length l2) (hc2 : l2.length ≤ c2) (h : grafterlaw6_ForwardParts.f k a0_0 a0_1 l1 l2 = some r) :
    Calls Try.prog 14 #[.agg #[.int .i64 a0_0, .int .i64 a0_1], .slice A1 l1.length c1, .slice A2 l2.length c2] w fun e w' => e = .returned (.bool r) ∧ Below w.heap.size w w' := by
  have HRT := Aside0.mk hrt
  clear hrt
  have hu23 := Try.underlying23
  have HR1 := Aside0.mk hr1
  have HC1 := Aside0.mk hc1
  clear hr1 hc1
  have HR2 := Aside0.mk hr2
  have HC2 := Aside0.mk hc2
  clear hr2 hc2
  have HB := Aside0.mk (Below.refl w.heap.size w)
  have H : ((grafterlaw6_awake.f k).bind fun t203 => (if t203 = true then ((forward_Hidden.f k a0_0 a0_1 l1 l2).bind fun bt204 => ((forward_Out.f k a0_0 a0_1 l1 l2).bind fun bt208 => ((grafterlaw0_Num.f bt204.2).bind fun t210 => (if t210 = 0 then ((grafterlaw0_Num.f bt208.2).bind fun t211 => (if t211 = 0 then (grafterlaw6_ForwardParts.j0 k l1 bt204.1 bt204.2 bt208.1 bt208.2 ((bt204.1.length : Int) != a0_1) a0_0 a0_1) else (grafterlaw6_ForwardParts.j0 k l1 bt204.1 bt204.2 bt208.1 bt208.2 true a0_0 a0_1))) else (grafterlaw6_ForwardParts.j0 k l1 bt204.1 bt204.2 bt208.1 bt208.2 true a0_0 a0_1))))) else (some false))) = some r := h
  clear h
  replace H := Option.bind_eq_some_iff.mp H
  obtain ⟨t203, A40, H⟩ := H
  replace H : (if t203 = true then ((forward_Hidden.f k a0_0 a0_1 l1 l2).bind fun bt204 => ((forward_Out.f k a0_0 a0_1 l1 l2).bind fun bt208 => ((grafterlaw0_Num.f bt204.2).bind fun t210 => (if t210 = 0 then ((grafterlaw0_Num.f bt208.2).bind fun t211 => (if t211 = 0 then (grafterlaw6_ForwardParts.j0 k l1 bt204.1 bt204.2 bt208.1 bt208.2 ((bt204.1.length : Int) != a0_1) a0_0 a0_1) else (grafterlaw6_ForwardParts.j0 k l1 bt204.1 bt204.2 bt208.1 bt208.2 true a0_0 a0_1))) else (grafterlaw6_ForwardParts.j0 k l1 bt204.1 bt204.2 bt208.1 bt208.2 true a0_0 a0_1))))) else (some false)) = some r := H
  have A4 := Aside0.mk A40
  clear A40
  by_cases c5 : t203 = true
  · subst c5
    have H1 : ((forward_Hidden.f k a0_0 a0_1 l1 l2).bind fun bt204 => ((forward_Out.f k a0_0 a0_1 l1 l2).bind fun bt208 => ((grafterlaw0_Num.f bt204.2).bind fun t210 => (if t210 = 0 then ((grafterlaw0_Num.f bt208.2).bind fun t211 => (if t211 = 0 then (grafterlaw6_ForwardParts.j0 k l1 bt204.1 bt204.2 bt208.1 bt208.2 ((bt204.1.length : Int) != a0_1) a0_0 a0_1) else (grafterlaw6_ForwardParts.j0 k l1 bt204.1 bt204.2 bt208.1 bt208.2 true a0_0 a0_1))) else (grafterlaw6_ForwardParts.j0 k l1 bt204.1 bt204.2 bt208.1 bt208.2 true a0_0 a0_1))))) = some r := by rw [if_pos rfl] at H; exact H
    clear H
    have H := H1
    clear H1
    replace H := Option.bind_eq_some_iff.mp H
    obtain ⟨⟨t204, t207⟩, A60, H⟩ := H
    replace H : ((forward_Out.f k a0_0 a0_1 l1 l2).bind fun bt208 => ((grafterlaw0_Num.f t207).bind fun t210 => (if t210 = 0 then ((grafterlaw0_Num.f bt208.2).bind fun t211 => (if t211 = 0 then (grafterlaw6_ForwardParts.j0 k l1 t204 t207 bt208.1 bt208.2 ((t204.length : Int) != a0_1) a0_0 a0_1) else (grafterlaw6_ForwardParts.j0 k l1 t204 t207 bt208.1 bt208.2 true a0_0 a0_1))) else (grafterlaw6_ForwardParts.j0 k l1 t204 t207 bt208.1 bt208.2 true a0_0 a0_1)))) = some r := H
    have A6 := Aside0.mk A60
    clear A60
    replace H := Option.bind_eq_some_iff.mp H
    obtain ⟨⟨t208, t209⟩, A70, H⟩ := H
    replace H : ((grafterlaw0_Num.f t207).bind fun t210 => (if t210 = 0 then ((grafterlaw0_Num.f t209).bind fun t211 => (if t211 = 0 then (grafterlaw6_ForwardParts.j0 k l1 t204 t207 t208 t209 ((t204.length : Int) != a0_1) a0_0 a0_1) else (grafterlaw6_ForwardParts.j0 k l1 t204 t207 t208 t209 true a0_0 a0_1))) else (grafterlaw6_ForwardParts.j0 k l1 t204 t207 t208 t209 true a0_0 a0_1))) = some r := H
    have A7 := Aside0.mk A70
    clear A70
    have HC8 := Aside0.mk H
    clear H
    go_enter Try.func14, Try.ntmps14
    go_upto_region 5 with (first | ((with_reducible refine gate_dst (N := 3) rfl ?_); (try (refine gate_guard (by rfl) ?_; dsimp only)); refine box_event ?hg (N := 3) ?hd (cs := #[.int .i64 a0_0, .int .i64 a0_1]) (t := 23) ?hr ?_; (case hd => rfl); (case hg => rfl); (case hr => first | (go_simp; done) | (go_simp; rfl)); intro gb202 hg w9 hbox hb; have n0_ := Aside0.mk (below_step (by repeat (first | (with_reducible first | exact HB.out | apply below_alloc | apply pw_below_drewN | apply below_drew1) | exact HB.out)) hb); have n1_ := Aside0.mk (hbox); have n2_ := Aside0.mk ((by rw [hg]; exact (below_size (by repeat (first | (with_reducible first | exact HB.out | apply below_alloc | apply pw_below_drewN | apply below_drew1) | exact HB.out))) : w.heap.size ≤ gb202)); have n3_ := Aside0.mk ((by rw [hg]; exact (below_size (by repeat (first | (with_reducible first | exact HB.out | apply below_alloc | apply pw_below_drewN | apply below_drew1) | exact HB.out))) : w.heap.size ≤ gb202)); clear HB; have HB := n0_; have BK202 := n1_; have GW202 := n2_; have GE202 := n3_; clear n0_ n1_ n2_ n3_; clear hb hbox hg) | ((with_reducible refine gate_callee (f := 40) rfl ?_); refine goesL_ (some 15) rfl rfl Try.func40 (by kernel_rfl) rfl #[] rfl (by (try simp only [List.map_toArray, List.map_cons, List.map_nil]); first | done | rfl | (simp only [List.length_drop, List.length_take]; rfl)) ?_; (with_reducible refine (grafterlaw6_awake.calls k  true _ rfl A4.out).mono ?_); rintro e w10 ⟨rfl, hb⟩; refine ⟨_, rfl, ?_⟩; have n0_ := Aside0.mk (blk_below (g := gb202) (o := .cells #[.int .i64 a0_0, .int .i64 a0_1] 23 (0, 0)) (by (with_reducible repeat (first | refine blk_drewN ?_ _ | refine blk_drew ?_ | refine blk_alloc ?_ _)); exact BK202.out) hb); have n1_ := Aside0.mk (below_step (by repeat (first | (with_reducible first | exact HB.out | apply below_alloc | apply pw_below_drewN | apply below_drew1 | refine below_set ?_ GE202.out) | exact HB.out)) hb); clear BK202; clear HB; have BK202 := n0_; have HB := n1_; clear n0_ n1_; (try clear hb); (try clear hb2); (try clear hk); (try clear hi); have hcz11_0 : w10.cell? ⟨gb202, 0, none⟩ = some (.int .i64 a0_0) := (blk_cell BK202.out 0).trans rfl; have hcz11_1 : w10.cell? ⟨gb202, 1, none⟩ = some (.int .i64 a0_1) := (blk_cell BK202.out 1).trans rfl; have hfz11_0 := blk_frozen BK202.out 0; have hfz11_1 := blk_frozen BK202.out 1) | ((with_reducible refine gate_callee (f := 35) rfl ?_); refine goesL_ (some 21) rfl rfl Try.func35 (by kernel_rfl) rfl #[.agg #[.int .i64 a0_0, .int .i64 a0_1], .slice A1 l1.length c1, .slice A2 l2.length c2] rfl (by (try simp only [List.map_toArray, List.map_cons, List.map_nil]); first | done | rfl | (simp only [List.length_drop, List.length_take]; rfl)) ?_; (with_reducible refine (forward_Hidden.calls k a0_0 a0_1 _ _ l1 _ _ l2 t204 t207 _ ?side1 ?side2 ?side3 ?side4 A6.out).mono ?_); (case side1 => repeat (first | exact (Kd.C_below HR1.out HB.out) | (with_reducible refine Kd.C_alloc ?_ _) | (with_reducible refine Kd.C_drewN ?_ _) | (with_reducible refine Kd.C_drew ?_))); (case side2 => exact HC1.out); (case side3 => repeat (first | exact (Kd.C_below HR2.out HB.out) | (with_reducible refine Kd.C_alloc ?_ _) | (with_reducible refine Kd.C_drewN ?_ _) | (with_reducible refine Kd.C_drew ?_))); (case side4 => exact HC2.out); rintro e w12 ⟨v205, rfl, ho0, hb⟩; refine ⟨_, rfl, ?_⟩; have n0_ := Aside0.mk (Kd.R_lower ho0 (below_size (by repeat (first | (with_reducible first | exact HB.out | apply below_alloc | apply pw_below_drewN | apply below_drew1 | refine below_set ?_ GE202.out) | exact HB.out)))); have n1_ := Aside0.mk (blk_below (g := gb202) (o := .cells #[.int .i64 a0_0, .int .i64 a0_1] 23 (0, 0)) (by (with_reducible repeat (first | refine blk_drewN ?_ _ | refine blk_drew ?_ | refine blk_alloc ?_ _)); exact BK202.out) hb); have n2_ := Aside0.mk (below_step (by repeat (first | (with_reducible first | exact HB.out | apply below_alloc | apply pw_below_drewN | apply below_drew1 | refine below_set ?_ GE202.out) | exact HB.out)) hb); clear BK202; clear HB; have HO206 := n0_; have BK202 := n1_; have HB := n2_; clear n0_ n1_ n2_; (try clear hb); (try clear hb2); (try clear hk); (try clear hi); (try clear ho0); have hcz13_0 : w12.cell? ⟨gb202, 0, none⟩ = some (.int .i64 a0_0) := (blk_cell BK202.out 0).trans rfl; have hcz13_1 : w12.cell? ⟨gb202, 1, none⟩ = some (.int .i64 a0_1) := (blk_cell BK202.out 1).trans rfl; have hfz13_0 := blk_frozen BK202.out 0; have hfz13_1 := blk_frozen BK202.out 1) | ((with_reducible refine gate_callee (f := 37) rfl ?_); refine goesL_ (some 28) rfl rfl Try.func37 (by kernel_rfl) rfl #[.agg #[.int .i64 a0_0, .int .i64 a0_1], .slice A1 l1.length c1, .slice A2 l2.length c2] rfl (by (try simp only [List.map_toArray, List.map_cons, List.map_nil]); first | done | rfl | (simp only [List.length_drop, List.length_take]; rfl)) ?_; (with_reducible refine (forward_Out.calls k a0_0 a0_1 _ _ l1 _ _ l2 t208 t209 _ ?side1 ?side2 ?side3 ?side4 A7.out).mono ?_); (case side1 => repeat (first | exact (Kd.C_below HR1.out HB.out) | (with_reducible refine Kd.C_alloc ?_ _) | (with_reducible refine Kd.C_drewN ?_ _) | (with_reducible refine Kd.C_drew ?_))); (case side2 => exact HC1.out); (case side3 => repeat (first | exact (Kd.C_below HR2.out HB.out) | (with_reducible refine Kd.C_alloc ?_ _) | (with_reducible refine Kd.C_drewN ?_ _) | (with_reducible refine Kd.C_drew ?_))); (case side4 => exact HC2.out); rintro e w14 ⟨rfl, hb⟩; refine ⟨_, rfl, ?_⟩; have n0_ := Aside0.mk (Kd.R_below (by (with_reducible repeat (first | apply Kd.R_alloc | apply Kd.R_drewN | apply Kd.R_drew)); exact HO206.out) hb); have n1_ := Aside0.mk (blk_below (g := gb202) (o := .cells #[.int .i64 a0_0, .int .i64 a0_1] 23 (0, 0)) (by (with_reducible repeat (first | refine blk_drewN ?_ _ | refine blk_drew ?_ | refine blk_alloc ?_ _)); exact BK202.out) hb); have n2_ := Aside0.mk (below_step (by repeat (first | (with_reducible first | exact HB.out | apply below_alloc | apply pw_below_drewN | apply below_drew1 | refine below_set ?_ GE202.out) | exact HB.out)) hb); clear HO206; clear BK202; clear HB; have HO206 := n0_; have BK202 := n1_; have HB := n2_; clear n0_ n1_ n2_; (try clear hb); (try clear hb2); (try clear hk); (try clear hi)))
    (try simp only [Act.put, List.setIfInBounds_toArray, List.set_cons_zero, List.set_cons_succ])
    go_cut [45] (fun v45 wc => ∃ (kq : Nat) (x45_7 : Bool), v45 = .bool x45_7 ∧ Aside0 (grafterlaw6_ForwardParts.j0 kq l1 t204 t207 t208 t209 x45_7 a0_0 a0_1 = some r) ∧ Aside0 (kq ≤ k) ∧ Aside0 (Kd.R (Kd.int .i64) 3 wc w.heap.size (fun _ => True) v205 t204) ∧ Aside0 (wc.heap[gb202]? = some (.cells #[.int .i64 a0_0, .int .i64 a0_1] 23 (0, 0))) ∧ Aside0 (Below w.heap.size w wc))
    case first =>
      have H := HC8.out
      clear HC8
      replace H := Option.bind_eq_some_iff.mp H
      obtain ⟨t210, A150, H⟩ := H
      replace H : (if t210 = 0 then ((grafterlaw0_Num.f t209).bind fun t211 => (if t211 = 0 then (grafterlaw6_ForwardParts.j0 k l1 t204 t207 t208 t209 ((t204.length : Int) != a0_1) a0_0 a0_1) else (grafterlaw6_ForwardParts.j0 k l1 t204 t207 t208 t209 true a0_0 a0_1))) else (grafterlaw6_ForwardParts.j0 k l1 t204 t207 t208 t209 true a0_0 a0_1)) = some r := H
      have A15 := Aside0.mk A150
      clear A150
      by_cases c16 : t210 = 0
      · rw [if_pos c16] at H
        have c16b0 : (t210 == 0) = true := beq_iff_eq.mpr c16
        have c16b1 : (t210 != 0) = false := bne_eq_false_iff_eq.mpr c16
        clear c16
        (first | rw [c16b0] | (simp only [i64_w, i32_w]; rw [c16b0]) | skip)
        replace H := Option.bind_eq_some_iff.mp H
        obtain ⟨t211, A170, H⟩ := H
        replace H : (if t211 = 0 then (grafterlaw6_ForwardParts.j0 k l1 t204 t207 t208 t209 ((t204.length : Int) != a0_1) a0_0 a0_1) else (grafterlaw6_ForwardParts.j0 k l1 t204 t207 t208 t209 true a0_0 a0_1)) = some r := H
        have A17 := Aside0.mk A170
        clear A170
        by_cases c18 : t211 = 0
        · rw [if_pos c18] at H
          have c18b0 : (t211 == 0) = true := beq_iff_eq.mpr c18
          have c18b1 : (t211 != 0) = false := bne_eq_false_iff_eq.mpr c18
          clear c18
          have H' := Aside0.mk H
          clear H
          go_wp2_with (first | ((with_reducible refine gate_callee (f := 22) rfl ?_); refine goesL_ (some 32) rfl rfl Try.func22 (by kernel_rfl) rfl #[.int .i64 t207] rfl (by (try simp only [List.map_toArray, List.map_cons, List.map_nil]); first | done | rfl | (simp only [List.length_drop, List.length_take]; rfl)) ?_; (with_reducible refine (grafterlaw0_Num.calls t207 t210 _ A15.out).mono ?_); rintro e w' ⟨rfl, ⟨nd, rfl⟩⟩; refine ⟨_, rfl, ?_⟩; (try clear A15)) | (go_at_call 22; (with_reducible refine (grafterlaw0_Num.calls t209 t211 _ A17.out).mono ?_); rintro e w' ⟨rfl, ⟨nd, rfl⟩⟩; obtain ⟨Ao19, co19, eo19⟩ := Kd.R_slice HO206.out; subst eo19; have hcz20_0 : w14.cell? ⟨gb202, 0, none⟩ = some (.int .i64 a0_0) := (blk_cell BK202.out 0).trans rfl; have hcz20_1 : w14.cell? ⟨gb202, 1, none⟩ = some (.int .i64 a0_1) := (blk_cell BK202.out 1).trans rfl; have hfz20_0 := blk_frozen BK202.out 0; have hfz20_1 := blk_frozen BK202.out 1; (try clear A17)))
          go_meet
          case rel => exact ⟨_, (((t204.length : Int) != a0_1)), (by first | rfl | (simp; done) | (simp [*]; done)), H', ⟨by first | omega | exact Nat.le_refl _⟩, ⟨by (with_reducible repeat (first | apply Kd.R_alloc | apply Kd.R_drewN | apply Kd.R_drew)); exact HO206.out⟩, ⟨by (with_reducible repeat (first | refine blk_drewN ?_ _ | refine blk_drew ?_ | refine blk_alloc ?_ _)); exact BK202.out⟩, ⟨by repeat (first | (with_reducible first | exact HB.out | apply below_alloc | apply pw_below_drewN | apply below_drew1 | refine below_set ?_ GE202.out) | exact HB.out)⟩⟩
        · rw [if_neg c18] at H
          have c18b0 : (t211 == 0) = false := beq_eq_false_iff_ne.mpr c18
          have c18b1 : (t211 != 0) = true := bne_iff_ne.mpr c18
          have H' := Aside0.mk H
          clear H
          go_wp2_with (first | ((with_reducible refine gate_callee (f := 22) rfl ?_); refine goesL_ (some 32) rfl rfl Try.func22 (by kernel_rfl) rfl #[.int .i64 t207] rfl (by (try simp only [List.map_toArray, List.map_cons, List.map_nil]); first | done | rfl | (simp only [List.length_drop, List.length_take]; rfl)) ?_; (with_reducible refine (grafterlaw0_Num.calls t207 t210 _ A15.out).mono ?_); rintro e w' ⟨rfl, ⟨nd, rfl⟩⟩; refine ⟨_, rfl, ?_⟩; (try clear A15)) | (go_at_call 22; (with_reducible refine (grafterlaw0_Num.calls t209 t211 _ A17.out).mono ?_); rintro e w' ⟨rfl, ⟨nd, rfl⟩⟩; (try clear A17)))
          go_meet
          case rel => exact ⟨_, (true), (by first | rfl | (simp; done) | (simp [*]; done)), H', ⟨by first | omega | exact Nat.le_refl _⟩, ⟨by (with_reducible repeat (first | apply Kd.R_alloc | apply Kd.R_drewN | apply Kd.R_drew)); exact HO206.out⟩, ⟨by (with_reducible repeat (first | refine blk_drewN ?_ _ | refine blk_drew ?_ | refine blk_alloc ?_ _)); exact BK202.out⟩, ⟨by repeat (first | (with_reducible first | exact HB.out | apply below_alloc | apply pw_below_drewN | apply below_drew1 | refine below_set ?_ GE202.out) | exact HB.out)⟩⟩
      · rw [if_neg c16] at H
        have c16b0 : (t210 == 0) = false := beq_eq_false_iff_ne.mpr c16
        have c16b1 : (t210 != 0) = true := bne_iff_ne.mpr c16
        (first | rw [c16b0] | (simp only [i64_w, i32_w]; rw [c16b0]) | skip)
        have H' := Aside0.mk H
        clear H
        go_wp2_with (first | ((with_reducible refine gate_callee (f := 22) rfl ?_); refine goesL_ (some 32) rfl rfl Try.func22 (by kernel_rfl) rfl #[.int .i64 t207] rfl (by (try simp only [List.map_toArray, List.map_cons, List.map_nil]); first | done | rfl | (simp only [List.length_drop, List.length_take]; rfl)) ?_; (with_reducible refine (grafterlaw0_Num.calls t207 t210 _ A15.out).mono ?_); rintro e w' ⟨rfl, ⟨nd, rfl⟩⟩; refine ⟨_, rfl, ?_⟩))
        go_meet
        case rel => exact ⟨_, (true), (by first | rfl | (simp; done) | (simp [*]; done)), H', ⟨by first | omega | exact Nat.le_refl _⟩, ⟨by (with_reducible repeat (first | apply Kd.R_alloc | apply Kd.R_drewN | apply Kd.R_drew)); exact HO206.out⟩, ⟨by (with_reducible repeat (first | refine blk_drewN ?_ _ | refine blk_drew ?_ | refine blk_alloc ?_ _)); exact BK202.out⟩, ⟨by repeat (first | (with_reducible first | exact HB.out | apply below_alloc | apply pw_below_drewN | apply below_drew1 | refine below_set ?_ GE202.out) | exact HB.out)⟩⟩
    case rest =>
      clear HC8
      try clear c1
      try clear c2
      try clear p2
      try clear c3
      try clear c4
      try clear c5
      try clear c14
      try clear c16
      try clear c16b0
      try clear c16b1
      try clear c18
      try clear c18b0
      try clear c18b1
      try clear hcz11_0
      try clear hcz11_1
      try clear hcz13_0
      try clear hcz13_1
      try clear hcz20_0
      try clear hcz20_1
      try clear hfz11_0
      try clear hfz11_1
      try clear hfz13_0
      try clear hfz13_1
      try clear hfz20_0
      try clear hfz20_1
      obtain ⟨kq, x45_7, rfl, HA, HJ7, HO_7, BK202, HB⟩ := hcut
      cases kq with
      | zero => exact absurd HA.out (by simp [grafterlaw6_ForwardParts.j0])
      | succ kj7 =>
        have H := HA.out
        clear HA
        simp only [grafterlaw6_ForwardParts.j0] at H
        by_cases c21 : x45_7 = true
        · subst c21
          have H1 : ((grafterlaw0_Num.f t207).bind fun t212 => ((grafterlaw0_Num.f t209).bind fun t213 => (if t212 = t213 then ((grafterlaw0_Num.f t207).bind fun t214 => (some (t214 == 600))) else (some false)))) = some r := by rw [if_pos rfl] at H; exact H
          clear H
          have H := H1
          clear H1
          replace H := Option.bind_eq_some_iff.mp H
          obtain ⟨t212, A220, H⟩ := H
          replace H : ((grafterlaw0_Num.f t209).bind fun t213 => (if t212 = t213 then ((grafterlaw0_Num.f t207).bind fun t214 => (some (t214 == 600))) else (some false))) = some r := H
          have A22 := Aside0.mk A220
          clear A220
          replace H := Option.bind_eq_some_iff.mp H
          obtain ⟨t213, A230, H⟩ := H
          replace H : (if t212 = t213 then ((grafterlaw0_Num.f t207).bind fun t214 => (some (t214 == 600))) else (some false)) = some r := H
          have A23 := Aside0.mk A230
          clear A230
          by_cases c24 : t212 = t213
          · rw [if_pos c24] at H
            have c24b0 : (t212 == t213) = true := beq_iff_eq.mpr c24
            have c24b1 : (t212 != t213) = false := bne_eq_false_iff_eq.mpr c24
            clear c24
            replace H := Option.bind_eq_some_iff.mp H
            obtain ⟨t214, A250, H⟩ := H
            replace H : (some (t214 == 600)) = some r := H
            have A25 := Aside0.mk A250
            clear A250
            obtain rfl := Option.some.inj H
            go_wp2_with (first | ((with_reducible refine gate_callee (f := 22) rfl ?_); refine goesL_ (some 47) rfl rfl Try.func22 (by kernel_rfl) rfl #[.int .i64 t207] rfl (by (try simp only [List.map_toArray, List.map_cons, List.map_nil]); first | done | rfl | (simp only [List.length_drop, List.length_take]; rfl)) ?_; (with_reducible refine (grafterlaw0_Num.calls t207 t212 _ A22.out).mono ?_); rintro e w' ⟨rfl, ⟨nd, rfl⟩⟩; refine ⟨_, rfl, ?_⟩; (try clear A22)) | ((with_reducible refine gate_callee (f := 22) rfl ?_); refine goesL_ (some 49) rfl rfl Try.func22 (by kernel_rfl) rfl #[.int .i64 t209] rfl (by (try simp only [List.map_toArray, List.map_cons, List.map_nil]); first | done | rfl | (simp only [List.length_drop, List.length_take]; rfl)) ?_; (with_reducible refine (grafterlaw0_Num.calls t209 t213 _ A23.out).mono ?_); rintro e w' ⟨rfl, ⟨nd, rfl⟩⟩; refine ⟨_, rfl, ?_⟩; (try clear A23)) | (go_at_call 22; (with_reducible refine (grafterlaw0_Num.calls t207 t214 _ A25.out).mono ?_); rintro e w' ⟨rfl, ⟨nd, rfl⟩⟩; (try clear A25)))
            go_ret
            exact ⟨by first | rfl | (simp [errW_none, errW_some] <;> rfl) | (simp [*, errW_none, errW_some] <;> rfl), by repeat (first | (with_reducible first | exact HB.out | apply below_alloc | apply pw_below_drewN | apply below_drew1 | refine below_set ?_ GE202.out) | exact HB.out)⟩
          · rw [if_neg c24] at H
            have c24b0 : (t212 == t213) = false := beq_eq_false_iff_ne.mpr c24
            have c24b1 : (t212 != t213) = true := bne_iff_ne.mpr c24
            exact absurd ((Option.some.inj H).trans HRT.out) Bool.false_ne_true
        · replace c21 := Bool.eq_false_iff.mpr c21
          subst c21
          have H1 : (if (l1.length : Int) = (wrap64 ((wrap64 ((wrap64 (a0_1 * (wrap64 (a0_0 + 1)))) + a0_1)) + 1)) then (grafterlaw6_ForwardParts.l0 kj7 l1 t204 t208 (wrap64 (a0_1 * (wrap64 (a0_0 + 1)))) 0 0 a0_0 a0_1) else (some false)) = some r := by rw [if_neg (show ¬ (false = true) by decide)] at H; exact H
          clear H
          have H := H1
          clear H1
          by_cases c26 : (l1.length : Int) = (wrap64 ((wrap64 ((wrap64 (a0_1 * (wrap64 (a0_0 + 1)))) + a0_1)) + 1))
          · rw [if_pos c26] at H
            have c26b0 : ((l1.length : Int) == (wrap64 ((wrap64 ((wrap64 (a0_1 * (wrap64 (a0_0 + 1)))) + a0_1)) + 1))) = true := beq_iff_eq.mpr c26
            (try have c26b4 : ((l1.length : Int) == ((wrap64 ((wrap64 (a0_1 * (wrap64 (a0_0 + 1)))) + a0_1)) + 1)) = true := by (have h_ := beq_iff_eq.mp c26b0; unfold wrap64 at h_; exact beq_iff_eq.mpr (by omega)))
            have c26b1 : ((l1.length : Int) != (wrap64 ((wrap64 ((wrap64 (a0_1 * (wrap64 (a0_0 + 1)))) + a0_1)) + 1))) = false := bne_eq_false_iff_eq.mpr c26
            clear c26
            have H' := Aside0.mk H
            clear H
            have hcz27_0 : wc.cell? ⟨gb202, 0, none⟩ = some (.int .i64 a0_0) := (blk_cell BK202.out 0).trans rfl
            have hcz27_1 : wc.cell? ⟨gb202, 1, none⟩ = some (.int .i64 a0_1) := (blk_cell BK202.out 1).trans rfl
            have hfz27_0 := blk_frozen BK202.out 0
            have hfz27_1 := blk_frozen BK202.out 1
            go_wp2
            go_loopg [12, 13] kj7 (fun kq v12 v13 w' => ∃ (x12_2 : Int) (x13_2 : Int), v12 = .int .i64 x12_2 ∧ v13 = .int .i64 x13_2 ∧ Aside0 (grafterlaw6_ForwardParts.l0 kq l1 t204 t208 (wrap64 (a0_1 * (wrap64 (a0_0 + 1)))) x12_2 x13_2 a0_0 a0_1 = some r) ∧ Aside0 (kq ≤ kj7) ∧ Aside0 (Kd.R (Kd.int .i64) 3 w' w.heap.size (fun _ => True) v205 t204) ∧ Aside0 (w'.heap[gb202]? = some (.cells #[.int .i64 a0_0, .int .i64 a0_1] 23 (0, 0))) ∧ Aside0 (Below w.heap.size w w'))
            case atStart => exact ⟨(0), (0), (by first | rfl | (simp; done) | (simp [*]; done)), (by first | rfl | (simp; done) | (simp [*]; done)), H', ⟨Nat.le_refl _⟩, ⟨by (with_reducible repeat (first | apply Kd.R_alloc | apply Kd.R_drewN | apply Kd.R_drew)); exact HO_7.out⟩, ⟨by (with_reducible repeat (first | refine blk_drewN ?_ _ | refine blk_drew ?_ | refine blk_alloc ?_ _)); exact BK202.out⟩, ⟨by repeat (first | (with_reducible first | exact HB.out | apply below_alloc | apply pw_below_drewN | apply below_drew1 | refine below_set ?_ GE202.out) | exact HB.out)⟩⟩
            case round =>
              clear H'
              try clear c1
              try clear c2
              try clear p2
              try clear c3
              try clear c4
              try clear c5
              try clear p6
              try clear c14
              try clear c16
              try clear c16b0
              try clear c16b1
              try clear c18
              try clear c18b0
              try clear c18b1
              try clear c21
              try clear c22
              try clear c24
              try clear c24b0
              try clear c24b1
              try clear c26
              try clear c26b0
              try clear c26b1
              try clear hcz11_0
              try clear hcz11_1
              try clear hcz13_0
              try clear hcz13_1
              try clear hcz20_0
              try clear hcz20_1
              try clear hcz27_0
              try clear hcz27_1
              try clear hfz11_0
              try clear hfz11_1
              try clear hfz13_0
              try clear hfz13_1
              try clear hfz20_0
              try clear hfz20_1
              try clear hfz27_0
              try clear hfz27_1
              try clear p2
              obtain ⟨x12_2, x13_2, rfl, rfl, HA, HK2, HO_7, BK202, HB⟩ := hrel
              cases gk with
              | zero => exact absurd HA.out (by simp [grafterlaw6_ForwardParts.l0])
              | succ k2 =>
                have H := HA.out
                clear HA
                simp only [grafterlaw6_ForwardParts.l0] at H
                by_cases c28 : x13_2 < a0_1
                · rw [if_pos c28] at H
                  have c28b0 : decide (x13_2 < a0_1) = true := decide_eq_true c28
                  clear c28
                  by_cases c29 : 0 ≤ x13_2
                  · rw [if_pos c29] at H
                    have c29b0 : decide (0 ≤ x13_2) = true := decide_eq_true c29
                    clear c29
                    by_cases c30 : x13_2 < (t204.length : Int)
                    · rw [if_pos c30] at H
                      have c30b0 : decide (x13_2 < (t204.length : Int)) = true := decide_eq_true c30
                      clear c30
                      obtain ⟨ji31, hji31⟩ : ∃ j_ : Int, (mn 65536 (rd t204 x13_2)) = j_ := ⟨_, rfl⟩
                      replace H : (if 0 ≤ (wrap64 ((wrap64 (a0_1 * (wrap64 (a0_0 + 1)))) + x13_2)) then (if (wrap64 ((wrap64 (a0_1 * (wrap64 (a0_0 + 1)))) + x13_2)) < (l1.length : Int) then (grafterlaw6_ForwardParts.l0 k2 l1 t204 t208 (wrap64 (a0_1 * (wrap64 (a0_0 + 1)))) (mx (-1073741824) (mn 1073741824 (wrap64 (x12_2 + (mx (-1073741824) (mn 1073741824 ((wrap64 ((rd l1 (wrap64 ((wrap64 (a0_1 * (wrap64 (a0_0 + 1)))) + x13_2))) * (mx (-65536) (ji31)))) / 65536))))))) (wrap64 (x13_2 + 1)) a0_0 a0_1) else (none)) else (none)) = some r := by first | (rw [hji31] at H; exact H) | (simp only [hji31] at H ⊢; exact H)
                      have hji31_ : (if (rd t204 x13_2) < 65536 then (rd t204 x13_2) else 65536) = ji31 := hji31
                      obtain ⟨ji32, hji32⟩ : ∃ j_ : Int, (mx (-65536) (ji31)) = j_ := ⟨_, rfl⟩
                      replace H : (if 0 ≤ (wrap64 ((wrap64 (a0_1 * (wrap64 (a0_0 + 1)))) + x13_2)) then (if (wrap64 ((wrap64 (a0_1 * (wrap64 (a0_0 + 1)))) + x13_2)) < (l1.length : Int) then (grafterlaw6_ForwardParts.l0 k2 l1 t204 t208 (wrap64 (a0_1 * (wrap64 (a0_0 + 1)))) (mx (-1073741824) (mn 1073741824 (wrap64 (x12_2 + (mx (-1073741824) (mn 1073741824 ((wrap64 ((rd l1 (wrap64 ((wrap64 (a0_1 * (wrap64 (a0_0 + 1)))) + x13_2))) * (ji32))) / 65536))))))) (wrap64 (x13_2 + 1)) a0_0 a0_1) else (none)) else (none)) = some r := by first | (rw [hji32] at H; exact H) | (simp only [hji32] at H ⊢; exact H)
                      have hji32_ : (if (-65536) < (ji31) then (ji31) else (-65536)) = ji32 := hji32
                      obtain ⟨ji33, hji33⟩ : ∃ j_ : Int, (wrap64 ((wrap64 (a0_1 * (wrap64 (a0_0 + 1)))) + x13_2)) = j_ := ⟨_, rfl⟩
                      replace H : (if 0 ≤ (ji33) then (if (ji33) < (l1.length : Int) then (grafterlaw6_ForwardParts.l0 k2 l1 t204 t208 (wrap64 (a0_1 * (wrap64 (a0_0 + 1)))) (mx (-1073741824) (mn 1073741824 (wrap64 (x12_2 + (mx (-1073741824) (mn 1073741824 ((wrap64 ((rd l1 (ji33)) * (ji32))) / 65536))))))) (wrap64 (x13_2 + 1)) a0_0 a0_1) else (none)) else (none)) = some r := by first | (rw [hji33] at H; exact H) | (simp only [hji33] at H ⊢; exact H)
                      have hji33w : (IntKind.i64.wrap ((wrap64 (a0_1 * (wrap64 (a0_0 + 1)))) + x13_2)) = ji33 := (i64_w _).trans hji33
                      by_cases c34 : 0 ≤ (ji33)
                      · rw [if_pos c34] at H
                        have c34b0 : decide (0 ≤ (ji33)) = true := decide_eq_true c34
                        clear c34
                        by_cases c35 : (ji33) < (l1.length : Int)
                        · rw [if_pos c35] at H
                          have c35b0 : decide ((ji33) < (l1.length : Int)) = true := decide_eq_true c35
                          clear c35
                          obtain ⟨ji36, hji36⟩ : ∃ j_ : Int, (mn 1073741824 ((wrap64 ((rd l1 (ji33)) * (ji32))) / 65536)) = j_ := ⟨_, rfl⟩
                          replace H : (grafterlaw6_ForwardParts.l0 k2 l1 t204 t208 (wrap64 (a0_1 * (wrap64 (a0_0 + 1)))) (mx (-1073741824) (mn 1073741824 (wrap64 (x12_2 + (mx (-1073741824) (ji36)))))) (wrap64 (x13_2 + 1)) a0_0 a0_1) = some r := by first | (rw [hji36] at H; exact H) | (simp only [hji36] at H ⊢; exact H)
                          have hji36_ : (if ((wrap64 ((rd l1 (ji33)) * (ji32))) / 65536) < 1073741824 then ((wrap64 ((rd l1 (ji33)) * (ji32))) / 65536) else 1073741824) = ji36 := hji36
                          obtain ⟨ji37, hji37⟩ : ∃ j_ : Int, (mx (-1073741824) (ji36)) = j_ := ⟨_, rfl⟩
                          replace H : (grafterlaw6_ForwardParts.l0 k2 l1 t204 t208 (wrap64 (a0_1 * (wrap64 (a0_0 + 1)))) (mx (-1073741824) (mn 1073741824 (wrap64 (x12_2 + (ji37))))) (wrap64 (x13_2 + 1)) a0_0 a0_1) = some r := by first | (rw [hji37] at H; exact H) | (simp only [hji37] at H ⊢; exact H)
                          have hji37_ : (if (-1073741824) < (ji36) then (ji36) else (-1073741824)) = ji37 := hji37
                          obtain ⟨ji38, hji38⟩ : ∃ j_ : Int, (mn 1073741824 (wrap64 (x12_2 + (ji37)))) = j_ := ⟨_, rfl⟩
                          replace H : (grafterlaw6_ForwardParts.l0 k2 l1 t204 t208 (wrap64 (a0_1 * (wrap64 (a0_0 + 1)))) (mx (-1073741824) (ji38)) (wrap64 (x13_2 + 1)) a0_0 a0_1) = some r := by first | (rw [hji38] at H; exact H) | (simp only [hji38] at H ⊢; exact H)
                          have hji38_ : (if (wrap64 (x12_2 + (ji37))) < 1073741824 then (wrap64 (x12_2 + (ji37))) else 1073741824) = ji38 := hji38
                          obtain ⟨ji39, hji39⟩ : ∃ j_ : Int, (mx (-1073741824) (ji38)) = j_ := ⟨_, rfl⟩
                          replace H : (grafterlaw6_ForwardParts.l0 k2 l1 t204 t208 (wrap64 (a0_1 * (wrap64 (a0_0 + 1)))) ji39 (wrap64 (x13_2 + 1)) a0_0 a0_1) = some r := by first | (rw [hji39] at H; exact H) | (simp only [hji39] at H ⊢; exact H)
                          have hji39_ : (if (-1073741824) < (ji38) then (ji38) else (-1073741824)) = ji39 := hji39
                          have H' := Aside0.mk H
                          clear H
                          have hcz40_0 : wr.cell? ⟨gb202, 0, none⟩ = some (.int .i64 a0_0) := (blk_cell BK202.out 0).trans rfl
                          have hcz40_1 : wr.cell? ⟨gb202, 1, none⟩ = some (.int .i64 a0_1) := (blk_cell BK202.out 1).trans rfl
                          have hfz40_0 := blk_frozen BK202.out 0
                          have hfz40_1 := blk_frozen BK202.out 1
                          obtain ⟨Ao41, co41, eo41⟩ := Kd.R_slice HO_7.out
                          subst eo41
                          have p215 : 0 ≤ (x13_2 : Int) := of_decide_eq_true (by first | (with_reducible assumption) | assumption)
                          have q215 : x13_2 < (t204.length : Int) := of_decide_eq_true (by first | (with_reducible assumption) | assumption)
                          obtain ⟨ad215, e215, hx215_0⟩ := Kd.at_int (Kd.R_reads' HO_7.out).2.2 x13_2 p215 q215
                          cases e215
                          replace p215 := eq_true p215
                          replace q215 := eq_true q215
                          have p216 : 0 ≤ ((ji33) : Int) := of_decide_eq_true (by first | (with_reducible assumption) | assumption)
                          have q216 : (ji33) < (l1.length : Int) := of_decide_eq_true (by first | (with_reducible assumption) | assumption)
                          obtain ⟨ad216, e216, hx216_0⟩ := Kd.at_int HR1.out (ji33) p216 q216
                          cases e216
                          replace hx216_0 := (HB.out.cell (World.block_lt_of_cell? w _ hx216_0)).trans hx216_0
                          replace p216 := eq_true p216
                          replace q216 := eq_true q216
                          go_wp2
                          go_roundg k2
                          case measure => have := HJ7.out; have := HK2.out; omega
                          case rel => exact ⟨(ji39), (wrap64 (x13_2 + 1)), (by first | rfl | (simp; done) | (simp only [← hji39] <;> (first | rfl | simp)) | (simp [*]; done)), (by first | rfl | (simp; done) | (simp [*]; done)), H', ⟨by have := HJ7.out; have := HK2.out; omega⟩, ⟨by (with_reducible repeat (first | apply Kd.R_alloc | apply Kd.R_drewN | apply Kd.R_drew)); exact HO_7.out⟩, ⟨by (with_reducible repeat (first | refine blk_drewN ?_ _ | refine blk_drew ?_ | refine blk_alloc ?_ _)); exact BK202.out⟩, ⟨by repeat (first | (with_reducible first | exact HB.out | apply below_alloc | apply pw_below_drewN | apply below_drew1 | refine below_set ?_ GE202.out) | exact HB.out)⟩⟩
                        · rw [if_neg c35] at H
                          exact absurd H (by simp)
                      · rw [if_neg c34] at H
                        exact absurd H (by simp)
                    · rw [if_neg c30] at H
                      exact absurd H (by simp)
                  · rw [if_neg c29] at H
                    exact absurd H (by simp)
                · rw [if_neg c28] at H
                  have c28b0 : decide (x13_2 < a0_1) = false := decide_eq_false c28
                  clear c28
                  obtain ⟨ji42, hji42⟩ : ∃ j_ : Int, (wrap64 ((wrap64 (a0_1 * (wrap64 (a0_0 + 1)))) + a0_1)) = j_ := ⟨_, rfl⟩
                  replace H : (if 0 ≤ (ji42) then (if (ji42) < (l1.length : Int) then (some (t208 == (mx (-1073741824) (mn 1073741824 (wrap64 ((rd l1 (ji42)) + x12_2)))))) else (none)) else (none)) = some r := by first | (rw [hji42] at H; exact H) | (simp only [hji42] at H ⊢; exact H)
                  (try rw [hji42] at c26b0)
                  (try rw [hji42] at c26b1)
                  have hji42w : (IntKind.i64.wrap ((wrap64 (a0_1 * (wrap64 (a0_0 + 1)))) + a0_1)) = ji42 := (i64_w _).trans hji42
                  by_cases c43 : 0 ≤ (ji42)
                  · rw [if_pos c43] at H
                    have c43b0 : decide (0 ≤ (ji42)) = true := decide_eq_true c43
                    clear c43
                    by_cases c44 : (ji42) < (l1.length : Int)
                    · rw [if_pos c44] at H
                      have c44b0 : decide ((ji42) < (l1.length : Int)) = true := decide_eq_true c44
                      clear c44
                      obtain ⟨ji45, hji45⟩ : ∃ j_ : Int, (mn 1073741824 (wrap64 ((rd l1 (ji42)) + x12_2))) = j_ := ⟨_, rfl⟩
                      replace H : (some (t208 == (mx (-1073741824) (ji45)))) = some r := by first | (rw [hji45] at H; exact H) | (simp only [hji45] at H ⊢; exact H)
                      have hji45_ : (if (wrap64 ((rd l1 (ji42)) + x12_2)) < 1073741824 then (wrap64 ((rd l1 (ji42)) + x12_2)) else 1073741824) = ji45 := hji45
                      obtain ⟨ji46, hji46⟩ : ∃ j_ : Int, (mx (-1073741824) (ji45)) = j_ := ⟨_, rfl⟩
                      replace H : (some (t208 == (ji46))) = some r := by first | (rw [hji46] at H; exact H) | (simp only [hji46] at H ⊢; exact H)
                      have hji46_ : (if (-1073741824) < (ji45) then (ji45) else (-1073741824)) = ji46 := hji46
                      obtain rfl := Option.some.inj H
                      have hcz47_0 : wr.cell? ⟨gb202, 0, none⟩ = some (.int .i64 a0_0) := (blk_cell BK202.out 0).trans rfl
                      have hcz47_1 : wr.cell? ⟨gb202, 1, none⟩ = some (.int .i64 a0_1) := (blk_cell BK202.out 1).trans rfl
                      have hfz47_0 := blk_frozen BK202.out 0
                      have hfz47_1 := blk_frozen BK202.out 1
                      have p217 : 0 ≤ ((ji42) : Int) := of_decide_eq_true (by first | (with_reducible assumption) | assumption)
                      have q217 : (ji42) < (l1.length : Int) := of_decide_eq_true (by first | (with_reducible assumption) | assumption)
                      obtain ⟨ad217, e217, hx217_0⟩ := Kd.at_int HR1.out (ji42) p217 q217
                      cases e217
                      replace hx217_0 := (HB.out.cell (World.block_lt_of_cell? w _ hx217_0)).trans hx217_0
                      replace p217 := eq_true p217
                      replace q217 := eq_true q217
                      go_wp2
                      go_ret
                      exact ⟨by first | rfl | (simp [errW_none, errW_some] <;> rfl) | (simp only [← hji42, ← hji45, ← hji46]; first | rfl | (simp [errW_none, errW_some] <;> rfl)) | (simp [*, errW_none, errW_some] <;> rfl), by repeat (first | (with_reducible first | exact HB.out | apply below_alloc | apply pw_below_drewN | apply below_drew1 | refine below_set ?_ GE202.out) | exact HB.out)⟩
                    · rw [if_neg c44] at H
                      exact absurd H (by simp)
                  · rw [if_neg c43] at H
                    exact absurd H (by simp)
          · rw [if_neg c26] at H
            have c26b0 : ((l1.length : Int) == (wrap64 ((wrap64 ((wrap64 (a0_1 * (wrap64 (a0_0 + 1)))) + a0_1)) + 1))) = false := beq_eq_false_iff_ne.mpr c26
            (try have c26b4 : ((l1.length : Int) == ((wrap64 ((wrap64 (a0_1 * (wrap64 (a0_0 + 1)))) + a0_1)) + 1)) = false := by (have h_ := beq_eq_false_iff_ne.mp c26b0; unfold wrap64 at h_; exact beq_eq_false_iff_ne.mpr (by omega)))
            have c26b1 : ((l1.length : Int) != (wrap64 ((wrap64 ((wrap64 (a0_1 * (wrap64 (a0_0 + 1)))) + a0_1)) + 1))) = true := bne_iff_ne.mpr c26
            exact absurd ((Option.some.inj H).trans HRT.out) Bool.false_ne_true
  · replace c5 := Bool.eq_false_iff.mpr c5
    subst c5
    have H1 : (some false) = some r := by rw [if_neg (show ¬ (false = true) by decide)] at H; exact H
    clear H
    have H := H1
    clear H1
    exact absurd ((Option.some.inj H).trans HRT.out) Bool.false_ne_true

def grafterlaw6_ForwardParts.Pure : Prop := ∀ (a0_0 : Int) (a0_1 : Int) (l1 : List Int) (l2 : List Int), (Lit.int .i64 a0_0).wf = true → (Lit.int .i64 a0_1).wf = true → l1.length ≤ maxLen → l1.length * 8 ≤ 140737488351232 → (∀ x ∈ l1, (Lit.int .i64 x).wf = true) → l2.length ≤ maxLen → l2.length * 8 ≤ 140737488351232 → (∀ x ∈ l2, (Lit.int .i64 x).wf = true) → ∃ k, grafterlaw6_ForwardParts.f k a0_0 a0_1 l1 l2 = some true
theorem grafterlaw6_ForwardParts.walk (P : grafterlaw6_ForwardParts.Pure) (a0_0 : Int) (a0_1 : Int) (a1 : Option Addr) (len1 cap1 : Nat) (z1 : List Int) (a2 : Option Addr) (len2 cap2 : Nat) (z2 : List Int) (w : World) (w0_0 : (Lit.int .i64 a0_0).wf = true) (w0_1 : (Lit.int .i64 a0_1).wf = true) (w1 : (a1 = none ∧ len1 = 0 ∧ cap1 = 0 ∧ z1 = []) ∨ ∃ x, a1 = some x ∧ len1 ≤ cap1 ∧ cap1 ≤ maxLen ∧ z1.length = cap1 ∧ (∀ i, i < z1.length → w.cell? (x.add i) = some (.int .i64 (z1.getD i 0))) ∧ ∀ n ∈ z1, (Lit.int .i64 n).wf = true) (y1 : len1 * 8 ≤ 140737488351232) (w2 : (a2 = none ∧ len2 = 0 ∧ cap2 = 0 ∧ z2 = []) ∨ ∃ x, a2 = some x ∧ len2 ≤ cap2 ∧ cap2 ≤ maxLen ∧ z2.length = cap2 ∧ (∀ i, i < z2.length → w.cell? (x.add i) = some (.int .i64 (z2.getD i 0))) ∧ ∀ n ∈ z2, (Lit.int .i64 n).wf = true) (y2 : len2 * 8 ≤ 140737488351232) :
    Calls Try.prog 14 #[.agg #[.int .i64 a0_0, .int .i64 a0_1], .slice a1 len1 cap1, .slice a2 len2 cap2] w fun e w' => e = .returned (.bool true) ∧ Below w.heap.size w w' := by
  obtain ⟨l1, rfl, hr1, hm1, hw1, hc1⟩ := ReadsInt.ofRowC w1
  obtain ⟨l2, rfl, hr2, hm2, hw2, hc2⟩ := ReadsInt.ofRowC w2
  obtain ⟨k, h⟩ := P a0_0 a0_1 l1 l2 w0_0 w0_1 hm1 y1 hw1 hm2 y2 hw2
  refine (grafterlaw6_ForwardParts.calls k a0_0 a0_1 _ _ l1 _ _ l2 true w rfl (Kd.C_of_reads (d := (0 : Int)) (h1 := fun _ => rfl) hr1) hc1 (Kd.C_of_reads (d := (0 : Int)) (h1 := fun _ => rfl) hr2) hc2 h).mono ?_
  rintro e w' ⟨rfl, hd⟩
  exact ⟨rfl, hd⟩

end Go.Proofs.Ytdgbfgnmeoihiaa.PForwardParts
