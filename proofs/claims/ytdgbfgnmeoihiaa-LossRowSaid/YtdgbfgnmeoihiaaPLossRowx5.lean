-- Written by a program of this session (pprint.py) out of the translation, with hand-proved walks pasted in.
import Derived.Test.YtdgbfgnmeoihiaaPLossRowx0
import Derived.Test.YtdgbfgnmeoihiaaPLossRowx1
import Derived.Test.YtdgbfgnmeoihiaaPLossRowx3
import Derived.Test.YtdgbfgnmeoihiaaPLossRowx4
namespace Go.Proofs.Ytdgbfgnmeoihiaa.PLossRow
open Go.RowKit Go.Proofs.YtdgbfgnmeoihiaaW.PrintWords Go.Proofs.YtdgbfgnmeoihiaaW.PrintLast Go.Proofs.YtdgbfgnmeoihiaaW.PrintMore
attribute [local go_sem] max2_int min2_int max_two min_two max_three min_three max_four min_four   -- for this text's walks alone
set_option linter.unusedVariables false
set_option linter.unusedSimpArgs false

/-! ### grafterref1_upTo: function 61 -/
def grafterref1_upTo.f (a0 : Int) (a1 : Int) (a2 : Int) : Option (Bool) := if a0 ≥ a1 then (some (decide (a0 ≤ a2))) else (some false)
set_option maxHeartbeats 8000000 in
set_option maxRecDepth 100000 in
theorem grafterref1_upTo.calls (a0 : Int) (a1 : Int) (a2 : Int) (r : Bool) (w : World) (h : grafterref1_upTo.f a0 a1 a2 = some r) :
    Calls Try.prog 61 #[.int .i64 a0, .int .i64 a1, .int .i64 a2] w fun e w' => e = .returned (.bool r) ∧ Drawn0 w w' := by
  have H : (if a0 ≥ a1 then (some (decide (a0 ≤ a2))) else (some false)) = some r := h
  clear h
  by_cases c4 : a0 ≥ a1
  · rw [if_pos c4] at H
    have c4b0 : decide (a1 ≤ a0) = true := decide_eq_true c4
    clear c4
    obtain rfl := Option.some.inj H
    go_enter Try.func61, Try.ntmps61
    go_wp2
    go_ret
    exact ⟨by first | rfl | (simp; done) | (simp [*]; done), by repeat (first | exact Drawn0.refl _ | apply Drawn0.step)⟩
  · rw [if_neg c4] at H
    have c4b0 : decide (a1 ≤ a0) = false := decide_eq_false c4
    clear c4
    obtain rfl := Option.some.inj H
    go_enter Try.func61, Try.ntmps61
    go_wp2
    go_ret
    exact ⟨by first | rfl | (simp; done) | (simp [*]; done), by repeat (first | exact Drawn0.refl _ | apply Drawn0.step)⟩

/-! ### grafterref1_FixMay: function 34 -/
def grafterref1_FixMay.f (a0 : Int) : Option (Bool) := (grafterref1_upTo.f a0 (-1073741824) 1073741824).bind fun t197 => (some t197)
set_option maxHeartbeats 8000000 in
set_option maxRecDepth 100000 in
theorem grafterref1_FixMay.calls (a0 : Int) (r : Bool) (w : World) (h : grafterref1_FixMay.f a0 = some r) :
    Calls Try.prog 34 #[.int .i64 a0] w fun e w' => e = .returned (.bool r) ∧ Drawn0 w w' := by
  have H : ((grafterref1_upTo.f a0 (-1073741824) 1073741824).bind fun t197 => (some t197)) = some r := h
  clear h
  replace H := Option.bind_eq_some_iff.mp H
  obtain ⟨t197, A20, H⟩ := H
  replace H : (some t197) = some r := H
  have A2 := Aside0.mk A20
  clear A20
  obtain rfl := Option.some.inj H
  go_enter Try.func34, Try.ntmps34
  go_wp2_with (first | ((with_reducible refine gate_callee (f := 61) rfl ?_); refine goesL_ (some 4) rfl rfl Try.func61 (by kernel_rfl) rfl #[.int .i64 a0, .int .i64 (-1073741824), .int .i64 1073741824] rfl (by (try simp only [List.map_toArray, List.map_cons, List.map_nil]); first | done | rfl | (simp only [List.length_drop, List.length_take]; rfl)) ?_; (with_reducible refine (grafterref1_upTo.calls a0 (-1073741824) 1073741824 t197 _ A2.out).mono ?_); rintro e w' ⟨rfl, ⟨nd, rfl⟩⟩; refine ⟨_, rfl, ?_⟩))
  go_ret
  exact ⟨by first | rfl | (simp; done) | (simp [*]; done), by repeat (first | exact Drawn0.refl _ | apply Drawn0.step)⟩

/-! ### grafterlaw10_LossRow: function 10 -/
mutual
def grafterlaw10_LossRow.j0 : Nat → List Int → List (S35) → Int → Int → Int → Bool → Int → Int → Option (Bool)
  | 0, _, _, _, _, _, _, _, _ => none
  | k + 1, x1, x2, x3, x9, x10, x38, x199000, x199001 => if x38 = true then ((grafterlaw0_Num.f x10).bind fun t203 => (if t203 = 0 then (some true) else (some (x9 == 0)))) else (if (IntKind.u64.wrap ((x2.length : Int))) = 0 then (none) else ((some (([] : List (S35)) : List (S35))).bind fun y204 => (if 0 ≤ (wrap64 (Int.tmod (IntKind.u64.wrap (x3)) (IntKind.u64.wrap ((x2.length : Int))))) then (if (wrap64 (Int.tmod (IntKind.u64.wrap (x3)) (IntKind.u64.wrap ((x2.length : Int))))) ≤ (x2.length : Int) then ((some (x2.drop ((wrap64 (Int.tmod (IntKind.u64.wrap (x3)) (IntKind.u64.wrap ((x2.length : Int))))) : Int).toNat : List (S35))).bind fun y207 => (if y204.length + y207.length < 4398046511104 then ((some (y204 ++ y207 : List (S35))).bind fun y212 => ((some (x2.take ((wrap64 (Int.tmod (IntKind.u64.wrap (x3)) (IntKind.u64.wrap ((x2.length : Int))))) : Int).toNat : List (S35))).bind fun y215 => (if y212.length + y215.length < 4398046511104 then ((loss_Of.f k x199000 x199001 x1 (y212 ++ y215)).bind fun bt223 => ((grafterlaw0_Num.f bt223.2).bind fun t225 => (if t225 = 0 then (grafterlaw10_LossRow.j1 k x1 x2 x9 (x9 != bt223.1) x199000 x199001) else (grafterlaw10_LossRow.j1 k x1 x2 x9 true x199000 x199001)))) else (none)))) else (none))) else (none)) else (none))))
def grafterlaw10_LossRow.j1 : Nat → List Int → List (S35) → Int → Bool → Int → Int → Option (Bool)
  | 0, _, _, _, _, _, _ => none
  | k + 1, x1, x2, x9, x77, x199000, x199001 => if x77 = true then (some false) else (if (wrap64 (2 * (x2.length : Int))) > 8 then (some true) else ((some (([] : List (S35)) : List (S35))).bind fun y226 => (if y226.length + x2.length < 4398046511104 then ((some (y226 ++ x2 : List (S35))).bind fun y229 => (if y229.length + x2.length < 4398046511104 then ((loss_Of.f k x199000 x199001 x1 (y229 ++ x2)).bind fun bt235 => ((grafterlaw0_Num.f bt235.2).bind fun t237 => (if t237 = 0 then (if bt235.1 = (wrap64 (2 * x9)) then ((grafterref1_FixMay.f bt235.1).bind fun t238 => (some t238)) else (some false)) else (some false)))) else (none))) else (none))))
end
def grafterlaw10_LossRow.f (k : Nat) (a0_0 : Int) (a0_1 : Int) (l1 : List Int) (l2 : List (S35)) (a3 : Int) : Option (Bool) := (grafterlaw10_awake.f k).bind fun t199 => (if t199 = true then ((loss_Of.f k a0_0 a0_1 l1 l2).bind fun bt200 => ((grafterlaw0_Num.f bt200.2).bind fun t202 => (if t202 = 0 then (if bt200.1 ≥ 536870912 then (grafterlaw10_LossRow.j0 k l1 l2 a3 bt200.1 bt200.2 true a0_0 a0_1) else (grafterlaw10_LossRow.j0 k l1 l2 a3 bt200.1 bt200.2 ((l2.length : Int) == 0) a0_0 a0_1)) else (grafterlaw10_LossRow.j0 k l1 l2 a3 bt200.1 bt200.2 true a0_0 a0_1)))) else (some false))
theorem grafterlaw10_LossRow.mono_l : ∀ k, (∀ y0 y1 y2 y3 y4 y5 y6 y7, LeO (grafterlaw10_LossRow.j0 k y0 y1 y2 y3 y4 y5 y6 y7) (grafterlaw10_LossRow.j0 (k + 1) y0 y1 y2 y3 y4 y5 y6 y7)) ∧ (∀ y0 y1 y2 y3 y4 y5, LeO (grafterlaw10_LossRow.j1 k y0 y1 y2 y3 y4 y5) (grafterlaw10_LossRow.j1 (k + 1) y0 y1 y2 y3 y4 y5))
  | 0 => ⟨fun _ _ _ _ _ _ _ _ r h => by simp [grafterlaw10_LossRow.j0] at h, fun _ _ _ _ _ _ r h => by simp [grafterlaw10_LossRow.j1] at h⟩
  | k + 1 => by
    obtain ⟨ih0, ih1⟩ := grafterlaw10_LossRow.mono_l k
    refine ⟨?_, ?_⟩
    · intro y0 y1 y2 y3 y4 y5 y6 y7
      unfold grafterlaw10_LossRow.j0
      repeat' first
      | (with_reducible exact ih0 _ _ _ _ _ _ _ _)
      | (with_reducible exact ih1 _ _ _ _ _ _)
      | (with_reducible exact grafterlaw10_awake.mono _)
      | (with_reducible exact loss_Of.mono _ _ _ _ _)
      | (with_reducible exact LeO.refl _)
      | (with_reducible exact LeO.none _)
      | (with_reducible refine LeO.ite ?_ ?_)
      | (with_reducible refine LeO.bind ?_ (fun _ => ?_))
      | exact ih0 _ _ _ _ _ _ _ _
      | exact ih1 _ _ _ _ _ _
      | exact grafterlaw10_awake.mono _
      | exact loss_Of.mono _ _ _ _ _
      | exact LeO.none _
      | refine LeO.ite ?_ ?_
      | refine LeO.bind ?_ (fun _ => ?_)
    · intro y0 y1 y2 y3 y4 y5
      unfold grafterlaw10_LossRow.j1
      repeat' first
      | (with_reducible exact ih0 _ _ _ _ _ _ _ _)
      | (with_reducible exact ih1 _ _ _ _ _ _)
      | (with_reducible exact grafterlaw10_awake.mono _)
      | (with_reducible exact loss_Of.mono _ _ _ _ _)
      | (with_reducible exact LeO.refl _)
      | (with_reducible exact LeO.none _)
      | (with_reducible refine LeO.ite ?_ ?_)
      | (with_reducible refine LeO.bind ?_ (fun _ => ?_))
      | exact ih0 _ _ _ _ _ _ _ _
      | exact ih1 _ _ _ _ _ _
      | exact grafterlaw10_awake.mono _
      | exact loss_Of.mono _ _ _ _ _
      | exact LeO.none _
      | refine LeO.ite ?_ ?_
      | refine LeO.bind ?_ (fun _ => ?_)
theorem grafterlaw10_LossRow.mono : ∀ a0 a1 a2 a3 a4 k, LeO (grafterlaw10_LossRow.f k a0 a1 a2 a3 a4) (grafterlaw10_LossRow.f (k + 1) a0 a1 a2 a3 a4) := by
  intro a0 a1 a2 a3 a4 k
  obtain ⟨ih0, ih1⟩ := grafterlaw10_LossRow.mono_l k
  unfold grafterlaw10_LossRow.f
  repeat' first
      | (with_reducible exact ih0 _ _ _ _ _ _ _ _)
      | (with_reducible exact ih1 _ _ _ _ _ _)
      | (with_reducible exact grafterlaw10_awake.mono _)
      | (with_reducible exact loss_Of.mono _ _ _ _ _)
      | (with_reducible exact LeO.refl _)
      | (with_reducible exact LeO.none _)
      | (with_reducible refine LeO.ite ?_ ?_)
      | (with_reducible refine LeO.bind ?_ (fun _ => ?_))
      | exact ih0 _ _ _ _ _ _ _ _
      | exact ih1 _ _ _ _ _ _
      | exact grafterlaw10_awake.mono _
      | exact loss_Of.mono _ _ _ _ _
      | exact LeO.none _
      | refine LeO.ite ?_ ?_
      | refine LeO.bind ?_ (fun _ => ?_)
set_option maxHeartbeats 8000000 in
set_option maxRecDepth 100000 in
theorem grafterlaw10_LossRow.calls (k : Nat) (a0_0 : Int) (a0_1 : Int) (A1 : Option Addr) (c1 : Nat) (l1 : List Int) (P2_ : Nat → Prop) (A2 : Option Addr) (c2 : Nat) (l2 : List (S35)) (a3 : Int) (r : Bool) (w : World) (hrt : r = true) (hr1 : Kd.C (Kd.int .i64) w A1 l1.length l1) (hc1 : l1.length ≤ c1) (hs2 : Kd.V k35 35 w w.heap.size (fun k_ => P2_ k_) (.slice A2 l2.length c2) l2) (h : grafterlaw10_LossRow.f k a0_0 a0_1 l1 l2 a3 = some r) :
    Calls Try.prog 10 #[.agg #[.int .i64 a0_0, .int .i64 a0_1], .slice A1 l1.length c1, .slice A2 l2.length c2, .int .i64 a3] w fun e w' => e = .returned (.bool r) ∧ Below w.heap.size w w' := by
  have HRT := Aside0.mk hrt
  clear hrt
  have hu23 := Try.underlying23
  have HR1 := Aside0.mk hr1
  have HC1 := Aside0.mk hc1
  clear hr1 hc1
  have HO2 := Aside0.mk (show Kd.V k35 35 w w.heap.size (fun k_ => (P2_ k_ ∨ w.heap.size ≤ k_)) (.slice A2 l2.length c2) l2 from Kd.V_mono hs2 (fun k_ hk => .inl hk))
  have HB := Aside0.mk (Below.refl w.heap.size w)
  have H : ((grafterlaw10_awake.f k).bind fun t199 => (if t199 = true then ((loss_Of.f k a0_0 a0_1 l1 l2).bind fun bt200 => ((grafterlaw0_Num.f bt200.2).bind fun t202 => (if t202 = 0 then (if bt200.1 ≥ 536870912 then (grafterlaw10_LossRow.j0 k l1 l2 a3 bt200.1 bt200.2 true a0_0 a0_1) else (grafterlaw10_LossRow.j0 k l1 l2 a3 bt200.1 bt200.2 ((l2.length : Int) == 0) a0_0 a0_1)) else (grafterlaw10_LossRow.j0 k l1 l2 a3 bt200.1 bt200.2 true a0_0 a0_1)))) else (some false))) = some r := h
  clear h
  replace H := Option.bind_eq_some_iff.mp H
  obtain ⟨t199, A50, H⟩ := H
  replace H : (if t199 = true then ((loss_Of.f k a0_0 a0_1 l1 l2).bind fun bt200 => ((grafterlaw0_Num.f bt200.2).bind fun t202 => (if t202 = 0 then (if bt200.1 ≥ 536870912 then (grafterlaw10_LossRow.j0 k l1 l2 a3 bt200.1 bt200.2 true a0_0 a0_1) else (grafterlaw10_LossRow.j0 k l1 l2 a3 bt200.1 bt200.2 ((l2.length : Int) == 0) a0_0 a0_1)) else (grafterlaw10_LossRow.j0 k l1 l2 a3 bt200.1 bt200.2 true a0_0 a0_1)))) else (some false)) = some r := H
  have A5 := Aside0.mk A50
  clear A50
  by_cases c6 : t199 = true
  · subst c6
    have H1 : ((loss_Of.f k a0_0 a0_1 l1 l2).bind fun bt200 => ((grafterlaw0_Num.f bt200.2).bind fun t202 => (if t202 = 0 then (if bt200.1 ≥ 536870912 then (grafterlaw10_LossRow.j0 k l1 l2 a3 bt200.1 bt200.2 true a0_0 a0_1) else (grafterlaw10_LossRow.j0 k l1 l2 a3 bt200.1 bt200.2 ((l2.length : Int) == 0) a0_0 a0_1)) else (grafterlaw10_LossRow.j0 k l1 l2 a3 bt200.1 bt200.2 true a0_0 a0_1)))) = some r := by rw [if_pos rfl] at H; exact H
    clear H
    have H := H1
    clear H1
    replace H := Option.bind_eq_some_iff.mp H
    obtain ⟨⟨t200, t201⟩, A70, H⟩ := H
    replace H : ((grafterlaw0_Num.f t201).bind fun t202 => (if t202 = 0 then (if t200 ≥ 536870912 then (grafterlaw10_LossRow.j0 k l1 l2 a3 t200 t201 true a0_0 a0_1) else (grafterlaw10_LossRow.j0 k l1 l2 a3 t200 t201 ((l2.length : Int) == 0) a0_0 a0_1)) else (grafterlaw10_LossRow.j0 k l1 l2 a3 t200 t201 true a0_0 a0_1))) = some r := H
    have A7 := Aside0.mk A70
    clear A70
    have HC8 := Aside0.mk H
    clear H
    go_enter Try.func10, Try.ntmps10
    go_upto_region 4 with (first | ((with_reducible refine gate_dst (N := 4) rfl ?_); (try (refine gate_guard (by rfl) ?_; dsimp only)); refine box_event ?hg (N := 4) ?hd (cs := #[.int .i64 a0_0, .int .i64 a0_1]) (t := 23) ?hr ?_; (case hd => rfl); (case hg => rfl); (case hr => first | (go_simp; done) | (go_simp; rfl)); intro gb198 hg w9 hbox hb; have n0_ := Aside0.mk (Kd.V_below (Kd.V_elderB (by (with_reducible repeat (first | apply Kd.V_alloc | apply Kd.V_drewN | apply Kd.V_drew)); exact HO2.out) gb198 (Nat.le_of_eq hg.symm)) hb); have n1_ := Aside0.mk (below_step (by repeat (first | (with_reducible first | exact HB.out | apply below_alloc | apply pw_below_drewN | apply below_drew1) | exact HB.out)) hb); have n2_ := Aside0.mk (hbox); have n3_ := Aside0.mk ((by rw [hg]; exact (below_size (by repeat (first | (with_reducible first | exact HB.out | apply below_alloc | apply pw_below_drewN | apply below_drew1) | exact HB.out))) : w.heap.size ≤ gb198)); have n4_ := Aside0.mk ((by rw [hg]; exact (below_size (by repeat (first | (with_reducible first | exact HB.out | apply below_alloc | apply pw_below_drewN | apply below_drew1) | exact HB.out))) : w.heap.size ≤ gb198)); clear HO2; clear HB; have HO2 := n0_; have HB := n1_; have BK198 := n2_; have GW198 := n3_; have GE198 := n4_; clear n0_ n1_ n2_ n3_ n4_; clear hb hbox hg) | ((with_reducible refine gate_callee (f := 31) rfl ?_); refine goesL_ (some 18) rfl rfl Try.func31 (by kernel_rfl) rfl #[] rfl (by (try simp only [List.map_toArray, List.map_cons, List.map_nil]); first | done | rfl | (simp only [List.length_drop, List.length_take]; rfl)) ?_; (with_reducible refine (grafterlaw10_awake.calls k  true _ rfl A5.out).mono ?_); rintro e w10 ⟨rfl, hb⟩; refine ⟨_, rfl, ?_⟩; have n0_ := Aside0.mk (Kd.V_below (by (with_reducible repeat (first | apply Kd.V_alloc | apply Kd.V_drewN | apply Kd.V_drew)); exact HO2.out) hb); have n1_ := Aside0.mk (blk_below (g := gb198) (o := .cells #[.int .i64 a0_0, .int .i64 a0_1] 23 (0, 0)) (by (with_reducible repeat (first | refine blk_drewN ?_ _ | refine blk_drew ?_ | refine blk_alloc ?_ _)); exact BK198.out) hb); have n2_ := Aside0.mk (below_step (by repeat (first | (with_reducible first | exact HB.out | apply below_alloc | apply pw_below_drewN | apply below_drew1 | refine below_set ?_ GE198.out) | exact HB.out)) hb); clear HO2; clear BK198; clear HB; have HO2 := n0_; have BK198 := n1_; have HB := n2_; clear n0_ n1_ n2_; (try clear hb); (try clear hb2); (try clear hk); (try clear hi); have hcz11_0 : w10.cell? ⟨gb198, 0, none⟩ = some (.int .i64 a0_0) := (blk_cell BK198.out 0).trans rfl; have hcz11_1 : w10.cell? ⟨gb198, 1, none⟩ = some (.int .i64 a0_1) := (blk_cell BK198.out 1).trans rfl; have hfz11_0 := blk_frozen BK198.out 0; have hfz11_1 := blk_frozen BK198.out 1) | ((with_reducible refine gate_callee (f := 25) rfl ?_); refine goesL_ (some 24) rfl rfl Try.func25 (by kernel_rfl) rfl #[.agg #[.int .i64 a0_0, .int .i64 a0_1], .slice A1 l1.length c1, .slice A2 l2.length c2] rfl (by (try simp only [List.map_toArray, List.map_cons, List.map_nil]); first | done | rfl | (simp only [List.length_drop, List.length_take]; rfl)) ?_; (with_reducible refine (loss_Of.calls k a0_0 a0_1 _ _ l1 _ _ l2 t200 t201 _ ?side1 ?side2 ?side3 ?side4 A7.out).mono ?_); (case side1 => repeat (first | (with_reducible refine Kd.C_alloc ?_ _) | (with_reducible refine Kd.C_drewN ?_ _) | (with_reducible refine Kd.C_drew ?_) | exact (Kd.C_below HR1.out HB.out))); (case side2 => exact HC1.out); (case side3 => repeat (first | (with_reducible refine Kd.C_alloc ?_ _) | (with_reducible refine Kd.C_drewN ?_ _) | (with_reducible refine Kd.C_drew ?_) | exact (Kd.V_reads' HO2.out).2.2)); (case side4 => exact (Kd.V_reads' HO2.out).2.1); rintro e w12 ⟨rfl, hb⟩; refine ⟨_, rfl, ?_⟩; have n0_ := Aside0.mk (Kd.V_below (by (with_reducible repeat (first | apply Kd.V_alloc | apply Kd.V_drewN | apply Kd.V_drew)); exact HO2.out) hb); have n1_ := Aside0.mk (blk_below (g := gb198) (o := .cells #[.int .i64 a0_0, .int .i64 a0_1] 23 (0, 0)) (by (with_reducible repeat (first | refine blk_drewN ?_ _ | refine blk_drew ?_ | refine blk_alloc ?_ _)); exact BK198.out) hb); have n2_ := Aside0.mk (below_step (by repeat (first | (with_reducible first | exact HB.out | apply below_alloc | apply pw_below_drewN | apply below_drew1 | refine below_set ?_ GE198.out) | exact HB.out)) hb); clear HO2; clear BK198; clear HB; have HO2 := n0_; have BK198 := n1_; have HB := n2_; clear n0_ n1_ n2_; (try clear hb); (try clear hb2); (try clear hk); (try clear hi)))
    (try simp only [Act.put, List.setIfInBounds_toArray, List.set_cons_zero, List.set_cons_succ])
    go_cut [38] (fun v38 wc => ∃ (kq : Nat) (x38_7 : Bool), v38 = .bool x38_7 ∧ Aside0 (grafterlaw10_LossRow.j0 kq l1 l2 a3 t200 t201 x38_7 a0_0 a0_1 = some r) ∧ Aside0 (kq ≤ k) ∧ Aside0 (Kd.V k35 35 wc w.heap.size (fun k_ => (P2_ k_ ∨ w.heap.size ≤ k_) ∧ k_ ≠ gb198) (.slice A2 l2.length c2) l2) ∧ Aside0 (wc.heap[gb198]? = some (.cells #[.int .i64 a0_0, .int .i64 a0_1] 23 (0, 0))) ∧ Aside0 (Below w.heap.size w wc))
    case first =>
      have H := HC8.out
      clear HC8
      replace H := Option.bind_eq_some_iff.mp H
      obtain ⟨t202, A130, H⟩ := H
      replace H : (if t202 = 0 then (if t200 ≥ 536870912 then (grafterlaw10_LossRow.j0 k l1 l2 a3 t200 t201 true a0_0 a0_1) else (grafterlaw10_LossRow.j0 k l1 l2 a3 t200 t201 ((l2.length : Int) == 0) a0_0 a0_1)) else (grafterlaw10_LossRow.j0 k l1 l2 a3 t200 t201 true a0_0 a0_1)) = some r := H
      have A13 := Aside0.mk A130
      clear A130
      by_cases c14 : t202 = 0
      · rw [if_pos c14] at H
        have c14b0 : (t202 == 0) = true := beq_iff_eq.mpr c14
        have c14b1 : (t202 != 0) = false := bne_eq_false_iff_eq.mpr c14
        clear c14
        (first | rw [c14b0] | (simp only [i64_w, i32_w]; rw [c14b0]) | skip)
        by_cases c15 : t200 ≥ 536870912
        · rw [if_pos c15] at H
          have c15b0 : decide (536870912 ≤ t200) = true := decide_eq_true c15
          clear c15
          have H' := Aside0.mk H
          clear H
          go_wp2_with (first | ((with_reducible refine gate_callee (f := 22) rfl ?_); refine goesL_ (some 28) rfl rfl Try.func22 (by kernel_rfl) rfl #[.int .i64 t201] rfl (by (try simp only [List.map_toArray, List.map_cons, List.map_nil]); first | done | rfl | (simp only [List.length_drop, List.length_take]; rfl)) ?_; (with_reducible refine (grafterlaw0_Num.calls t201 t202 _ A13.out).mono ?_); rintro e w' ⟨rfl, ⟨nd, rfl⟩⟩; refine ⟨_, rfl, ?_⟩))
          go_meet
          case rel => exact ⟨_, (true), (by first | rfl | (simp; done) | (simp [*]; done)), H', ⟨by first | omega | exact Nat.le_refl _⟩, ⟨by (with_reducible repeat (first | apply Kd.V_alloc | apply Kd.V_drewN | apply Kd.V_drew)); exact HO2.out⟩, ⟨by (with_reducible repeat (first | refine blk_drewN ?_ _ | refine blk_drew ?_ | refine blk_alloc ?_ _)); exact BK198.out⟩, ⟨by repeat (first | (with_reducible first | exact HB.out | apply below_alloc | apply pw_below_drewN | apply below_drew1 | refine below_set ?_ GE198.out) | exact HB.out)⟩⟩
        · rw [if_neg c15] at H
          have c15b0 : decide (536870912 ≤ t200) = false := decide_eq_false c15
          clear c15
          have H' := Aside0.mk H
          clear H
          go_wp2_with (first | ((with_reducible refine gate_callee (f := 22) rfl ?_); refine goesL_ (some 28) rfl rfl Try.func22 (by kernel_rfl) rfl #[.int .i64 t201] rfl (by (try simp only [List.map_toArray, List.map_cons, List.map_nil]); first | done | rfl | (simp only [List.length_drop, List.length_take]; rfl)) ?_; (with_reducible refine (grafterlaw0_Num.calls t201 t202 _ A13.out).mono ?_); rintro e w' ⟨rfl, ⟨nd, rfl⟩⟩; refine ⟨_, rfl, ?_⟩))
          go_meet
          case rel => exact ⟨_, (((l2.length : Int) == 0)), (by first | rfl | (simp; done) | (simp [*]; done)), H', ⟨by first | omega | exact Nat.le_refl _⟩, ⟨by (with_reducible repeat (first | apply Kd.V_alloc | apply Kd.V_drewN | apply Kd.V_drew)); exact HO2.out⟩, ⟨by (with_reducible repeat (first | refine blk_drewN ?_ _ | refine blk_drew ?_ | refine blk_alloc ?_ _)); exact BK198.out⟩, ⟨by repeat (first | (with_reducible first | exact HB.out | apply below_alloc | apply pw_below_drewN | apply below_drew1 | refine below_set ?_ GE198.out) | exact HB.out)⟩⟩
      · rw [if_neg c14] at H
        have c14b0 : (t202 == 0) = false := beq_eq_false_iff_ne.mpr c14
        have c14b1 : (t202 != 0) = true := bne_iff_ne.mpr c14
        (first | rw [c14b0] | (simp only [i64_w, i32_w]; rw [c14b0]) | skip)
        have H' := Aside0.mk H
        clear H
        go_wp2_with (first | ((with_reducible refine gate_callee (f := 22) rfl ?_); refine goesL_ (some 28) rfl rfl Try.func22 (by kernel_rfl) rfl #[.int .i64 t201] rfl (by (try simp only [List.map_toArray, List.map_cons, List.map_nil]); first | done | rfl | (simp only [List.length_drop, List.length_take]; rfl)) ?_; (with_reducible refine (grafterlaw0_Num.calls t201 t202 _ A13.out).mono ?_); rintro e w' ⟨rfl, ⟨nd, rfl⟩⟩; refine ⟨_, rfl, ?_⟩))
        go_meet
        case rel => exact ⟨_, (true), (by first | rfl | (simp; done) | (simp [*]; done)), H', ⟨by first | omega | exact Nat.le_refl _⟩, ⟨by (with_reducible repeat (first | apply Kd.V_alloc | apply Kd.V_drewN | apply Kd.V_drew)); exact HO2.out⟩, ⟨by (with_reducible repeat (first | refine blk_drewN ?_ _ | refine blk_drew ?_ | refine blk_alloc ?_ _)); exact BK198.out⟩, ⟨by repeat (first | (with_reducible first | exact HB.out | apply below_alloc | apply pw_below_drewN | apply below_drew1 | refine below_set ?_ GE198.out) | exact HB.out)⟩⟩
    case rest =>
      clear HC8
      try clear c1
      try clear c2
      try clear p2
      try clear c3
      try clear c6
      try clear c10
      try clear c14
      try clear c14b0
      try clear c14b1
      try clear c15
      try clear c15b0
      try clear hcz11_0
      try clear hcz11_1
      try clear hfz11_0
      try clear hfz11_1
      obtain ⟨kq, x38_7, rfl, HA, HJ7, HO_2, BK198, HB⟩ := hcut
      cases kq with
      | zero => exact absurd HA.out (by simp [grafterlaw10_LossRow.j0])
      | succ kj7 =>
        have H := HA.out
        clear HA
        simp only [grafterlaw10_LossRow.j0] at H
        by_cases c16 : x38_7 = true
        · subst c16
          have H1 : ((grafterlaw0_Num.f t201).bind fun t203 => (if t203 = 0 then (some true) else (some (t200 == 0)))) = some r := by rw [if_pos rfl] at H; exact H
          clear H
          have H := H1
          clear H1
          replace H := Option.bind_eq_some_iff.mp H
          obtain ⟨t203, A170, H⟩ := H
          replace H : (if t203 = 0 then (some true) else (some (t200 == 0))) = some r := H
          have A17 := Aside0.mk A170
          clear A170
          by_cases c18 : t203 = 0
          · rw [if_pos c18] at H
            have c18b0 : (t203 == 0) = true := beq_iff_eq.mpr c18
            have c18b1 : (t203 != 0) = false := bne_eq_false_iff_eq.mpr c18
            clear c18
            obtain rfl := Option.some.inj H
            go_wp2_with (first | ((with_reducible refine gate_callee (f := 22) rfl ?_); refine goesL_ (some 40) rfl rfl Try.func22 (by kernel_rfl) rfl #[.int .i64 t201] rfl (by (try simp only [List.map_toArray, List.map_cons, List.map_nil]); first | done | rfl | (simp only [List.length_drop, List.length_take]; rfl)) ?_; (with_reducible refine (grafterlaw0_Num.calls t201 t203 _ A17.out).mono ?_); rintro e w' ⟨rfl, ⟨nd, rfl⟩⟩; refine ⟨_, rfl, ?_⟩))
            go_ret
            exact ⟨by first | rfl | (simp [errW_none, errW_some] <;> rfl) | (simp [*, errW_none, errW_some] <;> rfl), by repeat (first | (with_reducible first | exact HB.out | apply below_alloc | apply pw_below_drewN | apply below_drew1 | refine below_set ?_ GE198.out) | exact HB.out)⟩
          · rw [if_neg c18] at H
            have c18b0 : (t203 == 0) = false := beq_eq_false_iff_ne.mpr c18
            have c18b1 : (t203 != 0) = true := bne_iff_ne.mpr c18
            obtain rfl := Option.some.inj H
            go_wp2_with (first | ((with_reducible refine gate_callee (f := 22) rfl ?_); refine goesL_ (some 40) rfl rfl Try.func22 (by kernel_rfl) rfl #[.int .i64 t201] rfl (by (try simp only [List.map_toArray, List.map_cons, List.map_nil]); first | done | rfl | (simp only [List.length_drop, List.length_take]; rfl)) ?_; (with_reducible refine (grafterlaw0_Num.calls t201 t203 _ A17.out).mono ?_); rintro e w' ⟨rfl, ⟨nd, rfl⟩⟩; refine ⟨_, rfl, ?_⟩))
            go_ret
            exact ⟨by first | rfl | (simp [errW_none, errW_some] <;> rfl) | (simp [*, errW_none, errW_some] <;> rfl), by repeat (first | (with_reducible first | exact HB.out | apply below_alloc | apply pw_below_drewN | apply below_drew1 | refine below_set ?_ GE198.out) | exact HB.out)⟩
        · replace c16 := Bool.eq_false_iff.mpr c16
          subst c16
          have H1 : (if (IntKind.u64.wrap ((l2.length : Int))) = 0 then (none) else ((some (([] : List (S35)) : List (S35))).bind fun y204 => (if 0 ≤ (wrap64 (Int.tmod (IntKind.u64.wrap (a3)) (IntKind.u64.wrap ((l2.length : Int))))) then (if (wrap64 (Int.tmod (IntKind.u64.wrap (a3)) (IntKind.u64.wrap ((l2.length : Int))))) ≤ (l2.length : Int) then ((some (l2.drop ((wrap64 (Int.tmod (IntKind.u64.wrap (a3)) (IntKind.u64.wrap ((l2.length : Int))))) : Int).toNat : List (S35))).bind fun y207 => (if y204.length + y207.length < 4398046511104 then ((some (y204 ++ y207 : List (S35))).bind fun y212 => ((some (l2.take ((wrap64 (Int.tmod (IntKind.u64.wrap (a3)) (IntKind.u64.wrap ((l2.length : Int))))) : Int).toNat : List (S35))).bind fun y215 => (if y212.length + y215.length < 4398046511104 then ((loss_Of.f kj7 a0_0 a0_1 l1 (y212 ++ y215)).bind fun bt223 => ((grafterlaw0_Num.f bt223.2).bind fun t225 => (if t225 = 0 then (grafterlaw10_LossRow.j1 kj7 l1 l2 t200 (t200 != bt223.1) a0_0 a0_1) else (grafterlaw10_LossRow.j1 kj7 l1 l2 t200 true a0_0 a0_1)))) else (none)))) else (none))) else (none)) else (none)))) = some r := by rw [if_neg (show ¬ (false = true) by decide)] at H; exact H
          clear H
          have H := H1
          clear H1
          by_cases c19 : (IntKind.u64.wrap ((l2.length : Int))) = 0
          · rw [if_pos c19] at H
            exact absurd H (by simp)
          · rw [if_neg c19] at H
            have c19b0 : ((IntKind.u64.wrap ((l2.length : Int))) == 0) = false := beq_eq_false_iff_ne.mpr c19
            have c19b1 : ((IntKind.u64.wrap ((l2.length : Int))) != 0) = true := bne_iff_ne.mpr c19
            obtain ⟨y204, hy204⟩ : ∃ y_ : List (S35), y_ = (([] : List (S35))) := ⟨_, rfl⟩
            replace H : (if 0 ≤ (wrap64 (Int.tmod (IntKind.u64.wrap (a3)) (IntKind.u64.wrap ((l2.length : Int))))) then (if (wrap64 (Int.tmod (IntKind.u64.wrap (a3)) (IntKind.u64.wrap ((l2.length : Int))))) ≤ (l2.length : Int) then ((some (l2.drop ((wrap64 (Int.tmod (IntKind.u64.wrap (a3)) (IntKind.u64.wrap ((l2.length : Int))))) : Int).toNat : List (S35))).bind fun y207 => (if y204.length + y207.length < 4398046511104 then ((some (y204 ++ y207 : List (S35))).bind fun y212 => ((some (l2.take ((wrap64 (Int.tmod (IntKind.u64.wrap (a3)) (IntKind.u64.wrap ((l2.length : Int))))) : Int).toNat : List (S35))).bind fun y215 => (if y212.length + y215.length < 4398046511104 then ((loss_Of.f kj7 a0_0 a0_1 l1 (y212 ++ y215)).bind fun bt223 => ((grafterlaw0_Num.f bt223.2).bind fun t225 => (if t225 = 0 then (grafterlaw10_LossRow.j1 kj7 l1 l2 t200 (t200 != bt223.1) a0_0 a0_1) else (grafterlaw10_LossRow.j1 kj7 l1 l2 t200 true a0_0 a0_1)))) else (none)))) else (none))) else (none)) else (none)) = some r := by first | (rw [hy204]; with_reducible exact H) | (have H2_ := (Option.bind_some _ _).symm.trans H; rw [hy204]; with_reducible exact H2_) | (have H2_ := (Option.bind_some _ _).symm.trans H; with_reducible exact H2_) | with_reducible exact H | (rw [hy204]; exact H) | exact H
            have Ny204 := Aside0.mk hy204
            clear hy204
            obtain ⟨ji20, hji20⟩ : ∃ j_ : Int, (wrap64 (Int.tmod (IntKind.u64.wrap (a3)) (IntKind.u64.wrap ((l2.length : Int))))) = j_ := ⟨_, rfl⟩
            replace H : (if 0 ≤ (ji20) then (if (ji20) ≤ (l2.length : Int) then ((some (l2.drop ((ji20) : Int).toNat : List (S35))).bind fun y207 => (if y204.length + y207.length < 4398046511104 then ((some (y204 ++ y207 : List (S35))).bind fun y212 => ((some (l2.take ((ji20) : Int).toNat : List (S35))).bind fun y215 => (if y212.length + y215.length < 4398046511104 then ((loss_Of.f kj7 a0_0 a0_1 l1 (y212 ++ y215)).bind fun bt223 => ((grafterlaw0_Num.f bt223.2).bind fun t225 => (if t225 = 0 then (grafterlaw10_LossRow.j1 kj7 l1 l2 t200 (t200 != bt223.1) a0_0 a0_1) else (grafterlaw10_LossRow.j1 kj7 l1 l2 t200 true a0_0 a0_1)))) else (none)))) else (none))) else (none)) else (none)) = some r := by first | (rw [hji20] at H; exact H) | (simp only [hji20] at H ⊢; exact H)
            have hji20w : (IntKind.i64.wrap (Int.tmod (IntKind.u64.wrap (a3)) (IntKind.u64.wrap ((l2.length : Int))))) = ji20 := (i64_w _).trans hji20
            by_cases c21 : 0 ≤ (ji20)
            · rw [if_pos c21] at H
              have c21b0 := eq_true c21
              have c21b1 : decide (0 ≤ (ji20)) = true := decide_eq_true c21
              clear c21
              by_cases c22 : (ji20) ≤ (l2.length : Int)
              · rw [if_pos c22] at H
                have c22b0 := eq_true c22
                have c22b1 : decide ((ji20) ≤ (l2.length : Int)) = true := decide_eq_true c22
                clear c22
                obtain ⟨y207, hy207⟩ : ∃ y_ : List (S35), y_ = (l2.drop ((ji20) : Int).toNat) := ⟨_, rfl⟩
                replace H : (if y204.length + y207.length < 4398046511104 then ((some (y204 ++ y207 : List (S35))).bind fun y212 => ((some (l2.take ((ji20) : Int).toNat : List (S35))).bind fun y215 => (if y212.length + y215.length < 4398046511104 then ((loss_Of.f kj7 a0_0 a0_1 l1 (y212 ++ y215)).bind fun bt223 => ((grafterlaw0_Num.f bt223.2).bind fun t225 => (if t225 = 0 then (grafterlaw10_LossRow.j1 kj7 l1 l2 t200 (t200 != bt223.1) a0_0 a0_1) else (grafterlaw10_LossRow.j1 kj7 l1 l2 t200 true a0_0 a0_1)))) else (none)))) else (none)) = some r := by first | (rw [hy207]; with_reducible exact H) | (have H2_ := (Option.bind_some _ _).symm.trans H; rw [hy207]; with_reducible exact H2_) | (have H2_ := (Option.bind_some _ _).symm.trans H; with_reducible exact H2_) | with_reducible exact H | (rw [hy207]; exact H) | exact H
                have Ny207 := Aside0.mk hy207
                clear hy207
                by_cases c23 : y204.length + y207.length < 4398046511104
                · rw [if_pos c23] at H
                  have LMc23 := Aside0.mk c23
                  clear c23
                  obtain ⟨y212, hy212⟩ : ∃ y_ : List (S35), y_ = (y204 ++ y207) := ⟨_, rfl⟩
                  replace H : ((some (l2.take ((ji20) : Int).toNat : List (S35))).bind fun y215 => (if y212.length + y215.length < 4398046511104 then ((loss_Of.f kj7 a0_0 a0_1 l1 (y212 ++ y215)).bind fun bt223 => ((grafterlaw0_Num.f bt223.2).bind fun t225 => (if t225 = 0 then (grafterlaw10_LossRow.j1 kj7 l1 l2 t200 (t200 != bt223.1) a0_0 a0_1) else (grafterlaw10_LossRow.j1 kj7 l1 l2 t200 true a0_0 a0_1)))) else (none))) = some r := by first | (rw [hy212]; with_reducible exact H) | (have H2_ := (Option.bind_some _ _).symm.trans H; rw [hy212]; with_reducible exact H2_) | (have H2_ := (Option.bind_some _ _).symm.trans H; with_reducible exact H2_) | with_reducible exact H | (rw [hy212]; exact H) | exact H
                  have Ny212 := Aside0.mk hy212
                  clear hy212
                  have c24b0 := eq_true (of_decide_eq_true (by first | (with_reducible assumption) | assumption) : 0 ≤ (ji20))
                  have c25b0 := eq_true (of_decide_eq_true (by first | (with_reducible assumption) | assumption) : (ji20) ≤ (l2.length : Int))
                  obtain ⟨y215, hy215⟩ : ∃ y_ : List (S35), y_ = (l2.take ((ji20) : Int).toNat) := ⟨_, rfl⟩
                  replace H : (if y212.length + y215.length < 4398046511104 then ((loss_Of.f kj7 a0_0 a0_1 l1 (y212 ++ y215)).bind fun bt223 => ((grafterlaw0_Num.f bt223.2).bind fun t225 => (if t225 = 0 then (grafterlaw10_LossRow.j1 kj7 l1 l2 t200 (t200 != bt223.1) a0_0 a0_1) else (grafterlaw10_LossRow.j1 kj7 l1 l2 t200 true a0_0 a0_1)))) else (none)) = some r := by first | (rw [hy215]; with_reducible exact H) | (have H2_ := (Option.bind_some _ _).symm.trans H; rw [hy215]; with_reducible exact H2_) | (have H2_ := (Option.bind_some _ _).symm.trans H; with_reducible exact H2_) | with_reducible exact H | (rw [hy215]; exact H) | exact H
                  have Ny215 := Aside0.mk hy215
                  clear hy215
                  by_cases c26 : y212.length + y215.length < 4398046511104
                  · rw [if_pos c26] at H
                    have LMc26 := Aside0.mk c26
                    clear c26
                    obtain ⟨y220, hy220⟩ : ∃ y_ : List (S35), y_ = (y212 ++ y215) := ⟨_, rfl⟩
                    replace H : ((loss_Of.f kj7 a0_0 a0_1 l1 y220).bind fun bt223 => ((grafterlaw0_Num.f bt223.2).bind fun t225 => (if t225 = 0 then (grafterlaw10_LossRow.j1 kj7 l1 l2 t200 (t200 != bt223.1) a0_0 a0_1) else (grafterlaw10_LossRow.j1 kj7 l1 l2 t200 true a0_0 a0_1)))) = some r := by first | (rw [hy220]; with_reducible exact H) | (have H2_ := (Option.bind_some _ _).symm.trans H; rw [hy220]; with_reducible exact H2_) | (have H2_ := (Option.bind_some _ _).symm.trans H; with_reducible exact H2_) | with_reducible exact H | (rw [hy220]; exact H) | exact H
                    have Ny220 := Aside0.mk hy220
                    clear hy220
                    replace H := Option.bind_eq_some_iff.mp H
                    obtain ⟨⟨t223, t224⟩, A270, H⟩ := H
                    replace H : ((grafterlaw0_Num.f t224).bind fun t225 => (if t225 = 0 then (grafterlaw10_LossRow.j1 kj7 l1 l2 t200 (t200 != t223) a0_0 a0_1) else (grafterlaw10_LossRow.j1 kj7 l1 l2 t200 true a0_0 a0_1))) = some r := H
                    have A27 := Aside0.mk A270
                    clear A270
                    have HC28 := Aside0.mk H
                    clear H
                    go_upto_region 10 with (first | ((with_reducible refine gate_dst (N := 53) rfl ?_); (try (refine gate_guard (by rfl) ?_; dsimp only)); refine Kd.N_lit k35 _ 35 ?hg (N' := 53) ?hd (xs := ([] : List (S35))) (inner := []) (ok := (fun k_ => (P2_ k_ ∨ w.heap.size ≤ k_) ∧ k_ ≠ gb198)) (okp := (fun k_ => (P2_ k_ ∨ w.heap.size ≤ k_) ∧ k_ ≠ gb198)) ?hr ?hp (fun _ hk => hk) ((show ∀ k_, wc.heap.size ≤ k_ → (fun k_ => (P2_ k_ ∨ w.heap.size ≤ k_) ∧ k_ ≠ gb198) k_ from fun k_ hk => ⟨(.inr (Nat.le_trans (below_size (by repeat (first | (with_reducible first | exact HB.out | apply below_alloc | apply pw_below_drewN | apply below_drew1 | refine below_set ?_ GE198.out) | exact HB.out))) hk)), Kd.freshB (g := gb198) (o := .cells #[.int .i64 a0_0, .int .i64 a0_1] 23 (0, 0)) (by (with_reducible repeat (first | refine blk_drewN ?_ _ | refine blk_drew ?_ | refine blk_alloc ?_ _)); exact BK198.out) k_ hk⟩) _ (Nat.le_refl _)) (Below.refl _ _) (Nat.le_refl _) (by simp) ?_; (case hd => rfl); (case hg => rfl); (case hr => first | (go_simp; done) | (go_simp; rfl)); (case hp => exact (Reps.none _ _)); intro v205 w29 ho30 hb hg_ hnew_; clear hg_ hnew_; (first | rw [← Ny204.out] at ho30 | (simp only [Int.reduceToNat] at ho30; rw [← Ny204.out] at ho30)); have n0_ := Aside0.mk (Kd.V_elder' (by (with_reducible repeat (first | apply Kd.V_alloc | apply Kd.V_drewN | apply Kd.V_drew)); exact HO_2.out) (Kd.N_base ho30) hb); have n1_ := Aside0.mk (Kd.N_lower ho30 (below_size (by repeat (first | (with_reducible first | exact HB.out | apply below_alloc | apply pw_below_drewN | apply below_drew1 | refine below_set ?_ GE198.out) | exact HB.out)))); have n2_ := Aside0.mk (blk_below (g := gb198) (o := .cells #[.int .i64 a0_0, .int .i64 a0_1] 23 (0, 0)) (by (with_reducible repeat (first | refine blk_drewN ?_ _ | refine blk_drew ?_ | refine blk_alloc ?_ _)); exact BK198.out) hb); have n3_ := Aside0.mk (below_step (by repeat (first | (with_reducible first | exact HB.out | apply below_alloc | apply pw_below_drewN | apply below_drew1 | refine below_set ?_ GE198.out) | exact HB.out)) hb); clear HO_2; clear BK198; clear HB; have HO_2 := n0_; have HO206 := n1_; have BK198 := n2_; have HB := n3_; clear n0_ n1_ n2_ n3_; clear hb ho30; have q31 : ((ji20) : Int) ≤ ((l2.length : Int) : Int) := of_decide_eq_true (by first | (with_reducible assumption) | assumption); obtain ⟨i031, hi031, _, hsz31, _⟩ := info_parts info35; have hroom31 : l2.length ≤ c2 := (Kd.V_reads' HO_2.out).2.1; have hC31 : Kd.F k35 _ _ A2 l2.length l2 := (Kd.V_at (base := w.heap.size) HO_2.out).2.2; have q031 : (0 : Int) ≤ ((ji20) : Int) := of_decide_eq_true (by first | (with_reducible assumption) | assumption); have hcut31 := cut_from (P := Try.prog) 24 35 .i64 Try.underlying24 hi031 2 hsz31 A2 l2.length c2 (ji20) q031 q31; have hr31 := Kd.F_cut (m := ((ji20) : Int).toNat) (c := c2) hC31 (by omega) hroom31; obtain ⟨A31, hA31⟩ : ∃ A1, A1 = (if c2 = ((ji20) : Int).toNat then A2 else (A2 : Option Addr).map (·.add (((ji20) : Int).toNat * 2))) := ⟨_, rfl⟩; obtain ⟨c31, hc31⟩ : ∃ c1, c1 = c2 - ((ji20) : Int).toNat := ⟨_, rfl⟩; have hy31 : y207.length = l2.length - ((ji20) : Int).toNat := (by rw [Ny207.out, List.length_drop] <;> omega); rw [show (l2).drop ((ji20) : Int).toNat = y207 from Ny207.out.symm] at hr31; replace hr31 : Kd.F k35 _ _ A31 y207.length y207 := (by rw [hA31]; exact hr31); rw [← hy31, ← hA31, ← hc31] at hcut31; have HO211 := Aside0.mk (show Kd.V k35 35 _ w.heap.size _ (.slice A31 y207.length c31) y207 from Kd.V_mk (by rw [hy31, hc31]; exact Nat.sub_le_sub_right hroom31 _) hr31); have HC211 := Aside0.mk (show y207.length ≤ c31 from by rw [hy31, hc31]; exact Nat.sub_le_sub_right hroom31 _); clear hr31 hC31 hroom31 hi031 hsz31 hc31; have KY31 := Aside0.mk hy31; have KA31 := Aside0.mk hA31; clear hy31 hA31; replace q31 := eq_true q31) | ((with_reducible refine gate_builtin (b := .append) (xs := #[.tmp 53, .tmp 56]) rfl ?_); (try (refine gate_guard (by rfl) ?_; dsimp only)); at_builtin; refine Kd.N_append_rows k35 (w0 := w) w.heap.size rfl (.tmp 53) (.tmp 56) 24 35 (.agg #[(.slice none 0 0), (.int .i64 0)]) 32 rfl Try.underlying24 info35 rfl (by decide) (by omega) v205 y204 y207 _ _ _ (fun k_ => (P2_ k_ ∨ w.heap.size ≤ k_) ∧ k_ ≠ gb198) (fun k_ => ((fun k_ => (P2_ k_ ∨ w.heap.size ≤ k_) ∧ k_ ≠ gb198)) k_ ∧ some k_ ≠ (v205 : Value).ownBlock) rfl rfl ?aO ?aR (fun _ hk => hk) ?aF ?aB ?aS ?aL ?_; (case aR => exact (by skip; exact Kd.V_F (Kd.V_mono (ok' := (fun k_ => ((fun k_ => (P2_ k_ ∨ w.heap.size ≤ k_) ∧ k_ ≠ gb198)) k_ ∧ some k_ ≠ (v205 : Value).ownBlock)) (HO211.out) (fun k_ hk => ⟨⟨hk.1.1, hk.1.2⟩, hk.2⟩)))); (case aB => exact (by repeat (first | (with_reducible first | exact HB.out | apply below_alloc | apply pw_below_drewN | apply below_drew1 | refine below_set ?_ GE198.out) | exact HB.out))); (case aF => exact (fun k_ hk => ⟨(.inr (Nat.le_trans (below_size (by repeat (first | (with_reducible first | exact HB.out | apply below_alloc | apply pw_below_drewN | apply below_drew1 | refine below_set ?_ GE198.out) | exact HB.out))) hk)), Kd.freshB (g := gb198) (o := .cells #[.int .i64 a0_0, .int .i64 a0_1] 23 (0, 0)) (by (with_reducible repeat (first | refine blk_drewN ?_ _ | refine blk_drew ?_ | refine blk_alloc ?_ _)); exact BK198.out) k_ hk⟩)); (case aO => exact (by (with_reducible repeat (first | apply Kd.N_alloc | apply Kd.N_drewN | apply Kd.N_drew)); exact HO206.out)); (case aS => exact (below_size (by repeat (first | (with_reducible first | exact HB.out | apply below_alloc | apply pw_below_drewN | apply below_drew1 | refine below_set ?_ GE198.out) | exact HB.out)))); (case aL => have := LMc23.out; omega); intro v213 w32 ho hb hg hat; rw [← Ny212.out] at ho; have n0_ := Aside0.mk (Kd.V_afterv (ok := (fun k_ => (P2_ k_ ∨ w.heap.size ≤ k_) ∧ k_ ≠ gb198)) (by (with_reducible repeat (first | apply Kd.V_alloc | apply Kd.V_drewN | apply Kd.V_drew)); exact HO_2.out) hg hat); have n1_ := Aside0.mk (blk_grown (g := gb198) (o := .cells #[.int .i64 a0_0, .int .i64 a0_1] 23 (0, 0)) (by (with_reducible repeat (first | refine blk_drewN ?_ _ | refine blk_drew ?_ | refine blk_alloc ?_ _)); exact BK198.out) hg (Kd.N_ne HO206.out BK198.out (by decide))); have n2_ := Aside0.mk (Kd.V_afterv (ok := (fun k_ => (P2_ k_ ∨ w.heap.size ≤ k_) ∧ k_ ≠ gb198)) (by (with_reducible repeat (first | apply Kd.V_alloc | apply Kd.V_drewN | apply Kd.V_drew)); exact HO211.out) hg hat); have n3_ := Aside0.mk (hb); have n4_ := Aside0.mk (ho); clear HO_2; clear BK198; clear HO211; clear HB; clear HO206; have HO_2 := n0_; have BK198 := n1_; have HO211 := n2_; have HB := n3_; have HO214 := n4_; clear n0_ n1_ n2_ n3_ n4_; clear ho hb hg hat; have q33 : ((ji20) : Int) ≤ ((l2.length : Int) : Int) := of_decide_eq_true (by first | (with_reducible assumption) | assumption); obtain ⟨i033, hi033, _, hsz33, _⟩ := info_parts info35; have hroom33 : l2.length ≤ c2 := (Kd.V_reads' HO_2.out).2.1; have hC33 : Kd.F k35 _ _ A2 l2.length l2 := (Kd.V_at (base := w.heap.size) HO_2.out).2.2; have hcut33 := cut_to (P := Try.prog) 24 35 .i64 Try.underlying24 hi033 A2 l2.length c2 (ji20) (of_decide_eq_true (by first | (with_reducible assumption) | assumption)) q33 hroom33; have hr33 := Kd.F_take (m := ((ji20) : Int).toNat) hC33 (by omega); have hy33 : y215.length = ((ji20) : Int).toNat := (by rw [Ny215.out, List.length_take]; omega); rw [← Ny215.out] at hr33; rw [← hy33] at hcut33; have HO219 := Aside0.mk (show Kd.V k35 35 _ w.heap.size _ (.slice A2 y215.length c2) y215 from Kd.V_mk (by omega) hr33); have HC219 := Aside0.mk (show y215.length ≤ c2 from by omega); clear hr33 hC33 hroom33 hi033 hsz33; have KY33 := Aside0.mk hy33; clear hy33; replace q33 := eq_true q33) | ((with_reducible refine gate_builtin (b := .append) (xs := #[.tmp 58, .tmp 61]) rfl ?_); (try (refine gate_guard (by rfl) ?_; dsimp only)); at_builtin; refine Kd.N_append_rows k35 (w0 := w) w.heap.size rfl (.tmp 58) (.tmp 61) 24 35 (.agg #[(.slice none 0 0), (.int .i64 0)]) 32 rfl Try.underlying24 info35 rfl (by decide) (by omega) v213 y212 y215 _ _ _ (fun k_ => (P2_ k_ ∨ w.heap.size ≤ k_) ∧ k_ ≠ gb198) (fun k_ => ((fun k_ => (P2_ k_ ∨ w.heap.size ≤ k_) ∧ k_ ≠ gb198)) k_ ∧ some k_ ≠ (v213 : Value).ownBlock) rfl rfl ?aO ?aR (fun _ hk => hk) ?aF ?aB ?aS ?aL ?_; (case aR => exact (by skip; exact Kd.V_F (Kd.V_mono (ok' := (fun k_ => ((fun k_ => (P2_ k_ ∨ w.heap.size ≤ k_) ∧ k_ ≠ gb198)) k_ ∧ some k_ ≠ (v213 : Value).ownBlock)) (HO219.out) (fun k_ hk => ⟨⟨hk.1.1, hk.1.2⟩, hk.2⟩)))); (case aB => exact (by repeat (first | (with_reducible first | exact HB.out | apply below_alloc | apply pw_below_drewN | apply below_drew1 | refine below_set ?_ GE198.out) | exact HB.out))); (case aF => exact (fun k_ hk => ⟨(.inr (Nat.le_trans (below_size (by repeat (first | (with_reducible first | exact HB.out | apply below_alloc | apply pw_below_drewN | apply below_drew1 | refine below_set ?_ GE198.out) | exact HB.out))) hk)), Kd.freshB (g := gb198) (o := .cells #[.int .i64 a0_0, .int .i64 a0_1] 23 (0, 0)) (by (with_reducible repeat (first | refine blk_drewN ?_ _ | refine blk_drew ?_ | refine blk_alloc ?_ _)); exact BK198.out) k_ hk⟩)); (case aO => exact (by (with_reducible repeat (first | apply Kd.N_alloc | apply Kd.N_drewN | apply Kd.N_drew)); exact HO214.out)); (case aS => exact (below_size (by repeat (first | (with_reducible first | exact HB.out | apply below_alloc | apply pw_below_drewN | apply below_drew1 | refine below_set ?_ GE198.out) | exact HB.out)))); (case aL => have := LMc26.out; omega); intro v221 w34 ho hb hg hat; rw [← Ny220.out] at ho; have n0_ := Aside0.mk (Kd.V_afterv (ok := (fun k_ => (P2_ k_ ∨ w.heap.size ≤ k_) ∧ k_ ≠ gb198)) (by (with_reducible repeat (first | apply Kd.V_alloc | apply Kd.V_drewN | apply Kd.V_drew)); exact HO_2.out) hg hat); have n1_ := Aside0.mk (blk_grown (g := gb198) (o := .cells #[.int .i64 a0_0, .int .i64 a0_1] 23 (0, 0)) (by (with_reducible repeat (first | refine blk_drewN ?_ _ | refine blk_drew ?_ | refine blk_alloc ?_ _)); exact BK198.out) hg (Kd.N_ne HO214.out BK198.out (by decide))); have n2_ := Aside0.mk (Kd.V_afterv (ok := (fun k_ => (P2_ k_ ∨ w.heap.size ≤ k_) ∧ k_ ≠ gb198)) (by (with_reducible repeat (first | apply Kd.V_alloc | apply Kd.V_drewN | apply Kd.V_drew)); exact HO211.out) hg hat); have n3_ := Aside0.mk (Kd.V_afterv (ok := (fun k_ => (P2_ k_ ∨ w.heap.size ≤ k_) ∧ k_ ≠ gb198)) (by (with_reducible repeat (first | apply Kd.V_alloc | apply Kd.V_drewN | apply Kd.V_drew)); exact HO219.out) hg hat); have n4_ := Aside0.mk (hb); have n5_ := Aside0.mk (ho); clear HO_2; clear BK198; clear HO211; clear HO219; clear HB; clear HO214; have HO_2 := n0_; have BK198 := n1_; have HO211 := n2_; have HO219 := n3_; have HB := n4_; have HO222 := n5_; clear n0_ n1_ n2_ n3_ n4_ n5_; clear ho hb hg hat; have hcz35_0 : w34.cell? ⟨gb198, 0, none⟩ = some (.int .i64 a0_0) := (blk_cell BK198.out 0).trans rfl; have hcz35_1 : w34.cell? ⟨gb198, 1, none⟩ = some (.int .i64 a0_1) := (blk_cell BK198.out 1).trans rfl; have hfz35_0 := blk_frozen BK198.out 0; have hfz35_1 := blk_frozen BK198.out 1; obtain ⟨Ao36, co36, eo36⟩ := Kd.N_slice HO222.out; subst eo36) | ((with_reducible refine gate_callee (f := 25) rfl ?_); refine goesL_ (some 67) rfl rfl Try.func25 (by kernel_rfl) rfl #[.agg #[.int .i64 a0_0, .int .i64 a0_1], .slice A1 l1.length c1, .slice Ao36 y220.length co36] rfl (by (try simp only [List.map_toArray, List.map_cons, List.map_nil]); first | done | rfl | (simp only [List.length_drop, List.length_take]; rfl)) ?_; (with_reducible refine (loss_Of.calls kj7 a0_0 a0_1 _ _ l1 _ _ y220 t223 t224 _ ?side1 ?side2 ?side3 ?side4 A27.out).mono ?_); (case side1 => repeat (first | (with_reducible refine Kd.C_alloc ?_ _) | (with_reducible refine Kd.C_drewN ?_ _) | (with_reducible refine Kd.C_drew ?_) | exact (Kd.C_below HR1.out HB.out))); (case side2 => exact HC1.out); (case side3 => repeat (first | (with_reducible refine Kd.C_alloc ?_ _) | (with_reducible refine Kd.C_drewN ?_ _) | (with_reducible refine Kd.C_drew ?_) | exact (Kd.N_reads' HO222.out).2.2)); (case side4 => exact (Kd.N_reads' HO222.out).2.1); rintro e w37 ⟨rfl, hb⟩; refine ⟨_, rfl, ?_⟩; have n0_ := Aside0.mk (Kd.V_below (by (with_reducible repeat (first | apply Kd.V_alloc | apply Kd.V_drewN | apply Kd.V_drew)); exact HO_2.out) hb); have n1_ := Aside0.mk (Kd.V_below (by (with_reducible repeat (first | apply Kd.V_alloc | apply Kd.V_drewN | apply Kd.V_drew)); exact HO211.out) hb); have n2_ := Aside0.mk (Kd.V_below (by (with_reducible repeat (first | apply Kd.V_alloc | apply Kd.V_drewN | apply Kd.V_drew)); exact HO219.out) hb); have n3_ := Aside0.mk (Kd.N_below (by (with_reducible repeat (first | apply Kd.N_alloc | apply Kd.N_drewN | apply Kd.N_drew)); exact HO222.out) hb); have n4_ := Aside0.mk (blk_below (g := gb198) (o := .cells #[.int .i64 a0_0, .int .i64 a0_1] 23 (0, 0)) (by (with_reducible repeat (first | refine blk_drewN ?_ _ | refine blk_drew ?_ | refine blk_alloc ?_ _)); exact BK198.out) hb); have n5_ := Aside0.mk (below_step (by repeat (first | (with_reducible first | exact HB.out | apply below_alloc | apply pw_below_drewN | apply below_drew1 | refine below_set ?_ GE198.out) | exact HB.out)) hb); clear HO_2; clear HO211; clear HO219; clear HO222; clear BK198; clear HB; have HO_2 := n0_; have HO211 := n1_; have HO219 := n2_; have HO222 := n3_; have BK198 := n4_; have HB := n5_; clear n0_ n1_ n2_ n3_ n4_ n5_; (try clear hb); (try clear hb2); (try clear hk); (try clear hi)))
                    (try simp only [Act.put, List.setIfInBounds_toArray, List.set_cons_zero, List.set_cons_succ])
                    go_cut [77] (fun v77 wc => ∃ (kq : Nat) (x77_27 : Bool), v77 = .bool x77_27 ∧ Aside0 (grafterlaw10_LossRow.j1 kq l1 l2 t200 x77_27 a0_0 a0_1 = some r) ∧ Aside0 (kq ≤ kj7) ∧ Aside0 (Kd.V k35 35 wc w.heap.size (fun k_ => (P2_ k_ ∨ w.heap.size ≤ k_) ∧ k_ ≠ gb198) (.slice A2 l2.length c2) l2) ∧ Aside0 (wc.heap[gb198]? = some (.cells #[.int .i64 a0_0, .int .i64 a0_1] 23 (0, 0))) ∧ Aside0 (Below w.heap.size w wc))
                    case first =>
                      have H := HC28.out
                      clear HC28
                      replace H := Option.bind_eq_some_iff.mp H
                      obtain ⟨t225, A380, H⟩ := H
                      replace H : (if t225 = 0 then (grafterlaw10_LossRow.j1 kj7 l1 l2 t200 (t200 != t223) a0_0 a0_1) else (grafterlaw10_LossRow.j1 kj7 l1 l2 t200 true a0_0 a0_1)) = some r := H
                      have A38 := Aside0.mk A380
                      clear A380
                      by_cases c39 : t225 = 0
                      · rw [if_pos c39] at H
                        have c39b0 : (t225 == 0) = true := beq_iff_eq.mpr c39
                        have c39b1 : (t225 != 0) = false := bne_eq_false_iff_eq.mpr c39
                        clear c39
                        (first | rw [c39b0] | (simp only [i64_w, i32_w]; rw [c39b0]) | skip)
                        have H' := Aside0.mk H
                        clear H
                        go_wp2_with (first | ((with_reducible refine gate_callee (f := 22) rfl ?_); refine goesL_ (some 71) rfl rfl Try.func22 (by kernel_rfl) rfl #[.int .i64 t224] rfl (by (try simp only [List.map_toArray, List.map_cons, List.map_nil]); first | done | rfl | (simp only [List.length_drop, List.length_take]; rfl)) ?_; (with_reducible refine (grafterlaw0_Num.calls t224 t225 _ A38.out).mono ?_); rintro e w' ⟨rfl, ⟨nd, rfl⟩⟩; refine ⟨_, rfl, ?_⟩))
                        go_meet
                        case rel => exact ⟨_, ((t200 != t223)), (by first | rfl | (simp; done) | (simp [*]; done)), H', ⟨by have := HJ7.out; first | omega | exact Nat.le_refl _⟩, ⟨by (with_reducible repeat (first | apply Kd.V_alloc | apply Kd.V_drewN | apply Kd.V_drew)); exact Kd.V_mono HO_2.out (fun _ hk => ⟨hk.1.1, hk.1.2⟩)⟩, ⟨by (with_reducible repeat (first | refine blk_drewN ?_ _ | refine blk_drew ?_ | refine blk_alloc ?_ _)); exact BK198.out⟩, ⟨by repeat (first | (with_reducible first | exact HB.out | apply below_alloc | apply pw_below_drewN | apply below_drew1 | refine below_set ?_ GE198.out) | exact HB.out)⟩⟩
                      · rw [if_neg c39] at H
                        have c39b0 : (t225 == 0) = false := beq_eq_false_iff_ne.mpr c39
                        have c39b1 : (t225 != 0) = true := bne_iff_ne.mpr c39
                        (first | rw [c39b0] | (simp only [i64_w, i32_w]; rw [c39b0]) | skip)
                        have H' := Aside0.mk H
                        clear H
                        go_wp2_with (first | ((with_reducible refine gate_callee (f := 22) rfl ?_); refine goesL_ (some 71) rfl rfl Try.func22 (by kernel_rfl) rfl #[.int .i64 t224] rfl (by (try simp only [List.map_toArray, List.map_cons, List.map_nil]); first | done | rfl | (simp only [List.length_drop, List.length_take]; rfl)) ?_; (with_reducible refine (grafterlaw0_Num.calls t224 t225 _ A38.out).mono ?_); rintro e w' ⟨rfl, ⟨nd, rfl⟩⟩; refine ⟨_, rfl, ?_⟩))
                        go_meet
                        case rel => exact ⟨_, (true), (by first | rfl | (simp; done) | (simp [*]; done)), H', ⟨by have := HJ7.out; first | omega | exact Nat.le_refl _⟩, ⟨by (with_reducible repeat (first | apply Kd.V_alloc | apply Kd.V_drewN | apply Kd.V_drew)); exact Kd.V_mono HO_2.out (fun _ hk => ⟨hk.1.1, hk.1.2⟩)⟩, ⟨by (with_reducible repeat (first | refine blk_drewN ?_ _ | refine blk_drew ?_ | refine blk_alloc ?_ _)); exact BK198.out⟩, ⟨by repeat (first | (with_reducible first | exact HB.out | apply below_alloc | apply pw_below_drewN | apply below_drew1 | refine below_set ?_ GE198.out) | exact HB.out)⟩⟩
                    case rest =>
                      clear HC28
                      try clear c1
                      try clear c2
                      try clear p2
                      try clear c3
                      try clear q3
                      try clear c6
                      try clear p6
                      try clear c10
                      try clear c14
                      try clear c14b0
                      try clear c14b1
                      try clear c15
                      try clear c15b0
                      try clear c16
                      try clear c18
                      try clear c18b0
                      try clear c18b1
                      try clear c19
                      try clear c19b0
                      try clear c19b1
                      try clear c21
                      try clear c21b0
                      try clear c21b1
                      try clear c22
                      try clear c22b0
                      try clear c22b1
                      try clear c23
                      try clear c24
                      try clear c24b0
                      try clear c25
                      try clear c25b0
                      try clear c26
                      try clear c31
                      try clear q31
                      try clear q33
                      try clear c39
                      try clear c39b0
                      try clear c39b1
                      try clear hcz11_0
                      try clear hcz11_1
                      try clear hcz35_0
                      try clear hcz35_1
                      try clear hfz11_0
                      try clear hfz11_1
                      try clear hfz35_0
                      try clear hfz35_1
                      try clear p2
                      try clear q031
                      try clear q31
                      try clear q33
                      obtain ⟨kq, x77_27, rfl, HA, HJ27, HO_2, BK198, HB⟩ := hcut
                      cases kq with
                      | zero => exact absurd HA.out (by simp [grafterlaw10_LossRow.j1])
                      | succ kj27 =>
                        have H := HA.out
                        clear HA
                        simp only [grafterlaw10_LossRow.j1] at H
                        by_cases c40 : x77_27 = true
                        · subst c40
                          have H1 : (some false) = some r := by rw [if_pos rfl] at H; exact H
                          clear H
                          have H := H1
                          clear H1
                          exact absurd ((Option.some.inj H).trans HRT.out) Bool.false_ne_true
                        · replace c40 := Bool.eq_false_iff.mpr c40
                          subst c40
                          have H1 : (if (wrap64 (2 * (l2.length : Int))) > 8 then (some true) else ((some (([] : List (S35)) : List (S35))).bind fun y226 => (if y226.length + l2.length < 4398046511104 then ((some (y226 ++ l2 : List (S35))).bind fun y229 => (if y229.length + l2.length < 4398046511104 then ((loss_Of.f kj27 a0_0 a0_1 l1 (y229 ++ l2)).bind fun bt235 => ((grafterlaw0_Num.f bt235.2).bind fun t237 => (if t237 = 0 then (if bt235.1 = (wrap64 (2 * t200)) then ((grafterref1_FixMay.f bt235.1).bind fun t238 => (some t238)) else (some false)) else (some false)))) else (none))) else (none)))) = some r := by rw [if_neg (show ¬ (false = true) by decide)] at H; exact H
                          clear H
                          have H := H1
                          clear H1
                          by_cases c41 : (wrap64 (2 * (l2.length : Int))) > 8
                          · rw [if_pos c41] at H
                            have c41b0 : decide (8 < (wrap64 (2 * (l2.length : Int)))) = true := decide_eq_true c41
                            clear c41
                            obtain rfl := Option.some.inj H
                            go_wp2
                            all_goals go_ret
                            all_goals exact ⟨by first | (simp only [← hji20_]; split <;> first | (exfalso; omega) | (simp [ByteArray.extract_zero_size]; done) | (simp [ByteArray.extract_zero_size, *]; done)) | rfl | (simp [errW_none, errW_some] <;> rfl) | (simp only [← hji20]; first | rfl | (simp [errW_none, errW_some] <;> rfl)) | (simp [*, errW_none, errW_some] <;> rfl), by repeat (first | (with_reducible first | exact HB.out | apply below_alloc | apply pw_below_drewN | apply below_drew1 | refine below_set ?_ GE198.out) | exact HB.out)⟩
                          · rw [if_neg c41] at H
                            have c41b0 : decide (8 < (wrap64 (2 * (l2.length : Int)))) = false := decide_eq_false c41
                            clear c41
                            obtain ⟨y226, hy226⟩ : ∃ y_ : List (S35), y_ = (([] : List (S35))) := ⟨_, rfl⟩
                            replace H : (if y226.length + l2.length < 4398046511104 then ((some (y226 ++ l2 : List (S35))).bind fun y229 => (if y229.length + l2.length < 4398046511104 then ((loss_Of.f kj27 a0_0 a0_1 l1 (y229 ++ l2)).bind fun bt235 => ((grafterlaw0_Num.f bt235.2).bind fun t237 => (if t237 = 0 then (if bt235.1 = (wrap64 (2 * t200)) then ((grafterref1_FixMay.f bt235.1).bind fun t238 => (some t238)) else (some false)) else (some false)))) else (none))) else (none)) = some r := by first | (rw [hy226]; with_reducible exact H) | (have H2_ := (Option.bind_some _ _).symm.trans H; rw [hy226]; with_reducible exact H2_) | (have H2_ := (Option.bind_some _ _).symm.trans H; with_reducible exact H2_) | with_reducible exact H | (rw [hy226]; exact H) | exact H
                            have Ny226 := Aside0.mk hy226
                            clear hy226
                            by_cases c42 : y226.length + l2.length < 4398046511104
                            · rw [if_pos c42] at H
                              have LMc42 := Aside0.mk c42
                              clear c42
                              obtain ⟨y229, hy229⟩ : ∃ y_ : List (S35), y_ = (y226 ++ l2) := ⟨_, rfl⟩
                              replace H : (if y229.length + l2.length < 4398046511104 then ((loss_Of.f kj27 a0_0 a0_1 l1 (y229 ++ l2)).bind fun bt235 => ((grafterlaw0_Num.f bt235.2).bind fun t237 => (if t237 = 0 then (if bt235.1 = (wrap64 (2 * t200)) then ((grafterref1_FixMay.f bt235.1).bind fun t238 => (some t238)) else (some false)) else (some false)))) else (none)) = some r := by first | (rw [hy229]; with_reducible exact H) | (have H2_ := (Option.bind_some _ _).symm.trans H; rw [hy229]; with_reducible exact H2_) | (have H2_ := (Option.bind_some _ _).symm.trans H; with_reducible exact H2_) | with_reducible exact H | (rw [hy229]; exact H) | exact H
                              have Ny229 := Aside0.mk hy229
                              clear hy229
                              by_cases c43 : y229.length + l2.length < 4398046511104
                              · rw [if_pos c43] at H
                                have LMc43 := Aside0.mk c43
                                clear c43
                                obtain ⟨y232, hy232⟩ : ∃ y_ : List (S35), y_ = (y229 ++ l2) := ⟨_, rfl⟩
                                replace H : ((loss_Of.f kj27 a0_0 a0_1 l1 y232).bind fun bt235 => ((grafterlaw0_Num.f bt235.2).bind fun t237 => (if t237 = 0 then (if bt235.1 = (wrap64 (2 * t200)) then ((grafterref1_FixMay.f bt235.1).bind fun t238 => (some t238)) else (some false)) else (some false)))) = some r := by first | (rw [hy232]; with_reducible exact H) | (have H2_ := (Option.bind_some _ _).symm.trans H; rw [hy232]; with_reducible exact H2_) | (have H2_ := (Option.bind_some _ _).symm.trans H; with_reducible exact H2_) | with_reducible exact H | (rw [hy232]; exact H) | exact H
                                have Ny232 := Aside0.mk hy232
                                clear hy232
                                replace H := Option.bind_eq_some_iff.mp H
                                obtain ⟨⟨t235, t236⟩, A440, H⟩ := H
                                replace H : ((grafterlaw0_Num.f t236).bind fun t237 => (if t237 = 0 then (if t235 = (wrap64 (2 * t200)) then ((grafterref1_FixMay.f t235).bind fun t238 => (some t238)) else (some false)) else (some false))) = some r := H
                                have A44 := Aside0.mk A440
                                clear A440
                                replace H := Option.bind_eq_some_iff.mp H
                                obtain ⟨t237, A450, H⟩ := H
                                replace H : (if t237 = 0 then (if t235 = (wrap64 (2 * t200)) then ((grafterref1_FixMay.f t235).bind fun t238 => (some t238)) else (some false)) else (some false)) = some r := H
                                have A45 := Aside0.mk A450
                                clear A450
                                by_cases c46 : t237 = 0
                                · rw [if_pos c46] at H
                                  have c46b0 : (t237 == 0) = true := beq_iff_eq.mpr c46
                                  have c46b1 : (t237 != 0) = false := bne_eq_false_iff_eq.mpr c46
                                  clear c46
                                  by_cases c47 : t235 = (wrap64 (2 * t200))
                                  · rw [if_pos c47] at H
                                    have c47b0 : (t235 == (wrap64 (2 * t200))) = true := beq_iff_eq.mpr c47
                                    (try have c47b4 : (t235 == (2 * t200)) = true := by (have h_ := beq_iff_eq.mp c47b0; unfold wrap64 at h_; exact beq_iff_eq.mpr (by omega)))
                                    have c47b1 : (t235 != (wrap64 (2 * t200))) = false := bne_eq_false_iff_eq.mpr c47
                                    clear c47
                                    replace H := Option.bind_eq_some_iff.mp H
                                    obtain ⟨t238, A480, H⟩ := H
                                    replace H : (some t238) = some r := H
                                    have A48 := Aside0.mk A480
                                    clear A480
                                    obtain rfl := Option.some.inj H
                                    go_wp2_with (first | ((with_reducible refine gate_dst (N := 82) rfl ?_); (try (refine gate_guard (by rfl) ?_; dsimp only)); refine Kd.N_lit k35 _ 35 ?hg (N' := 82) ?hd (xs := ([] : List (S35))) (inner := []) (ok := (fun k_ => (P2_ k_ ∨ w.heap.size ≤ k_) ∧ k_ ≠ gb198)) (okp := (fun k_ => (P2_ k_ ∨ w.heap.size ≤ k_) ∧ k_ ≠ gb198)) ?hr ?hp (fun _ hk => hk) ((show ∀ k_, wc.heap.size ≤ k_ → (fun k_ => (P2_ k_ ∨ w.heap.size ≤ k_) ∧ k_ ≠ gb198) k_ from fun k_ hk => ⟨(.inr (Nat.le_trans (below_size (by repeat (first | (with_reducible first | exact HB.out | apply below_alloc | apply pw_below_drewN | apply below_drew1 | refine below_set ?_ GE198.out) | exact HB.out))) hk)), Kd.freshB (g := gb198) (o := .cells #[.int .i64 a0_0, .int .i64 a0_1] 23 (0, 0)) (by (with_reducible repeat (first | refine blk_drewN ?_ _ | refine blk_drew ?_ | refine blk_alloc ?_ _)); exact BK198.out) k_ hk⟩) _ (Nat.le_refl _)) (Below.refl _ _) (Nat.le_refl _) (by simp) ?_; (case hd => rfl); (case hg => rfl); (case hr => first | (go_simp; done) | (go_simp; rfl)); (case hp => exact (Reps.none _ _)); intro v227 w49 ho50 hb hg_ hnew_; clear hg_ hnew_; (first | rw [← Ny226.out] at ho50 | (simp only [Int.reduceToNat] at ho50; rw [← Ny226.out] at ho50)); have n0_ := Aside0.mk (Kd.V_elder' (by (with_reducible repeat (first | apply Kd.V_alloc | apply Kd.V_drewN | apply Kd.V_drew)); exact HO_2.out) (Kd.N_base ho50) hb); have n1_ := Aside0.mk (Kd.N_lower ho50 (below_size (by repeat (first | (with_reducible first | exact HB.out | apply below_alloc | apply pw_below_drewN | apply below_drew1 | refine below_set ?_ GE198.out) | exact HB.out)))); have n2_ := Aside0.mk (blk_below (g := gb198) (o := .cells #[.int .i64 a0_0, .int .i64 a0_1] 23 (0, 0)) (by (with_reducible repeat (first | refine blk_drewN ?_ _ | refine blk_drew ?_ | refine blk_alloc ?_ _)); exact BK198.out) hb); have n3_ := Aside0.mk (below_step (by repeat (first | (with_reducible first | exact HB.out | apply below_alloc | apply pw_below_drewN | apply below_drew1 | refine below_set ?_ GE198.out) | exact HB.out)) hb); clear HO_2; clear BK198; clear HB; have HO_2 := n0_; have HO228 := n1_; have BK198 := n2_; have HB := n3_; clear n0_ n1_ n2_ n3_; clear hb ho50) | ((with_reducible refine gate_builtin (b := .append) (xs := #[.tmp 82, .tmp 83]) rfl ?_); (try (refine gate_guard (by rfl) ?_; dsimp only)); at_builtin; refine Kd.N_append_rows k35 (w0 := w) w.heap.size rfl (.tmp 82) (.tmp 83) 24 35 (.agg #[(.slice none 0 0), (.int .i64 0)]) 32 rfl Try.underlying24 info35 rfl (by decide) (by omega) v227 y226 l2 _ _ _ (fun k_ => (P2_ k_ ∨ w.heap.size ≤ k_) ∧ k_ ≠ gb198) (fun k_ => ((fun k_ => (P2_ k_ ∨ w.heap.size ≤ k_) ∧ k_ ≠ gb198)) k_ ∧ some k_ ≠ (v227 : Value).ownBlock) rfl rfl ?aO ?aR (fun _ hk => hk) ?aF ?aB ?aS ?aL ?_; (case aR => exact (by skip; exact Kd.V_F (Kd.V_mono (ok' := (fun k_ => ((fun k_ => (P2_ k_ ∨ w.heap.size ≤ k_) ∧ k_ ≠ gb198)) k_ ∧ some k_ ≠ (v227 : Value).ownBlock)) (HO_2.out) (fun k_ hk => ⟨⟨hk.1.1, hk.1.2⟩, hk.2⟩)))); (case aB => exact (by repeat (first | (with_reducible first | exact HB.out | apply below_alloc | apply pw_below_drewN | apply below_drew1 | refine below_set ?_ GE198.out) | exact HB.out))); (case aF => exact (fun k_ hk => ⟨(.inr (Nat.le_trans (below_size (by repeat (first | (with_reducible first | exact HB.out | apply below_alloc | apply pw_below_drewN | apply below_drew1 | refine below_set ?_ GE198.out) | exact HB.out))) hk)), Kd.freshB (g := gb198) (o := .cells #[.int .i64 a0_0, .int .i64 a0_1] 23 (0, 0)) (by (with_reducible repeat (first | refine blk_drewN ?_ _ | refine blk_drew ?_ | refine blk_alloc ?_ _)); exact BK198.out) k_ hk⟩)); (case aO => exact (by (with_reducible repeat (first | apply Kd.N_alloc | apply Kd.N_drewN | apply Kd.N_drew)); exact HO228.out)); (case aS => exact (below_size (by repeat (first | (with_reducible first | exact HB.out | apply below_alloc | apply pw_below_drewN | apply below_drew1 | refine below_set ?_ GE198.out) | exact HB.out)))); (case aL => have := LMc42.out; omega); intro v230 w51 ho hb hg hat; rw [← Ny229.out] at ho; have n0_ := Aside0.mk (Kd.V_afterv (ok := (fun k_ => (P2_ k_ ∨ w.heap.size ≤ k_) ∧ k_ ≠ gb198)) (by (with_reducible repeat (first | apply Kd.V_alloc | apply Kd.V_drewN | apply Kd.V_drew)); exact HO_2.out) hg hat); have n1_ := Aside0.mk (blk_grown (g := gb198) (o := .cells #[.int .i64 a0_0, .int .i64 a0_1] 23 (0, 0)) (by (with_reducible repeat (first | refine blk_drewN ?_ _ | refine blk_drew ?_ | refine blk_alloc ?_ _)); exact BK198.out) hg (Kd.N_ne HO228.out BK198.out (by decide))); have n2_ := Aside0.mk (hb); have n3_ := Aside0.mk (ho); clear HO_2; clear BK198; clear HB; clear HO228; have HO_2 := n0_; have BK198 := n1_; have HB := n2_; have HO231 := n3_; clear n0_ n1_ n2_ n3_; clear ho hb hg hat) | ((with_reducible refine gate_builtin (b := .append) (xs := #[.tmp 85, .tmp 86]) rfl ?_); (try (refine gate_guard (by rfl) ?_; dsimp only)); at_builtin; refine Kd.N_append_rows k35 (w0 := w) w.heap.size rfl (.tmp 85) (.tmp 86) 24 35 (.agg #[(.slice none 0 0), (.int .i64 0)]) 32 rfl Try.underlying24 info35 rfl (by decide) (by omega) v230 y229 l2 _ _ _ (fun k_ => (P2_ k_ ∨ w.heap.size ≤ k_) ∧ k_ ≠ gb198) (fun k_ => ((fun k_ => (P2_ k_ ∨ w.heap.size ≤ k_) ∧ k_ ≠ gb198)) k_ ∧ some k_ ≠ (v230 : Value).ownBlock) rfl rfl ?aO ?aR (fun _ hk => hk) ?aF ?aB ?aS ?aL ?_; (case aR => exact (by skip; exact Kd.V_F (Kd.V_mono (ok' := (fun k_ => ((fun k_ => (P2_ k_ ∨ w.heap.size ≤ k_) ∧ k_ ≠ gb198)) k_ ∧ some k_ ≠ (v230 : Value).ownBlock)) (HO_2.out) (fun k_ hk => ⟨⟨hk.1.1, hk.1.2⟩, hk.2⟩)))); (case aB => exact (by repeat (first | (with_reducible first | exact HB.out | apply below_alloc | apply pw_below_drewN | apply below_drew1 | refine below_set ?_ GE198.out) | exact HB.out))); (case aF => exact (fun k_ hk => ⟨(.inr (Nat.le_trans (below_size (by repeat (first | (with_reducible first | exact HB.out | apply below_alloc | apply pw_below_drewN | apply below_drew1 | refine below_set ?_ GE198.out) | exact HB.out))) hk)), Kd.freshB (g := gb198) (o := .cells #[.int .i64 a0_0, .int .i64 a0_1] 23 (0, 0)) (by (with_reducible repeat (first | refine blk_drewN ?_ _ | refine blk_drew ?_ | refine blk_alloc ?_ _)); exact BK198.out) k_ hk⟩)); (case aO => exact (by (with_reducible repeat (first | apply Kd.N_alloc | apply Kd.N_drewN | apply Kd.N_drew)); exact HO231.out)); (case aS => exact (below_size (by repeat (first | (with_reducible first | exact HB.out | apply below_alloc | apply pw_below_drewN | apply below_drew1 | refine below_set ?_ GE198.out) | exact HB.out)))); (case aL => have := LMc43.out; omega); intro v233 w52 ho hb hg hat; rw [← Ny232.out] at ho; have n0_ := Aside0.mk (Kd.V_afterv (ok := (fun k_ => (P2_ k_ ∨ w.heap.size ≤ k_) ∧ k_ ≠ gb198)) (by (with_reducible repeat (first | apply Kd.V_alloc | apply Kd.V_drewN | apply Kd.V_drew)); exact HO_2.out) hg hat); have n1_ := Aside0.mk (blk_grown (g := gb198) (o := .cells #[.int .i64 a0_0, .int .i64 a0_1] 23 (0, 0)) (by (with_reducible repeat (first | refine blk_drewN ?_ _ | refine blk_drew ?_ | refine blk_alloc ?_ _)); exact BK198.out) hg (Kd.N_ne HO231.out BK198.out (by decide))); have n2_ := Aside0.mk (hb); have n3_ := Aside0.mk (ho); clear HO_2; clear BK198; clear HB; clear HO231; have HO_2 := n0_; have BK198 := n1_; have HB := n2_; have HO234 := n3_; clear n0_ n1_ n2_ n3_; clear ho hb hg hat; have hcz53_0 : w52.cell? ⟨gb198, 0, none⟩ = some (.int .i64 a0_0) := (blk_cell BK198.out 0).trans rfl; have hcz53_1 : w52.cell? ⟨gb198, 1, none⟩ = some (.int .i64 a0_1) := (blk_cell BK198.out 1).trans rfl; have hfz53_0 := blk_frozen BK198.out 0; have hfz53_1 := blk_frozen BK198.out 1; obtain ⟨Ao54, co54, eo54⟩ := Kd.N_slice HO234.out; subst eo54) | ((with_reducible refine gate_callee (f := 25) rfl ?_); refine goesL_ (some 92) rfl rfl Try.func25 (by kernel_rfl) rfl #[.agg #[.int .i64 a0_0, .int .i64 a0_1], .slice A1 l1.length c1, .slice Ao54 y232.length co54] rfl (by (try simp only [List.map_toArray, List.map_cons, List.map_nil]); first | done | rfl | (simp only [List.length_drop, List.length_take]; rfl)) ?_; (with_reducible refine (loss_Of.calls kj27 a0_0 a0_1 _ _ l1 _ _ y232 t235 t236 _ ?side1 ?side2 ?side3 ?side4 A44.out).mono ?_); (case side1 => repeat (first | (with_reducible refine Kd.C_alloc ?_ _) | (with_reducible refine Kd.C_drewN ?_ _) | (with_reducible refine Kd.C_drew ?_) | exact (Kd.C_below HR1.out HB.out))); (case side2 => exact HC1.out); (case side3 => repeat (first | (with_reducible refine Kd.C_alloc ?_ _) | (with_reducible refine Kd.C_drewN ?_ _) | (with_reducible refine Kd.C_drew ?_) | exact (Kd.N_reads' HO234.out).2.2)); (case side4 => exact (Kd.N_reads' HO234.out).2.1); rintro e w55 ⟨rfl, hb⟩; refine ⟨_, rfl, ?_⟩; have n0_ := Aside0.mk (Kd.V_below (by (with_reducible repeat (first | apply Kd.V_alloc | apply Kd.V_drewN | apply Kd.V_drew)); exact HO_2.out) hb); have n1_ := Aside0.mk (Kd.N_below (by (with_reducible repeat (first | apply Kd.N_alloc | apply Kd.N_drewN | apply Kd.N_drew)); exact HO234.out) hb); have n2_ := Aside0.mk (blk_below (g := gb198) (o := .cells #[.int .i64 a0_0, .int .i64 a0_1] 23 (0, 0)) (by (with_reducible repeat (first | refine blk_drewN ?_ _ | refine blk_drew ?_ | refine blk_alloc ?_ _)); exact BK198.out) hb); have n3_ := Aside0.mk (below_step (by repeat (first | (with_reducible first | exact HB.out | apply below_alloc | apply pw_below_drewN | apply below_drew1 | refine below_set ?_ GE198.out) | exact HB.out)) hb); clear HO_2; clear HO234; clear BK198; clear HB; have HO_2 := n0_; have HO234 := n1_; have BK198 := n2_; have HB := n3_; clear n0_ n1_ n2_ n3_; (try clear hb); (try clear hb2); (try clear hk); (try clear hi)) | ((with_reducible refine gate_callee (f := 22) rfl ?_); refine goesL_ (some 96) rfl rfl Try.func22 (by kernel_rfl) rfl #[.int .i64 t236] rfl (by (try simp only [List.map_toArray, List.map_cons, List.map_nil]); first | done | rfl | (simp only [List.length_drop, List.length_take]; rfl)) ?_; (with_reducible refine (grafterlaw0_Num.calls t236 t237 _ A45.out).mono ?_); rintro e w' ⟨rfl, ⟨nd, rfl⟩⟩; refine ⟨_, rfl, ?_⟩) | (go_at_call 34; (with_reducible refine (grafterref1_FixMay.calls t235 t238 _ A48.out).mono ?_); rintro e w' ⟨rfl, ⟨nd, rfl⟩⟩))
                                    all_goals go_ret
                                    all_goals exact ⟨by first | (simp only [← hji20_]; split <;> first | (exfalso; omega) | (simp [ByteArray.extract_zero_size]; done) | (simp [ByteArray.extract_zero_size, *]; done)) | rfl | (simp [errW_none, errW_some] <;> rfl) | (simp only [← hji20]; first | rfl | (simp [errW_none, errW_some] <;> rfl)) | (simp [*, errW_none, errW_some] <;> rfl), by repeat (first | (with_reducible first | exact HB.out | apply below_alloc | apply pw_below_drewN | apply below_drew1 | refine below_set ?_ GE198.out) | exact HB.out)⟩
                                  · rw [if_neg c47] at H
                                    have c47b0 : (t235 == (wrap64 (2 * t200))) = false := beq_eq_false_iff_ne.mpr c47
                                    (try have c47b4 : (t235 == (2 * t200)) = false := by (have h_ := beq_eq_false_iff_ne.mp c47b0; unfold wrap64 at h_; exact beq_eq_false_iff_ne.mpr (by omega)))
                                    have c47b1 : (t235 != (wrap64 (2 * t200))) = true := bne_iff_ne.mpr c47
                                    exact absurd ((Option.some.inj H).trans HRT.out) Bool.false_ne_true
                                · rw [if_neg c46] at H
                                  have c46b0 : (t237 == 0) = false := beq_eq_false_iff_ne.mpr c46
                                  have c46b1 : (t237 != 0) = true := bne_iff_ne.mpr c46
                                  exact absurd ((Option.some.inj H).trans HRT.out) Bool.false_ne_true
                              · rw [if_neg c43] at H
                                exact absurd H (by simp)
                            · rw [if_neg c42] at H
                              exact absurd H (by simp)
                  · rw [if_neg c26] at H
                    exact absurd H (by simp)
                · rw [if_neg c23] at H
                  exact absurd H (by simp)
              · rw [if_neg c22] at H
                exact absurd H (by simp)
            · rw [if_neg c21] at H
              exact absurd H (by simp)
  · replace c6 := Bool.eq_false_iff.mpr c6
    subst c6
    have H1 : (some false) = some r := by rw [if_neg (show ¬ (false = true) by decide)] at H; exact H
    clear H
    have H := H1
    clear H1
    exact absurd ((Option.some.inj H).trans HRT.out) Bool.false_ne_true

def grafterlaw10_LossRow.Pure : Prop := ∀ (a0_0 : Int) (a0_1 : Int) (l1 : (List Int)) (l2 : (List S35)) (a3 : Int), (Lit.int .i64 a0_0).wf = true → (Lit.int .i64 a0_1).wf = true → l1.length ≤ maxLen → l1.length * 8 ≤ 140737488351232 → (∀ y0 ∈ l1, (Lit.int .i64 y0).wf = true) → l2.length ≤ maxLen → l2.length * 32 ≤ 140737488351232 → (∀ y0 ∈ l2, ((y0.f0.length ≤ maxLen ∧ y0.f0.length * 8 ≤ 140737488351232 ∧ ∀ y1 ∈ y0.f0, (Lit.int .i64 y1).wf = true) ∧ (Lit.int .i64 y0.f1).wf = true)) → (Lit.int .i64 a3).wf = true → ∃ k, grafterlaw10_LossRow.f k a0_0 a0_1 l1 l2 a3 = some true
theorem grafterlaw10_LossRow.walk (P : grafterlaw10_LossRow.Pure) (a0_0 : Int) (a0_1 : Int) (A1 : Option Addr) (c1 : Nat) (l1 : (List Int)) (A2 : Option Addr) (c2 : Nat) (l2 : (List S35)) (a3 : Int) (w : World) (w0_0_0 : (Lit.int .i64 a0_0).wf = true) (w0_1_0 : (Lit.int .i64 a0_1).wf = true) (hr1 : Kd.C (Kd.int .i64) w A1 l1.length l1) (hc1 : l1.length ≤ c1) (w1_0 : l1.length ≤ maxLen) (w1_1 : l1.length * 8 ≤ 140737488351232) (w1_2 : (∀ y0 ∈ l1, (Lit.int .i64 y0).wf = true)) (hr2 : Kd.C k35 w A2 l2.length l2) (hc2 : l2.length ≤ c2) (w2_0 : l2.length ≤ maxLen) (w2_1 : l2.length * 32 ≤ 140737488351232) (w2_2 : (∀ y0 ∈ l2, ((y0.f0.length ≤ maxLen ∧ y0.f0.length * 8 ≤ 140737488351232 ∧ ∀ y1 ∈ y0.f0, (Lit.int .i64 y1).wf = true) ∧ (Lit.int .i64 y0.f1).wf = true))) (w3_0 : (Lit.int .i64 a3).wf = true) :
    Calls Try.prog 10 #[.agg #[.int .i64 a0_0, .int .i64 a0_1], .slice A1 l1.length c1, .slice A2 l2.length c2, .int .i64 a3] w fun e w' => e = .returned (.bool true) ∧ Below w.heap.size w w' := by
  obtain ⟨k, h⟩ := P a0_0 a0_1 l1 l2 a3 w0_0_0 w0_1_0 w1_0 w1_1 w1_2 w2_0 w2_1 w2_2 w3_0
  refine (grafterlaw10_LossRow.calls k a0_0 a0_1 _ _ l1 (fun k_ => k_ < w.heap.size) _ _ l2 a3 true w rfl hr1 hc1 (Kd.V_mk hc2 (Kd.C_F (Kd.heap_iso _ (Kd.heap_pair (Kd.heap_slice 3 (Kd.heap_int .i64)) (Kd.heap_int .i64))) hr2)) h).mono ?_
  rintro e w' ⟨rfl, hd⟩
  exact ⟨rfl, hd⟩

end Go.Proofs.Ytdgbfgnmeoihiaa.PLossRow
