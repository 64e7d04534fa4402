-- Written by a program of this session (pprint.py) out of the translation, with hand-proved walks pasted in.
import Derived.Test.YtnhlinniodmnjaaPOptimPlacex0
import Derived.Test.YtnhlinniodmnjaaPOptimPlacex1
import Derived.Test.YtnhlinniodmnjaaPOptimPlacex2
import Derived.Test.YtnhlinniodmnjaaPOptimPlacex3
namespace Go.Proofs.Ytnhlinniodmnjaa.POptimPlace
open Go.RowKit Go.Proofs.YtnhlinniodmnjaaW.PrintWords Go.Proofs.YtnhlinniodmnjaaW.PrintLast Go.Proofs.YtnhlinniodmnjaaW.PrintMore
attribute [local go_sem] max2_int min2_int max_two min_two max_three min_three max_four min_four   -- for this text's walks alone
set_option linter.unusedVariables false
set_option linter.unusedSimpArgs false

/-! ### grafterlaw8_OptimPlace: function 12 -/
mutual
def grafterlaw8_OptimPlace.j0 : Nat → List Int → List Int → List Int → List Int → List Int → Int → Bool → Int → Int → Option (Bool)
  | 0, _, _, _, _, _, _, _, _, _ => none
  | k + 1, x0, x1, x2, x9, x10, x11, x57, x186000, x186001 => if x57 = true then ((grafterlaw0_Num.f x11).bind fun t195 => (if t195 = 800 then (some ((wrap64 ((x9.length : Int) + (x10.length : Int))) == 0)) else (some false))) else (grafterlaw8_OptimPlace.l0 k x0 x1 x2 x9 x10 0 x186000 x186001)
def grafterlaw8_OptimPlace.l0 : Nat → List Int → List Int → List Int → List Int → List Int → Int → Int → Int → Option (Bool)
  | 0, _, _, _, _, _, _, _, _ => none
  | k + 1, x0, x1, x2, x9, x10, x12, x186000, x186001 => if x12 < (x0.length : Int) then (if 0 ≤ x12 then (if x12 < (x1.length : Int) then (if x12 < (x2.length : Int) then ((optim_Step.f k (([rd x0 x12] : List Int)) (([rd x1 x12] : List Int)) (([rd x2 x12] : List Int)) x186000 x186001).bind fun bt208 => ((grafterlaw0_Num.f bt208.2.2).bind fun t215 => (if t215 = 0 then (if x12 < (x9.length : Int) then ((grafterlaw0_SameInts.f k bt208.1 (([rd x9 x12] : List Int))).bind fun t220 => (if t220 = true then (if x12 < (x10.length : Int) then ((grafterlaw0_SameInts.f k bt208.2.1 (([rd x10 x12] : List Int))).bind fun t225 => (if t225 = true then ((grafterref1_FixMay.f (rd x9 x12)).bind fun t227 => (if t227 = true then ((grafterref1_FixMay.f (rd x10 x12)).bind fun t229 => (if t229 = true then (grafterlaw8_OptimPlace.l0 k x0 x1 x2 x9 x10 (wrap64 (x12 + 1)) x186000 x186001) else (some false))) else (some false))) else (some false))) else (none)) else (some false))) else (none)) else (some false)))) else (none)) else (none)) else (none)) else (some true)
end
def grafterlaw8_OptimPlace.f (k : Nat) (l0 : List Int) (l1 : List Int) (l2 : List Int) (a3_0 : Int) (a3_1 : Int) : Option (Bool) := (grafterlaw8_awake.f k).bind fun t186 => (if t186 = true then ((optim_Step.f k l0 l1 l2 a3_0 a3_1).bind fun bt187 => ((grafterlaw0_Num.f bt187.2.2).bind fun t194 => (if t194 = 0 then (if (bt187.1.length : Int) = (l0.length : Int) then (if (bt187.2.1.length : Int) = (l0.length : Int) then (if (l1.length : Int) = (l0.length : Int) then (grafterlaw8_OptimPlace.j0 k l0 l1 l2 bt187.1 bt187.2.1 bt187.2.2 ((l2.length : Int) != (l0.length : Int)) a3_0 a3_1) else (grafterlaw8_OptimPlace.j0 k l0 l1 l2 bt187.1 bt187.2.1 bt187.2.2 true a3_0 a3_1)) else (grafterlaw8_OptimPlace.j0 k l0 l1 l2 bt187.1 bt187.2.1 bt187.2.2 true a3_0 a3_1)) else (grafterlaw8_OptimPlace.j0 k l0 l1 l2 bt187.1 bt187.2.1 bt187.2.2 true a3_0 a3_1)) else (grafterlaw8_OptimPlace.j0 k l0 l1 l2 bt187.1 bt187.2.1 bt187.2.2 true a3_0 a3_1)))) else (some false))
theorem grafterlaw8_OptimPlace.mono_l : ∀ k, (∀ y0 y1 y2 y3 y4 y5 y6 y7 y8, LeO (grafterlaw8_OptimPlace.j0 k y0 y1 y2 y3 y4 y5 y6 y7 y8) (grafterlaw8_OptimPlace.j0 (k + 1) y0 y1 y2 y3 y4 y5 y6 y7 y8)) ∧ (∀ y0 y1 y2 y3 y4 y5 y6 y7, LeO (grafterlaw8_OptimPlace.l0 k y0 y1 y2 y3 y4 y5 y6 y7) (grafterlaw8_OptimPlace.l0 (k + 1) y0 y1 y2 y3 y4 y5 y6 y7))
  | 0 => ⟨fun _ _ _ _ _ _ _ _ _ r h => by simp [grafterlaw8_OptimPlace.j0] at h, fun _ _ _ _ _ _ _ _ r h => by simp [grafterlaw8_OptimPlace.l0] at h⟩
  | k + 1 => by
    obtain ⟨ih0, ih1⟩ := grafterlaw8_OptimPlace.mono_l k
    refine ⟨?_, ?_⟩
    · intro y0 y1 y2 y3 y4 y5 y6 y7 y8
      unfold grafterlaw8_OptimPlace.j0
      repeat' first
      | (with_reducible exact ih0 _ _ _ _ _ _ _ _ _)
      | (with_reducible exact ih1 _ _ _ _ _ _ _ _)
      | (with_reducible exact grafterlaw0_SameInts.mono _ _ _)
      | (with_reducible exact grafterlaw8_awake.mono _)
      | (with_reducible exact optim_Step.mono _ _ _ _ _ _)
      | (with_reducible exact LeO.refl _)
      | (with_reducible exact LeO.none _)
      | (with_reducible refine LeO.ite ?_ ?_)
      | (with_reducible refine LeO.bind ?_ (fun _ => ?_))
      | exact ih0 _ _ _ _ _ _ _ _ _
      | exact ih1 _ _ _ _ _ _ _ _
      | exact grafterlaw0_SameInts.mono _ _ _
      | exact grafterlaw8_awake.mono _
      | exact optim_Step.mono _ _ _ _ _ _
      | exact LeO.none _
      | refine LeO.ite ?_ ?_
      | refine LeO.bind ?_ (fun _ => ?_)
    · intro y0 y1 y2 y3 y4 y5 y6 y7
      unfold grafterlaw8_OptimPlace.l0
      repeat' first
      | (with_reducible exact ih0 _ _ _ _ _ _ _ _ _)
      | (with_reducible exact ih1 _ _ _ _ _ _ _ _)
      | (with_reducible exact grafterlaw0_SameInts.mono _ _ _)
      | (with_reducible exact grafterlaw8_awake.mono _)
      | (with_reducible exact optim_Step.mono _ _ _ _ _ _)
      | (with_reducible exact LeO.refl _)
      | (with_reducible exact LeO.none _)
      | (with_reducible refine LeO.ite ?_ ?_)
      | (with_reducible refine LeO.bind ?_ (fun _ => ?_))
      | exact ih0 _ _ _ _ _ _ _ _ _
      | exact ih1 _ _ _ _ _ _ _ _
      | exact grafterlaw0_SameInts.mono _ _ _
      | exact grafterlaw8_awake.mono _
      | exact optim_Step.mono _ _ _ _ _ _
      | exact LeO.none _
      | refine LeO.ite ?_ ?_
      | refine LeO.bind ?_ (fun _ => ?_)
theorem grafterlaw8_OptimPlace.mono : ∀ a0 a1 a2 a3 a4 k, LeO (grafterlaw8_OptimPlace.f k a0 a1 a2 a3 a4) (grafterlaw8_OptimPlace.f (k + 1) a0 a1 a2 a3 a4) := by
  intro a0 a1 a2 a3 a4 k
  obtain ⟨ih0, ih1⟩ := grafterlaw8_OptimPlace.mono_l k
  unfold grafterlaw8_OptimPlace.f
  repeat' first
      | (with_reducible exact ih0 _ _ _ _ _ _ _ _ _)
      | (with_reducible exact ih1 _ _ _ _ _ _ _ _)
      | (with_reducible exact grafterlaw0_SameInts.mono _ _ _)
      | (with_reducible exact grafterlaw8_awake.mono _)
      | (with_reducible exact optim_Step.mono _ _ _ _ _ _)
      | (with_reducible exact LeO.refl _)
      | (with_reducible exact LeO.none _)
      | (with_reducible refine LeO.ite ?_ ?_)
      | (with_reducible refine LeO.bind ?_ (fun _ => ?_))
      | exact ih0 _ _ _ _ _ _ _ _ _
      | exact ih1 _ _ _ _ _ _ _ _
      | exact grafterlaw0_SameInts.mono _ _ _
      | exact grafterlaw8_awake.mono _
      | exact optim_Step.mono _ _ _ _ _ _
      | exact LeO.none _
      | refine LeO.ite ?_ ?_
      | refine LeO.bind ?_ (fun _ => ?_)
def grafterlaw8_OptimPlace.T9 : Bool × List (List Nat × List Nat) := (true, [([], []), ([], []), ([0, 1], [0, 1]), ([2], [2]), ([3], [3]), ([], []), ([], []), ([5, 6], [5, 6]), ([7], [7]), ([8], [8]), ([], []), ([], []), ([10, 11], [10, 11]), ([12], [12]), ([13], [13]), ([], []), ([4, 9, 14, 15], [4, 9, 14, 15]), ([16], [16]), ([17], [17]), ([17], [17]), ([17], [17]), ([18, 16, 0, 1, 2, 3, 4, 5, 6, 7, 8, 9, 10, 11, 12, 13, 14, 15, 16, 17, 18], [18]), ([19, 21, 0, 1, 2, 3, 4, 5, 6, 7, 8, 9, 10, 11, 12, 13, 14, 15, 16, 17, 18, 19, 21], [19]), ([20, 22, 0, 1, 2, 3, 4, 5, 6, 7, 8, 9, 10, 11, 12, 13, 14, 15, 16, 17, 18, 19, 20, 21, 22], [20])])
def grafterlaw8_OptimPlace.B9 : List Nat := [0, 0, 3, 7, 15, 0, 0, 96, 224, 480, 0, 0, 3072, 7168, 15360, 0, 65535, 131071, 262143, 262143, 262143, 524287, 3145727, 8388607]
theorem grafterlaw8_OptimPlace.tab9 : rtab .any (opsOf Try.f12 9) = grafterlaw8_OptimPlace.T9 := by kernel_rfl
theorem grafterlaw8_OptimPlace.bits9 : waitsOk grafterlaw8_OptimPlace.T9.2 grafterlaw8_OptimPlace.B9 = true := by kernel_rfl
set_option maxHeartbeats 8000000 in
set_option maxRecDepth 100000 in
theorem grafterlaw8_OptimPlace.calls (k : Nat) (A0 : Option Addr) (c0 : Nat) (l0 : List Int) (A1 : Option Addr) (c1 : Nat) (l1 : List Int) (A2 : Option Addr) (c2 : Nat) (l2 : List Int) (a3_0 : Int) (a3_1 : Int) (r : Bool) (w : World) (hrt : r = true) (hr0 : Kd.C (Kd.int .i64) w A0 l0.length l0) (hc0 : l0.length ≤ c0) (hr1 : Kd.C (Kd.int .i64) w A1 l1.length l1) (hc1 : l1.length ≤ c1) (hr2 : Kd.C (Kd.int .i64) w A2 l2.length l2) (hc2 : l2.length ≤ c2) (h : grafterlaw8_OptimPlace.f k l0 l1 l2 a3_0 a3_1 = some r) :
    Calls Try.prog 12 #[.slice A0 l0.length c0, .slice A1 l1.length c1, .slice A2 l2.length c2, .agg #[.int .i64 a3_0, .int .i64 a3_1]] w fun e w' => e = .returned (.bool r) ∧ Below w.heap.size w w' := by
  have HRT := Aside0.mk hrt
  clear hrt
  have hu46 := Try.underlying46
  have HR0 := Aside0.mk hr0
  have HC0 := Aside0.mk hc0
  clear hr0 hc0
  have HR1 := Aside0.mk hr1
  have HC1 := Aside0.mk hc1
  clear hr1 hc1
  have HR2 := Aside0.mk hr2
  have HC2 := Aside0.mk hc2
  clear hr2 hc2
  have HB := Aside0.mk (Below.refl w.heap.size w)
  have H : ((grafterlaw8_awake.f k).bind fun t186 => (if t186 = true then ((optim_Step.f k l0 l1 l2 a3_0 a3_1).bind fun bt187 => ((grafterlaw0_Num.f bt187.2.2).bind fun t194 => (if t194 = 0 then (if (bt187.1.length : Int) = (l0.length : Int) then (if (bt187.2.1.length : Int) = (l0.length : Int) then (if (l1.length : Int) = (l0.length : Int) then (grafterlaw8_OptimPlace.j0 k l0 l1 l2 bt187.1 bt187.2.1 bt187.2.2 ((l2.length : Int) != (l0.length : Int)) a3_0 a3_1) else (grafterlaw8_OptimPlace.j0 k l0 l1 l2 bt187.1 bt187.2.1 bt187.2.2 true a3_0 a3_1)) else (grafterlaw8_OptimPlace.j0 k l0 l1 l2 bt187.1 bt187.2.1 bt187.2.2 true a3_0 a3_1)) else (grafterlaw8_OptimPlace.j0 k l0 l1 l2 bt187.1 bt187.2.1 bt187.2.2 true a3_0 a3_1)) else (grafterlaw8_OptimPlace.j0 k l0 l1 l2 bt187.1 bt187.2.1 bt187.2.2 true a3_0 a3_1)))) else (some false))) = some r := h
  clear h
  replace H := Option.bind_eq_some_iff.mp H
  obtain ⟨t186, A50, H⟩ := H
  replace H : (if t186 = true then ((optim_Step.f k l0 l1 l2 a3_0 a3_1).bind fun bt187 => ((grafterlaw0_Num.f bt187.2.2).bind fun t194 => (if t194 = 0 then (if (bt187.1.length : Int) = (l0.length : Int) then (if (bt187.2.1.length : Int) = (l0.length : Int) then (if (l1.length : Int) = (l0.length : Int) then (grafterlaw8_OptimPlace.j0 k l0 l1 l2 bt187.1 bt187.2.1 bt187.2.2 ((l2.length : Int) != (l0.length : Int)) a3_0 a3_1) else (grafterlaw8_OptimPlace.j0 k l0 l1 l2 bt187.1 bt187.2.1 bt187.2.2 true a3_0 a3_1)) else (grafterlaw8_OptimPlace.j0 k l0 l1 l2 bt187.1 bt187.2.1 bt187.2.2 true a3_0 a3_1)) else (grafterlaw8_OptimPlace.j0 k l0 l1 l2 bt187.1 bt187.2.1 bt187.2.2 true a3_0 a3_1)) else (grafterlaw8_OptimPlace.j0 k l0 l1 l2 bt187.1 bt187.2.1 bt187.2.2 true a3_0 a3_1)))) else (some false)) = some r := H
  have A5 := Aside0.mk A50
  clear A50
  by_cases c6 : t186 = true
  · subst c6
    have H1 : ((optim_Step.f k l0 l1 l2 a3_0 a3_1).bind fun bt187 => ((grafterlaw0_Num.f bt187.2.2).bind fun t194 => (if t194 = 0 then (if (bt187.1.length : Int) = (l0.length : Int) then (if (bt187.2.1.length : Int) = (l0.length : Int) then (if (l1.length : Int) = (l0.length : Int) then (grafterlaw8_OptimPlace.j0 k l0 l1 l2 bt187.1 bt187.2.1 bt187.2.2 ((l2.length : Int) != (l0.length : Int)) a3_0 a3_1) else (grafterlaw8_OptimPlace.j0 k l0 l1 l2 bt187.1 bt187.2.1 bt187.2.2 true a3_0 a3_1)) else (grafterlaw8_OptimPlace.j0 k l0 l1 l2 bt187.1 bt187.2.1 bt187.2.2 true a3_0 a3_1)) else (grafterlaw8_OptimPlace.j0 k l0 l1 l2 bt187.1 bt187.2.1 bt187.2.2 true a3_0 a3_1)) else (grafterlaw8_OptimPlace.j0 k l0 l1 l2 bt187.1 bt187.2.1 bt187.2.2 true a3_0 a3_1)))) = some r := by rw [if_pos rfl] at H; exact H
    clear H
    have H := H1
    clear H1
    replace H := Option.bind_eq_some_iff.mp H
    obtain ⟨⟨t187, t190, t193⟩, A70, H⟩ := H
    replace H : ((grafterlaw0_Num.f t193).bind fun t194 => (if t194 = 0 then (if (t187.length : Int) = (l0.length : Int) then (if (t190.length : Int) = (l0.length : Int) then (if (l1.length : Int) = (l0.length : Int) then (grafterlaw8_OptimPlace.j0 k l0 l1 l2 t187 t190 t193 ((l2.length : Int) != (l0.length : Int)) a3_0 a3_1) else (grafterlaw8_OptimPlace.j0 k l0 l1 l2 t187 t190 t193 true a3_0 a3_1)) else (grafterlaw8_OptimPlace.j0 k l0 l1 l2 t187 t190 t193 true a3_0 a3_1)) else (grafterlaw8_OptimPlace.j0 k l0 l1 l2 t187 t190 t193 true a3_0 a3_1)) else (grafterlaw8_OptimPlace.j0 k l0 l1 l2 t187 t190 t193 true a3_0 a3_1))) = some r := H
    have A7 := Aside0.mk A70
    clear A70
    have HC8 := Aside0.mk H
    clear H
    go_enter Try.func12, Try.ntmps12
    go_upto_region 4 with (first | ((with_reducible refine gate_dst (N := 7) rfl ?_); (try (refine gate_guard (by rfl) ?_; dsimp only)); refine box_event ?hg (N := 7) ?hd (cs := #[.int .i64 a3_0, .int .i64 a3_1]) (t := 46) ?hr ?_; (case hd => rfl); (case hg => rfl); (case hr => first | (go_simp; done) | (go_simp; rfl)); intro gb185 hg w9 hbox hb; have n0_ := Aside0.mk (below_step (by repeat (first | (with_reducible first | exact HB.out | apply below_alloc | apply pw_below_drewN | apply below_drew1) | exact HB.out)) hb); have n1_ := Aside0.mk (hbox); have n2_ := Aside0.mk ((by rw [hg]; exact (below_size (by repeat (first | (with_reducible first | exact HB.out | apply below_alloc | apply pw_below_drewN | apply below_drew1) | exact HB.out))) : w.heap.size ≤ gb185)); have n3_ := Aside0.mk ((by rw [hg]; exact (below_size (by repeat (first | (with_reducible first | exact HB.out | apply below_alloc | apply pw_below_drewN | apply below_drew1) | exact HB.out))) : w.heap.size ≤ gb185)); clear HB; have HB := n0_; have BK185 := n1_; have GW185 := n2_; have GE185 := n3_; clear n0_ n1_ n2_ n3_; clear hb hbox hg) | ((with_reducible refine gate_callee (f := 33) rfl ?_); refine goesL_ (some 16) rfl rfl Try.func33 (by kernel_rfl) rfl #[] rfl (by (try simp only [List.map_toArray, List.map_cons, List.map_nil]); first | done | rfl | (simp only [List.length_drop, List.length_take]; rfl)) ?_; (with_reducible refine (grafterlaw8_awake.calls k  true _ rfl A5.out).mono ?_); rintro e w10 ⟨rfl, hb⟩; refine ⟨_, rfl, ?_⟩; have n0_ := Aside0.mk (blk_below (g := gb185) (o := .cells #[.int .i64 a3_0, .int .i64 a3_1] 46 (0, 0)) (by (with_reducible repeat (first | refine blk_drewN ?_ _ | refine blk_drew ?_ | refine blk_alloc ?_ _)); exact BK185.out) hb); have n1_ := Aside0.mk (below_step (by repeat (first | (with_reducible first | exact HB.out | apply below_alloc | apply pw_below_drewN | apply below_drew1 | refine below_set ?_ GE185.out) | exact HB.out)) hb); clear BK185; clear HB; have BK185 := n0_; have HB := n1_; clear n0_ n1_; (try clear hb); (try clear hb2); (try clear hk); (try clear hi); have hcz11_0 : w10.cell? ⟨gb185, 0, none⟩ = some (.int .i64 a3_0) := (blk_cell BK185.out 0).trans rfl; have hcz11_1 : w10.cell? ⟨gb185, 1, none⟩ = some (.int .i64 a3_1) := (blk_cell BK185.out 1).trans rfl; have hfz11_0 := blk_frozen BK185.out 0; have hfz11_1 := blk_frozen BK185.out 1) | ((with_reducible refine gate_callee (f := 30) rfl ?_); refine goesL_ (some 23) rfl rfl Try.func30 (by kernel_rfl) rfl #[.slice A0 l0.length c0, .slice A1 l1.length c1, .slice A2 l2.length c2, .agg #[.int .i64 a3_0, .int .i64 a3_1]] rfl (by (try simp only [List.map_toArray, List.map_cons, List.map_nil]); first | done | rfl | (simp only [List.length_drop, List.length_take]; rfl)) ?_; (with_reducible refine (optim_Step.calls k (fun k_ => k_ < w.heap.size) _ _ l0 (fun k_ => k_ < w.heap.size) _ _ l1 (fun k_ => k_ < w.heap.size) _ _ l2 a3_0 a3_1 t187 t190 t193 _ ?side1 ?side2 ?side3 A7.out).mono ?_); (case side1 => exact Kd.V_mk HC0.out (Kd.F_below (Kd.C_F (Kd.heap_int .i64) HR0.out) (by repeat (first | (with_reducible first | exact HB.out | apply below_alloc | apply pw_below_drewN | apply below_drew1 | refine below_set ?_ GE185.out) | exact HB.out)))); (case side2 => exact Kd.V_mk HC1.out (Kd.F_below (Kd.C_F (Kd.heap_int .i64) HR1.out) (by repeat (first | (with_reducible first | exact HB.out | apply below_alloc | apply pw_below_drewN | apply below_drew1 | refine below_set ?_ GE185.out) | exact HB.out)))); (case side3 => exact Kd.V_mk HC2.out (Kd.F_below (Kd.C_F (Kd.heap_int .i64) HR2.out) (by repeat (first | (with_reducible first | exact HB.out | apply below_alloc | apply pw_below_drewN | apply below_drew1 | refine below_set ?_ GE185.out) | exact HB.out)))); rintro e w12 ⟨v188, v191, rfl, ho0, ho1, hb⟩; refine ⟨_, rfl, ?_⟩; have n0_ := Aside0.mk (Kd.R_lower (Kd.R_mono (ok' := fun k_ => some k_ ≠ (v191 : Value).ownBlock) ho0 (fun _ hk_ => hk_.2)) (below_size (by repeat (first | (with_reducible first | exact HB.out | apply below_alloc | apply pw_below_drewN | apply below_drew1 | refine below_set ?_ GE185.out) | exact HB.out)))); have n1_ := Aside0.mk (Kd.R_lower (Kd.R_mono (ok' := fun k_ => some k_ ≠ (v188 : Value).ownBlock) ho1 (fun _ hk_ => hk_.2)) (below_size (by repeat (first | (with_reducible first | exact HB.out | apply below_alloc | apply pw_below_drewN | apply below_drew1 | refine below_set ?_ GE185.out) | exact HB.out)))); have n2_ := Aside0.mk (blk_below (g := gb185) (o := .cells #[.int .i64 a3_0, .int .i64 a3_1] 46 (0, 0)) (by (with_reducible repeat (first | refine blk_drewN ?_ _ | refine blk_drew ?_ | refine blk_alloc ?_ _)); exact BK185.out) hb); have n3_ := Aside0.mk (below_step (by repeat (first | (with_reducible first | exact HB.out | apply below_alloc | apply pw_below_drewN | apply below_drew1 | refine below_set ?_ GE185.out) | exact HB.out)) hb); clear BK185; clear HB; have HO189 := n0_; have HO192 := n1_; have BK185 := n2_; have HB := n3_; clear n0_ n1_ n2_ n3_; (try clear hb); (try clear hb2); (try clear hk); (try clear hi); (try clear ho0); (try clear ho1)))
    (try simp only [Act.put, List.setIfInBounds_toArray, List.set_cons_zero, List.set_cons_succ])
    go_cut [57] (fun v57 wc => ∃ (kq : Nat) (x57_7 : Bool), v57 = .bool x57_7 ∧ Aside0 (grafterlaw8_OptimPlace.j0 kq l0 l1 l2 t187 t190 t193 x57_7 a3_0 a3_1 = some r) ∧ Aside0 (kq ≤ k) ∧ Aside0 (Kd.R (Kd.int .i64) 3 wc w.heap.size (fun k_ => some k_ ≠ (v191 : Value).ownBlock) v188 t187) ∧ Aside0 (Kd.R (Kd.int .i64) 3 wc w.heap.size (fun k_ => some k_ ≠ (v188 : Value).ownBlock) v191 t190) ∧ Aside0 (wc.heap[gb185]? = some (.cells #[.int .i64 a3_0, .int .i64 a3_1] 46 (0, 0))) ∧ Aside0 (Below w.heap.size w wc))
    case first =>
      have H := HC8.out
      clear HC8
      replace H := Option.bind_eq_some_iff.mp H
      obtain ⟨t194, A130, H⟩ := H
      replace H : (if t194 = 0 then (if (t187.length : Int) = (l0.length : Int) then (if (t190.length : Int) = (l0.length : Int) then (if (l1.length : Int) = (l0.length : Int) then (grafterlaw8_OptimPlace.j0 k l0 l1 l2 t187 t190 t193 ((l2.length : Int) != (l0.length : Int)) a3_0 a3_1) else (grafterlaw8_OptimPlace.j0 k l0 l1 l2 t187 t190 t193 true a3_0 a3_1)) else (grafterlaw8_OptimPlace.j0 k l0 l1 l2 t187 t190 t193 true a3_0 a3_1)) else (grafterlaw8_OptimPlace.j0 k l0 l1 l2 t187 t190 t193 true a3_0 a3_1)) else (grafterlaw8_OptimPlace.j0 k l0 l1 l2 t187 t190 t193 true a3_0 a3_1)) = some r := H
      have A13 := Aside0.mk A130
      clear A130
      by_cases c14 : t194 = 0
      · rw [if_pos c14] at H
        have c14b0 : (t194 == 0) = true := beq_iff_eq.mpr c14
        have c14b1 : (t194 != 0) = false := bne_eq_false_iff_eq.mpr c14
        clear c14
        (first | rw [c14b0] | (simp only [i64_w, i32_w]; rw [c14b0]) | skip)
        by_cases c15 : (t187.length : Int) = (l0.length : Int)
        · rw [if_pos c15] at H
          have c15b0 : ((t187.length : Int) == (l0.length : Int)) = true := beq_iff_eq.mpr c15
          have c15b1 : ((t187.length : Int) != (l0.length : Int)) = false := bne_eq_false_iff_eq.mpr c15
          have c15b2 : (t187.length == l0.length) = true := by first | simpa using c15 | (simp at c15 ⊢; omega)
          clear c15
          by_cases c16 : (t190.length : Int) = (l0.length : Int)
          · rw [if_pos c16] at H
            have c16b0 : ((t190.length : Int) == (l0.length : Int)) = true := beq_iff_eq.mpr c16
            have c16b1 : ((t190.length : Int) != (l0.length : Int)) = false := bne_eq_false_iff_eq.mpr c16
            have c16b2 : (t190.length == l0.length) = true := by first | simpa using c16 | (simp at c16 ⊢; omega)
            clear c16
            by_cases c17 : (l1.length : Int) = (l0.length : Int)
            · rw [if_pos c17] at H
              have c17b0 : ((l1.length : Int) == (l0.length : Int)) = true := beq_iff_eq.mpr c17
              have c17b1 : ((l1.length : Int) != (l0.length : Int)) = false := bne_eq_false_iff_eq.mpr c17
              have c17b2 : (l1.length == l0.length) = true := by first | simpa using c17 | (simp at c17 ⊢; omega)
              clear c17
              have H' := Aside0.mk H
              clear H
              go_wp2_with (first | ((with_reducible refine gate_callee (f := 22) rfl ?_); refine goesL_ (some 28) rfl rfl Try.func22 (by kernel_rfl) rfl #[.int .i64 t193] rfl (by (try simp only [List.map_toArray, List.map_cons, List.map_nil]); first | done | rfl | (simp only [List.length_drop, List.length_take]; rfl)) ?_; (with_reducible refine (grafterlaw0_Num.calls t193 t194 _ A13.out).mono ?_); rintro e w' ⟨rfl, ⟨nd, rfl⟩⟩; refine ⟨_, rfl, ?_⟩; obtain ⟨Ao18, co18, eo18⟩ := Kd.R_slice HO189.out; subst eo18; obtain ⟨Ao19, co19, eo19⟩ := Kd.R_slice HO192.out; subst eo19))
              go_meet
              case rel => exact ⟨_, (((l2.length : Int) != (l0.length : Int))), (by first | rfl | (simp; done) | (simp [*]; done)), H', ⟨by first | omega | exact Nat.le_refl _⟩, ⟨by (with_reducible repeat (first | apply Kd.R_alloc | apply Kd.R_drewN | apply Kd.R_drew)); exact HO189.out⟩, ⟨by (with_reducible repeat (first | apply Kd.R_alloc | apply Kd.R_drewN | apply Kd.R_drew)); exact HO192.out⟩, ⟨by (with_reducible repeat (first | refine blk_drewN ?_ _ | refine blk_drew ?_ | refine blk_alloc ?_ _)); exact BK185.out⟩, ⟨by repeat (first | (with_reducible first | exact HB.out | apply below_alloc | apply pw_below_drewN | apply below_drew1 | refine below_set ?_ GE185.out) | exact HB.out)⟩⟩
            · rw [if_neg c17] at H
              have c17b0 : ((l1.length : Int) == (l0.length : Int)) = false := beq_eq_false_iff_ne.mpr c17
              have c17b1 : ((l1.length : Int) != (l0.length : Int)) = true := bne_iff_ne.mpr c17
              have c17b2 : (l1.length == l0.length) = false := by first | simpa using c17 | (simp at c17 ⊢; omega)
              have H' := Aside0.mk H
              clear H
              go_wp2_with (first | ((with_reducible refine gate_callee (f := 22) rfl ?_); refine goesL_ (some 28) rfl rfl Try.func22 (by kernel_rfl) rfl #[.int .i64 t193] rfl (by (try simp only [List.map_toArray, List.map_cons, List.map_nil]); first | done | rfl | (simp only [List.length_drop, List.length_take]; rfl)) ?_; (with_reducible refine (grafterlaw0_Num.calls t193 t194 _ A13.out).mono ?_); rintro e w' ⟨rfl, ⟨nd, rfl⟩⟩; refine ⟨_, rfl, ?_⟩; obtain ⟨Ao20, co20, eo20⟩ := Kd.R_slice HO189.out; subst eo20; obtain ⟨Ao21, co21, eo21⟩ := Kd.R_slice HO192.out; subst eo21))
              go_meet
              case rel => exact ⟨_, (true), (by first | rfl | (simp; done) | (simp [*]; done)), H', ⟨by first | omega | exact Nat.le_refl _⟩, ⟨by (with_reducible repeat (first | apply Kd.R_alloc | apply Kd.R_drewN | apply Kd.R_drew)); exact HO189.out⟩, ⟨by (with_reducible repeat (first | apply Kd.R_alloc | apply Kd.R_drewN | apply Kd.R_drew)); exact HO192.out⟩, ⟨by (with_reducible repeat (first | refine blk_drewN ?_ _ | refine blk_drew ?_ | refine blk_alloc ?_ _)); exact BK185.out⟩, ⟨by repeat (first | (with_reducible first | exact HB.out | apply below_alloc | apply pw_below_drewN | apply below_drew1 | refine below_set ?_ GE185.out) | exact HB.out)⟩⟩
          · rw [if_neg c16] at H
            have c16b0 : ((t190.length : Int) == (l0.length : Int)) = false := beq_eq_false_iff_ne.mpr c16
            have c16b1 : ((t190.length : Int) != (l0.length : Int)) = true := bne_iff_ne.mpr c16
            have c16b2 : (t190.length == l0.length) = false := by first | simpa using c16 | (simp at c16 ⊢; omega)
            have H' := Aside0.mk H
            clear H
            go_wp2_with (first | ((with_reducible refine gate_callee (f := 22) rfl ?_); refine goesL_ (some 28) rfl rfl Try.func22 (by kernel_rfl) rfl #[.int .i64 t193] rfl (by (try simp only [List.map_toArray, List.map_cons, List.map_nil]); first | done | rfl | (simp only [List.length_drop, List.length_take]; rfl)) ?_; (with_reducible refine (grafterlaw0_Num.calls t193 t194 _ A13.out).mono ?_); rintro e w' ⟨rfl, ⟨nd, rfl⟩⟩; refine ⟨_, rfl, ?_⟩; obtain ⟨Ao22, co22, eo22⟩ := Kd.R_slice HO189.out; subst eo22; obtain ⟨Ao23, co23, eo23⟩ := Kd.R_slice HO192.out; subst eo23))
            go_meet
            case rel => exact ⟨_, (true), (by first | rfl | (simp; done) | (simp [*]; done)), H', ⟨by first | omega | exact Nat.le_refl _⟩, ⟨by (with_reducible repeat (first | apply Kd.R_alloc | apply Kd.R_drewN | apply Kd.R_drew)); exact HO189.out⟩, ⟨by (with_reducible repeat (first | apply Kd.R_alloc | apply Kd.R_drewN | apply Kd.R_drew)); exact HO192.out⟩, ⟨by (with_reducible repeat (first | refine blk_drewN ?_ _ | refine blk_drew ?_ | refine blk_alloc ?_ _)); exact BK185.out⟩, ⟨by repeat (first | (with_reducible first | exact HB.out | apply below_alloc | apply pw_below_drewN | apply below_drew1 | refine below_set ?_ GE185.out) | exact HB.out)⟩⟩
        · rw [if_neg c15] at H
          have c15b0 : ((t187.length : Int) == (l0.length : Int)) = false := beq_eq_false_iff_ne.mpr c15
          have c15b1 : ((t187.length : Int) != (l0.length : Int)) = true := bne_iff_ne.mpr c15
          have c15b2 : (t187.length == l0.length) = false := by first | simpa using c15 | (simp at c15 ⊢; omega)
          have H' := Aside0.mk H
          clear H
          go_wp2_with (first | ((with_reducible refine gate_callee (f := 22) rfl ?_); refine goesL_ (some 28) rfl rfl Try.func22 (by kernel_rfl) rfl #[.int .i64 t193] rfl (by (try simp only [List.map_toArray, List.map_cons, List.map_nil]); first | done | rfl | (simp only [List.length_drop, List.length_take]; rfl)) ?_; (with_reducible refine (grafterlaw0_Num.calls t193 t194 _ A13.out).mono ?_); rintro e w' ⟨rfl, ⟨nd, rfl⟩⟩; refine ⟨_, rfl, ?_⟩; obtain ⟨Ao24, co24, eo24⟩ := Kd.R_slice HO189.out; subst eo24))
          go_meet
          case rel => exact ⟨_, (true), (by first | rfl | (simp; done) | (simp [*]; done)), H', ⟨by first | omega | exact Nat.le_refl _⟩, ⟨by (with_reducible repeat (first | apply Kd.R_alloc | apply Kd.R_drewN | apply Kd.R_drew)); exact HO189.out⟩, ⟨by (with_reducible repeat (first | apply Kd.R_alloc | apply Kd.R_drewN | apply Kd.R_drew)); exact HO192.out⟩, ⟨by (with_reducible repeat (first | refine blk_drewN ?_ _ | refine blk_drew ?_ | refine blk_alloc ?_ _)); exact BK185.out⟩, ⟨by repeat (first | (with_reducible first | exact HB.out | apply below_alloc | apply pw_below_drewN | apply below_drew1 | refine below_set ?_ GE185.out) | exact HB.out)⟩⟩
      · rw [if_neg c14] at H
        have c14b0 : (t194 == 0) = false := beq_eq_false_iff_ne.mpr c14
        have c14b1 : (t194 != 0) = true := bne_iff_ne.mpr c14
        (first | rw [c14b0] | (simp only [i64_w, i32_w]; rw [c14b0]) | skip)
        have H' := Aside0.mk H
        clear H
        go_wp2_with (first | ((with_reducible refine gate_callee (f := 22) rfl ?_); refine goesL_ (some 28) rfl rfl Try.func22 (by kernel_rfl) rfl #[.int .i64 t193] rfl (by (try simp only [List.map_toArray, List.map_cons, List.map_nil]); first | done | rfl | (simp only [List.length_drop, List.length_take]; rfl)) ?_; (with_reducible refine (grafterlaw0_Num.calls t193 t194 _ A13.out).mono ?_); rintro e w' ⟨rfl, ⟨nd, rfl⟩⟩; refine ⟨_, rfl, ?_⟩))
        go_meet
        case rel => exact ⟨_, (true), (by first | rfl | (simp; done) | (simp [*]; done)), H', ⟨by first | omega | exact Nat.le_refl _⟩, ⟨by (with_reducible repeat (first | apply Kd.R_alloc | apply Kd.R_drewN | apply Kd.R_drew)); exact HO189.out⟩, ⟨by (with_reducible repeat (first | apply Kd.R_alloc | apply Kd.R_drewN | apply Kd.R_drew)); exact HO192.out⟩, ⟨by (with_reducible repeat (first | refine blk_drewN ?_ _ | refine blk_drew ?_ | refine blk_alloc ?_ _)); exact BK185.out⟩, ⟨by repeat (first | (with_reducible first | exact HB.out | apply below_alloc | apply pw_below_drewN | apply below_drew1 | refine below_set ?_ GE185.out) | exact HB.out)⟩⟩
    case rest =>
      clear HC8
      try clear c1
      try clear c2
      try clear p2
      try clear c3
      try clear c6
      try clear c12
      try clear c14
      try clear c14b0
      try clear c14b1
      try clear c15
      try clear c15b0
      try clear c15b1
      try clear c15b2
      try clear c16
      try clear c16b0
      try clear c16b1
      try clear c16b2
      try clear c17
      try clear c17b0
      try clear c17b1
      try clear c17b2
      try clear c22
      try clear hcz11_0
      try clear hcz11_1
      try clear hfz11_0
      try clear hfz11_1
      obtain ⟨kq, x57_7, rfl, HA, HJ7, HO_9, HO_10, BK185, HB⟩ := hcut
      cases kq with
      | zero => exact absurd HA.out (by simp [grafterlaw8_OptimPlace.j0])
      | succ kj7 =>
        have H := HA.out
        clear HA
        simp only [grafterlaw8_OptimPlace.j0] at H
        by_cases c25 : x57_7 = true
        · subst c25
          have H1 : ((grafterlaw0_Num.f t193).bind fun t195 => (if t195 = 800 then (some ((wrap64 ((t187.length : Int) + (t190.length : Int))) == 0)) else (some false))) = some r := by rw [if_pos rfl] at H; exact H
          clear H
          have H := H1
          clear H1
          replace H := Option.bind_eq_some_iff.mp H
          obtain ⟨t195, A260, H⟩ := H
          replace H : (if t195 = 800 then (some ((wrap64 ((t187.length : Int) + (t190.length : Int))) == 0)) else (some false)) = some r := H
          have A26 := Aside0.mk A260
          clear A260
          by_cases c27 : t195 = 800
          · rw [if_pos c27] at H
            have c27b0 : (t195 == 800) = true := beq_iff_eq.mpr c27
            have c27b1 : (t195 != 800) = false := bne_eq_false_iff_eq.mpr c27
            clear c27
            obtain rfl := Option.some.inj H
            go_wp2_with (first | ((with_reducible refine gate_callee (f := 22) rfl ?_); refine goesL_ (some 59) rfl rfl Try.func22 (by kernel_rfl) rfl #[.int .i64 t193] rfl (by (try simp only [List.map_toArray, List.map_cons, List.map_nil]); first | done | rfl | (simp only [List.length_drop, List.length_take]; rfl)) ?_; (with_reducible refine (grafterlaw0_Num.calls t193 t195 _ A26.out).mono ?_); rintro e w' ⟨rfl, ⟨nd, rfl⟩⟩; refine ⟨_, rfl, ?_⟩; obtain ⟨Ao28, co28, eo28⟩ := Kd.R_slice HO_9.out; subst eo28; obtain ⟨Ao29, co29, eo29⟩ := Kd.R_slice HO_10.out; subst eo29))
            go_ret
            exact ⟨by first | rfl | (simp [errW_none, errW_some] <;> rfl) | (simp [*, errW_none, errW_some] <;> rfl), by repeat (first | (with_reducible first | exact HB.out | apply below_alloc | apply pw_below_drewN | apply below_drew1 | refine below_set ?_ GE185.out) | exact HB.out)⟩
          · rw [if_neg c27] at H
            have c27b0 : (t195 == 800) = false := beq_eq_false_iff_ne.mpr c27
            have c27b1 : (t195 != 800) = true := bne_iff_ne.mpr c27
            exact absurd ((Option.some.inj H).trans HRT.out) Bool.false_ne_true
        · replace c25 := Bool.eq_false_iff.mpr c25
          subst c25
          have H1 : (grafterlaw8_OptimPlace.l0 kj7 l0 l1 l2 t187 t190 0 a3_0 a3_1) = some r := by rw [if_neg (show ¬ (false = true) by decide)] at H; exact H
          clear H
          have H := H1
          clear H1
          have H' := Aside0.mk H
          clear H
          go_wp2
          go_loopg [12] kj7 (fun kq v12 w' => ∃ (x12_2 : Int), v12 = .int .i64 x12_2 ∧ Aside0 (grafterlaw8_OptimPlace.l0 kq l0 l1 l2 t187 t190 x12_2 a3_0 a3_1 = some r) ∧ Aside0 (kq ≤ kj7) ∧ Aside0 (Kd.R (Kd.int .i64) 3 w' w.heap.size (fun k_ => some k_ ≠ (v191 : Value).ownBlock) v188 t187) ∧ Aside0 (Kd.R (Kd.int .i64) 3 w' w.heap.size (fun k_ => some k_ ≠ (v188 : Value).ownBlock) v191 t190) ∧ Aside0 (w'.heap[gb185]? = some (.cells #[.int .i64 a3_0, .int .i64 a3_1] 46 (0, 0))) ∧ Aside0 (Below w.heap.size w w'))
          case atStart => exact ⟨(0), (by first | rfl | (simp; done) | (simp [*]; done)), H', ⟨Nat.le_refl _⟩, ⟨by (with_reducible repeat (first | apply Kd.R_alloc | apply Kd.R_drewN | apply Kd.R_drew)); exact HO_9.out⟩, ⟨by (with_reducible repeat (first | apply Kd.R_alloc | apply Kd.R_drewN | apply Kd.R_drew)); exact HO_10.out⟩, ⟨by (with_reducible repeat (first | refine blk_drewN ?_ _ | refine blk_drew ?_ | refine blk_alloc ?_ _)); exact BK185.out⟩, ⟨by repeat (first | (with_reducible first | exact HB.out | apply below_alloc | apply pw_below_drewN | apply below_drew1 | refine below_set ?_ GE185.out) | exact HB.out)⟩⟩
          case round =>
            clear H'
            try clear c1
            try clear c2
            try clear p2
            try clear c3
            try clear c6
            try clear p6
            try clear c12
            try clear c14
            try clear c14b0
            try clear c14b1
            try clear c15
            try clear c15b0
            try clear c15b1
            try clear c15b2
            try clear c16
            try clear c16b0
            try clear c16b1
            try clear c16b2
            try clear c17
            try clear c17b0
            try clear c17b1
            try clear c17b2
            try clear c22
            try clear c25
            try clear c27
            try clear c27b0
            try clear c27b1
            try clear hcz11_0
            try clear hcz11_1
            try clear hfz11_0
            try clear hfz11_1
            try clear p2
            obtain ⟨x12_2, rfl, HA, HK2, HO_9, HO_10, BK185, HB⟩ := hrel
            cases gk with
            | zero => exact absurd HA.out (by simp [grafterlaw8_OptimPlace.l0])
            | succ k2 =>
              have H := HA.out
              clear HA
              simp only [grafterlaw8_OptimPlace.l0] at H
              by_cases c30 : x12_2 < (l0.length : Int)
              · rw [if_pos c30] at H
                have c30b0 : decide (x12_2 < (l0.length : Int)) = true := decide_eq_true c30
                clear c30
                by_cases c31 : 0 ≤ x12_2
                · rw [if_pos c31] at H
                  have c31b0 : decide (0 ≤ x12_2) = true := decide_eq_true c31
                  clear c31
                  obtain ⟨y197, hy197⟩ : ∃ y_ : List Int, y_ = (([rd l0 x12_2] : List Int)) := ⟨_, rfl⟩
                  replace H : (if x12_2 < (l1.length : Int) then (if x12_2 < (l2.length : Int) then ((optim_Step.f k2 y197 (([rd l1 x12_2] : List Int)) (([rd l2 x12_2] : List Int)) a3_0 a3_1).bind fun bt208 => ((grafterlaw0_Num.f bt208.2.2).bind fun t215 => (if t215 = 0 then (if x12_2 < (t187.length : Int) then ((grafterlaw0_SameInts.f k2 bt208.1 (([rd t187 x12_2] : List Int))).bind fun t220 => (if t220 = true then (if x12_2 < (t190.length : Int) then ((grafterlaw0_SameInts.f k2 bt208.2.1 (([rd t190 x12_2] : List Int))).bind fun t225 => (if t225 = true then ((grafterref1_FixMay.f (rd t187 x12_2)).bind fun t227 => (if t227 = true then ((grafterref1_FixMay.f (rd t190 x12_2)).bind fun t229 => (if t229 = true then (grafterlaw8_OptimPlace.l0 k2 l0 l1 l2 t187 t190 (wrap64 (x12_2 + 1)) a3_0 a3_1) else (some false))) else (some false))) else (some false))) else (none)) else (some false))) else (none)) else (some false)))) else (none)) else (none)) = some r := by first | (rw [hy197]; with_reducible exact H) | (have H2_ := (Option.bind_some _ _).symm.trans H; rw [hy197]; with_reducible exact H2_) | (have H2_ := (Option.bind_some _ _).symm.trans H; with_reducible exact H2_) | with_reducible exact H | (rw [hy197]; exact H) | exact H
                  have Ny197 := Aside0.mk hy197
                  clear hy197
                  by_cases c32 : x12_2 < (l1.length : Int)
                  · rw [if_pos c32] at H
                    have c32b0 : decide (x12_2 < (l1.length : Int)) = true := decide_eq_true c32
                    clear c32
                    obtain ⟨y201, hy201⟩ : ∃ y_ : List Int, y_ = (([rd l1 x12_2] : List Int)) := ⟨_, rfl⟩
                    replace H : (if x12_2 < (l2.length : Int) then ((optim_Step.f k2 y197 y201 (([rd l2 x12_2] : List Int)) a3_0 a3_1).bind fun bt208 => ((grafterlaw0_Num.f bt208.2.2).bind fun t215 => (if t215 = 0 then (if x12_2 < (t187.length : Int) then ((grafterlaw0_SameInts.f k2 bt208.1 (([rd t187 x12_2] : List Int))).bind fun t220 => (if t220 = true then (if x12_2 < (t190.length : Int) then ((grafterlaw0_SameInts.f k2 bt208.2.1 (([rd t190 x12_2] : List Int))).bind fun t225 => (if t225 = true then ((grafterref1_FixMay.f (rd t187 x12_2)).bind fun t227 => (if t227 = true then ((grafterref1_FixMay.f (rd t190 x12_2)).bind fun t229 => (if t229 = true then (grafterlaw8_OptimPlace.l0 k2 l0 l1 l2 t187 t190 (wrap64 (x12_2 + 1)) a3_0 a3_1) else (some false))) else (some false))) else (some false))) else (none)) else (some false))) else (none)) else (some false)))) else (none)) = some r := by first | (rw [hy201]; with_reducible exact H) | (have H2_ := (Option.bind_some _ _).symm.trans H; rw [hy201]; with_reducible exact H2_) | (have H2_ := (Option.bind_some _ _).symm.trans H; with_reducible exact H2_) | with_reducible exact H | (rw [hy201]; exact H) | exact H
                    have Ny201 := Aside0.mk hy201
                    clear hy201
                    by_cases c33 : x12_2 < (l2.length : Int)
                    · rw [if_pos c33] at H
                      have c33b0 : decide (x12_2 < (l2.length : Int)) = true := decide_eq_true c33
                      clear c33
                      obtain ⟨y205, hy205⟩ : ∃ y_ : List Int, y_ = (([rd l2 x12_2] : List Int)) := ⟨_, rfl⟩
                      replace H : ((optim_Step.f k2 y197 y201 y205 a3_0 a3_1).bind fun bt208 => ((grafterlaw0_Num.f bt208.2.2).bind fun t215 => (if t215 = 0 then (if x12_2 < (t187.length : Int) then ((grafterlaw0_SameInts.f k2 bt208.1 (([rd t187 x12_2] : List Int))).bind fun t220 => (if t220 = true then (if x12_2 < (t190.length : Int) then ((grafterlaw0_SameInts.f k2 bt208.2.1 (([rd t190 x12_2] : List Int))).bind fun t225 => (if t225 = true then ((grafterref1_FixMay.f (rd t187 x12_2)).bind fun t227 => (if t227 = true then ((grafterref1_FixMay.f (rd t190 x12_2)).bind fun t229 => (if t229 = true then (grafterlaw8_OptimPlace.l0 k2 l0 l1 l2 t187 t190 (wrap64 (x12_2 + 1)) a3_0 a3_1) else (some false))) else (some false))) else (some false))) else (none)) else (some false))) else (none)) else (some false)))) = some r := by first | (rw [hy205]; with_reducible exact H) | (have H2_ := (Option.bind_some _ _).symm.trans H; rw [hy205]; with_reducible exact H2_) | (have H2_ := (Option.bind_some _ _).symm.trans H; with_reducible exact H2_) | with_reducible exact H | (rw [hy205]; exact H) | exact H
                      have Ny205 := Aside0.mk hy205
                      clear hy205
                      replace H := Option.bind_eq_some_iff.mp H
                      obtain ⟨⟨t208, t211, t214⟩, A340, H⟩ := H
                      replace H : ((grafterlaw0_Num.f t214).bind fun t215 => (if t215 = 0 then (if x12_2 < (t187.length : Int) then ((grafterlaw0_SameInts.f k2 t208 (([rd t187 x12_2] : List Int))).bind fun t220 => (if t220 = true then (if x12_2 < (t190.length : Int) then ((grafterlaw0_SameInts.f k2 t211 (([rd t190 x12_2] : List Int))).bind fun t225 => (if t225 = true then ((grafterref1_FixMay.f (rd t187 x12_2)).bind fun t227 => (if t227 = true then ((grafterref1_FixMay.f (rd t190 x12_2)).bind fun t229 => (if t229 = true then (grafterlaw8_OptimPlace.l0 k2 l0 l1 l2 t187 t190 (wrap64 (x12_2 + 1)) a3_0 a3_1) else (some false))) else (some false))) else (some false))) else (none)) else (some false))) else (none)) else (some false))) = some r := H
                      have A34 := Aside0.mk A340
                      clear A340
                      replace H := Option.bind_eq_some_iff.mp H
                      obtain ⟨t215, A350, H⟩ := H
                      replace H : (if t215 = 0 then (if x12_2 < (t187.length : Int) then ((grafterlaw0_SameInts.f k2 t208 (([rd t187 x12_2] : List Int))).bind fun t220 => (if t220 = true then (if x12_2 < (t190.length : Int) then ((grafterlaw0_SameInts.f k2 t211 (([rd t190 x12_2] : List Int))).bind fun t225 => (if t225 = true then ((grafterref1_FixMay.f (rd t187 x12_2)).bind fun t227 => (if t227 = true then ((grafterref1_FixMay.f (rd t190 x12_2)).bind fun t229 => (if t229 = true then (grafterlaw8_OptimPlace.l0 k2 l0 l1 l2 t187 t190 (wrap64 (x12_2 + 1)) a3_0 a3_1) else (some false))) else (some false))) else (some false))) else (none)) else (some false))) else (none)) else (some false)) = some r := H
                      have A35 := Aside0.mk A350
                      clear A350
                      by_cases c36 : t215 = 0
                      · rw [if_pos c36] at H
                        have c36b0 : (t215 == 0) = true := beq_iff_eq.mpr c36
                        have c36b1 : (t215 != 0) = false := bne_eq_false_iff_eq.mpr c36
                        clear c36
                        by_cases c37 : x12_2 < (t187.length : Int)
                        · rw [if_pos c37] at H
                          have c37b0 : decide (x12_2 < (t187.length : Int)) = true := decide_eq_true c37
                          clear c37
                          obtain ⟨y217, hy217⟩ : ∃ y_ : List Int, y_ = (([rd t187 x12_2] : List Int)) := ⟨_, rfl⟩
                          replace H : ((grafterlaw0_SameInts.f k2 t208 y217).bind fun t220 => (if t220 = true then (if x12_2 < (t190.length : Int) then ((grafterlaw0_SameInts.f k2 t211 (([rd t190 x12_2] : List Int))).bind fun t225 => (if t225 = true then ((grafterref1_FixMay.f (rd t187 x12_2)).bind fun t227 => (if t227 = true then ((grafterref1_FixMay.f (rd t190 x12_2)).bind fun t229 => (if t229 = true then (grafterlaw8_OptimPlace.l0 k2 l0 l1 l2 t187 t190 (wrap64 (x12_2 + 1)) a3_0 a3_1) else (some false))) else (some false))) else (some false))) else (none)) else (some false))) = some r := by first | (rw [hy217]; with_reducible exact H) | (have H2_ := (Option.bind_some _ _).symm.trans H; rw [hy217]; with_reducible exact H2_) | (have H2_ := (Option.bind_some _ _).symm.trans H; with_reducible exact H2_) | with_reducible exact H | (rw [hy217]; exact H) | exact H
                          have Ny217 := Aside0.mk hy217
                          clear hy217
                          replace H := Option.bind_eq_some_iff.mp H
                          obtain ⟨t220, A380, H⟩ := H
                          replace H : (if t220 = true then (if x12_2 < (t190.length : Int) then ((grafterlaw0_SameInts.f k2 t211 (([rd t190 x12_2] : List Int))).bind fun t225 => (if t225 = true then ((grafterref1_FixMay.f (rd t187 x12_2)).bind fun t227 => (if t227 = true then ((grafterref1_FixMay.f (rd t190 x12_2)).bind fun t229 => (if t229 = true then (grafterlaw8_OptimPlace.l0 k2 l0 l1 l2 t187 t190 (wrap64 (x12_2 + 1)) a3_0 a3_1) else (some false))) else (some false))) else (some false))) else (none)) else (some false)) = some r := H
                          have A38 := Aside0.mk A380
                          clear A380
                          by_cases c39 : t220 = true
                          · subst c39
                            have H1 : (if x12_2 < (t190.length : Int) then ((grafterlaw0_SameInts.f k2 t211 (([rd t190 x12_2] : List Int))).bind fun t225 => (if t225 = true then ((grafterref1_FixMay.f (rd t187 x12_2)).bind fun t227 => (if t227 = true then ((grafterref1_FixMay.f (rd t190 x12_2)).bind fun t229 => (if t229 = true then (grafterlaw8_OptimPlace.l0 k2 l0 l1 l2 t187 t190 (wrap64 (x12_2 + 1)) a3_0 a3_1) else (some false))) else (some false))) else (some false))) else (none)) = some r := by rw [if_pos rfl] at H; exact H
                            clear H
                            have H := H1
                            clear H1
                            by_cases c40 : x12_2 < (t190.length : Int)
                            · rw [if_pos c40] at H
                              have c40b0 : decide (x12_2 < (t190.length : Int)) = true := decide_eq_true c40
                              clear c40
                              obtain ⟨y222, hy222⟩ : ∃ y_ : List Int, y_ = (([rd t190 x12_2] : List Int)) := ⟨_, rfl⟩
                              replace H : ((grafterlaw0_SameInts.f k2 t211 y222).bind fun t225 => (if t225 = true then ((grafterref1_FixMay.f (rd t187 x12_2)).bind fun t227 => (if t227 = true then ((grafterref1_FixMay.f (rd t190 x12_2)).bind fun t229 => (if t229 = true then (grafterlaw8_OptimPlace.l0 k2 l0 l1 l2 t187 t190 (wrap64 (x12_2 + 1)) a3_0 a3_1) else (some false))) else (some false))) else (some false))) = some r := by first | (rw [hy222]; with_reducible exact H) | (have H2_ := (Option.bind_some _ _).symm.trans H; rw [hy222]; with_reducible exact H2_) | (have H2_ := (Option.bind_some _ _).symm.trans H; with_reducible exact H2_) | with_reducible exact H | (rw [hy222]; exact H) | exact H
                              have Ny222 := Aside0.mk hy222
                              clear hy222
                              replace H := Option.bind_eq_some_iff.mp H
                              obtain ⟨t225, A410, H⟩ := H
                              replace H : (if t225 = true then ((grafterref1_FixMay.f (rd t187 x12_2)).bind fun t227 => (if t227 = true then ((grafterref1_FixMay.f (rd t190 x12_2)).bind fun t229 => (if t229 = true then (grafterlaw8_OptimPlace.l0 k2 l0 l1 l2 t187 t190 (wrap64 (x12_2 + 1)) a3_0 a3_1) else (some false))) else (some false))) else (some false)) = some r := H
                              have A41 := Aside0.mk A410
                              clear A410
                              by_cases c42 : t225 = true
                              · subst c42
                                have H1 : ((grafterref1_FixMay.f (rd t187 x12_2)).bind fun t227 => (if t227 = true then ((grafterref1_FixMay.f (rd t190 x12_2)).bind fun t229 => (if t229 = true then (grafterlaw8_OptimPlace.l0 k2 l0 l1 l2 t187 t190 (wrap64 (x12_2 + 1)) a3_0 a3_1) else (some false))) else (some false))) = some r := by rw [if_pos rfl] at H; exact H
                                clear H
                                have H := H1
                                clear H1
                                replace H := Option.bind_eq_some_iff.mp H
                                obtain ⟨t227, A430, H⟩ := H
                                replace H : (if t227 = true then ((grafterref1_FixMay.f (rd t190 x12_2)).bind fun t229 => (if t229 = true then (grafterlaw8_OptimPlace.l0 k2 l0 l1 l2 t187 t190 (wrap64 (x12_2 + 1)) a3_0 a3_1) else (some false))) else (some false)) = some r := H
                                have A43 := Aside0.mk A430
                                clear A430
                                by_cases c44 : t227 = true
                                · subst c44
                                  have H1 : ((grafterref1_FixMay.f (rd t190 x12_2)).bind fun t229 => (if t229 = true then (grafterlaw8_OptimPlace.l0 k2 l0 l1 l2 t187 t190 (wrap64 (x12_2 + 1)) a3_0 a3_1) else (some false))) = some r := by rw [if_pos rfl] at H; exact H
                                  clear H
                                  have H := H1
                                  clear H1
                                  replace H := Option.bind_eq_some_iff.mp H
                                  obtain ⟨t229, A450, H⟩ := H
                                  replace H : (if t229 = true then (grafterlaw8_OptimPlace.l0 k2 l0 l1 l2 t187 t190 (wrap64 (x12_2 + 1)) a3_0 a3_1) else (some false)) = some r := H
                                  have A45 := Aside0.mk A450
                                  clear A450
                                  by_cases c46 : t229 = true
                                  · subst c46
                                    have H1 : (grafterlaw8_OptimPlace.l0 k2 l0 l1 l2 t187 t190 (wrap64 (x12_2 + 1)) a3_0 a3_1) = some r := by rw [if_pos rfl] at H; exact H
                                    clear H
                                    have H := H1
                                    clear H1
                                    have H' := Aside0.mk H
                                    clear H
                                    try go_wp2
                                    have n0_ := Aside0.mk (Kd.R_drew HO_9.out)
                                    have n1_ := Aside0.mk (Kd.R_drew HO_10.out)
                                    have n2_ := Aside0.mk (blk_drew BK185.out)
                                    have n3_ := Aside0.mk (below_drew1 HB.out)
                                    clear HO_9
                                    clear HO_10
                                    clear BK185
                                    clear HB
                                    have HO_9 := n0_
                                    have HO_10 := n1_
                                    have BK185 := n2_
                                    have HB := n3_
                                    clear n0_ n1_ n2_ n3_
                                    have p196 : 0 ≤ (x12_2 : Int) := of_decide_eq_true (by first | (with_reducible assumption) | assumption)
                                    have q196 : x12_2 < (l0.length : Int) := of_decide_eq_true (by first | (with_reducible assumption) | assumption)
                                    obtain ⟨ad196, e196, hx196_0⟩ := Kd.at_int HR0.out x12_2 p196 q196
                                    have hw196_0 := hx196_0
                                    cases e196
                                    replace hx196_0 := (HB.out.cell (World.block_lt_of_cell? w _ hx196_0)).trans hx196_0
                                    replace p196 := eq_true p196
                                    replace q196 := eq_true q196
                                    have p200 : 0 ≤ (x12_2 : Int) := of_decide_eq_true (by first | (with_reducible assumption) | assumption)
                                    have q200 : x12_2 < (l1.length : Int) := of_decide_eq_true (by first | (with_reducible assumption) | assumption)
                                    obtain ⟨ad200, e200, hx200_0⟩ := Kd.at_int HR1.out x12_2 p200 q200
                                    have hw200_0 := hx200_0
                                    cases e200
                                    replace hx200_0 := (HB.out.cell (World.block_lt_of_cell? w _ hx200_0)).trans hx200_0
                                    replace p200 := eq_true p200
                                    replace q200 := eq_true q200
                                    have p204 : 0 ≤ (x12_2 : Int) := of_decide_eq_true (by first | (with_reducible assumption) | assumption)
                                    have q204 : x12_2 < (l2.length : Int) := of_decide_eq_true (by first | (with_reducible assumption) | assumption)
                                    obtain ⟨ad204, e204, hx204_0⟩ := Kd.at_int HR2.out x12_2 p204 q204
                                    have hw204_0 := hx204_0
                                    cases e204
                                    replace hx204_0 := (HB.out.cell (World.block_lt_of_cell? w _ hx204_0)).trans hx204_0
                                    replace p204 := eq_true p204
                                    replace q204 := eq_true q204
                                    refine start_ (n := 24) (S := fun w' => True) (ds := []) #[false, false, false, false, false, false, false, false, false, false, false, false, false, false, false, false, false, false, false, false, false, false, false, false] (by kernel_rfl) rfl rfl trivial (fun hHeld => ?_); refine with_tabW grafterlaw8_OptimPlace.tab9 grafterlaw8_OptimPlace.bits9 (fun HT_ HW_ => ?_)
                                    generalize wr.drew = w47 at HO_9 HO_10 BK185 HB hx196_0 hx200_0 hx204_0 hHeld ⊢
                                    refine pure_ (i := 0) (N := some 76) (v := ?_) (a' := ?_) #[true, false, false, false, false, false, false, false, false, false, false, false, false, false, false, false, false, false, false, false, false, false, false, false] rfl rfl (any_of HT_.out (by kernel_rfl)) (fun _ _ _ h => h) (Or.inl ⟨by rfl, ?_⟩) ?_ ?_
                                    rotate_left
                                    · intro w'
                                      go_simp
                                      with_reducible rfl
                                    rotate_left
                                    · simp only [Act.put, List.setIfInBounds_toArray, List.set_cons_zero, List.set_cons_succ, i64_w, i32_w]
                                      rfl
                                    refine pure_ (i := 1) (N := some 77) (v := ?_) (a' := ?_) #[true, true, false, false, false, false, false, false, false, false, false, false, false, false, false, false, false, false, false, false, false, false, false, false] rfl rfl (any_of HT_.out (by kernel_rfl)) (fun _ _ _ h => h) (Or.inl ⟨by rfl, ?_⟩) ?_ ?_
                                    rotate_left
                                    · intro w'
                                      go_simp
                                      with_reducible rfl
                                    rotate_left
                                    · simp only [Act.put, List.setIfInBounds_toArray, List.set_cons_zero, List.set_cons_succ, i64_w, i32_w]
                                      rfl
                                    refine pure_ (i := 5) (N := some 81) (v := ?_) (a' := ?_) #[true, true, false, false, false, true, false, false, false, false, false, false, false, false, false, false, false, false, false, false, false, false, false, false] rfl rfl (any_of HT_.out (by kernel_rfl)) (fun _ _ _ h => h) (Or.inl ⟨by rfl, ?_⟩) ?_ ?_
                                    rotate_left
                                    · intro w'
                                      go_simp
                                      with_reducible rfl
                                    rotate_left
                                    · simp only [Act.put, List.setIfInBounds_toArray, List.set_cons_zero, List.set_cons_succ, i64_w, i32_w]
                                      rfl
                                    refine pure_ (i := 6) (N := some 82) (v := ?_) (a' := ?_) #[true, true, false, false, false, true, true, false, false, false, false, false, false, false, false, false, false, false, false, false, false, false, false, false] rfl rfl (any_of HT_.out (by kernel_rfl)) (fun _ _ _ h => h) (Or.inl ⟨by rfl, ?_⟩) ?_ ?_
                                    rotate_left
                                    · intro w'
                                      go_simp
                                      with_reducible rfl
                                    rotate_left
                                    · simp only [Act.put, List.setIfInBounds_toArray, List.set_cons_zero, List.set_cons_succ, i64_w, i32_w]
                                      rfl
                                    refine pure_ (i := 10) (N := some 86) (v := ?_) (a' := ?_) #[true, true, false, false, false, true, true, false, false, false, true, false, false, false, false, false, false, false, false, false, false, false, false, false] rfl rfl (any_of HT_.out (by kernel_rfl)) (fun _ _ _ h => h) (Or.inl ⟨by rfl, ?_⟩) ?_ ?_
                                    rotate_left
                                    · intro w'
                                      go_simp
                                      with_reducible rfl
                                    rotate_left
                                    · simp only [Act.put, List.setIfInBounds_toArray, List.set_cons_zero, List.set_cons_succ, i64_w, i32_w]
                                      rfl
                                    refine pure_ (i := 11) (N := some 87) (v := ?_) (a' := ?_) #[true, true, false, false, false, true, true, false, false, false, true, true, false, false, false, false, false, false, false, false, false, false, false, false] rfl rfl (any_of HT_.out (by kernel_rfl)) (fun _ _ _ h => h) (Or.inl ⟨by rfl, ?_⟩) ?_ ?_
                                    rotate_left
                                    · intro w'
                                      go_simp
                                      with_reducible rfl
                                    rotate_left
                                    · simp only [Act.put, List.setIfInBounds_toArray, List.set_cons_zero, List.set_cons_succ, i64_w, i32_w]
                                      rfl
                                    refine inv_at [2, 3, 4, 7, 8, 9, 12, 13, 14, 15, 16, 17, 18, 19, 20, 21, 22, 23] (fun a0_ b a w' => ∃ (v198 : Value) (v202 : Value) (v206 : Value) (v209 : Value) (v212 : Value) (m16_ : Value) (m17_ : Value) (m18_ : Value) (m19_ : Value) (m21_ : Value) (m22_ : Value), a = putSel a0_ b [(2, 78, .pointer (some (ad196.add (x12_2).toNat))), (3, 79, .int .i64 (rd l0 x12_2)), (4, 80, v198), (7, 83, .pointer (some (ad200.add (x12_2).toNat))), (8, 84, .int .i64 (rd l1 x12_2)), (9, 85, v202), (12, 88, .pointer (some (ad204.add (x12_2).toNat))), (13, 89, .int .i64 (rd l2 x12_2)), (14, 90, v206), (15, 91, .agg #[.int .i64 a3_0, .int .i64 a3_1]), (16, 92, m16_), (17, 75, m17_), (18, 93, m18_), (19, 94, m19_), (20, 95, .int .i64 t214), (21, 13, m21_), (22, 14, m22_), (23, 15, .int .i64 t214)] ∧ (Kd.R (Kd.int .i64) 3 w' w.heap.size (fun k_ => some k_ ≠ (v188 : Value).ownBlock) v191 t190) ∧ (Kd.R (Kd.int .i64) 3 w' w.heap.size (fun k_ => some k_ ≠ (v191 : Value).ownBlock) v188 t187) ∧ (w'.heap[gb185]? = some (.cells #[.int .i64 a3_0, .int .i64 a3_1] 46 (0, 0))) ∧ (Below w.heap.size w w') ∧ (b 4 = true → Kd.R (Kd.int .i64) 3 w' w.heap.size (fun k_ => some k_ ≠ (v191 : Value).ownBlock ∧ some k_ ≠ (v188 : Value).ownBlock) v198 y197) ∧ (b 9 = true → Kd.R (Kd.int .i64) 3 w' w.heap.size (fun k_ => some k_ ≠ (v191 : Value).ownBlock ∧ some k_ ≠ (v188 : Value).ownBlock) v202 y201) ∧ (b 14 = true → Kd.R (Kd.int .i64) 3 w' w.heap.size (fun k_ => some k_ ≠ (v191 : Value).ownBlock ∧ some k_ ≠ (v188 : Value).ownBlock) v206 y205) ∧ (b 16 = true → Kd.R (Kd.int .i64) 3 w' w.heap.size (fun k_ => some k_ ≠ (v191 : Value).ownBlock ∧ some k_ ≠ (v188 : Value).ownBlock) v209 t208) ∧ (b 16 = true → Kd.R (Kd.int .i64) 3 w' w.heap.size (fun k_ => some k_ ≠ (v191 : Value).ownBlock ∧ some k_ ≠ (v188 : Value).ownBlock) v212 t211) ∧ (b 16 = true → (m16_ : Value) = .tuple #[v209, v212, .int .i64 t214]) ∧ (b 17 = true → (m17_ : Value) = .tuple #[v209, v212, .int .i64 t214]) ∧ (b 18 = true → (m18_ : Value) = v209) ∧ (b 19 = true → (m19_ : Value) = v212) ∧ (b 21 = true → (m21_ : Value) = v209) ∧ (b 22 = true → (m22_ : Value) = v212)) HT_.out HW_.out (by kernel_rfl) (by kernel_rfl) ?_ ?_ ?_
                                    · exact ⟨.bool false, .bool false, .bool false, .bool false, .bool false, .bool false, .bool false, .bool false, .bool false, .bool false, .bool false, by simp only [putSel, Bool.false_eq_true, if_false], HO_10.out, HO_9.out, BK185.out, HB.out, fun h_ => absurd h_ (by decide), fun h_ => absurd h_ (by decide), fun h_ => absurd h_ (by decide), fun h_ => absurd h_ (by decide), fun h_ => absurd h_ (by decide), fun h_ => absurd h_ (by decide), fun h_ => absurd h_ (by decide), fun h_ => absurd h_ (by decide), fun h_ => absurd h_ (by decide), fun h_ => absurd h_ (by decide), fun h_ => absurd h_ (by decide)⟩
                                    · skip
                                      clear BK185 HB HO_10 HO_9
                                      refine steps_cons ?_ ?_
                                      · rintro b a w' ⟨v198, v202, v206, v209, v212, m16_, m17_, m18_, m19_, m21_, m22_, ha, Q_HO_10, Q_HO_9, Q_BK185, Q_HB, Q_HO199, Q_HO203, Q_HO207, Q_HO210, Q_HO213, Q_X16_, Q_X17_, Q_X18_, Q_X19_, Q_X21_, Q_X22_⟩ hb_ hon hoff
                                        refine ⟨_, rfl, fun K hK => ?_⟩
                                        have e76 : a.tmps[76]? = some (.slice (some ad196) l0.length c0) := by rw [ha]; exact (putSel_off rfl).trans rfl
                                        have e77 : a.tmps[77]? = some (.int .i64 x12_2) := by rw [ha]; exact (putSel_off rfl).trans rfl
                                        replace ha := Aside0.mk ha
                                        have HO_10 := Aside0.mk Q_HO_10
                                        have HO_9 := Aside0.mk Q_HO_9
                                        have BK185 := Aside0.mk Q_BK185
                                        have HB := Aside0.mk Q_HB
                                        have hs0_ : w'.cell? (ad196.add (x12_2).toNat) = some (.int .i64 (rd l0 x12_2)) := ((HB.out.cell (World.block_lt_of_cell? w _ hw196_0)).trans hw196_0)
                                        refine value_ (w1 := w') (v := .pointer (some (ad196.add (x12_2).toNat))) (by rfl) rfl ?_ ?_
                                        · go_simp
                                          (try simp only [i64_w])
                                          try rfl
                                        refine hK.out _ _ ⟨v198, v202, v206, v209, v212, m16_, m17_, m18_, m19_, m21_, m22_, (by rw [ha.out]; exact putSel_upk 0 hb_ rfl rfl rfl), Q_HO_10, Q_HO_9, Q_BK185, Q_HB, fun h0_ => absurd ((hoff 4 (by kernel_rfl)).symm.trans h0_) (by decide), Q_HO203, Q_HO207, fun h0_ => absurd ((hoff 16 (by kernel_rfl)).symm.trans h0_) (by decide), fun h0_ => absurd ((hoff 16 (by kernel_rfl)).symm.trans h0_) (by decide), fun h0_ => absurd ((hoff 16 (by kernel_rfl)).symm.trans h0_) (by decide), fun h0_ => absurd ((hoff 17 (by kernel_rfl)).symm.trans h0_) (by decide), fun h0_ => absurd ((hoff 18 (by kernel_rfl)).symm.trans h0_) (by decide), fun h0_ => absurd ((hoff 19 (by kernel_rfl)).symm.trans h0_) (by decide), fun h0_ => absurd ((hoff 21 (by kernel_rfl)).symm.trans h0_) (by decide), fun h0_ => absurd ((hoff 22 (by kernel_rfl)).symm.trans h0_) (by decide)⟩
                                      refine steps_cons ?_ ?_
                                      · rintro b a w' ⟨v198, v202, v206, v209, v212, m16_, m17_, m18_, m19_, m21_, m22_, ha, Q_HO_10, Q_HO_9, Q_BK185, Q_HB, Q_HO199, Q_HO203, Q_HO207, Q_HO210, Q_HO213, Q_X16_, Q_X17_, Q_X18_, Q_X19_, Q_X21_, Q_X22_⟩ hb_ hon hoff
                                        refine ⟨_, rfl, fun K hK => ?_⟩
                                        have e78 : a.tmps[78]? = some (.pointer (some (ad196.add (x12_2).toNat))) := by rw [ha]; exact putSel_on (e := (2, 78, .pointer (some (ad196.add (x12_2).toNat)))) 0 rfl rfl (hon 2 (by kernel_rfl)) rfl
                                        replace ha := Aside0.mk ha
                                        have HO_10 := Aside0.mk Q_HO_10
                                        have HO_9 := Aside0.mk Q_HO_9
                                        have BK185 := Aside0.mk Q_BK185
                                        have HB := Aside0.mk Q_HB
                                        have hs0_ : w'.cell? (ad196.add (x12_2).toNat) = some (.int .i64 (rd l0 x12_2)) := ((HB.out.cell (World.block_lt_of_cell? w _ hw196_0)).trans hw196_0)
                                        refine value_ (w1 := w') (v := .int .i64 (rd l0 x12_2)) (by rfl) rfl ?_ ?_
                                        · go_simp
                                          (try simp only [i64_w])
                                          try rfl
                                        refine hK.out _ _ ⟨v198, v202, v206, v209, v212, m16_, m17_, m18_, m19_, m21_, m22_, (by rw [ha.out]; exact putSel_upk 1 hb_ rfl rfl rfl), Q_HO_10, Q_HO_9, Q_BK185, Q_HB, fun h0_ => absurd ((hoff 4 (by kernel_rfl)).symm.trans h0_) (by decide), Q_HO203, Q_HO207, fun h0_ => absurd ((hoff 16 (by kernel_rfl)).symm.trans h0_) (by decide), fun h0_ => absurd ((hoff 16 (by kernel_rfl)).symm.trans h0_) (by decide), fun h0_ => absurd ((hoff 16 (by kernel_rfl)).symm.trans h0_) (by decide), fun h0_ => absurd ((hoff 17 (by kernel_rfl)).symm.trans h0_) (by decide), fun h0_ => absurd ((hoff 18 (by kernel_rfl)).symm.trans h0_) (by decide), fun h0_ => absurd ((hoff 19 (by kernel_rfl)).symm.trans h0_) (by decide), fun h0_ => absurd ((hoff 21 (by kernel_rfl)).symm.trans h0_) (by decide), fun h0_ => absurd ((hoff 22 (by kernel_rfl)).symm.trans h0_) (by decide)⟩
                                      refine steps_cons ?_ ?_
                                      · rintro b a w' ⟨v198, v202, v206, v209, v212, m16_, m17_, m18_, m19_, m21_, m22_, ha, Q_HO_10, Q_HO_9, Q_BK185, Q_HB, Q_HO199, Q_HO203, Q_HO207, Q_HO210, Q_HO213, Q_X16_, Q_X17_, Q_X18_, Q_X19_, Q_X21_, Q_X22_⟩ hb_ hon hoff
                                        refine ⟨_, rfl, fun K hK => ?_⟩
                                        have e79 : a.tmps[79]? = some (.int .i64 (rd l0 x12_2)) := by rw [ha]; exact putSel_on (e := (3, 79, .int .i64 (rd l0 x12_2))) 1 rfl rfl (hon 3 (by kernel_rfl)) rfl
                                        replace ha := Aside0.mk ha
                                        have HO_10 := Aside0.mk Q_HO_10
                                        have HO_9 := Aside0.mk Q_HO_9
                                        have BK185 := Aside0.mk Q_BK185
                                        have HB := Aside0.mk Q_HB
                                        refine Kd.R_lit_step (Kd.int .i64) _ 3 ?hg (N := 80) ?hd (xs := ([rd l0 x12_2] : List Int)) (inner := [.int .i64 (rd l0 x12_2)]) (ok := fun _ => True) (okp := fun _ => True) ?hr ?hp (fun _ hk => by first | exact hk | grind) trivial (Below.refl _ _) (Nat.le_refl _) (by simp) ?_; (case hd => rfl); (case hg => rfl); (case hr => first | (go_simp; done) | (go_simp; rfl)); (case hp => exact (Reps.one (show Kd.M (Kd.int .i64) _ _ _ (rd l0 x12_2) [.int .i64 (rd l0 x12_2)] from rfl) (Reps.none _ _)))
                                        intro v198 w48 ho49 hb hg_ hnew_
                                        clear hg_ hnew_
                                        (first | rw [← Ny197.out] at ho49 | (simp only [Int.reduceToNat] at ho49; rw [← Ny197.out] at ho49))
                                        have n0_ := Aside0.mk (Kd.R_elder' (by (with_reducible repeat (first | apply Kd.R_alloc | apply Kd.R_drewN | apply Kd.R_drew)); exact HO_9.out) (Kd.R_base ho49) hb)
                                        have n1_ := Aside0.mk (Kd.R_elder' (by (with_reducible repeat (first | apply Kd.R_alloc | apply Kd.R_drewN | apply Kd.R_drew)); exact HO_10.out) (Kd.R_base ho49) hb)
                                        have n2_ := Aside0.mk (Kd.R_lower (Kd.R_new' (Kd.R_new' ho49 (Kd.R_lt (by (with_reducible repeat (first | apply Kd.R_alloc | apply Kd.R_drewN | apply Kd.R_drew)); exact HO_9.out))) (Kd.R_lt (by (with_reducible repeat (first | apply Kd.R_alloc | apply Kd.R_drewN | apply Kd.R_drew)); exact HO_10.out))) (below_size (by repeat (first | (with_reducible first | exact HB.out | apply below_alloc | apply pw_below_drewN | apply below_drew1 | refine below_set ?_ GE185.out) | exact HB.out))))
                                        have n3_ := Aside0.mk (blk_below (g := gb185) (o := .cells #[.int .i64 a3_0, .int .i64 a3_1] 46 (0, 0)) (by (with_reducible repeat (first | refine blk_drewN ?_ _ | refine blk_drew ?_ | refine blk_alloc ?_ _)); exact BK185.out) hb)
                                        have n4_ := Aside0.mk (below_step (by repeat (first | (with_reducible first | exact HB.out | apply below_alloc | apply pw_below_drewN | apply below_drew1 | refine below_set ?_ GE185.out) | exact HB.out)) hb)
                                        have z_HO203 := fun (h0_ : b 9 = true) => (show Kd.R (Kd.int .i64) 3 w48 w.heap.size (fun k_ => some k_ ≠ (v191 : Value).ownBlock ∧ some k_ ≠ (v188 : Value).ownBlock) v202 y201 from by first | exact (Kd.R_elder' (by (with_reducible repeat (first | apply Kd.R_alloc | apply Kd.R_drewN | apply Kd.R_drew)); exact (Q_HO203 h0_)) (Kd.R_base ho49) hb) | exact Kd.R_mono (Kd.R_elder' (by (with_reducible repeat (first | apply Kd.R_alloc | apply Kd.R_drewN | apply Kd.R_drew)); exact (Q_HO203 h0_)) (Kd.R_base ho49) hb) (fun _ h_ => by first | trivial | exact h_ | exact h_.1))
                                        have z_HO207 := fun (h0_ : b 14 = true) => (show Kd.R (Kd.int .i64) 3 w48 w.heap.size (fun k_ => some k_ ≠ (v191 : Value).ownBlock ∧ some k_ ≠ (v188 : Value).ownBlock) v206 y205 from by first | exact (Kd.R_elder' (by (with_reducible repeat (first | apply Kd.R_alloc | apply Kd.R_drewN | apply Kd.R_drew)); exact (Q_HO207 h0_)) (Kd.R_base ho49) hb) | exact Kd.R_mono (Kd.R_elder' (by (with_reducible repeat (first | apply Kd.R_alloc | apply Kd.R_drewN | apply Kd.R_drew)); exact (Q_HO207 h0_)) (Kd.R_base ho49) hb) (fun _ h_ => by first | trivial | exact h_ | exact h_.1))
                                        clear HO_9
                                        clear HO_10
                                        clear BK185
                                        clear HB
                                        have HO_9 := n0_
                                        have HO_10 := n1_
                                        have HO199 := n2_
                                        have BK185 := n3_
                                        have HB := n4_
                                        clear n0_ n1_ n2_ n3_ n4_
                                        clear hb ho49
                                        refine hK.out _ _ ⟨v198, v202, v206, v209, v212, m16_, m17_, m18_, m19_, m21_, m22_, (by rw [ha.out]; exact putSel_upk 2 hb_ rfl rfl rfl), (by (with_reducible repeat (first | apply Kd.R_alloc | apply Kd.R_drewN | apply Kd.R_drew)); exact Kd.R_mono HO_10.out (fun _ hk => by first | exact ⟨hk.2, hk.1⟩ | exact hk.1 | exact hk.2 | grind)), (by (with_reducible repeat (first | apply Kd.R_alloc | apply Kd.R_drewN | apply Kd.R_drew)); exact Kd.R_mono HO_9.out (fun _ hk => by first | exact ⟨hk.2, hk.1⟩ | exact hk.1 | exact hk.2 | grind)), (by (with_reducible repeat (first | refine blk_drewN ?_ _ | refine blk_drew ?_ | refine blk_alloc ?_ _)); exact BK185.out), (by repeat (first | (with_reducible first | exact HB.out | apply below_alloc | apply pw_below_drewN | apply below_drew1 | refine below_set ?_ GE185.out) | exact HB.out)), fun _ => (by (with_reducible repeat (first | apply Kd.R_alloc | apply Kd.R_drewN | apply Kd.R_drew)); exact Kd.R_mono HO199.out (fun _ hk => by first | exact ⟨hk.2, hk.1.2⟩ | exact hk.1 | exact hk.2 | grind)), z_HO203, z_HO207, fun h0_ => absurd ((hoff 16 (by kernel_rfl)).symm.trans h0_) (by decide), fun h0_ => absurd ((hoff 16 (by kernel_rfl)).symm.trans h0_) (by decide), fun h0_ => absurd ((hoff 16 (by kernel_rfl)).symm.trans h0_) (by decide), fun h0_ => absurd ((hoff 17 (by kernel_rfl)).symm.trans h0_) (by decide), fun h0_ => absurd ((hoff 18 (by kernel_rfl)).symm.trans h0_) (by decide), fun h0_ => absurd ((hoff 19 (by kernel_rfl)).symm.trans h0_) (by decide), fun h0_ => absurd ((hoff 21 (by kernel_rfl)).symm.trans h0_) (by decide), fun h0_ => absurd ((hoff 22 (by kernel_rfl)).symm.trans h0_) (by decide)⟩
                                      refine steps_cons ?_ ?_
                                      · rintro b a w' ⟨v198, v202, v206, v209, v212, m16_, m17_, m18_, m19_, m21_, m22_, ha, Q_HO_10, Q_HO_9, Q_BK185, Q_HB, Q_HO199, Q_HO203, Q_HO207, Q_HO210, Q_HO213, Q_X16_, Q_X17_, Q_X18_, Q_X19_, Q_X21_, Q_X22_⟩ hb_ hon hoff
                                        refine ⟨_, rfl, fun K hK => ?_⟩
                                        have e81 : a.tmps[81]? = some (.slice (some ad200) l1.length c1) := by rw [ha]; exact (putSel_off rfl).trans rfl
                                        have e82 : a.tmps[82]? = some (.int .i64 x12_2) := by rw [ha]; exact (putSel_off rfl).trans rfl
                                        replace ha := Aside0.mk ha
                                        have HO_10 := Aside0.mk Q_HO_10
                                        have HO_9 := Aside0.mk Q_HO_9
                                        have BK185 := Aside0.mk Q_BK185
                                        have HB := Aside0.mk Q_HB
                                        have hs1_ : w'.cell? (ad200.add (x12_2).toNat) = some (.int .i64 (rd l1 x12_2)) := ((HB.out.cell (World.block_lt_of_cell? w _ hw200_0)).trans hw200_0)
                                        refine value_ (w1 := w') (v := .pointer (some (ad200.add (x12_2).toNat))) (by rfl) rfl ?_ ?_
                                        · go_simp
                                          (try simp only [i64_w])
                                          try rfl
                                        refine hK.out _ _ ⟨v198, v202, v206, v209, v212, m16_, m17_, m18_, m19_, m21_, m22_, (by rw [ha.out]; exact putSel_upk 3 hb_ rfl rfl rfl), Q_HO_10, Q_HO_9, Q_BK185, Q_HB, Q_HO199, fun h0_ => absurd ((hoff 9 (by kernel_rfl)).symm.trans h0_) (by decide), Q_HO207, fun h0_ => absurd ((hoff 16 (by kernel_rfl)).symm.trans h0_) (by decide), fun h0_ => absurd ((hoff 16 (by kernel_rfl)).symm.trans h0_) (by decide), fun h0_ => absurd ((hoff 16 (by kernel_rfl)).symm.trans h0_) (by decide), fun h0_ => absurd ((hoff 17 (by kernel_rfl)).symm.trans h0_) (by decide), fun h0_ => absurd ((hoff 18 (by kernel_rfl)).symm.trans h0_) (by decide), fun h0_ => absurd ((hoff 19 (by kernel_rfl)).symm.trans h0_) (by decide), fun h0_ => absurd ((hoff 21 (by kernel_rfl)).symm.trans h0_) (by decide), fun h0_ => absurd ((hoff 22 (by kernel_rfl)).symm.trans h0_) (by decide)⟩
                                      refine steps_cons ?_ ?_
                                      · rintro b a w' ⟨v198, v202, v206, v209, v212, m16_, m17_, m18_, m19_, m21_, m22_, ha, Q_HO_10, Q_HO_9, Q_BK185, Q_HB, Q_HO199, Q_HO203, Q_HO207, Q_HO210, Q_HO213, Q_X16_, Q_X17_, Q_X18_, Q_X19_, Q_X21_, Q_X22_⟩ hb_ hon hoff
                                        refine ⟨_, rfl, fun K hK => ?_⟩
                                        have e83 : a.tmps[83]? = some (.pointer (some (ad200.add (x12_2).toNat))) := by rw [ha]; exact putSel_on (e := (7, 83, .pointer (some (ad200.add (x12_2).toNat)))) 3 rfl rfl (hon 7 (by kernel_rfl)) rfl
                                        replace ha := Aside0.mk ha
                                        have HO_10 := Aside0.mk Q_HO_10
                                        have HO_9 := Aside0.mk Q_HO_9
                                        have BK185 := Aside0.mk Q_BK185
                                        have HB := Aside0.mk Q_HB
                                        have hs1_ : w'.cell? (ad200.add (x12_2).toNat) = some (.int .i64 (rd l1 x12_2)) := ((HB.out.cell (World.block_lt_of_cell? w _ hw200_0)).trans hw200_0)
                                        refine value_ (w1 := w') (v := .int .i64 (rd l1 x12_2)) (by rfl) rfl ?_ ?_
                                        · go_simp
                                          (try simp only [i64_w])
                                          try rfl
                                        refine hK.out _ _ ⟨v198, v202, v206, v209, v212, m16_, m17_, m18_, m19_, m21_, m22_, (by rw [ha.out]; exact putSel_upk 4 hb_ rfl rfl rfl), Q_HO_10, Q_HO_9, Q_BK185, Q_HB, Q_HO199, fun h0_ => absurd ((hoff 9 (by kernel_rfl)).symm.trans h0_) (by decide), Q_HO207, fun h0_ => absurd ((hoff 16 (by kernel_rfl)).symm.trans h0_) (by decide), fun h0_ => absurd ((hoff 16 (by kernel_rfl)).symm.trans h0_) (by decide), fun h0_ => absurd ((hoff 16 (by kernel_rfl)).symm.trans h0_) (by decide), fun h0_ => absurd ((hoff 17 (by kernel_rfl)).symm.trans h0_) (by decide), fun h0_ => absurd ((hoff 18 (by kernel_rfl)).symm.trans h0_) (by decide), fun h0_ => absurd ((hoff 19 (by kernel_rfl)).symm.trans h0_) (by decide), fun h0_ => absurd ((hoff 21 (by kernel_rfl)).symm.trans h0_) (by decide), fun h0_ => absurd ((hoff 22 (by kernel_rfl)).symm.trans h0_) (by decide)⟩
                                      refine steps_cons ?_ ?_
                                      · rintro b a w' ⟨v198, v202, v206, v209, v212, m16_, m17_, m18_, m19_, m21_, m22_, ha, Q_HO_10, Q_HO_9, Q_BK185, Q_HB, Q_HO199, Q_HO203, Q_HO207, Q_HO210, Q_HO213, Q_X16_, Q_X17_, Q_X18_, Q_X19_, Q_X21_, Q_X22_⟩ hb_ hon hoff
                                        refine ⟨_, rfl, fun K hK => ?_⟩
                                        have e84 : a.tmps[84]? = some (.int .i64 (rd l1 x12_2)) := by rw [ha]; exact putSel_on (e := (8, 84, .int .i64 (rd l1 x12_2))) 4 rfl rfl (hon 8 (by kernel_rfl)) rfl
                                        replace ha := Aside0.mk ha
                                        have HO_10 := Aside0.mk Q_HO_10
                                        have HO_9 := Aside0.mk Q_HO_9
                                        have BK185 := Aside0.mk Q_BK185
                                        have HB := Aside0.mk Q_HB
                                        refine Kd.R_lit_step (Kd.int .i64) _ 3 ?hg (N := 85) ?hd (xs := ([rd l1 x12_2] : List Int)) (inner := [.int .i64 (rd l1 x12_2)]) (ok := fun _ => True) (okp := fun _ => True) ?hr ?hp (fun _ hk => by first | exact hk | grind) trivial (Below.refl _ _) (Nat.le_refl _) (by simp) ?_; (case hd => rfl); (case hg => rfl); (case hr => first | (go_simp; done) | (go_simp; rfl)); (case hp => exact (Reps.one (show Kd.M (Kd.int .i64) _ _ _ (rd l1 x12_2) [.int .i64 (rd l1 x12_2)] from rfl) (Reps.none _ _)))
                                        intro v202 w48 ho49 hb hg_ hnew_
                                        clear hg_ hnew_
                                        (first | rw [← Ny201.out] at ho49 | (simp only [Int.reduceToNat] at ho49; rw [← Ny201.out] at ho49))
                                        have n0_ := Aside0.mk (Kd.R_elder' (by (with_reducible repeat (first | apply Kd.R_alloc | apply Kd.R_drewN | apply Kd.R_drew)); exact HO_9.out) (Kd.R_base ho49) hb)
                                        have n1_ := Aside0.mk (Kd.R_elder' (by (with_reducible repeat (first | apply Kd.R_alloc | apply Kd.R_drewN | apply Kd.R_drew)); exact HO_10.out) (Kd.R_base ho49) hb)
                                        have n2_ := Aside0.mk (Kd.R_lower (Kd.R_new' (Kd.R_new' ho49 (Kd.R_lt (by (with_reducible repeat (first | apply Kd.R_alloc | apply Kd.R_drewN | apply Kd.R_drew)); exact HO_9.out))) (Kd.R_lt (by (with_reducible repeat (first | apply Kd.R_alloc | apply Kd.R_drewN | apply Kd.R_drew)); exact HO_10.out))) (below_size (by repeat (first | (with_reducible first | exact HB.out | apply below_alloc | apply pw_below_drewN | apply below_drew1 | refine below_set ?_ GE185.out) | exact HB.out))))
                                        have n3_ := Aside0.mk (blk_below (g := gb185) (o := .cells #[.int .i64 a3_0, .int .i64 a3_1] 46 (0, 0)) (by (with_reducible repeat (first | refine blk_drewN ?_ _ | refine blk_drew ?_ | refine blk_alloc ?_ _)); exact BK185.out) hb)
                                        have n4_ := Aside0.mk (below_step (by repeat (first | (with_reducible first | exact HB.out | apply below_alloc | apply pw_below_drewN | apply below_drew1 | refine below_set ?_ GE185.out) | exact HB.out)) hb)
                                        have z_HO199 := fun (h0_ : b 4 = true) => (show Kd.R (Kd.int .i64) 3 w48 w.heap.size (fun k_ => some k_ ≠ (v191 : Value).ownBlock ∧ some k_ ≠ (v188 : Value).ownBlock) v198 y197 from by first | exact (Kd.R_elder' (by (with_reducible repeat (first | apply Kd.R_alloc | apply Kd.R_drewN | apply Kd.R_drew)); exact (Q_HO199 h0_)) (Kd.R_base ho49) hb) | exact Kd.R_mono (Kd.R_elder' (by (with_reducible repeat (first | apply Kd.R_alloc | apply Kd.R_drewN | apply Kd.R_drew)); exact (Q_HO199 h0_)) (Kd.R_base ho49) hb) (fun _ h_ => by first | trivial | exact h_ | exact h_.1))
                                        have z_HO207 := fun (h0_ : b 14 = true) => (show Kd.R (Kd.int .i64) 3 w48 w.heap.size (fun k_ => some k_ ≠ (v191 : Value).ownBlock ∧ some k_ ≠ (v188 : Value).ownBlock) v206 y205 from by first | exact (Kd.R_elder' (by (with_reducible repeat (first | apply Kd.R_alloc | apply Kd.R_drewN | apply Kd.R_drew)); exact (Q_HO207 h0_)) (Kd.R_base ho49) hb) | exact Kd.R_mono (Kd.R_elder' (by (with_reducible repeat (first | apply Kd.R_alloc | apply Kd.R_drewN | apply Kd.R_drew)); exact (Q_HO207 h0_)) (Kd.R_base ho49) hb) (fun _ h_ => by first | trivial | exact h_ | exact h_.1))
                                        clear HO_9
                                        clear HO_10
                                        clear BK185
                                        clear HB
                                        have HO_9 := n0_
                                        have HO_10 := n1_
                                        have HO203 := n2_
                                        have BK185 := n3_
                                        have HB := n4_
                                        clear n0_ n1_ n2_ n3_ n4_
                                        clear hb ho49
                                        refine hK.out _ _ ⟨v198, v202, v206, v209, v212, m16_, m17_, m18_, m19_, m21_, m22_, (by rw [ha.out]; exact putSel_upk 5 hb_ rfl rfl rfl), (by (with_reducible repeat (first | apply Kd.R_alloc | apply Kd.R_drewN | apply Kd.R_drew)); exact Kd.R_mono HO_10.out (fun _ hk => by first | exact ⟨hk.2, hk.1⟩ | exact hk.1 | exact hk.2 | grind)), (by (with_reducible repeat (first | apply Kd.R_alloc | apply Kd.R_drewN | apply Kd.R_drew)); exact Kd.R_mono HO_9.out (fun _ hk => by first | exact ⟨hk.2, hk.1⟩ | exact hk.1 | exact hk.2 | grind)), (by (with_reducible repeat (first | refine blk_drewN ?_ _ | refine blk_drew ?_ | refine blk_alloc ?_ _)); exact BK185.out), (by repeat (first | (with_reducible first | exact HB.out | apply below_alloc | apply pw_below_drewN | apply below_drew1 | refine below_set ?_ GE185.out) | exact HB.out)), z_HO199, fun _ => (by (with_reducible repeat (first | apply Kd.R_alloc | apply Kd.R_drewN | apply Kd.R_drew)); exact Kd.R_mono HO203.out (fun _ hk => by first | exact ⟨hk.2, hk.1.2⟩ | exact hk.1 | exact hk.2 | grind)), z_HO207, fun h0_ => absurd ((hoff 16 (by kernel_rfl)).symm.trans h0_) (by decide), fun h0_ => absurd ((hoff 16 (by kernel_rfl)).symm.trans h0_) (by decide), fun h0_ => absurd ((hoff 16 (by kernel_rfl)).symm.trans h0_) (by decide), fun h0_ => absurd ((hoff 17 (by kernel_rfl)).symm.trans h0_) (by decide), fun h0_ => absurd ((hoff 18 (by kernel_rfl)).symm.trans h0_) (by decide), fun h0_ => absurd ((hoff 19 (by kernel_rfl)).symm.trans h0_) (by decide), fun h0_ => absurd ((hoff 21 (by kernel_rfl)).symm.trans h0_) (by decide), fun h0_ => absurd ((hoff 22 (by kernel_rfl)).symm.trans h0_) (by decide)⟩
                                      refine steps_cons ?_ ?_
                                      · rintro b a w' ⟨v198, v202, v206, v209, v212, m16_, m17_, m18_, m19_, m21_, m22_, ha, Q_HO_10, Q_HO_9, Q_BK185, Q_HB, Q_HO199, Q_HO203, Q_HO207, Q_HO210, Q_HO213, Q_X16_, Q_X17_, Q_X18_, Q_X19_, Q_X21_, Q_X22_⟩ hb_ hon hoff
                                        refine ⟨_, rfl, fun K hK => ?_⟩
                                        have e86 : a.tmps[86]? = some (.slice (some ad204) l2.length c2) := by rw [ha]; exact (putSel_off rfl).trans rfl
                                        have e87 : a.tmps[87]? = some (.int .i64 x12_2) := by rw [ha]; exact (putSel_off rfl).trans rfl
                                        replace ha := Aside0.mk ha
                                        have HO_10 := Aside0.mk Q_HO_10
                                        have HO_9 := Aside0.mk Q_HO_9
                                        have BK185 := Aside0.mk Q_BK185
                                        have HB := Aside0.mk Q_HB
                                        have hs2_ : w'.cell? (ad204.add (x12_2).toNat) = some (.int .i64 (rd l2 x12_2)) := ((HB.out.cell (World.block_lt_of_cell? w _ hw204_0)).trans hw204_0)
                                        refine value_ (w1 := w') (v := .pointer (some (ad204.add (x12_2).toNat))) (by rfl) rfl ?_ ?_
                                        · go_simp
                                          (try simp only [i64_w])
                                          try rfl
                                        refine hK.out _ _ ⟨v198, v202, v206, v209, v212, m16_, m17_, m18_, m19_, m21_, m22_, (by rw [ha.out]; exact putSel_upk 6 hb_ rfl rfl rfl), Q_HO_10, Q_HO_9, Q_BK185, Q_HB, Q_HO199, Q_HO203, fun h0_ => absurd ((hoff 14 (by kernel_rfl)).symm.trans h0_) (by decide), fun h0_ => absurd ((hoff 16 (by kernel_rfl)).symm.trans h0_) (by decide), fun h0_ => absurd ((hoff 16 (by kernel_rfl)).symm.trans h0_) (by decide), fun h0_ => absurd ((hoff 16 (by kernel_rfl)).symm.trans h0_) (by decide), fun h0_ => absurd ((hoff 17 (by kernel_rfl)).symm.trans h0_) (by decide), fun h0_ => absurd ((hoff 18 (by kernel_rfl)).symm.trans h0_) (by decide), fun h0_ => absurd ((hoff 19 (by kernel_rfl)).symm.trans h0_) (by decide), fun h0_ => absurd ((hoff 21 (by kernel_rfl)).symm.trans h0_) (by decide), fun h0_ => absurd ((hoff 22 (by kernel_rfl)).symm.trans h0_) (by decide)⟩
                                      refine steps_cons ?_ ?_
                                      · rintro b a w' ⟨v198, v202, v206, v209, v212, m16_, m17_, m18_, m19_, m21_, m22_, ha, Q_HO_10, Q_HO_9, Q_BK185, Q_HB, Q_HO199, Q_HO203, Q_HO207, Q_HO210, Q_HO213, Q_X16_, Q_X17_, Q_X18_, Q_X19_, Q_X21_, Q_X22_⟩ hb_ hon hoff
                                        refine ⟨_, rfl, fun K hK => ?_⟩
                                        have e88 : a.tmps[88]? = some (.pointer (some (ad204.add (x12_2).toNat))) := by rw [ha]; exact putSel_on (e := (12, 88, .pointer (some (ad204.add (x12_2).toNat)))) 6 rfl rfl (hon 12 (by kernel_rfl)) rfl
                                        replace ha := Aside0.mk ha
                                        have HO_10 := Aside0.mk Q_HO_10
                                        have HO_9 := Aside0.mk Q_HO_9
                                        have BK185 := Aside0.mk Q_BK185
                                        have HB := Aside0.mk Q_HB
                                        have hs2_ : w'.cell? (ad204.add (x12_2).toNat) = some (.int .i64 (rd l2 x12_2)) := ((HB.out.cell (World.block_lt_of_cell? w _ hw204_0)).trans hw204_0)
                                        refine value_ (w1 := w') (v := .int .i64 (rd l2 x12_2)) (by rfl) rfl ?_ ?_
                                        · go_simp
                                          (try simp only [i64_w])
                                          try rfl
                                        refine hK.out _ _ ⟨v198, v202, v206, v209, v212, m16_, m17_, m18_, m19_, m21_, m22_, (by rw [ha.out]; exact putSel_upk 7 hb_ rfl rfl rfl), Q_HO_10, Q_HO_9, Q_BK185, Q_HB, Q_HO199, Q_HO203, fun h0_ => absurd ((hoff 14 (by kernel_rfl)).symm.trans h0_) (by decide), fun h0_ => absurd ((hoff 16 (by kernel_rfl)).symm.trans h0_) (by decide), fun h0_ => absurd ((hoff 16 (by kernel_rfl)).symm.trans h0_) (by decide), fun h0_ => absurd ((hoff 16 (by kernel_rfl)).symm.trans h0_) (by decide), fun h0_ => absurd ((hoff 17 (by kernel_rfl)).symm.trans h0_) (by decide), fun h0_ => absurd ((hoff 18 (by kernel_rfl)).symm.trans h0_) (by decide), fun h0_ => absurd ((hoff 19 (by kernel_rfl)).symm.trans h0_) (by decide), fun h0_ => absurd ((hoff 21 (by kernel_rfl)).symm.trans h0_) (by decide), fun h0_ => absurd ((hoff 22 (by kernel_rfl)).symm.trans h0_) (by decide)⟩
                                      refine steps_cons ?_ ?_
                                      · rintro b a w' ⟨v198, v202, v206, v209, v212, m16_, m17_, m18_, m19_, m21_, m22_, ha, Q_HO_10, Q_HO_9, Q_BK185, Q_HB, Q_HO199, Q_HO203, Q_HO207, Q_HO210, Q_HO213, Q_X16_, Q_X17_, Q_X18_, Q_X19_, Q_X21_, Q_X22_⟩ hb_ hon hoff
                                        refine ⟨_, rfl, fun K hK => ?_⟩
                                        have e89 : a.tmps[89]? = some (.int .i64 (rd l2 x12_2)) := by rw [ha]; exact putSel_on (e := (13, 89, .int .i64 (rd l2 x12_2))) 7 rfl rfl (hon 13 (by kernel_rfl)) rfl
                                        replace ha := Aside0.mk ha
                                        have HO_10 := Aside0.mk Q_HO_10
                                        have HO_9 := Aside0.mk Q_HO_9
                                        have BK185 := Aside0.mk Q_BK185
                                        have HB := Aside0.mk Q_HB
                                        refine Kd.R_lit_step (Kd.int .i64) _ 3 ?hg (N := 90) ?hd (xs := ([rd l2 x12_2] : List Int)) (inner := [.int .i64 (rd l2 x12_2)]) (ok := fun _ => True) (okp := fun _ => True) ?hr ?hp (fun _ hk => by first | exact hk | grind) trivial (Below.refl _ _) (Nat.le_refl _) (by simp) ?_; (case hd => rfl); (case hg => rfl); (case hr => first | (go_simp; done) | (go_simp; rfl)); (case hp => exact (Reps.one (show Kd.M (Kd.int .i64) _ _ _ (rd l2 x12_2) [.int .i64 (rd l2 x12_2)] from rfl) (Reps.none _ _)))
                                        intro v206 w48 ho49 hb hg_ hnew_
                                        clear hg_ hnew_
                                        (first | rw [← Ny205.out] at ho49 | (simp only [Int.reduceToNat] at ho49; rw [← Ny205.out] at ho49))
                                        have n0_ := Aside0.mk (Kd.R_elder' (by (with_reducible repeat (first | apply Kd.R_alloc | apply Kd.R_drewN | apply Kd.R_drew)); exact HO_9.out) (Kd.R_base ho49) hb)
                                        have n1_ := Aside0.mk (Kd.R_elder' (by (with_reducible repeat (first | apply Kd.R_alloc | apply Kd.R_drewN | apply Kd.R_drew)); exact HO_10.out) (Kd.R_base ho49) hb)
                                        have n2_ := Aside0.mk (Kd.R_lower (Kd.R_new' (Kd.R_new' ho49 (Kd.R_lt (by (with_reducible repeat (first | apply Kd.R_alloc | apply Kd.R_drewN | apply Kd.R_drew)); exact HO_9.out))) (Kd.R_lt (by (with_reducible repeat (first | apply Kd.R_alloc | apply Kd.R_drewN | apply Kd.R_drew)); exact HO_10.out))) (below_size (by repeat (first | (with_reducible first | exact HB.out | apply below_alloc | apply pw_below_drewN | apply below_drew1 | refine below_set ?_ GE185.out) | exact HB.out))))
                                        have n3_ := Aside0.mk (blk_below (g := gb185) (o := .cells #[.int .i64 a3_0, .int .i64 a3_1] 46 (0, 0)) (by (with_reducible repeat (first | refine blk_drewN ?_ _ | refine blk_drew ?_ | refine blk_alloc ?_ _)); exact BK185.out) hb)
                                        have n4_ := Aside0.mk (below_step (by repeat (first | (with_reducible first | exact HB.out | apply below_alloc | apply pw_below_drewN | apply below_drew1 | refine below_set ?_ GE185.out) | exact HB.out)) hb)
                                        have z_HO199 := fun (h0_ : b 4 = true) => (show Kd.R (Kd.int .i64) 3 w48 w.heap.size (fun k_ => some k_ ≠ (v191 : Value).ownBlock ∧ some k_ ≠ (v188 : Value).ownBlock) v198 y197 from by first | exact (Kd.R_elder' (by (with_reducible repeat (first | apply Kd.R_alloc | apply Kd.R_drewN | apply Kd.R_drew)); exact (Q_HO199 h0_)) (Kd.R_base ho49) hb) | exact Kd.R_mono (Kd.R_elder' (by (with_reducible repeat (first | apply Kd.R_alloc | apply Kd.R_drewN | apply Kd.R_drew)); exact (Q_HO199 h0_)) (Kd.R_base ho49) hb) (fun _ h_ => by first | trivial | exact h_ | exact h_.1))
                                        have z_HO203 := fun (h0_ : b 9 = true) => (show Kd.R (Kd.int .i64) 3 w48 w.heap.size (fun k_ => some k_ ≠ (v191 : Value).ownBlock ∧ some k_ ≠ (v188 : Value).ownBlock) v202 y201 from by first | exact (Kd.R_elder' (by (with_reducible repeat (first | apply Kd.R_alloc | apply Kd.R_drewN | apply Kd.R_drew)); exact (Q_HO203 h0_)) (Kd.R_base ho49) hb) | exact Kd.R_mono (Kd.R_elder' (by (with_reducible repeat (first | apply Kd.R_alloc | apply Kd.R_drewN | apply Kd.R_drew)); exact (Q_HO203 h0_)) (Kd.R_base ho49) hb) (fun _ h_ => by first | trivial | exact h_ | exact h_.1))
                                        clear HO_9
                                        clear HO_10
                                        clear BK185
                                        clear HB
                                        have HO_9 := n0_
                                        have HO_10 := n1_
                                        have HO207 := n2_
                                        have BK185 := n3_
                                        have HB := n4_
                                        clear n0_ n1_ n2_ n3_ n4_
                                        clear hb ho49
                                        refine hK.out _ _ ⟨v198, v202, v206, v209, v212, m16_, m17_, m18_, m19_, m21_, m22_, (by rw [ha.out]; exact putSel_upk 8 hb_ rfl rfl rfl), (by (with_reducible repeat (first | apply Kd.R_alloc | apply Kd.R_drewN | apply Kd.R_drew)); exact Kd.R_mono HO_10.out (fun _ hk => by first | exact ⟨hk.2, hk.1⟩ | exact hk.1 | exact hk.2 | grind)), (by (with_reducible repeat (first | apply Kd.R_alloc | apply Kd.R_drewN | apply Kd.R_drew)); exact Kd.R_mono HO_9.out (fun _ hk => by first | exact ⟨hk.2, hk.1⟩ | exact hk.1 | exact hk.2 | grind)), (by (with_reducible repeat (first | refine blk_drewN ?_ _ | refine blk_drew ?_ | refine blk_alloc ?_ _)); exact BK185.out), (by repeat (first | (with_reducible first | exact HB.out | apply below_alloc | apply pw_below_drewN | apply below_drew1 | refine below_set ?_ GE185.out) | exact HB.out)), z_HO199, z_HO203, fun _ => (by (with_reducible repeat (first | apply Kd.R_alloc | apply Kd.R_drewN | apply Kd.R_drew)); exact Kd.R_mono HO207.out (fun _ hk => by first | exact ⟨hk.2, hk.1.2⟩ | exact hk.1 | exact hk.2 | grind)), fun h0_ => absurd ((hoff 16 (by kernel_rfl)).symm.trans h0_) (by decide), fun h0_ => absurd ((hoff 16 (by kernel_rfl)).symm.trans h0_) (by decide), fun h0_ => absurd ((hoff 16 (by kernel_rfl)).symm.trans h0_) (by decide), fun h0_ => absurd ((hoff 17 (by kernel_rfl)).symm.trans h0_) (by decide), fun h0_ => absurd ((hoff 18 (by kernel_rfl)).symm.trans h0_) (by decide), fun h0_ => absurd ((hoff 19 (by kernel_rfl)).symm.trans h0_) (by decide), fun h0_ => absurd ((hoff 21 (by kernel_rfl)).symm.trans h0_) (by decide), fun h0_ => absurd ((hoff 22 (by kernel_rfl)).symm.trans h0_) (by decide)⟩
                                      refine steps_cons ?_ ?_
                                      · rintro b a w' ⟨v198, v202, v206, v209, v212, m16_, m17_, m18_, m19_, m21_, m22_, ha, Q_HO_10, Q_HO_9, Q_BK185, Q_HB, Q_HO199, Q_HO203, Q_HO207, Q_HO210, Q_HO213, Q_X16_, Q_X17_, Q_X18_, Q_X19_, Q_X21_, Q_X22_⟩ hb_ hon hoff
                                        refine ⟨_, rfl, fun K hK => ?_⟩
                                        have e7 : a.tmps[7]? = some (.pointer (some ⟨gb185, 0, none⟩)) := by rw [ha]; exact (putSel_off rfl).trans rfl
                                        replace ha := Aside0.mk ha
                                        have HO_10 := Aside0.mk Q_HO_10
                                        have HO_9 := Aside0.mk Q_HO_9
                                        have BK185 := Aside0.mk Q_BK185
                                        have HB := Aside0.mk Q_HB
                                        have hc0_ : w'.cell? ⟨gb185, 0, none⟩ = some (.int .i64 a3_0) := (blk_cell BK185.out 0).trans rfl
                                        have hc1_ : w'.cell? ⟨gb185, 1, none⟩ = some (.int .i64 a3_1) := (blk_cell BK185.out 1).trans rfl
                                        refine value_ (w1 := w') (v := .agg #[.int .i64 a3_0, .int .i64 a3_1]) (by rfl) rfl ?_ ?_
                                        · go_simp
                                          (try simp only [i64_w])
                                          try rfl
                                        refine hK.out _ _ ⟨v198, v202, v206, v209, v212, m16_, m17_, m18_, m19_, m21_, m22_, (by rw [ha.out]; exact putSel_upk 9 hb_ rfl rfl rfl), Q_HO_10, Q_HO_9, Q_BK185, Q_HB, Q_HO199, Q_HO203, Q_HO207, fun h0_ => absurd ((hoff 16 (by kernel_rfl)).symm.trans h0_) (by decide), fun h0_ => absurd ((hoff 16 (by kernel_rfl)).symm.trans h0_) (by decide), fun h0_ => absurd ((hoff 16 (by kernel_rfl)).symm.trans h0_) (by decide), fun h0_ => absurd ((hoff 17 (by kernel_rfl)).symm.trans h0_) (by decide), fun h0_ => absurd ((hoff 18 (by kernel_rfl)).symm.trans h0_) (by decide), fun h0_ => absurd ((hoff 19 (by kernel_rfl)).symm.trans h0_) (by decide), fun h0_ => absurd ((hoff 21 (by kernel_rfl)).symm.trans h0_) (by decide), fun h0_ => absurd ((hoff 22 (by kernel_rfl)).symm.trans h0_) (by decide)⟩
                                      refine steps_cons ?_ ?_
                                      · rintro b a w' ⟨v198, v202, v206, v209, v212, m16_, m17_, m18_, m19_, m21_, m22_, ha, Q_HO_10, Q_HO_9, Q_BK185, Q_HB, Q_HO199, Q_HO203, Q_HO207, Q_HO210, Q_HO213, Q_X16_, Q_X17_, Q_X18_, Q_X19_, Q_X21_, Q_X22_⟩ hb_ hon hoff
                                        refine ⟨_, rfl, fun K hK => ?_⟩
                                        have e80 : a.tmps[80]? = some (v198) := by rw [ha]; exact putSel_on (e := (4, 80, v198)) 2 rfl rfl (hon 4 (by kernel_rfl)) rfl
                                        have e85 : a.tmps[85]? = some (v202) := by rw [ha]; exact putSel_on (e := (9, 85, v202)) 5 rfl rfl (hon 9 (by kernel_rfl)) rfl
                                        have e90 : a.tmps[90]? = some (v206) := by rw [ha]; exact putSel_on (e := (14, 90, v206)) 8 rfl rfl (hon 14 (by kernel_rfl)) rfl
                                        have e91 : a.tmps[91]? = some (.agg #[.int .i64 a3_0, .int .i64 a3_1]) := by rw [ha]; exact putSel_on (e := (15, 91, .agg #[.int .i64 a3_0, .int .i64 a3_1])) 9 rfl rfl (hon 15 (by kernel_rfl)) rfl
                                        replace ha := Aside0.mk ha
                                        have HO_10 := Aside0.mk Q_HO_10
                                        have HO_9 := Aside0.mk Q_HO_9
                                        have BK185 := Aside0.mk Q_BK185
                                        have HB := Aside0.mk Q_HB
                                        have HO199 := Aside0.mk (Q_HO199 (hon 4 (by kernel_rfl)))
                                        have HO203 := Aside0.mk (Q_HO203 (hon 9 (by kernel_rfl)))
                                        have HO207 := Aside0.mk (Q_HO207 (hon 14 (by kernel_rfl)))
                                        obtain ⟨Ao55, co55, eo55⟩ := Kd.R_slice HO199.out
                                        (first | subst eo55 | (injection eo55 with f1_ f2_ f3_; have f4_ := f1_.symm; have f5_ := f3_.symm; clear f1_ f2_ f3_; subst f4_; subst f5_))
                                        obtain ⟨Ao56, co56, eo56⟩ := Kd.R_slice HO203.out
                                        (first | subst eo56 | (injection eo56 with f1_ f2_ f3_; have f4_ := f1_.symm; have f5_ := f3_.symm; clear f1_ f2_ f3_; subst f4_; subst f5_))
                                        obtain ⟨Ao57, co57, eo57⟩ := Kd.R_slice HO207.out
                                        (first | subst eo57 | (injection eo57 with f1_ f2_ f3_; have f4_ := f1_.symm; have f5_ := f3_.symm; clear f1_ f2_ f3_; subst f4_; subst f5_))
                                        refine goes_ Try.func30 (by kernel_rfl) rfl #[.slice Ao55 y197.length co55, .slice Ao56 y201.length co56, .slice Ao57 y205.length co57, .agg #[.int .i64 a3_0, .int .i64 a3_1]] (by rfl) rfl rfl (by first | (simp only [List.map_toArray, List.map_cons, List.map_nil, Act.eval, Array.getD_eq_getD_getElem?, Option.getD_some, e80, e85, e90, e91]; done) | (simp only [List.map_toArray, List.map_cons, List.map_nil, Act.eval, Array.getD_eq_getD_getElem?, Option.getD_some, e80, e85, e90, e91]; rfl)) ?_
                                        with_reducible refine (optim_Step.calls k2 (fun k_ => some k_ = (.slice Ao55 y197.length co55 : Value).ownBlock) _ _ y197 (fun k_ => some k_ = (.slice Ao56 y201.length co56 : Value).ownBlock) _ _ y201 (fun k_ => some k_ = (.slice Ao57 y205.length co57 : Value).ownBlock) _ _ y205 a3_0 a3_1 t208 t211 t214 _ ?side1 ?side2 ?side3 A34.out).mono ?_
                                        (case side1 => exact Kd.R_V (Kd.R_tight rfl (Kd.R_types (HO199.out) BK185.out (by decide))))
                                        (case side2 => exact Kd.R_V (Kd.R_tight rfl (Kd.R_types (HO203.out) BK185.out (by decide))))
                                        (case side3 => exact Kd.R_V (Kd.R_tight rfl (Kd.R_types (HO207.out) BK185.out (by decide))))
                                        rintro e w58 ⟨v209, v212, rfl, ho0, ho1, hb⟩
                                        refine ⟨_, rfl, ?_⟩
                                        have n0_ := Aside0.mk (Kd.R_mono (Kd.R_told (Kd.R_told (Kd.R_old (by (with_reducible repeat (first | apply Kd.R_alloc | apply Kd.R_drewN | apply Kd.R_drew)); exact HO_9.out) hb) (Kd.R_base ho0)) (Kd.R_base ho1)) (fun _ h_ => h_.1))
                                        have n1_ := Aside0.mk (Kd.R_mono (Kd.R_told (Kd.R_told (Kd.R_old (by (with_reducible repeat (first | apply Kd.R_alloc | apply Kd.R_drewN | apply Kd.R_drew)); exact HO_10.out) hb) (Kd.R_base ho0)) (Kd.R_base ho1)) (fun _ h_ => h_.1))
                                        have n2_ := Aside0.mk (Kd.R_mono (Kd.R_told (Kd.R_told (Kd.R_old (by (with_reducible repeat (first | apply Kd.R_alloc | apply Kd.R_drewN | apply Kd.R_drew)); exact HO199.out) hb) (Kd.R_base ho0)) (Kd.R_base ho1)) (fun _ h_ => h_.1))
                                        have n3_ := Aside0.mk (Kd.R_mono (Kd.R_told (Kd.R_told (Kd.R_old (by (with_reducible repeat (first | apply Kd.R_alloc | apply Kd.R_drewN | apply Kd.R_drew)); exact HO203.out) hb) (Kd.R_base ho0)) (Kd.R_base ho1)) (fun _ h_ => h_.1))
                                        have n4_ := Aside0.mk (Kd.R_mono (Kd.R_told (Kd.R_told (Kd.R_old (by (with_reducible repeat (first | apply Kd.R_alloc | apply Kd.R_drewN | apply Kd.R_drew)); exact HO207.out) hb) (Kd.R_base ho0)) (Kd.R_base ho1)) (fun _ h_ => h_.1))
                                        have n5_ := Aside0.mk (Kd.R_lower (Kd.R_new' (Kd.R_new' (Kd.R_new' (Kd.R_new' (Kd.R_new' (Kd.R_mono (ok' := fun k_ => some k_ ≠ (v212 : Value).ownBlock) ho0 (fun _ hk_ => hk_.2)) (Kd.R_lt (by (with_reducible repeat (first | apply Kd.R_alloc | apply Kd.R_drewN | apply Kd.R_drew)); exact HO_9.out))) (Kd.R_lt (by (with_reducible repeat (first | apply Kd.R_alloc | apply Kd.R_drewN | apply Kd.R_drew)); exact HO_10.out))) (Kd.R_lt (by (with_reducible repeat (first | apply Kd.R_alloc | apply Kd.R_drewN | apply Kd.R_drew)); exact HO199.out))) (Kd.R_lt (by (with_reducible repeat (first | apply Kd.R_alloc | apply Kd.R_drewN | apply Kd.R_drew)); exact HO203.out))) (Kd.R_lt (by (with_reducible repeat (first | apply Kd.R_alloc | apply Kd.R_drewN | apply Kd.R_drew)); exact HO207.out))) (below_size (by repeat (first | (with_reducible first | exact HB.out | apply below_alloc | apply pw_below_drewN | apply below_drew1 | refine below_set ?_ GE185.out) | exact HB.out))))
                                        have n6_ := Aside0.mk (Kd.R_lower (Kd.R_new' (Kd.R_new' (Kd.R_new' (Kd.R_new' (Kd.R_new' (Kd.R_mono (ok' := fun k_ => some k_ ≠ (v209 : Value).ownBlock) ho1 (fun _ hk_ => hk_.2)) (Kd.R_lt (by (with_reducible repeat (first | apply Kd.R_alloc | apply Kd.R_drewN | apply Kd.R_drew)); exact HO_9.out))) (Kd.R_lt (by (with_reducible repeat (first | apply Kd.R_alloc | apply Kd.R_drewN | apply Kd.R_drew)); exact HO_10.out))) (Kd.R_lt (by (with_reducible repeat (first | apply Kd.R_alloc | apply Kd.R_drewN | apply Kd.R_drew)); exact HO199.out))) (Kd.R_lt (by (with_reducible repeat (first | apply Kd.R_alloc | apply Kd.R_drewN | apply Kd.R_drew)); exact HO203.out))) (Kd.R_lt (by (with_reducible repeat (first | apply Kd.R_alloc | apply Kd.R_drewN | apply Kd.R_drew)); exact HO207.out))) (below_size (by repeat (first | (with_reducible first | exact HB.out | apply below_alloc | apply pw_below_drewN | apply below_drew1 | refine below_set ?_ GE185.out) | exact HB.out))))
                                        have n7_ := Aside0.mk (blk_below (g := gb185) (o := .cells #[.int .i64 a3_0, .int .i64 a3_1] 46 (0, 0)) (by (with_reducible repeat (first | refine blk_drewN ?_ _ | refine blk_drew ?_ | refine blk_alloc ?_ _)); exact BK185.out) hb)
                                        have n8_ := Aside0.mk (below_step (by repeat (first | (with_reducible first | exact HB.out | apply below_alloc | apply pw_below_drewN | apply below_drew1 | refine below_set ?_ GE185.out) | exact HB.out)) hb)
                                        clear HO_9
                                        clear HO_10
                                        clear HO199
                                        clear HO203
                                        clear HO207
                                        clear BK185
                                        clear HB
                                        have HO_9 := n0_
                                        have HO_10 := n1_
                                        have HO199 := n2_
                                        have HO203 := n3_
                                        have HO207 := n4_
                                        have HO210 := n5_
                                        have HO213 := n6_
                                        have BK185 := n7_
                                        have HB := n8_
                                        clear n0_ n1_ n2_ n3_ n4_ n5_ n6_ n7_ n8_
                                        (try clear hb)
                                        (try clear hb2)
                                        (try clear hk)
                                        (try clear hi)
                                        (try clear ho0)
                                        (try clear ho1)
                                        refine hK.out _ _ ⟨.slice Ao55 y197.length co55, .slice Ao56 y201.length co56, .slice Ao57 y205.length co57, v209, v212, (.tuple #[v209, v212, .int .i64 t214]), m17_, m18_, m19_, m21_, m22_, (by rw [ha.out]; exact putSel_upk 10 hb_ rfl rfl rfl), (by (with_reducible repeat (first | apply Kd.R_alloc | apply Kd.R_drewN | apply Kd.R_drew)); exact Kd.R_mono HO_10.out (fun _ hk => by first | exact ⟨hk.1.1.1, ⟨hk.1.1.2.1, ⟨hk.1.1.2.2.1, ⟨hk.1.2, ⟨hk.2, hk.1.1.2.2.2⟩⟩⟩⟩⟩ | exact hk.1 | exact hk.2 | grind)), (by (with_reducible repeat (first | apply Kd.R_alloc | apply Kd.R_drewN | apply Kd.R_drew)); exact Kd.R_mono HO_9.out (fun _ hk => by first | exact ⟨hk.1.1.1, ⟨hk.1.1.2.1, ⟨hk.1.1.2.2.1, ⟨hk.1.2, ⟨hk.2, hk.1.1.2.2.2⟩⟩⟩⟩⟩ | exact hk.1 | exact hk.2 | grind)), (by (with_reducible repeat (first | refine blk_drewN ?_ _ | refine blk_drew ?_ | refine blk_alloc ?_ _)); exact BK185.out), (by repeat (first | (with_reducible first | exact HB.out | apply below_alloc | apply pw_below_drewN | apply below_drew1 | refine below_set ?_ GE185.out) | exact HB.out)), fun _ => (by (with_reducible repeat (first | apply Kd.R_alloc | apply Kd.R_drewN | apply Kd.R_drew)); exact Kd.R_mono HO199.out (fun _ hk => by first | exact ⟨hk.1.1.1, ⟨hk.1.1.2.1, ⟨hk.1.2, ⟨hk.2, ⟨hk.1.1.2.2.1, hk.1.1.2.2.2⟩⟩⟩⟩⟩ | exact hk.1 | exact hk.2 | grind)), fun _ => (by (with_reducible repeat (first | apply Kd.R_alloc | apply Kd.R_drewN | apply Kd.R_drew)); exact Kd.R_mono HO203.out (fun _ hk => by first | exact ⟨hk.1.1.1, ⟨hk.1.1.2.1, ⟨hk.1.2, ⟨hk.2, ⟨hk.1.1.2.2.1, hk.1.1.2.2.2⟩⟩⟩⟩⟩ | exact hk.1 | exact hk.2 | grind)), fun _ => (by (with_reducible repeat (first | apply Kd.R_alloc | apply Kd.R_drewN | apply Kd.R_drew)); exact Kd.R_mono HO207.out (fun _ hk => by first | exact ⟨hk.1.1.1, ⟨hk.1.1.2.1, ⟨hk.1.2, ⟨hk.2, ⟨hk.1.1.2.2.1, hk.1.1.2.2.2⟩⟩⟩⟩⟩ | exact hk.1 | exact hk.2 | grind)), fun _ => (by (with_reducible repeat (first | apply Kd.R_alloc | apply Kd.R_drewN | apply Kd.R_drew)); exact Kd.R_mono HO210.out (fun _ hk => by first | exact ⟨hk.1.1.2, ⟨hk.1.2, ⟨hk.2, ⟨hk.1.1.1.1.1, ⟨hk.1.1.1.2, hk.1.1.1.1.2⟩⟩⟩⟩⟩ | exact hk.1 | exact hk.2 | grind)), fun _ => (by (with_reducible repeat (first | apply Kd.R_alloc | apply Kd.R_drewN | apply Kd.R_drew)); exact Kd.R_mono HO213.out (fun _ hk => by first | exact ⟨hk.1.1.2, ⟨hk.1.2, ⟨hk.2, ⟨hk.1.1.1.1.1, ⟨hk.1.1.1.2, hk.1.1.1.1.2⟩⟩⟩⟩⟩ | exact hk.1 | exact hk.2 | grind)), fun _ => rfl, fun h0_ => absurd ((hoff 17 (by kernel_rfl)).symm.trans h0_) (by decide), fun h0_ => absurd ((hoff 18 (by kernel_rfl)).symm.trans h0_) (by decide), fun h0_ => absurd ((hoff 19 (by kernel_rfl)).symm.trans h0_) (by decide), fun h0_ => absurd ((hoff 21 (by kernel_rfl)).symm.trans h0_) (by decide), fun h0_ => absurd ((hoff 22 (by kernel_rfl)).symm.trans h0_) (by decide)⟩
                                      refine steps_cons ?_ ?_
                                      · rintro b a w' ⟨v198, v202, v206, v209, v212, m16_, m17_, m18_, m19_, m21_, m22_, ha, Q_HO_10, Q_HO_9, Q_BK185, Q_HB, Q_HO199, Q_HO203, Q_HO207, Q_HO210, Q_HO213, Q_X16_, Q_X17_, Q_X18_, Q_X19_, Q_X21_, Q_X22_⟩ hb_ hon hoff
                                        refine ⟨_, rfl, fun K hK => ?_⟩
                                        have e92 : a.tmps[92]? = some (m16_) := by rw [ha]; exact putSel_on (e := (16, 92, m16_)) 10 rfl rfl (hon 16 (by kernel_rfl)) rfl
                                        rw [Q_X16_ (hon 16 (by kernel_rfl))] at e92
                                        replace ha := Aside0.mk ha
                                        have HO_10 := Aside0.mk Q_HO_10
                                        have HO_9 := Aside0.mk Q_HO_9
                                        have BK185 := Aside0.mk Q_BK185
                                        have HB := Aside0.mk Q_HB
                                        have HO199 := Aside0.mk (Q_HO199 (hon 4 (by kernel_rfl)))
                                        have HO203 := Aside0.mk (Q_HO203 (hon 9 (by kernel_rfl)))
                                        have HO207 := Aside0.mk (Q_HO207 (hon 14 (by kernel_rfl)))
                                        have HO210 := Aside0.mk (Q_HO210 (hon 16 (by kernel_rfl)))
                                        have HO213 := Aside0.mk (Q_HO213 (hon 16 (by kernel_rfl)))
                                        refine value_ (w1 := w') (v := .tuple #[v209, v212, .int .i64 t214]) (by rfl) rfl ?_ ?_
                                        · go_simp
                                          (try simp only [i64_w])
                                          try rfl
                                        refine hK.out _ _ ⟨v198, v202, v206, v209, v212, m16_, (.tuple #[v209, v212, .int .i64 t214]), m18_, m19_, m21_, m22_, (by rw [ha.out]; exact putSel_upk 11 hb_ rfl rfl rfl), Q_HO_10, Q_HO_9, Q_BK185, Q_HB, Q_HO199, Q_HO203, Q_HO207, Q_HO210, Q_HO213, Q_X16_, fun _ => rfl, fun h0_ => absurd ((hoff 18 (by kernel_rfl)).symm.trans h0_) (by decide), fun h0_ => absurd ((hoff 19 (by kernel_rfl)).symm.trans h0_) (by decide), fun h0_ => absurd ((hoff 21 (by kernel_rfl)).symm.trans h0_) (by decide), fun h0_ => absurd ((hoff 22 (by kernel_rfl)).symm.trans h0_) (by decide)⟩
                                      refine steps_cons ?_ ?_
                                      · rintro b a w' ⟨v198, v202, v206, v209, v212, m16_, m17_, m18_, m19_, m21_, m22_, ha, Q_HO_10, Q_HO_9, Q_BK185, Q_HB, Q_HO199, Q_HO203, Q_HO207, Q_HO210, Q_HO213, Q_X16_, Q_X17_, Q_X18_, Q_X19_, Q_X21_, Q_X22_⟩ hb_ hon hoff
                                        refine ⟨_, rfl, fun K hK => ?_⟩
                                        have e75 : a.tmps[75]? = some (m17_) := by rw [ha]; exact putSel_on (e := (17, 75, m17_)) 11 rfl rfl (hon 17 (by kernel_rfl)) rfl
                                        rw [Q_X17_ (hon 17 (by kernel_rfl))] at e75
                                        replace ha := Aside0.mk ha
                                        have HO_10 := Aside0.mk Q_HO_10
                                        have HO_9 := Aside0.mk Q_HO_9
                                        have BK185 := Aside0.mk Q_BK185
                                        have HB := Aside0.mk Q_HB
                                        have HO199 := Aside0.mk (Q_HO199 (hon 4 (by kernel_rfl)))
                                        have HO203 := Aside0.mk (Q_HO203 (hon 9 (by kernel_rfl)))
                                        have HO207 := Aside0.mk (Q_HO207 (hon 14 (by kernel_rfl)))
                                        have HO210 := Aside0.mk (Q_HO210 (hon 16 (by kernel_rfl)))
                                        have HO213 := Aside0.mk (Q_HO213 (hon 16 (by kernel_rfl)))
                                        obtain ⟨Ao18_0, co18_0, eo_⟩ := Kd.R_slice HO210.out
                                        subst eo_
                                        obtain ⟨Ao18_1, co18_1, eo_⟩ := Kd.R_slice HO213.out
                                        subst eo_
                                        refine value_ (w1 := w') (v := .slice Ao18_0 t208.length co18_0) (by rfl) rfl ?_ ?_
                                        · go_simp
                                          (try simp only [i64_w])
                                          try rfl
                                        refine hK.out _ _ ⟨v198, v202, v206, .slice Ao18_0 t208.length co18_0, .slice Ao18_1 t211.length co18_1, m16_, m17_, (.slice Ao18_0 t208.length co18_0), m19_, m21_, m22_, (by rw [ha.out]; exact putSel_upk 12 hb_ rfl rfl rfl), Q_HO_10, Q_HO_9, Q_BK185, Q_HB, Q_HO199, Q_HO203, Q_HO207, Q_HO210, Q_HO213, Q_X16_, Q_X17_, fun _ => rfl, Q_X19_, fun h0_ => absurd ((hoff 21 (by kernel_rfl)).symm.trans h0_) (by decide), fun h0_ => absurd ((hoff 22 (by kernel_rfl)).symm.trans h0_) (by decide)⟩
                                      refine steps_cons ?_ ?_
                                      · rintro b a w' ⟨v198, v202, v206, v209, v212, m16_, m17_, m18_, m19_, m21_, m22_, ha, Q_HO_10, Q_HO_9, Q_BK185, Q_HB, Q_HO199, Q_HO203, Q_HO207, Q_HO210, Q_HO213, Q_X16_, Q_X17_, Q_X18_, Q_X19_, Q_X21_, Q_X22_⟩ hb_ hon hoff
                                        refine ⟨_, rfl, fun K hK => ?_⟩
                                        have e75 : a.tmps[75]? = some (m17_) := by rw [ha]; exact putSel_on (e := (17, 75, m17_)) 11 rfl rfl (hon 17 (by kernel_rfl)) rfl
                                        rw [Q_X17_ (hon 17 (by kernel_rfl))] at e75
                                        replace ha := Aside0.mk ha
                                        have HO_10 := Aside0.mk Q_HO_10
                                        have HO_9 := Aside0.mk Q_HO_9
                                        have BK185 := Aside0.mk Q_BK185
                                        have HB := Aside0.mk Q_HB
                                        have HO199 := Aside0.mk (Q_HO199 (hon 4 (by kernel_rfl)))
                                        have HO203 := Aside0.mk (Q_HO203 (hon 9 (by kernel_rfl)))
                                        have HO207 := Aside0.mk (Q_HO207 (hon 14 (by kernel_rfl)))
                                        have HO210 := Aside0.mk (Q_HO210 (hon 16 (by kernel_rfl)))
                                        have HO213 := Aside0.mk (Q_HO213 (hon 16 (by kernel_rfl)))
                                        obtain ⟨Ao19_0, co19_0, eo_⟩ := Kd.R_slice HO210.out
                                        subst eo_
                                        obtain ⟨Ao19_1, co19_1, eo_⟩ := Kd.R_slice HO213.out
                                        subst eo_
                                        refine value_ (w1 := w') (v := .slice Ao19_1 t211.length co19_1) (by rfl) rfl ?_ ?_
                                        · go_simp
                                          (try simp only [i64_w])
                                          try rfl
                                        refine hK.out _ _ ⟨v198, v202, v206, .slice Ao19_0 t208.length co19_0, .slice Ao19_1 t211.length co19_1, m16_, m17_, m18_, (.slice Ao19_1 t211.length co19_1), m21_, m22_, (by rw [ha.out]; exact putSel_upk 13 hb_ rfl rfl rfl), Q_HO_10, Q_HO_9, Q_BK185, Q_HB, Q_HO199, Q_HO203, Q_HO207, Q_HO210, Q_HO213, Q_X16_, Q_X17_, Q_X18_, fun _ => rfl, Q_X21_, fun h0_ => absurd ((hoff 22 (by kernel_rfl)).symm.trans h0_) (by decide)⟩
                                      refine steps_cons ?_ ?_
                                      · rintro b a w' ⟨v198, v202, v206, v209, v212, m16_, m17_, m18_, m19_, m21_, m22_, ha, Q_HO_10, Q_HO_9, Q_BK185, Q_HB, Q_HO199, Q_HO203, Q_HO207, Q_HO210, Q_HO213, Q_X16_, Q_X17_, Q_X18_, Q_X19_, Q_X21_, Q_X22_⟩ hb_ hon hoff
                                        refine ⟨_, rfl, fun K hK => ?_⟩
                                        have e75 : a.tmps[75]? = some (m17_) := by rw [ha]; exact putSel_on (e := (17, 75, m17_)) 11 rfl rfl (hon 17 (by kernel_rfl)) rfl
                                        rw [Q_X17_ (hon 17 (by kernel_rfl))] at e75
                                        replace ha := Aside0.mk ha
                                        have HO_10 := Aside0.mk Q_HO_10
                                        have HO_9 := Aside0.mk Q_HO_9
                                        have BK185 := Aside0.mk Q_BK185
                                        have HB := Aside0.mk Q_HB
                                        have HO199 := Aside0.mk (Q_HO199 (hon 4 (by kernel_rfl)))
                                        have HO203 := Aside0.mk (Q_HO203 (hon 9 (by kernel_rfl)))
                                        have HO207 := Aside0.mk (Q_HO207 (hon 14 (by kernel_rfl)))
                                        have HO210 := Aside0.mk (Q_HO210 (hon 16 (by kernel_rfl)))
                                        have HO213 := Aside0.mk (Q_HO213 (hon 16 (by kernel_rfl)))
                                        obtain ⟨Ao20_0, co20_0, eo_⟩ := Kd.R_slice HO210.out
                                        subst eo_
                                        obtain ⟨Ao20_1, co20_1, eo_⟩ := Kd.R_slice HO213.out
                                        subst eo_
                                        refine value_ (w1 := w') (v := .int .i64 t214) (by rfl) rfl ?_ ?_
                                        · go_simp
                                          (try simp only [i64_w])
                                          try rfl
                                        refine hK.out _ _ ⟨v198, v202, v206, .slice Ao20_0 t208.length co20_0, .slice Ao20_1 t211.length co20_1, m16_, m17_, m18_, m19_, m21_, m22_, (by rw [ha.out]; exact putSel_upk 14 hb_ rfl rfl rfl), Q_HO_10, Q_HO_9, Q_BK185, Q_HB, Q_HO199, Q_HO203, Q_HO207, Q_HO210, Q_HO213, Q_X16_, Q_X17_, Q_X18_, Q_X19_, Q_X21_, Q_X22_⟩
                                      refine steps_cons ?_ ?_
                                      · rintro b a w' ⟨v198, v202, v206, v209, v212, m16_, m17_, m18_, m19_, m21_, m22_, ha, Q_HO_10, Q_HO_9, Q_BK185, Q_HB, Q_HO199, Q_HO203, Q_HO207, Q_HO210, Q_HO213, Q_X16_, Q_X17_, Q_X18_, Q_X19_, Q_X21_, Q_X22_⟩ hb_ hon hoff
                                        refine ⟨_, rfl, fun K hK => ?_⟩
                                        have e93 : a.tmps[93]? = some (m18_) := by rw [ha]; exact putSel_on (e := (18, 93, m18_)) 12 rfl rfl (hon 18 (by kernel_rfl)) rfl
                                        rw [Q_X18_ (hon 18 (by kernel_rfl))] at e93
                                        replace ha := Aside0.mk ha
                                        have HO_10 := Aside0.mk Q_HO_10
                                        have HO_9 := Aside0.mk Q_HO_9
                                        have BK185 := Aside0.mk Q_BK185
                                        have HB := Aside0.mk Q_HB
                                        have HO199 := Aside0.mk (Q_HO199 (hon 4 (by kernel_rfl)))
                                        have HO203 := Aside0.mk (Q_HO203 (hon 9 (by kernel_rfl)))
                                        have HO207 := Aside0.mk (Q_HO207 (hon 14 (by kernel_rfl)))
                                        have HO210 := Aside0.mk (Q_HO210 (hon 16 (by kernel_rfl)))
                                        have HO213 := Aside0.mk (Q_HO213 (hon 16 (by kernel_rfl)))
                                        refine value_ (w1 := w') (v := v209) (by rfl) rfl ?_ ?_
                                        · go_simp
                                          (try simp only [i64_w])
                                          try rfl
                                        refine hK.out _ _ ⟨v198, v202, v206, v209, v212, m16_, m17_, m18_, m19_, (v209), m22_, (by rw [ha.out]; exact putSel_upk 15 hb_ rfl rfl rfl), Q_HO_10, Q_HO_9, Q_BK185, Q_HB, Q_HO199, Q_HO203, Q_HO207, Q_HO210, Q_HO213, Q_X16_, Q_X17_, Q_X18_, Q_X19_, fun _ => rfl, fun h0_ => absurd ((hoff 22 (by kernel_rfl)).symm.trans h0_) (by decide)⟩
                                      refine steps_cons ?_ ?_
                                      · rintro b a w' ⟨v198, v202, v206, v209, v212, m16_, m17_, m18_, m19_, m21_, m22_, ha, Q_HO_10, Q_HO_9, Q_BK185, Q_HB, Q_HO199, Q_HO203, Q_HO207, Q_HO210, Q_HO213, Q_X16_, Q_X17_, Q_X18_, Q_X19_, Q_X21_, Q_X22_⟩ hb_ hon hoff
                                        refine ⟨_, rfl, fun K hK => ?_⟩
                                        have e94 : a.tmps[94]? = some (m19_) := by rw [ha]; exact putSel_on (e := (19, 94, m19_)) 13 rfl rfl (hon 19 (by kernel_rfl)) rfl
                                        rw [Q_X19_ (hon 19 (by kernel_rfl))] at e94
                                        replace ha := Aside0.mk ha
                                        have HO_10 := Aside0.mk Q_HO_10
                                        have HO_9 := Aside0.mk Q_HO_9
                                        have BK185 := Aside0.mk Q_BK185
                                        have HB := Aside0.mk Q_HB
                                        have HO199 := Aside0.mk (Q_HO199 (hon 4 (by kernel_rfl)))
                                        have HO203 := Aside0.mk (Q_HO203 (hon 9 (by kernel_rfl)))
                                        have HO207 := Aside0.mk (Q_HO207 (hon 14 (by kernel_rfl)))
                                        have HO210 := Aside0.mk (Q_HO210 (hon 16 (by kernel_rfl)))
                                        have HO213 := Aside0.mk (Q_HO213 (hon 16 (by kernel_rfl)))
                                        refine value_ (w1 := w') (v := v212) (by rfl) rfl ?_ ?_
                                        · go_simp
                                          (try simp only [i64_w])
                                          try rfl
                                        refine hK.out _ _ ⟨v198, v202, v206, v209, v212, m16_, m17_, m18_, m19_, m21_, (v212), (by rw [ha.out]; exact putSel_upk 16 hb_ rfl rfl rfl), Q_HO_10, Q_HO_9, Q_BK185, Q_HB, Q_HO199, Q_HO203, Q_HO207, Q_HO210, Q_HO213, Q_X16_, Q_X17_, Q_X18_, Q_X19_, Q_X21_, fun _ => rfl⟩
                                      refine steps_cons ?_ ?_
                                      · rintro b a w' ⟨v198, v202, v206, v209, v212, m16_, m17_, m18_, m19_, m21_, m22_, ha, Q_HO_10, Q_HO_9, Q_BK185, Q_HB, Q_HO199, Q_HO203, Q_HO207, Q_HO210, Q_HO213, Q_X16_, Q_X17_, Q_X18_, Q_X19_, Q_X21_, Q_X22_⟩ hb_ hon hoff
                                        refine ⟨_, rfl, fun K hK => ?_⟩
                                        have e95 : a.tmps[95]? = some (.int .i64 t214) := by rw [ha]; exact putSel_on (e := (20, 95, .int .i64 t214)) 14 rfl rfl (hon 20 (by kernel_rfl)) rfl
                                        replace ha := Aside0.mk ha
                                        have HO_10 := Aside0.mk Q_HO_10
                                        have HO_9 := Aside0.mk Q_HO_9
                                        have BK185 := Aside0.mk Q_BK185
                                        have HB := Aside0.mk Q_HB
                                        have HO199 := Aside0.mk (Q_HO199 (hon 4 (by kernel_rfl)))
                                        have HO203 := Aside0.mk (Q_HO203 (hon 9 (by kernel_rfl)))
                                        have HO207 := Aside0.mk (Q_HO207 (hon 14 (by kernel_rfl)))
                                        have HO210 := Aside0.mk (Q_HO210 (hon 16 (by kernel_rfl)))
                                        have HO213 := Aside0.mk (Q_HO213 (hon 16 (by kernel_rfl)))
                                        refine value_ (w1 := w') (v := .int .i64 t214) (by rfl) rfl ?_ ?_
                                        · go_simp
                                          (try simp only [i64_w])
                                          try rfl
                                        refine hK.out _ _ ⟨v198, v202, v206, v209, v212, m16_, m17_, m18_, m19_, m21_, m22_, (by rw [ha.out]; exact putSel_upk 17 hb_ rfl rfl rfl), Q_HO_10, Q_HO_9, Q_BK185, Q_HB, Q_HO199, Q_HO203, Q_HO207, Q_HO210, Q_HO213, Q_X16_, Q_X17_, Q_X18_, Q_X19_, Q_X21_, Q_X22_⟩
                                      exact steps_nil
                                    rintro b a w58 hall ⟨v198, v202, v206, v209, v212, m16_, m17_, m18_, m19_, m21_, m22_, ha, Q_HO_10, Q_HO_9, Q_BK185, Q_HB, Q_HO199, Q_HO203, Q_HO207, Q_HO210, Q_HO213, Q_X16_, Q_X17_, Q_X18_, Q_X19_, Q_X21_, Q_X22_⟩
                                    clear BK185 HB HO_10 HO_9
                                    have hb2_ := hall 2 (by kernel_rfl)
                                    have hb3_ := hall 3 (by kernel_rfl)
                                    have hb4_ := hall 4 (by kernel_rfl)
                                    have hb7_ := hall 7 (by kernel_rfl)
                                    have hb8_ := hall 8 (by kernel_rfl)
                                    have hb9_ := hall 9 (by kernel_rfl)
                                    have hb12_ := hall 12 (by kernel_rfl)
                                    have hb13_ := hall 13 (by kernel_rfl)
                                    have hb14_ := hall 14 (by kernel_rfl)
                                    have hb15_ := hall 15 (by kernel_rfl)
                                    have hb16_ := hall 16 (by kernel_rfl)
                                    have hb17_ := hall 17 (by kernel_rfl)
                                    have hb18_ := hall 18 (by kernel_rfl)
                                    have hb19_ := hall 19 (by kernel_rfl)
                                    have hb20_ := hall 20 (by kernel_rfl)
                                    have hb21_ := hall 21 (by kernel_rfl)
                                    have hb22_ := hall 22 (by kernel_rfl)
                                    have hb23_ := hall 23 (by kernel_rfl)
                                    subst ha
                                    obtain rfl := Q_X16_ hb16_
                                    obtain rfl := Q_X17_ hb17_
                                    obtain rfl := Q_X18_ hb18_
                                    obtain rfl := Q_X19_ hb19_
                                    obtain rfl := Q_X21_ hb21_
                                    obtain rfl := Q_X22_ hb22_
                                    simp only [putSel, hb2_, hb3_, hb4_, hb7_, hb8_, hb9_, hb12_, hb13_, hb14_, hb15_, hb16_, hb17_, hb18_, hb19_, hb20_, hb21_, hb22_, hb23_, if_true, Act.put, List.setIfInBounds_toArray, List.set_cons_zero, List.set_cons_succ]
                                    have HO_10 := Aside0.mk Q_HO_10
                                    clear Q_HO_10
                                    have HO_9 := Aside0.mk Q_HO_9
                                    clear Q_HO_9
                                    have BK185 := Aside0.mk Q_BK185
                                    clear Q_BK185
                                    have HB := Aside0.mk Q_HB
                                    clear Q_HB
                                    have HO199 := Aside0.mk (Q_HO199 hb4_)
                                    clear Q_HO199
                                    have HO203 := Aside0.mk (Q_HO203 hb9_)
                                    clear Q_HO203
                                    have HO207 := Aside0.mk (Q_HO207 hb14_)
                                    clear Q_HO207
                                    have HO210 := Aside0.mk (Q_HO210 hb16_)
                                    clear Q_HO210
                                    have HO213 := Aside0.mk (Q_HO213 hb16_)
                                    clear Q_HO213
                                    clear hall hb2_ hb3_ hb4_ hb7_ hb8_ hb9_ hb12_ hb13_ hb14_ hb15_ hb16_ hb17_ hb18_ hb19_ hb20_ hb21_ hb22_ hb23_
                                    try go_wp2_with (first | ((with_reducible refine gate_callee (f := 22) rfl ?_); refine goesL_ (some 97) rfl rfl Try.func22 (by kernel_rfl) rfl #[.int .i64 t214] rfl (by (try simp only [List.map_toArray, List.map_cons, List.map_nil]); first | done | rfl | (simp only [List.length_drop, List.length_take]; rfl)) ?_; (with_reducible refine (grafterlaw0_Num.calls t214 t215 _ A35.out).mono ?_); rintro e w' ⟨rfl, ⟨nd, rfl⟩⟩; refine ⟨_, rfl, ?_⟩; obtain ⟨Ao59, co59, eo59⟩ := Kd.R_slice HO_9.out; subst eo59; have p216 : 0 ≤ (x12_2 : Int) := of_decide_eq_true (by first | (with_reducible assumption) | assumption); have q216 : x12_2 < (t187.length : Int) := of_decide_eq_true (by first | (with_reducible assumption) | assumption); obtain ⟨ad216, e216, hx216_0⟩ := Kd.at_int (Kd.R_reads' HO_9.out).2.2 x12_2 p216 q216; cases e216; replace p216 := eq_true p216; replace q216 := eq_true q216) | ((with_reducible refine gate_dst (N := 105) rfl ?_); (try (refine gate_guard (by rfl) ?_; dsimp only)); refine Kd.R_lit (Kd.int .i64) _ 3 ?hg (N := 105) ?hd (xs := ([rd t187 x12_2] : List Int)) (inner := [.int .i64 (rd t187 x12_2)]) (ok := fun _ => True) (okp := fun _ => True) ?hr ?hp (fun _ hk => by first | exact hk | grind) trivial (Below.refl _ _) (Nat.le_refl _) (by simp) ?_; (case hd => rfl); (case hg => rfl); (case hr => first | (go_simp; done) | (go_simp; rfl)); (case hp => exact (Reps.one (show Kd.M (Kd.int .i64) _ _ _ (rd t187 x12_2) [.int .i64 (rd t187 x12_2)] from rfl) (Reps.none _ _))); intro v218 w60 ho61 hb hg_ hnew_; clear hg_ hnew_; (first | rw [← Ny217.out] at ho61 | (simp only [Int.reduceToNat] at ho61; rw [← Ny217.out] at ho61)); have n0_ := Aside0.mk (Kd.R_elder' (by (with_reducible repeat (first | apply Kd.R_alloc | apply Kd.R_drewN | apply Kd.R_drew)); exact HO_9.out) (Kd.R_base ho61) hb); have n1_ := Aside0.mk (Kd.R_elder' (by (with_reducible repeat (first | apply Kd.R_alloc | apply Kd.R_drewN | apply Kd.R_drew)); exact HO_10.out) (Kd.R_base ho61) hb); have n2_ := Aside0.mk (Kd.R_elder' (by (with_reducible repeat (first | apply Kd.R_alloc | apply Kd.R_drewN | apply Kd.R_drew)); exact HO199.out) (Kd.R_base ho61) hb); have n3_ := Aside0.mk (Kd.R_elder' (by (with_reducible repeat (first | apply Kd.R_alloc | apply Kd.R_drewN | apply Kd.R_drew)); exact HO203.out) (Kd.R_base ho61) hb); have n4_ := Aside0.mk (Kd.R_elder' (by (with_reducible repeat (first | apply Kd.R_alloc | apply Kd.R_drewN | apply Kd.R_drew)); exact HO207.out) (Kd.R_base ho61) hb); have n5_ := Aside0.mk (Kd.R_elder' (by (with_reducible repeat (first | apply Kd.R_alloc | apply Kd.R_drewN | apply Kd.R_drew)); exact HO210.out) (Kd.R_base ho61) hb); have n6_ := Aside0.mk (Kd.R_elder' (by (with_reducible repeat (first | apply Kd.R_alloc | apply Kd.R_drewN | apply Kd.R_drew)); exact HO213.out) (Kd.R_base ho61) hb); have n7_ := Aside0.mk (Kd.R_lower (Kd.R_new' (Kd.R_new' (Kd.R_new' (Kd.R_new' (Kd.R_new' (Kd.R_new' (Kd.R_new' ho61 (Kd.R_lt (by (with_reducible repeat (first | apply Kd.R_alloc | apply Kd.R_drewN | apply Kd.R_drew)); exact HO_9.out))) (Kd.R_lt (by (with_reducible repeat (first | apply Kd.R_alloc | apply Kd.R_drewN | apply Kd.R_drew)); exact HO_10.out))) (Kd.R_lt (by (with_reducible repeat (first | apply Kd.R_alloc | apply Kd.R_drewN | apply Kd.R_drew)); exact HO199.out))) (Kd.R_lt (by (with_reducible repeat (first | apply Kd.R_alloc | apply Kd.R_drewN | apply Kd.R_drew)); exact HO203.out))) (Kd.R_lt (by (with_reducible repeat (first | apply Kd.R_alloc | apply Kd.R_drewN | apply Kd.R_drew)); exact HO207.out))) (Kd.R_lt (by (with_reducible repeat (first | apply Kd.R_alloc | apply Kd.R_drewN | apply Kd.R_drew)); exact HO210.out))) (Kd.R_lt (by (with_reducible repeat (first | apply Kd.R_alloc | apply Kd.R_drewN | apply Kd.R_drew)); exact HO213.out))) (below_size (by repeat (first | (with_reducible first | exact HB.out | apply below_alloc | apply pw_below_drewN | apply below_drew1 | refine below_set ?_ GE185.out) | exact HB.out)))); have n8_ := Aside0.mk (blk_below (g := gb185) (o := .cells #[.int .i64 a3_0, .int .i64 a3_1] 46 (0, 0)) (by (with_reducible repeat (first | refine blk_drewN ?_ _ | refine blk_drew ?_ | refine blk_alloc ?_ _)); exact BK185.out) hb); have n9_ := Aside0.mk (below_step (by repeat (first | (with_reducible first | exact HB.out | apply below_alloc | apply pw_below_drewN | apply below_drew1 | refine below_set ?_ GE185.out) | exact HB.out)) hb); clear HO_9; clear HO_10; clear HO199; clear HO203; clear HO207; clear HO210; clear HO213; clear BK185; clear HB; have HO_9 := n0_; have HO_10 := n1_; have HO199 := n2_; have HO203 := n3_; have HO207 := n4_; have HO210 := n5_; have HO213 := n6_; have HO219 := n7_; have BK185 := n8_; have HB := n9_; clear n0_ n1_ n2_ n3_ n4_ n5_ n6_ n7_ n8_ n9_; clear hb ho61; obtain ⟨Ao62, co62, eo62⟩ := Kd.R_slice HO210.out; subst eo62; obtain ⟨Ao63, co63, eo63⟩ := Kd.R_slice HO219.out; subst eo63) | (go_at_call 23; (with_reducible refine (grafterlaw0_SameInts.calls k2 _ _ t208 _ _ y217 true _ ?side1 ?side2 ?side3 ?side4 A38.out).mono ?_); (case side1 => repeat (first | exact (Kd.R_reads' HO210.out).2.2 | (with_reducible refine Kd.C_alloc ?_ _) | (with_reducible refine Kd.C_drewN ?_ _) | (with_reducible refine Kd.C_drew ?_))); (case side2 => exact (Kd.R_reads' HO210.out).2.1); (case side3 => repeat (first | exact (Kd.R_reads' HO219.out).2.2 | (with_reducible refine Kd.C_alloc ?_ _) | (with_reducible refine Kd.C_drewN ?_ _) | (with_reducible refine Kd.C_drew ?_))); (case side4 => exact (Kd.R_reads' HO219.out).2.1); rintro e w' ⟨rfl, ⟨nd, rfl⟩⟩; obtain ⟨Ao64, co64, eo64⟩ := Kd.R_slice HO_10.out; subst eo64; have p221 : 0 ≤ (x12_2 : Int) := of_decide_eq_true (by first | (with_reducible assumption) | assumption); have q221 : x12_2 < (t190.length : Int) := of_decide_eq_true (by first | (with_reducible assumption) | assumption); obtain ⟨ad221, e221, hx221_0⟩ := Kd.at_int (Kd.R_reads' HO_10.out).2.2 x12_2 p221 q221; cases e221; replace p221 := eq_true p221; replace q221 := eq_true q221) | ((with_reducible refine gate_dst (N := 115) rfl ?_); (try (refine gate_guard (by rfl) ?_; dsimp only)); refine Kd.R_lit (Kd.int .i64) _ 3 ?hg (N := 115) ?hd (xs := ([rd t190 x12_2] : List Int)) (inner := [.int .i64 (rd t190 x12_2)]) (ok := fun _ => True) (okp := fun _ => True) ?hr ?hp (fun _ hk => by first | exact hk | grind) trivial (Below.refl _ _) (Nat.le_refl _) (by simp) ?_; (case hd => rfl); (case hg => rfl); (case hr => first | (go_simp; done) | (go_simp; rfl)); (case hp => exact (Reps.one (show Kd.M (Kd.int .i64) _ _ _ (rd t190 x12_2) [.int .i64 (rd t190 x12_2)] from rfl) (Reps.none _ _))); intro v223 w65 ho66 hb hg_ hnew_; clear hg_ hnew_; (first | rw [← Ny222.out] at ho66 | (simp only [Int.reduceToNat] at ho66; rw [← Ny222.out] at ho66)); have n0_ := Aside0.mk (Kd.R_elder' (by (with_reducible repeat (first | apply Kd.R_alloc | apply Kd.R_drewN | apply Kd.R_drew)); exact HO_9.out) (Kd.R_base ho66) hb); have n1_ := Aside0.mk (Kd.R_elder' (by (with_reducible repeat (first | apply Kd.R_alloc | apply Kd.R_drewN | apply Kd.R_drew)); exact HO_10.out) (Kd.R_base ho66) hb); have n2_ := Aside0.mk (Kd.R_elder' (by (with_reducible repeat (first | apply Kd.R_alloc | apply Kd.R_drewN | apply Kd.R_drew)); exact HO199.out) (Kd.R_base ho66) hb); have n3_ := Aside0.mk (Kd.R_elder' (by (with_reducible repeat (first | apply Kd.R_alloc | apply Kd.R_drewN | apply Kd.R_drew)); exact HO203.out) (Kd.R_base ho66) hb); have n4_ := Aside0.mk (Kd.R_elder' (by (with_reducible repeat (first | apply Kd.R_alloc | apply Kd.R_drewN | apply Kd.R_drew)); exact HO207.out) (Kd.R_base ho66) hb); have n5_ := Aside0.mk (Kd.R_elder' (by (with_reducible repeat (first | apply Kd.R_alloc | apply Kd.R_drewN | apply Kd.R_drew)); exact HO210.out) (Kd.R_base ho66) hb); have n6_ := Aside0.mk (Kd.R_elder' (by (with_reducible repeat (first | apply Kd.R_alloc | apply Kd.R_drewN | apply Kd.R_drew)); exact HO213.out) (Kd.R_base ho66) hb); have n7_ := Aside0.mk (Kd.R_elder' (by (with_reducible repeat (first | apply Kd.R_alloc | apply Kd.R_drewN | apply Kd.R_drew)); exact HO219.out) (Kd.R_base ho66) hb); have n8_ := Aside0.mk (Kd.R_lower (Kd.R_new' (Kd.R_new' (Kd.R_new' (Kd.R_new' (Kd.R_new' (Kd.R_new' (Kd.R_new' (Kd.R_new' ho66 (Kd.R_lt (by (with_reducible repeat (first | apply Kd.R_alloc | apply Kd.R_drewN | apply Kd.R_drew)); exact HO_9.out))) (Kd.R_lt (by (with_reducible repeat (first | apply Kd.R_alloc | apply Kd.R_drewN | apply Kd.R_drew)); exact HO_10.out))) (Kd.R_lt (by (with_reducible repeat (first | apply Kd.R_alloc | apply Kd.R_drewN | apply Kd.R_drew)); exact HO199.out))) (Kd.R_lt (by (with_reducible repeat (first | apply Kd.R_alloc | apply Kd.R_drewN | apply Kd.R_drew)); exact HO203.out))) (Kd.R_lt (by (with_reducible repeat (first | apply Kd.R_alloc | apply Kd.R_drewN | apply Kd.R_drew)); exact HO207.out))) (Kd.R_lt (by (with_reducible repeat (first | apply Kd.R_alloc | apply Kd.R_drewN | apply Kd.R_drew)); exact HO210.out))) (Kd.R_lt (by (with_reducible repeat (first | apply Kd.R_alloc | apply Kd.R_drewN | apply Kd.R_drew)); exact HO213.out))) (Kd.R_lt (by (with_reducible repeat (first | apply Kd.R_alloc | apply Kd.R_drewN | apply Kd.R_drew)); exact HO219.out))) (below_size (by repeat (first | (with_reducible first | exact HB.out | apply below_alloc | apply pw_below_drewN | apply below_drew1 | refine below_set ?_ GE185.out) | exact HB.out)))); have n9_ := Aside0.mk (blk_below (g := gb185) (o := .cells #[.int .i64 a3_0, .int .i64 a3_1] 46 (0, 0)) (by (with_reducible repeat (first | refine blk_drewN ?_ _ | refine blk_drew ?_ | refine blk_alloc ?_ _)); exact BK185.out) hb); have n10_ := Aside0.mk (below_step (by repeat (first | (with_reducible first | exact HB.out | apply below_alloc | apply pw_below_drewN | apply below_drew1 | refine below_set ?_ GE185.out) | exact HB.out)) hb); clear HO_9; clear HO_10; clear HO199; clear HO203; clear HO207; clear HO210; clear HO213; clear HO219; clear BK185; clear HB; have HO_9 := n0_; have HO_10 := n1_; have HO199 := n2_; have HO203 := n3_; have HO207 := n4_; have HO210 := n5_; have HO213 := n6_; have HO219 := n7_; have HO224 := n8_; have BK185 := n9_; have HB := n10_; clear n0_ n1_ n2_ n3_ n4_ n5_ n6_ n7_ n8_ n9_ n10_; clear hb ho66; obtain ⟨Ao67, co67, eo67⟩ := Kd.R_slice HO213.out; subst eo67; obtain ⟨Ao68, co68, eo68⟩ := Kd.R_slice HO224.out; subst eo68) | (go_at_call 23; (with_reducible refine (grafterlaw0_SameInts.calls k2 _ _ t211 _ _ y222 true _ ?side1 ?side2 ?side3 ?side4 A41.out).mono ?_); (case side1 => repeat (first | exact (Kd.R_reads' HO213.out).2.2 | (with_reducible refine Kd.C_alloc ?_ _) | (with_reducible refine Kd.C_drewN ?_ _) | (with_reducible refine Kd.C_drew ?_))); (case side2 => exact (Kd.R_reads' HO213.out).2.1); (case side3 => repeat (first | exact (Kd.R_reads' HO224.out).2.2 | (with_reducible refine Kd.C_alloc ?_ _) | (with_reducible refine Kd.C_drewN ?_ _) | (with_reducible refine Kd.C_drew ?_))); (case side4 => exact (Kd.R_reads' HO224.out).2.1); rintro e w' ⟨rfl, ⟨nd, rfl⟩⟩; have p226 : 0 ≤ (x12_2 : Int) := of_decide_eq_true (by first | (with_reducible assumption) | assumption); have q226 : x12_2 < (t187.length : Int) := of_decide_eq_true (by first | (with_reducible assumption) | assumption); obtain ⟨ad226, e226, hx226_0⟩ := Kd.at_int (Kd.R_reads' HO_9.out).2.2 x12_2 p226 q226; obtain rfl : ad216 = ad226 := (by injection e226); replace p226 := eq_true p226; replace q226 := eq_true q226) | (go_at_call 34; (with_reducible refine (grafterref1_FixMay.calls (rd t187 x12_2) true _ A43.out).mono ?_); rintro e w' ⟨rfl, ⟨nd, rfl⟩⟩; have p228 : 0 ≤ (x12_2 : Int) := of_decide_eq_true (by first | (with_reducible assumption) | assumption); have q228 : x12_2 < (t190.length : Int) := of_decide_eq_true (by first | (with_reducible assumption) | assumption); obtain ⟨ad228, e228, hx228_0⟩ := Kd.at_int (Kd.R_reads' HO_10.out).2.2 x12_2 p228 q228; obtain rfl : ad221 = ad228 := (by injection e228); replace p228 := eq_true p228; replace q228 := eq_true q228) | (go_at_call 34; (with_reducible refine (grafterref1_FixMay.calls (rd t190 x12_2) true _ A45.out).mono ?_); rintro e w' ⟨rfl, ⟨nd, rfl⟩⟩))
                                    go_roundg k2
                                    case measure => have := HJ7.out; have := HK2.out; omega
                                    case rel => exact ⟨(wrap64 (x12_2 + 1)), (by first | rfl | (simp; done) | (simp [*]; done)), H', ⟨by have := HJ7.out; have := HK2.out; omega⟩, ⟨by (with_reducible repeat (first | apply Kd.R_alloc | apply Kd.R_drewN | apply Kd.R_drew)); exact Kd.R_mono HO_9.out (fun _ hk => by first | exact hk.1.1.2.2.2.2.2 | grind)⟩, ⟨by (with_reducible repeat (first | apply Kd.R_alloc | apply Kd.R_drewN | apply Kd.R_drew)); exact Kd.R_mono HO_10.out (fun _ hk => by first | exact hk.1.1.2.2.2.2.2 | grind)⟩, ⟨by (with_reducible repeat (first | refine blk_drewN ?_ _ | refine blk_drew ?_ | refine blk_alloc ?_ _)); exact BK185.out⟩, ⟨by repeat (first | (with_reducible first | exact HB.out | apply below_alloc | apply pw_below_drewN | apply below_drew1 | refine below_set ?_ GE185.out) | exact HB.out)⟩⟩
                                  · replace c46 := Bool.eq_false_iff.mpr c46
                                    subst c46
                                    have H1 : (some false) = some r := by rw [if_neg (show ¬ (false = true) by decide)] at H; exact H
                                    clear H
                                    have H := H1
                                    clear H1
                                    exact absurd ((Option.some.inj H).trans HRT.out) Bool.false_ne_true
                                · replace c44 := Bool.eq_false_iff.mpr c44
                                  subst c44
                                  have H1 : (some false) = some r := by rw [if_neg (show ¬ (false = true) by decide)] at H; exact H
                                  clear H
                                  have H := H1
                                  clear H1
                                  exact absurd ((Option.some.inj H).trans HRT.out) Bool.false_ne_true
                              · replace c42 := Bool.eq_false_iff.mpr c42
                                subst c42
                                have H1 : (some false) = some r := by rw [if_neg (show ¬ (false = true) by decide)] at H; exact H
                                clear H
                                have H := H1
                                clear H1
                                exact absurd ((Option.some.inj H).trans HRT.out) Bool.false_ne_true
                            · rw [if_neg c40] at H
                              exact absurd H (by simp)
                          · replace c39 := Bool.eq_false_iff.mpr c39
                            subst c39
                            have H1 : (some false) = some r := by rw [if_neg (show ¬ (false = true) by decide)] at H; exact H
                            clear H
                            have H := H1
                            clear H1
                            exact absurd ((Option.some.inj H).trans HRT.out) Bool.false_ne_true
                        · rw [if_neg c37] at H
                          exact absurd H (by simp)
                      · rw [if_neg c36] at H
                        have c36b0 : (t215 == 0) = false := beq_eq_false_iff_ne.mpr c36
                        have c36b1 : (t215 != 0) = true := bne_iff_ne.mpr c36
                        exact absurd ((Option.some.inj H).trans HRT.out) Bool.false_ne_true
                    · rw [if_neg c33] at H
                      exact absurd H (by simp)
                  · rw [if_neg c32] at H
                    exact absurd H (by simp)
                · rw [if_neg c31] at H
                  exact absurd H (by simp)
              · rw [if_neg c30] at H
                have c30b0 : decide (x12_2 < (l0.length : Int)) = false := decide_eq_false c30
                clear c30
                obtain rfl := Option.some.inj H
                go_wp2
                go_ret
                exact ⟨by first | rfl | (simp [errW_none, errW_some] <;> rfl) | (simp [*, errW_none, errW_some] <;> rfl), by repeat (first | (with_reducible first | exact HB.out | apply below_alloc | apply pw_below_drewN | apply below_drew1 | refine below_set ?_ GE185.out) | exact HB.out)⟩
  · replace c6 := Bool.eq_false_iff.mpr c6
    subst c6
    have H1 : (some false) = some r := by rw [if_neg (show ¬ (false = true) by decide)] at H; exact H
    clear H
    have H := H1
    clear H1
    exact absurd ((Option.some.inj H).trans HRT.out) Bool.false_ne_true

def grafterlaw8_OptimPlace.Pure : Prop := ∀ (l0 : List Int) (l1 : List Int) (l2 : List Int) (a3_0 : Int) (a3_1 : Int), l0.length ≤ maxLen → l0.length * 8 ≤ 140737488351232 → (∀ x ∈ l0, (Lit.int .i64 x).wf = true) → l1.length ≤ maxLen → l1.length * 8 ≤ 140737488351232 → (∀ x ∈ l1, (Lit.int .i64 x).wf = true) → l2.length ≤ maxLen → l2.length * 8 ≤ 140737488351232 → (∀ x ∈ l2, (Lit.int .i64 x).wf = true) → (Lit.int .i64 a3_0).wf = true → (Lit.int .i64 a3_1).wf = true → ∃ k, grafterlaw8_OptimPlace.f k l0 l1 l2 a3_0 a3_1 = some true
theorem grafterlaw8_OptimPlace.walk (P : grafterlaw8_OptimPlace.Pure) (a0 : Option Addr) (len0 cap0 : Nat) (z0 : List Int) (a1 : Option Addr) (len1 cap1 : Nat) (z1 : List Int) (a2 : Option Addr) (len2 cap2 : Nat) (z2 : List Int) (a3_0 : Int) (a3_1 : Int) (w : World) (w0 : (a0 = none ∧ len0 = 0 ∧ cap0 = 0 ∧ z0 = []) ∨ ∃ x, a0 = some x ∧ len0 ≤ cap0 ∧ cap0 ≤ maxLen ∧ z0.length = cap0 ∧ (∀ i, i < z0.length → w.cell? (x.add i) = some (.int .i64 (z0.getD i 0))) ∧ ∀ n ∈ z0, (Lit.int .i64 n).wf = true) (y0 : len0 * 8 ≤ 140737488351232) (w1 : (a1 = none ∧ len1 = 0 ∧ cap1 = 0 ∧ z1 = []) ∨ ∃ x, a1 = some x ∧ len1 ≤ cap1 ∧ cap1 ≤ maxLen ∧ z1.length = cap1 ∧ (∀ i, i < z1.length → w.cell? (x.add i) = some (.int .i64 (z1.getD i 0))) ∧ ∀ n ∈ z1, (Lit.int .i64 n).wf = true) (y1 : len1 * 8 ≤ 140737488351232) (w2 : (a2 = none ∧ len2 = 0 ∧ cap2 = 0 ∧ z2 = []) ∨ ∃ x, a2 = some x ∧ len2 ≤ cap2 ∧ cap2 ≤ maxLen ∧ z2.length = cap2 ∧ (∀ i, i < z2.length → w.cell? (x.add i) = some (.int .i64 (z2.getD i 0))) ∧ ∀ n ∈ z2, (Lit.int .i64 n).wf = true) (y2 : len2 * 8 ≤ 140737488351232) (w3_0 : (Lit.int .i64 a3_0).wf = true) (w3_1 : (Lit.int .i64 a3_1).wf = true) :
    Calls Try.prog 12 #[.slice a0 len0 cap0, .slice a1 len1 cap1, .slice a2 len2 cap2, .agg #[.int .i64 a3_0, .int .i64 a3_1]] w fun e w' => e = .returned (.bool true) ∧ Below w.heap.size w w' := by
  obtain ⟨l0, rfl, hr0, hm0, hw0, hc0⟩ := ReadsInt.ofRowC w0
  obtain ⟨l1, rfl, hr1, hm1, hw1, hc1⟩ := ReadsInt.ofRowC w1
  obtain ⟨l2, rfl, hr2, hm2, hw2, hc2⟩ := ReadsInt.ofRowC w2
  obtain ⟨k, h⟩ := P l0 l1 l2 a3_0 a3_1 hm0 y0 hw0 hm1 y1 hw1 hm2 y2 hw2 w3_0 w3_1
  refine (grafterlaw8_OptimPlace.calls k _ _ l0 _ _ l1 _ _ l2 a3_0 a3_1 true w rfl (Kd.C_of_reads (d := (0 : Int)) (h1 := fun _ => rfl) hr0) hc0 (Kd.C_of_reads (d := (0 : Int)) (h1 := fun _ => rfl) hr1) hc1 (Kd.C_of_reads (d := (0 : Int)) (h1 := fun _ => rfl) hr2) hc2 h).mono ?_
  rintro e w' ⟨rfl, hd⟩
  exact ⟨rfl, hd⟩

end Go.Proofs.Ytnhlinniodmnjaa.POptimPlace
