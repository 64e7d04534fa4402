-- Written by a program of this session (pprint.py) out of the translation, with hand-proved walks pasted in.
import Derived.Test.YtbhkmgidokonkaaPVecsx0
import Derived.Test.YtbhkmgidokonkaaPVecsx1
import Derived.Test.YtbhkmgidokonkaaPVecsx2
import Derived.Test.YtbhkmgidokonkaaPVecsx3
import Derived.Test.YtbhkmgidokonkaaPVecsx4
import Derived.Test.YtbhkmgidokonkaaPVecsx5
namespace Go.Proofs.Ytbhkmgidokonkaa.PVecs
open Go.RowKit Go.Proofs.YtbhkmgidokonkaaW.PrintWords Go.Proofs.YtbhkmgidokonkaaW.PrintLast Go.Proofs.YtbhkmgidokonkaaW.PrintMore
attribute [local go_sem] max2_int min2_int max_two min_two max_three min_three max_four min_four   -- for this text's walks alone
set_option linter.unusedVariables false
set_option linter.unusedSimpArgs false

/-! ### optim_Step_lent: function 124 -/
def optim_Step_lent.f (k : Nat) (l0 : List Int) (l1 : List Int) (l2 : List Int) (a3_0 : Int) (a3_1 : Int) : Option (List Int × List Int × Int) := (optim_Step.f k (l0.take (l0.length - 2)) (l1.take (l1.length - 2)) (l2.take (l2.length - 2)) a3_0 a3_1).bind fun bt250 => (some (bt250.1, bt250.2.1, bt250.2.2))
theorem optim_Step_lent.mono : ∀ a0 a1 a2 a3 a4 k, LeO (optim_Step_lent.f k a0 a1 a2 a3 a4) (optim_Step_lent.f (k + 1) a0 a1 a2 a3 a4) := by
  intro a0 a1 a2 a3 a4 k
  unfold optim_Step_lent.f
  repeat' first
      | (with_reducible exact optim_Step.mono _ _ _ _ _ _)
      | (with_reducible exact LeO.refl _)
      | (with_reducible exact LeO.none _)
      | (with_reducible refine LeO.ite ?_ ?_)
      | (with_reducible refine LeO.bind ?_ (fun _ => ?_))
      | exact optim_Step.mono _ _ _ _ _ _
      | exact LeO.none _
      | refine LeO.ite ?_ ?_
      | refine LeO.bind ?_ (fun _ => ?_)
set_option maxHeartbeats 8000000 in
set_option maxRecDepth 100000 in
theorem optim_Step_lent.calls (k : Nat) (A0 : Option Addr) (c0 : Nat) (l0 : List Int) (A1 : Option Addr) (c1 : Nat) (l1 : List Int) (A2 : Option Addr) (c2 : Nat) (l2 : List Int) (a3_0 : Int) (a3_1 : Int) (r1 : List Int) (r2 : List Int) (r3 : Int) (w : World) (hr0 : Kd.C (Kd.int .i64) w A0 l0.length l0) (hc0 : l0.length ≤ c0) (hr1 : Kd.C (Kd.int .i64) w A1 l1.length l1) (hc1 : l1.length ≤ c1) (hr2 : Kd.C (Kd.int .i64) w A2 l2.length l2) (hc2 : l2.length ≤ c2) (h : optim_Step_lent.f k l0 l1 l2 a3_0 a3_1 = some (r1, r2, r3)) :
    Calls Try.prog 51 #[.slice A0 (l0.length - 2) c0, .slice A1 (l1.length - 2) c1, .slice A2 (l2.length - 2) c2, .agg #[.int .i64 a3_0, .int .i64 a3_1]] w fun e w' => ∃ v0_ v1_ : Value, e = .returned (.tuple #[v0_, v1_, .int .i64 r3]) ∧ Kd.R (Kd.int .i64) 3 w' w.heap.size (fun k_ => some k_ ≠ (v1_ : Value).ownBlock) v0_ r1 ∧ Kd.R (Kd.int .i64) 3 w' w.heap.size (fun k_ => some k_ ≠ (v0_ : Value).ownBlock) v1_ r2 ∧ Below w.heap.size w w' := by
  have HR0 := Aside0.mk (Kd.C_take hr0 (Nat.sub_le l0.length 2))
  have HC0 := Aside0.mk (show (l0.take (l0.length - 2)).length ≤ c0 from by rw [List.length_take]; omega)
  clear hr0 hc0
  have HR1 := Aside0.mk (Kd.C_take hr1 (Nat.sub_le l1.length 2))
  have HC1 := Aside0.mk (show (l1.take (l1.length - 2)).length ≤ c1 from by rw [List.length_take]; omega)
  clear hr1 hc1
  have HR2 := Aside0.mk (Kd.C_take hr2 (Nat.sub_le l2.length 2))
  have HC2 := Aside0.mk (show (l2.take (l2.length - 2)).length ≤ c2 from by rw [List.length_take]; omega)
  clear hr2 hc2
  have HB := Aside0.mk (Below.refl w.heap.size w)
  have H : ((optim_Step.f k (l0.take (l0.length - 2)) (l1.take (l1.length - 2)) (l2.take (l2.length - 2)) a3_0 a3_1).bind fun bt250 => (some (bt250.1, bt250.2.1, bt250.2.2))) = some (r1, r2, r3) := h
  clear h
  replace H := Option.bind_eq_some_iff.mp H
  obtain ⟨⟨t250, t253, t256⟩, A50, H⟩ := H
  replace H : (some (t250, t253, t256)) = some (r1, r2, r3) := H
  have A5 := Aside0.mk A50
  clear A50
  simp only [Option.some.injEq, Prod.mk.injEq] at H
  obtain ⟨rfl, rfl, rfl⟩ := H
  rw [show l0.length - 2 = (l0.take (l0.length - 2)).length from by rw [List.length_take]; omega]
  rw [show l1.length - 2 = (l1.take (l1.length - 2)).length from by rw [List.length_take]; omega]
  rw [show l2.length - 2 = (l2.take (l2.length - 2)).length from by rw [List.length_take]; omega]
  (with_reducible refine (optim_Step.calls k (fun k_ => k_ < w.heap.size) _ _ (l0.take (l0.length - 2)) (fun k_ => k_ < w.heap.size) _ _ (l1.take (l1.length - 2)) (fun k_ => k_ < w.heap.size) _ _ (l2.take (l2.length - 2)) a3_0 a3_1 t250 t253 t256 _ ?side1 ?side2 ?side3 A5.out).mono ?_)
  (case side1 => exact Kd.V_mk HC0.out (Kd.F_below (Kd.C_F (Kd.heap_int .i64) HR0.out) (by repeat (first | (with_reducible first | exact HB.out | apply below_alloc | apply pw_below_drewN | apply below_drew1) | exact HB.out))))
  (case side2 => exact Kd.V_mk HC1.out (Kd.F_below (Kd.C_F (Kd.heap_int .i64) HR1.out) (by repeat (first | (with_reducible first | exact HB.out | apply below_alloc | apply pw_below_drewN | apply below_drew1) | exact HB.out))))
  (case side3 => exact Kd.V_mk HC2.out (Kd.F_below (Kd.C_F (Kd.heap_int .i64) HR2.out) (by repeat (first | (with_reducible first | exact HB.out | apply below_alloc | apply pw_below_drewN | apply below_drew1) | exact HB.out))))
  rintro e w6 ⟨v251, v254, rfl, ho0, ho1, hb⟩
  have n0_ := Aside0.mk (Kd.R_lower (Kd.R_mono (ok' := fun k_ => some k_ ≠ (v254 : Value).ownBlock) ho0 (fun _ hk_ => hk_.2)) (below_size (by repeat (first | (with_reducible first | exact HB.out | apply below_alloc | apply pw_below_drewN | apply below_drew1) | exact HB.out))))
  have n1_ := Aside0.mk (Kd.R_lower (Kd.R_mono (ok' := fun k_ => some k_ ≠ (v251 : Value).ownBlock) ho1 (fun _ hk_ => hk_.2)) (below_size (by repeat (first | (with_reducible first | exact HB.out | apply below_alloc | apply pw_below_drewN | apply below_drew1) | exact HB.out))))
  have n2_ := Aside0.mk (below_step (by repeat (first | (with_reducible first | exact HB.out | apply below_alloc | apply pw_below_drewN | apply below_drew1) | exact HB.out)) hb)
  clear HB
  have HO252 := n0_
  have HO255 := n1_
  have HB := n2_
  clear n0_ n1_ n2_
  (try clear hb)
  (try clear hb2)
  (try clear hk)
  (try clear hi)
  (try clear ho0)
  (try clear ho1)
  exact ⟨_, _, by first | rfl | (simp [errW_none, errW_some] <;> rfl) | (simp [*, errW_none, errW_some] <;> rfl), by (with_reducible repeat (first | apply Kd.R_alloc | apply Kd.R_drewN | apply Kd.R_drew)); exact HO252.out, by (with_reducible repeat (first | apply Kd.R_alloc | apply Kd.R_drewN | apply Kd.R_drew)); exact HO255.out, by repeat (first | (with_reducible first | exact HB.out | apply below_alloc | apply pw_below_drewN | apply below_drew1) | exact HB.out)⟩

attribute [local go_sem] Go.Proofs.Ytbhkmgidokonkaa.Ld.cut2_slice
/-! ### grafterlaw4_Vecs: function 20 -/
def grafterlaw4_Vecs.j0 : Nat → List Int → List Int → List Int → List Int → List Int → Bool → Option (Bool)
  | 0, _, _, _, _, _, _ => none
  | k + 1, x0, x1, x7, x8, x13, x74 => if x74 = true then (some false) else ((grafterlaw0_SpoilInts.f k x13).bind fun t280 => ((grafterlaw0_KeptInts.f k x7 x0).bind fun t281 => (if t281 = true then ((grafterlaw0_KeptInts.f k x8 x1).bind fun t282 => (if t282 = true then ((grafterlaw4_awake.f k).bind fun t283 => (some t283)) else (some false))) else (some false))))
def grafterlaw4_Vecs.f (k : Nat) (l0 : List Int) (l1 : List Int) (a2 : Int) : Option (Bool) := (grafterlaw0_LendInts.f l0).bind fun t257 => ((grafterlaw0_LendInts.f l1).bind fun t260 => ((vec_Dot_lent.f k t257 t260).bind fun bt263 => ((grafterref1_Dot.f k l0 l1).bind fun bt265 => ((vec_Scaled_lent.f k t257 t260 a2).bind fun bt267 => ((grafterref1_Scaled.f k l0 l1 a2).bind fun bt271 => (if bt263.1 = bt265.1 then ((grafterlaw0_Num.f bt263.2).bind fun t275 => (if t275 = bt265.2 then ((grafterlaw0_SameInts.f k bt267.1 bt271.1).bind fun t276 => (if t276 = true then ((grafterlaw0_Num.f bt267.2).bind fun t277 => (if t277 = bt271.2 then ((vec_May_lent.f k t257).bind fun t278 => ((grafterref1_VecMay.f k l0).bind fun t279 => (grafterlaw4_Vecs.j0 k l0 l1 t257 t260 bt267.1 (t278 != t279)))) else (grafterlaw4_Vecs.j0 k l0 l1 t257 t260 bt267.1 true))) else (grafterlaw4_Vecs.j0 k l0 l1 t257 t260 bt267.1 true))) else (grafterlaw4_Vecs.j0 k l0 l1 t257 t260 bt267.1 true))) else (grafterlaw4_Vecs.j0 k l0 l1 t257 t260 bt267.1 true)))))))
theorem grafterlaw4_Vecs.mono_l : ∀ k, (∀ y0 y1 y2 y3 y4 y5, LeO (grafterlaw4_Vecs.j0 k y0 y1 y2 y3 y4 y5) (grafterlaw4_Vecs.j0 (k + 1) y0 y1 y2 y3 y4 y5))
  | 0 => fun _ _ _ _ _ _ r h => by simp [grafterlaw4_Vecs.j0] at h
  | k + 1 => by
    have ih0 := grafterlaw4_Vecs.mono_l k
    · intro y0 y1 y2 y3 y4 y5
      unfold grafterlaw4_Vecs.j0
      repeat' first
      | (with_reducible exact ih0 _ _ _ _ _ _)
      | (with_reducible exact grafterlaw0_KeptInts.mono _ _ _)
      | (with_reducible exact grafterlaw0_SameInts.mono _ _ _)
      | (with_reducible exact grafterlaw0_SpoilInts.mono _ _)
      | (with_reducible exact grafterlaw4_awake.mono _)
      | (with_reducible exact grafterref1_Dot.mono _ _ _)
      | (with_reducible exact grafterref1_Scaled.mono _ _ _ _)
      | (with_reducible exact grafterref1_VecMay.mono _ _)
      | (with_reducible exact vec_Dot_lent.mono _ _ _)
      | (with_reducible exact vec_May_lent.mono _ _)
      | (with_reducible exact vec_Scaled_lent.mono _ _ _ _)
      | (with_reducible exact LeO.refl _)
      | (with_reducible exact LeO.none _)
      | (with_reducible refine LeO.ite ?_ ?_)
      | (with_reducible refine LeO.bind ?_ (fun _ => ?_))
      | exact ih0 _ _ _ _ _ _
      | exact grafterlaw0_KeptInts.mono _ _ _
      | exact grafterlaw0_SameInts.mono _ _ _
      | exact grafterlaw0_SpoilInts.mono _ _
      | exact grafterlaw4_awake.mono _
      | exact grafterref1_Dot.mono _ _ _
      | exact grafterref1_Scaled.mono _ _ _ _
      | exact grafterref1_VecMay.mono _ _
      | exact vec_Dot_lent.mono _ _ _
      | exact vec_May_lent.mono _ _
      | exact vec_Scaled_lent.mono _ _ _ _
      | exact LeO.none _
      | refine LeO.ite ?_ ?_
      | refine LeO.bind ?_ (fun _ => ?_)
theorem grafterlaw4_Vecs.mono : ∀ a0 a1 a2 k, LeO (grafterlaw4_Vecs.f k a0 a1 a2) (grafterlaw4_Vecs.f (k + 1) a0 a1 a2) := by
  intro a0 a1 a2 k
  have ih0 := grafterlaw4_Vecs.mono_l k
  unfold grafterlaw4_Vecs.f
  repeat' first
      | (with_reducible exact ih0 _ _ _ _ _ _)
      | (with_reducible exact grafterlaw0_KeptInts.mono _ _ _)
      | (with_reducible exact grafterlaw0_SameInts.mono _ _ _)
      | (with_reducible exact grafterlaw0_SpoilInts.mono _ _)
      | (with_reducible exact grafterlaw4_awake.mono _)
      | (with_reducible exact grafterref1_Dot.mono _ _ _)
      | (with_reducible exact grafterref1_Scaled.mono _ _ _ _)
      | (with_reducible exact grafterref1_VecMay.mono _ _)
      | (with_reducible exact vec_Dot_lent.mono _ _ _)
      | (with_reducible exact vec_May_lent.mono _ _)
      | (with_reducible exact vec_Scaled_lent.mono _ _ _ _)
      | (with_reducible exact LeO.refl _)
      | (with_reducible exact LeO.none _)
      | (with_reducible refine LeO.ite ?_ ?_)
      | (with_reducible refine LeO.bind ?_ (fun _ => ?_))
      | exact ih0 _ _ _ _ _ _
      | exact grafterlaw0_KeptInts.mono _ _ _
      | exact grafterlaw0_SameInts.mono _ _ _
      | exact grafterlaw0_SpoilInts.mono _ _
      | exact grafterlaw4_awake.mono _
      | exact grafterref1_Dot.mono _ _ _
      | exact grafterref1_Scaled.mono _ _ _ _
      | exact grafterref1_VecMay.mono _ _
      | exact vec_Dot_lent.mono _ _ _
      | exact vec_May_lent.mono _ _
      | exact vec_Scaled_lent.mono _ _ _ _
      | exact LeO.none _
      | refine LeO.ite ?_ ?_
      | refine LeO.bind ?_ (fun _ => ?_)
set_option maxHeartbeats 8000000 in
set_option maxRecDepth 100000 in
theorem grafterlaw4_Vecs.calls (k : Nat) (A0 : Option Addr) (c0 : Nat) (l0 : List Int) (A1 : Option Addr) (c1 : Nat) (l1 : List Int) (a2 : Int) (r : Bool) (w : World) (hrt : r = true) (hr0 : Kd.C (Kd.int .i64) w A0 l0.length l0) (hc0 : l0.length ≤ c0) (hr1 : Kd.C (Kd.int .i64) w A1 l1.length l1) (hc1 : l1.length ≤ c1) (h : grafterlaw4_Vecs.f k l0 l1 a2 = some r) :
    Calls Try.prog 20 #[.slice A0 l0.length c0, .slice A1 l1.length c1, .int .i64 a2] w fun e w' => e = .returned (.bool r) ∧ Below w.heap.size w w' := by
  have HRT := Aside0.mk hrt
  clear hrt
  have HR0 := Aside0.mk hr0
  have HC0 := Aside0.mk hc0
  clear hr0 hc0
  have HR1 := Aside0.mk hr1
  have HC1 := Aside0.mk hc1
  clear hr1 hc1
  have HB := Aside0.mk (Below.refl w.heap.size w)
  have H : ((grafterlaw0_LendInts.f l0).bind fun t257 => ((grafterlaw0_LendInts.f l1).bind fun t260 => ((vec_Dot_lent.f k t257 t260).bind fun bt263 => ((grafterref1_Dot.f k l0 l1).bind fun bt265 => ((vec_Scaled_lent.f k t257 t260 a2).bind fun bt267 => ((grafterref1_Scaled.f k l0 l1 a2).bind fun bt271 => (if bt263.1 = bt265.1 then ((grafterlaw0_Num.f bt263.2).bind fun t275 => (if t275 = bt265.2 then ((grafterlaw0_SameInts.f k bt267.1 bt271.1).bind fun t276 => (if t276 = true then ((grafterlaw0_Num.f bt267.2).bind fun t277 => (if t277 = bt271.2 then ((vec_May_lent.f k t257).bind fun t278 => ((grafterref1_VecMay.f k l0).bind fun t279 => (grafterlaw4_Vecs.j0 k l0 l1 t257 t260 bt267.1 (t278 != t279)))) else (grafterlaw4_Vecs.j0 k l0 l1 t257 t260 bt267.1 true))) else (grafterlaw4_Vecs.j0 k l0 l1 t257 t260 bt267.1 true))) else (grafterlaw4_Vecs.j0 k l0 l1 t257 t260 bt267.1 true))) else (grafterlaw4_Vecs.j0 k l0 l1 t257 t260 bt267.1 true)))))))) = some r := h
  clear h
  replace H := Option.bind_eq_some_iff.mp H
  obtain ⟨t257, A40, H⟩ := H
  replace H : ((grafterlaw0_LendInts.f l1).bind fun t260 => ((vec_Dot_lent.f k t257 t260).bind fun bt263 => ((grafterref1_Dot.f k l0 l1).bind fun bt265 => ((vec_Scaled_lent.f k t257 t260 a2).bind fun bt267 => ((grafterref1_Scaled.f k l0 l1 a2).bind fun bt271 => (if bt263.1 = bt265.1 then ((grafterlaw0_Num.f bt263.2).bind fun t275 => (if t275 = bt265.2 then ((grafterlaw0_SameInts.f k bt267.1 bt271.1).bind fun t276 => (if t276 = true then ((grafterlaw0_Num.f bt267.2).bind fun t277 => (if t277 = bt271.2 then ((vec_May_lent.f k t257).bind fun t278 => ((grafterref1_VecMay.f k l0).bind fun t279 => (grafterlaw4_Vecs.j0 k l0 l1 t257 t260 bt267.1 (t278 != t279)))) else (grafterlaw4_Vecs.j0 k l0 l1 t257 t260 bt267.1 true))) else (grafterlaw4_Vecs.j0 k l0 l1 t257 t260 bt267.1 true))) else (grafterlaw4_Vecs.j0 k l0 l1 t257 t260 bt267.1 true))) else (grafterlaw4_Vecs.j0 k l0 l1 t257 t260 bt267.1 true))))))) = some r := H
  have A4 := Aside0.mk A40
  clear A40
  replace H := Option.bind_eq_some_iff.mp H
  obtain ⟨t260, A50, H⟩ := H
  replace H : ((vec_Dot_lent.f k t257 t260).bind fun bt263 => ((grafterref1_Dot.f k l0 l1).bind fun bt265 => ((vec_Scaled_lent.f k t257 t260 a2).bind fun bt267 => ((grafterref1_Scaled.f k l0 l1 a2).bind fun bt271 => (if bt263.1 = bt265.1 then ((grafterlaw0_Num.f bt263.2).bind fun t275 => (if t275 = bt265.2 then ((grafterlaw0_SameInts.f k bt267.1 bt271.1).bind fun t276 => (if t276 = true then ((grafterlaw0_Num.f bt267.2).bind fun t277 => (if t277 = bt271.2 then ((vec_May_lent.f k t257).bind fun t278 => ((grafterref1_VecMay.f k l0).bind fun t279 => (grafterlaw4_Vecs.j0 k l0 l1 t257 t260 bt267.1 (t278 != t279)))) else (grafterlaw4_Vecs.j0 k l0 l1 t257 t260 bt267.1 true))) else (grafterlaw4_Vecs.j0 k l0 l1 t257 t260 bt267.1 true))) else (grafterlaw4_Vecs.j0 k l0 l1 t257 t260 bt267.1 true))) else (grafterlaw4_Vecs.j0 k l0 l1 t257 t260 bt267.1 true)))))) = some r := H
  have A5 := Aside0.mk A50
  clear A50
  replace H := Option.bind_eq_some_iff.mp H
  obtain ⟨⟨t263, t264⟩, A60, H⟩ := H
  replace H : ((grafterref1_Dot.f k l0 l1).bind fun bt265 => ((vec_Scaled_lent.f k t257 t260 a2).bind fun bt267 => ((grafterref1_Scaled.f k l0 l1 a2).bind fun bt271 => (if t263 = bt265.1 then ((grafterlaw0_Num.f t264).bind fun t275 => (if t275 = bt265.2 then ((grafterlaw0_SameInts.f k bt267.1 bt271.1).bind fun t276 => (if t276 = true then ((grafterlaw0_Num.f bt267.2).bind fun t277 => (if t277 = bt271.2 then ((vec_May_lent.f k t257).bind fun t278 => ((grafterref1_VecMay.f k l0).bind fun t279 => (grafterlaw4_Vecs.j0 k l0 l1 t257 t260 bt267.1 (t278 != t279)))) else (grafterlaw4_Vecs.j0 k l0 l1 t257 t260 bt267.1 true))) else (grafterlaw4_Vecs.j0 k l0 l1 t257 t260 bt267.1 true))) else (grafterlaw4_Vecs.j0 k l0 l1 t257 t260 bt267.1 true))) else (grafterlaw4_Vecs.j0 k l0 l1 t257 t260 bt267.1 true))))) = some r := H
  have A6 := Aside0.mk A60
  clear A60
  replace H := Option.bind_eq_some_iff.mp H
  obtain ⟨⟨t265, t266⟩, A70, H⟩ := H
  replace H : ((vec_Scaled_lent.f k t257 t260 a2).bind fun bt267 => ((grafterref1_Scaled.f k l0 l1 a2).bind fun bt271 => (if t263 = t265 then ((grafterlaw0_Num.f t264).bind fun t275 => (if t275 = t266 then ((grafterlaw0_SameInts.f k bt267.1 bt271.1).bind fun t276 => (if t276 = true then ((grafterlaw0_Num.f bt267.2).bind fun t277 => (if t277 = bt271.2 then ((vec_May_lent.f k t257).bind fun t278 => ((grafterref1_VecMay.f k l0).bind fun t279 => (grafterlaw4_Vecs.j0 k l0 l1 t257 t260 bt267.1 (t278 != t279)))) else (grafterlaw4_Vecs.j0 k l0 l1 t257 t260 bt267.1 true))) else (grafterlaw4_Vecs.j0 k l0 l1 t257 t260 bt267.1 true))) else (grafterlaw4_Vecs.j0 k l0 l1 t257 t260 bt267.1 true))) else (grafterlaw4_Vecs.j0 k l0 l1 t257 t260 bt267.1 true)))) = some r := H
  have A7 := Aside0.mk A70
  clear A70
  replace H := Option.bind_eq_some_iff.mp H
  obtain ⟨⟨t267, t268⟩, A80, H⟩ := H
  replace H : ((grafterref1_Scaled.f k l0 l1 a2).bind fun bt271 => (if t263 = t265 then ((grafterlaw0_Num.f t264).bind fun t275 => (if t275 = t266 then ((grafterlaw0_SameInts.f k t267 bt271.1).bind fun t276 => (if t276 = true then ((grafterlaw0_Num.f t268).bind fun t277 => (if t277 = bt271.2 then ((vec_May_lent.f k t257).bind fun t278 => ((grafterref1_VecMay.f k l0).bind fun t279 => (grafterlaw4_Vecs.j0 k l0 l1 t257 t260 t267 (t278 != t279)))) else (grafterlaw4_Vecs.j0 k l0 l1 t257 t260 t267 true))) else (grafterlaw4_Vecs.j0 k l0 l1 t257 t260 t267 true))) else (grafterlaw4_Vecs.j0 k l0 l1 t257 t260 t267 true))) else (grafterlaw4_Vecs.j0 k l0 l1 t257 t260 t267 true))) = some r := H
  have A8 := Aside0.mk A80
  clear A80
  replace H := Option.bind_eq_some_iff.mp H
  obtain ⟨⟨t271, t272⟩, A90, H⟩ := H
  replace H : (if t263 = t265 then ((grafterlaw0_Num.f t264).bind fun t275 => (if t275 = t266 then ((grafterlaw0_SameInts.f k t267 t271).bind fun t276 => (if t276 = true then ((grafterlaw0_Num.f t268).bind fun t277 => (if t277 = t272 then ((vec_May_lent.f k t257).bind fun t278 => ((grafterref1_VecMay.f k l0).bind fun t279 => (grafterlaw4_Vecs.j0 k l0 l1 t257 t260 t267 (t278 != t279)))) else (grafterlaw4_Vecs.j0 k l0 l1 t257 t260 t267 true))) else (grafterlaw4_Vecs.j0 k l0 l1 t257 t260 t267 true))) else (grafterlaw4_Vecs.j0 k l0 l1 t257 t260 t267 true))) else (grafterlaw4_Vecs.j0 k l0 l1 t257 t260 t267 true)) = some r := H
  have A9 := Aside0.mk A90
  clear A90
  have HC10 := Aside0.mk H
  clear H
  go_enter Try.func20, Try.ntmps20
  go_upto_region 6 with (first | ((with_reducible refine gate_callee (f := 50) rfl ?_); refine goesL_ (some 18) rfl rfl Try.func50 (by kernel_rfl) rfl #[.slice A0 l0.length c0] rfl (by (try simp only [List.map_toArray, List.map_cons, List.map_nil]); first | done | rfl | (simp only [List.length_drop, List.length_take]; rfl)) ?_; (with_reducible refine (grafterlaw0_LendInts.calls _ _ l0 t257 _ ?side1 ?side2 A4.out).mono ?_); (case side1 => repeat (first | exact HR0.out | (with_reducible refine Kd.C_alloc ?_ _) | (with_reducible refine Kd.C_drewN ?_ _) | (with_reducible refine Kd.C_drew ?_))); (case side2 => exact HC0.out); rintro e w11 ⟨v258, rfl, ho0, hb⟩; refine ⟨_, rfl, ?_⟩; have n0_ := Aside0.mk (Kd.R_lower ho0 (below_size (by repeat (first | (with_reducible first | exact HB.out | apply below_alloc | apply pw_below_drewN | apply below_drew1) | exact HB.out)))); have n1_ := Aside0.mk (below_step (by repeat (first | (with_reducible first | exact HB.out | apply below_alloc | apply pw_below_drewN | apply below_drew1) | exact HB.out)) hb); clear HB; have HO259 := n0_; have HB := n1_; clear n0_ n1_; (try clear hb); (try clear hb2); (try clear hk); (try clear hi); (try clear ho0)) | ((with_reducible refine gate_callee (f := 50) rfl ?_); refine goesL_ (some 20) rfl rfl Try.func50 (by kernel_rfl) rfl #[.slice A1 l1.length c1] rfl (by (try simp only [List.map_toArray, List.map_cons, List.map_nil]); first | done | rfl | (simp only [List.length_drop, List.length_take]; rfl)) ?_; (with_reducible refine (grafterlaw0_LendInts.calls _ _ l1 t260 _ ?side1 ?side2 A5.out).mono ?_); (case side1 => repeat (first | exact (Kd.C_below HR1.out HB.out) | (with_reducible refine Kd.C_alloc ?_ _) | (with_reducible refine Kd.C_drewN ?_ _) | (with_reducible refine Kd.C_drew ?_))); (case side2 => exact HC1.out); rintro e w12 ⟨v261, rfl, ho0, hb⟩; refine ⟨_, rfl, ?_⟩; have n0_ := Aside0.mk (Kd.R_elder' (by (with_reducible repeat (first | apply Kd.R_alloc | apply Kd.R_drewN | apply Kd.R_drew)); exact HO259.out) (Kd.R_base ho0) hb); have n1_ := Aside0.mk (Kd.R_lower (Kd.R_new' ho0 (Kd.R_lt (by (with_reducible repeat (first | apply Kd.R_alloc | apply Kd.R_drewN | apply Kd.R_drew)); exact HO259.out))) (below_size (by repeat (first | (with_reducible first | exact HB.out | apply below_alloc | apply pw_below_drewN | apply below_drew1) | exact HB.out)))); have n2_ := Aside0.mk (below_step (by repeat (first | (with_reducible first | exact HB.out | apply below_alloc | apply pw_below_drewN | apply below_drew1) | exact HB.out)) hb); clear HO259; clear HB; have HO259 := n0_; have HO262 := n1_; have HB := n2_; clear n0_ n1_ n2_; (try clear hb); (try clear hb2); (try clear hk); (try clear hi); (try clear ho0); obtain ⟨Ao13, co13, eo13⟩ := Kd.R_slice HO259.out; subst eo13; obtain ⟨Ao14, co14, eo14⟩ := Kd.R_slice HO262.out; subst eo14) | ((with_reducible refine gate_callee (f := 57) rfl ?_); refine goesL_ (some 24) rfl rfl Try.func57 (by kernel_rfl) rfl #[.slice Ao13 (t257.length - 2) co13, .slice Ao14 (t260.length - 2) co14] rfl (by (try simp only [List.map_toArray, List.map_cons, List.map_nil]); first | done | rfl | (simp only [List.length_drop, List.length_take]; rfl)) ?_; (with_reducible refine (vec_Dot_lent.calls k _ _ t257 _ _ t260 t263 t264 _ ?side1 ?side2 ?side3 ?side4 A6.out).mono ?_); (case side1 => repeat (first | exact (Kd.R_reads' HO259.out).2.2 | (with_reducible refine Kd.C_alloc ?_ _) | (with_reducible refine Kd.C_drewN ?_ _) | (with_reducible refine Kd.C_drew ?_))); (case side2 => exact (Kd.R_reads' HO259.out).2.1); (case side3 => repeat (first | exact (Kd.R_reads' HO262.out).2.2 | (with_reducible refine Kd.C_alloc ?_ _) | (with_reducible refine Kd.C_drewN ?_ _) | (with_reducible refine Kd.C_drew ?_))); (case side4 => exact (Kd.R_reads' HO262.out).2.1); rintro e w15 ⟨rfl, hb⟩; refine ⟨_, rfl, ?_⟩; have n0_ := Aside0.mk (Kd.R_below (by (with_reducible repeat (first | apply Kd.R_alloc | apply Kd.R_drewN | apply Kd.R_drew)); exact HO259.out) hb); have n1_ := Aside0.mk (Kd.R_below (by (with_reducible repeat (first | apply Kd.R_alloc | apply Kd.R_drewN | apply Kd.R_drew)); exact HO262.out) hb); have n2_ := Aside0.mk (below_step (by repeat (first | (with_reducible first | exact HB.out | apply below_alloc | apply pw_below_drewN | apply below_drew1) | exact HB.out)) hb); clear HO259; clear HO262; clear HB; have HO259 := n0_; have HO262 := n1_; have HB := n2_; clear n0_ n1_ n2_; (try clear hb); (try clear hb2); (try clear hk); (try clear hi)) | ((with_reducible refine gate_callee (f := 58) rfl ?_); refine goesL_ (some 30) rfl rfl Try.func58 (by kernel_rfl) rfl #[.slice A0 l0.length c0, .slice A1 l1.length c1] rfl (by (try simp only [List.map_toArray, List.map_cons, List.map_nil]); first | done | rfl | (simp only [List.length_drop, List.length_take]; rfl)) ?_; (with_reducible refine (grafterref1_Dot.calls k _ _ l0 _ _ l1 t265 t266 _ ?side1 ?side2 ?side3 ?side4 A7.out).mono ?_); (case side1 => repeat (first | exact (Kd.C_below HR0.out HB.out) | (with_reducible refine Kd.C_alloc ?_ _) | (with_reducible refine Kd.C_drewN ?_ _) | (with_reducible refine Kd.C_drew ?_))); (case side2 => exact HC0.out); (case side3 => repeat (first | exact (Kd.C_below HR1.out HB.out) | (with_reducible refine Kd.C_alloc ?_ _) | (with_reducible refine Kd.C_drewN ?_ _) | (with_reducible refine Kd.C_drew ?_))); (case side4 => exact HC1.out); rintro e w16 ⟨rfl, hb⟩; refine ⟨_, rfl, ?_⟩; have n0_ := Aside0.mk (Kd.R_below (by (with_reducible repeat (first | apply Kd.R_alloc | apply Kd.R_drewN | apply Kd.R_drew)); exact HO259.out) hb); have n1_ := Aside0.mk (Kd.R_below (by (with_reducible repeat (first | apply Kd.R_alloc | apply Kd.R_drewN | apply Kd.R_drew)); exact HO262.out) hb); have n2_ := Aside0.mk (below_step (by repeat (first | (with_reducible first | exact HB.out | apply below_alloc | apply pw_below_drewN | apply below_drew1) | exact HB.out)) hb); clear HO259; clear HO262; clear HB; have HO259 := n0_; have HO262 := n1_; have HB := n2_; clear n0_ n1_ n2_; (try clear hb); (try clear hb2); (try clear hk); (try clear hi)) | ((with_reducible refine gate_callee (f := 59) rfl ?_); refine goesL_ (some 37) rfl rfl Try.func59 (by kernel_rfl) rfl #[.slice Ao13 (t257.length - 2) co13, .slice Ao14 (t260.length - 2) co14, .int .i64 a2] rfl (by (try simp only [List.map_toArray, List.map_cons, List.map_nil]); first | done | rfl | (simp only [List.length_drop, List.length_take]; rfl)) ?_; (with_reducible refine (vec_Scaled_lent.calls k _ _ t257 _ _ t260 a2 t267 t268 _ ?side1 ?side2 ?side3 ?side4 A8.out).mono ?_); (case side1 => repeat (first | exact (Kd.R_reads' HO259.out).2.2 | (with_reducible refine Kd.C_alloc ?_ _) | (with_reducible refine Kd.C_drewN ?_ _) | (with_reducible refine Kd.C_drew ?_))); (case side2 => exact (Kd.R_reads' HO259.out).2.1); (case side3 => repeat (first | exact (Kd.R_reads' HO262.out).2.2 | (with_reducible refine Kd.C_alloc ?_ _) | (with_reducible refine Kd.C_drewN ?_ _) | (with_reducible refine Kd.C_drew ?_))); (case side4 => exact (Kd.R_reads' HO262.out).2.1); rintro e w17 ⟨v269, rfl, ho0, hb⟩; refine ⟨_, rfl, ?_⟩; have n0_ := Aside0.mk (Kd.R_elder' (by (with_reducible repeat (first | apply Kd.R_alloc | apply Kd.R_drewN | apply Kd.R_drew)); exact HO259.out) (Kd.R_base ho0) hb); have n1_ := Aside0.mk (Kd.R_elder' (by (with_reducible repeat (first | apply Kd.R_alloc | apply Kd.R_drewN | apply Kd.R_drew)); exact HO262.out) (Kd.R_base ho0) hb); have n2_ := Aside0.mk (Kd.R_lower (Kd.R_new' (Kd.R_new' ho0 (Kd.R_lt (by (with_reducible repeat (first | apply Kd.R_alloc | apply Kd.R_drewN | apply Kd.R_drew)); exact HO259.out))) (Kd.R_lt (by (with_reducible repeat (first | apply Kd.R_alloc | apply Kd.R_drewN | apply Kd.R_drew)); exact HO262.out))) (below_size (by repeat (first | (with_reducible first | exact HB.out | apply below_alloc | apply pw_below_drewN | apply below_drew1) | exact HB.out)))); have n3_ := Aside0.mk (below_step (by repeat (first | (with_reducible first | exact HB.out | apply below_alloc | apply pw_below_drewN | apply below_drew1) | exact HB.out)) hb); clear HO259; clear HO262; clear HB; have HO259 := n0_; have HO262 := n1_; have HO270 := n2_; have HB := n3_; clear n0_ n1_ n2_ n3_; (try clear hb); (try clear hb2); (try clear hk); (try clear hi); (try clear ho0)) | ((with_reducible refine gate_callee (f := 60) rfl ?_); refine goesL_ (some 44) rfl rfl Try.func60 (by kernel_rfl) rfl #[.slice A0 l0.length c0, .slice A1 l1.length c1, .int .i64 a2] rfl (by (try simp only [List.map_toArray, List.map_cons, List.map_nil]); first | done | rfl | (simp only [List.length_drop, List.length_take]; rfl)) ?_; (with_reducible refine (grafterref1_Scaled.calls k _ _ l0 _ _ l1 a2 t271 t272 _ ?side1 ?side2 ?side3 ?side4 A9.out).mono ?_); (case side1 => repeat (first | exact (Kd.C_below HR0.out HB.out) | (with_reducible refine Kd.C_alloc ?_ _) | (with_reducible refine Kd.C_drewN ?_ _) | (with_reducible refine Kd.C_drew ?_))); (case side2 => exact HC0.out); (case side3 => repeat (first | exact (Kd.C_below HR1.out HB.out) | (with_reducible refine Kd.C_alloc ?_ _) | (with_reducible refine Kd.C_drewN ?_ _) | (with_reducible refine Kd.C_drew ?_))); (case side4 => exact HC1.out); rintro e w18 ⟨v273, rfl, ho0, hb⟩; refine ⟨_, rfl, ?_⟩; have n0_ := Aside0.mk (Kd.R_elder' (by (with_reducible repeat (first | apply Kd.R_alloc | apply Kd.R_drewN | apply Kd.R_drew)); exact HO259.out) (Kd.R_base ho0) hb); have n1_ := Aside0.mk (Kd.R_elder' (by (with_reducible repeat (first | apply Kd.R_alloc | apply Kd.R_drewN | apply Kd.R_drew)); exact HO262.out) (Kd.R_base ho0) hb); have n2_ := Aside0.mk (Kd.R_elder' (by (with_reducible repeat (first | apply Kd.R_alloc | apply Kd.R_drewN | apply Kd.R_drew)); exact HO270.out) (Kd.R_base ho0) hb); have n3_ := Aside0.mk (Kd.R_lower (Kd.R_new' (Kd.R_new' (Kd.R_new' ho0 (Kd.R_lt (by (with_reducible repeat (first | apply Kd.R_alloc | apply Kd.R_drewN | apply Kd.R_drew)); exact HO259.out))) (Kd.R_lt (by (with_reducible repeat (first | apply Kd.R_alloc | apply Kd.R_drewN | apply Kd.R_drew)); exact HO262.out))) (Kd.R_lt (by (with_reducible repeat (first | apply Kd.R_alloc | apply Kd.R_drewN | apply Kd.R_drew)); exact HO270.out))) (below_size (by repeat (first | (with_reducible first | exact HB.out | apply below_alloc | apply pw_below_drewN | apply below_drew1) | exact HB.out)))); have n4_ := Aside0.mk (below_step (by repeat (first | (with_reducible first | exact HB.out | apply below_alloc | apply pw_below_drewN | apply below_drew1) | exact HB.out)) hb); clear HO259; clear HO262; clear HO270; clear HB; have HO259 := n0_; have HO262 := n1_; have HO270 := n2_; have HO274 := n3_; have HB := n4_; clear n0_ n1_ n2_ n3_ n4_; (try clear hb); (try clear hb2); (try clear hk); (try clear hi); (try clear ho0)))
  (try simp only [Act.put, List.setIfInBounds_toArray, List.set_cons_zero, List.set_cons_succ])
  go_cut [74] (fun v74 wc => ∃ (kq : Nat) (x74_9 : Bool), v74 = .bool x74_9 ∧ Aside0 (grafterlaw4_Vecs.j0 kq l0 l1 t257 t260 t267 x74_9 = some r) ∧ Aside0 (kq ≤ k) ∧ Aside0 (Kd.R (Kd.int .i64) 3 wc w.heap.size (fun k_ => some k_ ≠ ((.slice Ao14 t260.length co14) : Value).ownBlock ∧ some k_ ≠ (v269 : Value).ownBlock) (.slice Ao13 t257.length co13) t257) ∧ Aside0 (Kd.R (Kd.int .i64) 3 wc w.heap.size (fun k_ => some k_ ≠ ((.slice Ao13 t257.length co13) : Value).ownBlock ∧ some k_ ≠ (v269 : Value).ownBlock) (.slice Ao14 t260.length co14) t260) ∧ Aside0 (Kd.R (Kd.int .i64) 3 wc w.heap.size (fun k_ => some k_ ≠ ((.slice Ao13 t257.length co13) : Value).ownBlock ∧ some k_ ≠ ((.slice Ao14 t260.length co14) : Value).ownBlock) v269 t267) ∧ Aside0 (Below w.heap.size w wc))
  case first =>
    have H := HC10.out
    clear HC10
    by_cases c19 : t263 = t265
    · rw [if_pos c19] at H
      have c19b0 : (t263 == t265) = true := beq_iff_eq.mpr c19
      have c19b1 : (t263 != t265) = false := bne_eq_false_iff_eq.mpr c19
      clear c19
      (first | rw [c19b0] | (simp only [i64_w, i32_w]; rw [c19b0]) | skip)
      replace H := Option.bind_eq_some_iff.mp H
      obtain ⟨t275, A200, H⟩ := H
      replace H : (if t275 = t266 then ((grafterlaw0_SameInts.f k t267 t271).bind fun t276 => (if t276 = true then ((grafterlaw0_Num.f t268).bind fun t277 => (if t277 = t272 then ((vec_May_lent.f k t257).bind fun t278 => ((grafterref1_VecMay.f k l0).bind fun t279 => (grafterlaw4_Vecs.j0 k l0 l1 t257 t260 t267 (t278 != t279)))) else (grafterlaw4_Vecs.j0 k l0 l1 t257 t260 t267 true))) else (grafterlaw4_Vecs.j0 k l0 l1 t257 t260 t267 true))) else (grafterlaw4_Vecs.j0 k l0 l1 t257 t260 t267 true)) = some r := H
      have A20 := Aside0.mk A200
      clear A200
      by_cases c21 : t275 = t266
      · rw [if_pos c21] at H
        have c21b0 : (t275 == t266) = true := beq_iff_eq.mpr c21
        have c21b1 : (t275 != t266) = false := bne_eq_false_iff_eq.mpr c21
        clear c21
        replace H := Option.bind_eq_some_iff.mp H
        obtain ⟨t276, A220, H⟩ := H
        replace H : (if t276 = true then ((grafterlaw0_Num.f t268).bind fun t277 => (if t277 = t272 then ((vec_May_lent.f k t257).bind fun t278 => ((grafterref1_VecMay.f k l0).bind fun t279 => (grafterlaw4_Vecs.j0 k l0 l1 t257 t260 t267 (t278 != t279)))) else (grafterlaw4_Vecs.j0 k l0 l1 t257 t260 t267 true))) else (grafterlaw4_Vecs.j0 k l0 l1 t257 t260 t267 true)) = some r := H
        have A22 := Aside0.mk A220
        clear A220
        by_cases c23 : t276 = true
        · subst c23
          have H1 : ((grafterlaw0_Num.f t268).bind fun t277 => (if t277 = t272 then ((vec_May_lent.f k t257).bind fun t278 => ((grafterref1_VecMay.f k l0).bind fun t279 => (grafterlaw4_Vecs.j0 k l0 l1 t257 t260 t267 (t278 != t279)))) else (grafterlaw4_Vecs.j0 k l0 l1 t257 t260 t267 true))) = some r := by rw [if_pos rfl] at H; exact H
          clear H
          have H := H1
          clear H1
          replace H := Option.bind_eq_some_iff.mp H
          obtain ⟨t277, A240, H⟩ := H
          replace H : (if t277 = t272 then ((vec_May_lent.f k t257).bind fun t278 => ((grafterref1_VecMay.f k l0).bind fun t279 => (grafterlaw4_Vecs.j0 k l0 l1 t257 t260 t267 (t278 != t279)))) else (grafterlaw4_Vecs.j0 k l0 l1 t257 t260 t267 true)) = some r := H
          have A24 := Aside0.mk A240
          clear A240
          by_cases c25 : t277 = t272
          · rw [if_pos c25] at H
            have c25b0 : (t277 == t272) = true := beq_iff_eq.mpr c25
            have c25b1 : (t277 != t272) = false := bne_eq_false_iff_eq.mpr c25
            clear c25
            replace H := Option.bind_eq_some_iff.mp H
            obtain ⟨t278, A260, H⟩ := H
            replace H : ((grafterref1_VecMay.f k l0).bind fun t279 => (grafterlaw4_Vecs.j0 k l0 l1 t257 t260 t267 (t278 != t279))) = some r := H
            have A26 := Aside0.mk A260
            clear A260
            replace H := Option.bind_eq_some_iff.mp H
            obtain ⟨t279, A270, H⟩ := H
            replace H : (grafterlaw4_Vecs.j0 k l0 l1 t257 t260 t267 (t278 != t279)) = some r := H
            have A27 := Aside0.mk A270
            clear A270
            have H' := Aside0.mk H
            clear H
            go_wp2_with (first | (go_at_call 26; (with_reducible refine (grafterlaw0_Num.calls t264 t275 _ A20.out).mono ?_); rintro e w' ⟨rfl, ⟨nd, rfl⟩⟩; obtain ⟨Ao28, co28, eo28⟩ := Kd.R_slice HO270.out; subst eo28; obtain ⟨Ao29, co29, eo29⟩ := Kd.R_slice HO274.out; subst eo29; (try clear A20)) | (go_at_call 53; (with_reducible refine (grafterlaw0_SameInts.calls k _ _ t267 _ _ t271 true _ ?side1 ?side2 ?side3 ?side4 A22.out).mono ?_); (case side1 => repeat (first | exact (Kd.R_reads' HO270.out).2.2 | (with_reducible refine Kd.C_alloc ?_ _) | (with_reducible refine Kd.C_drewN ?_ _) | (with_reducible refine Kd.C_drew ?_))); (case side2 => exact (Kd.R_reads' HO270.out).2.1); (case side3 => repeat (first | exact (Kd.R_reads' HO274.out).2.2 | (with_reducible refine Kd.C_alloc ?_ _) | (with_reducible refine Kd.C_drewN ?_ _) | (with_reducible refine Kd.C_drew ?_))); (case side4 => exact (Kd.R_reads' HO274.out).2.1); rintro e w' ⟨rfl, ⟨nd, rfl⟩⟩) | (go_at_call 26; (with_reducible refine (grafterlaw0_Num.calls t268 t277 _ A24.out).mono ?_); rintro e w' ⟨rfl, ⟨nd, rfl⟩⟩; (try clear A24)) | (go_at_call 61; (with_reducible refine (vec_May_lent.calls k _ _ t257 t278 _ ?side1 ?side2 A26.out).mono ?_); (case side1 => repeat (first | exact (Kd.R_reads' HO259.out).2.2 | (with_reducible refine Kd.C_alloc ?_ _) | (with_reducible refine Kd.C_drewN ?_ _) | (with_reducible refine Kd.C_drew ?_))); (case side2 => exact (Kd.R_reads' HO259.out).2.1); rintro e w' ⟨rfl, ⟨nd, rfl⟩⟩) | (go_at_call 62; (with_reducible refine (grafterref1_VecMay.calls k _ _ l0 t279 _ ?side1 ?side2 A27.out).mono ?_); (case side1 => repeat (first | exact (Kd.C_below HR0.out (by repeat (first | (with_reducible first | exact HB.out | apply below_alloc | apply pw_below_drewN | apply below_drew1) | exact HB.out))) | (with_reducible refine Kd.C_alloc ?_ _) | (with_reducible refine Kd.C_drewN ?_ _) | (with_reducible refine Kd.C_drew ?_))); (case side2 => exact HC0.out); rintro e w' ⟨rfl, ⟨nd, rfl⟩⟩))
            go_meet
            case rel => exact ⟨_, ((t278 != t279)), (by first | rfl | (simp; done) | (simp [*]; done)), H', ⟨by first | omega | exact Nat.le_refl _⟩, ⟨by (with_reducible repeat (first | apply Kd.R_alloc | apply Kd.R_drewN | apply Kd.R_drew)); exact Kd.R_mono HO259.out (fun _ hk => ⟨hk.1.1.2, hk.1.2⟩)⟩, ⟨by (with_reducible repeat (first | apply Kd.R_alloc | apply Kd.R_drewN | apply Kd.R_drew)); exact Kd.R_mono HO262.out (fun _ hk => ⟨hk.1.1.2, hk.1.2⟩)⟩, ⟨by (with_reducible repeat (first | apply Kd.R_alloc | apply Kd.R_drewN | apply Kd.R_drew)); exact Kd.R_mono HO270.out (fun _ hk => ⟨hk.1.1.2, hk.1.2⟩)⟩, ⟨by repeat (first | (with_reducible first | exact HB.out | apply below_alloc | apply pw_below_drewN | apply below_drew1) | exact HB.out)⟩⟩
          · rw [if_neg c25] at H
            have c25b0 : (t277 == t272) = false := beq_eq_false_iff_ne.mpr c25
            have c25b1 : (t277 != t272) = true := bne_iff_ne.mpr c25
            have H' := Aside0.mk H
            clear H
            go_wp2_with (first | (go_at_call 26; (with_reducible refine (grafterlaw0_Num.calls t264 t275 _ A20.out).mono ?_); rintro e w' ⟨rfl, ⟨nd, rfl⟩⟩; obtain ⟨Ao30, co30, eo30⟩ := Kd.R_slice HO270.out; subst eo30; obtain ⟨Ao31, co31, eo31⟩ := Kd.R_slice HO274.out; subst eo31; (try clear A20)) | (go_at_call 53; (with_reducible refine (grafterlaw0_SameInts.calls k _ _ t267 _ _ t271 true _ ?side1 ?side2 ?side3 ?side4 A22.out).mono ?_); (case side1 => repeat (first | exact (Kd.R_reads' HO270.out).2.2 | (with_reducible refine Kd.C_alloc ?_ _) | (with_reducible refine Kd.C_drewN ?_ _) | (with_reducible refine Kd.C_drew ?_))); (case side2 => exact (Kd.R_reads' HO270.out).2.1); (case side3 => repeat (first | exact (Kd.R_reads' HO274.out).2.2 | (with_reducible refine Kd.C_alloc ?_ _) | (with_reducible refine Kd.C_drewN ?_ _) | (with_reducible refine Kd.C_drew ?_))); (case side4 => exact (Kd.R_reads' HO274.out).2.1); rintro e w' ⟨rfl, ⟨nd, rfl⟩⟩) | (go_at_call 26; (with_reducible refine (grafterlaw0_Num.calls t268 t277 _ A24.out).mono ?_); rintro e w' ⟨rfl, ⟨nd, rfl⟩⟩; (try clear A24)))
            go_meet
            case rel => exact ⟨_, (true), (by first | rfl | (simp; done) | (simp [*]; done)), H', ⟨by first | omega | exact Nat.le_refl _⟩, ⟨by (with_reducible repeat (first | apply Kd.R_alloc | apply Kd.R_drewN | apply Kd.R_drew)); exact Kd.R_mono HO259.out (fun _ hk => ⟨hk.1.1.2, hk.1.2⟩)⟩, ⟨by (with_reducible repeat (first | apply Kd.R_alloc | apply Kd.R_drewN | apply Kd.R_drew)); exact Kd.R_mono HO262.out (fun _ hk => ⟨hk.1.1.2, hk.1.2⟩)⟩, ⟨by (with_reducible repeat (first | apply Kd.R_alloc | apply Kd.R_drewN | apply Kd.R_drew)); exact Kd.R_mono HO270.out (fun _ hk => ⟨hk.1.1.2, hk.1.2⟩)⟩, ⟨by repeat (first | (with_reducible first | exact HB.out | apply below_alloc | apply pw_below_drewN | apply below_drew1) | exact HB.out)⟩⟩
        · replace c23 := Bool.eq_false_iff.mpr c23
          subst c23
          have H1 : (grafterlaw4_Vecs.j0 k l0 l1 t257 t260 t267 true) = some r := by rw [if_neg (show ¬ (false = true) by decide)] at H; exact H
          clear H
          have H := H1
          clear H1
          have H' := Aside0.mk H
          clear H
          go_wp2_with (first | (go_at_call 26; (with_reducible refine (grafterlaw0_Num.calls t264 t275 _ A20.out).mono ?_); rintro e w' ⟨rfl, ⟨nd, rfl⟩⟩; obtain ⟨Ao32, co32, eo32⟩ := Kd.R_slice HO270.out; subst eo32; obtain ⟨Ao33, co33, eo33⟩ := Kd.R_slice HO274.out; subst eo33) | (go_at_call 53; (with_reducible refine (grafterlaw0_SameInts.calls k _ _ t267 _ _ t271 false _ ?side1 ?side2 ?side3 ?side4 A22.out).mono ?_); (case side1 => repeat (first | exact (Kd.R_reads' HO270.out).2.2 | (with_reducible refine Kd.C_alloc ?_ _) | (with_reducible refine Kd.C_drewN ?_ _) | (with_reducible refine Kd.C_drew ?_))); (case side2 => exact (Kd.R_reads' HO270.out).2.1); (case side3 => repeat (first | exact (Kd.R_reads' HO274.out).2.2 | (with_reducible refine Kd.C_alloc ?_ _) | (with_reducible refine Kd.C_drewN ?_ _) | (with_reducible refine Kd.C_drew ?_))); (case side4 => exact (Kd.R_reads' HO274.out).2.1); rintro e w' ⟨rfl, ⟨nd, rfl⟩⟩))
          go_meet
          case rel => exact ⟨_, (true), (by first | rfl | (simp; done) | (simp [*]; done)), H', ⟨by first | omega | exact Nat.le_refl _⟩, ⟨by (with_reducible repeat (first | apply Kd.R_alloc | apply Kd.R_drewN | apply Kd.R_drew)); exact Kd.R_mono HO259.out (fun _ hk => ⟨hk.1.1.2, hk.1.2⟩)⟩, ⟨by (with_reducible repeat (first | apply Kd.R_alloc | apply Kd.R_drewN | apply Kd.R_drew)); exact Kd.R_mono HO262.out (fun _ hk => ⟨hk.1.1.2, hk.1.2⟩)⟩, ⟨by (with_reducible repeat (first | apply Kd.R_alloc | apply Kd.R_drewN | apply Kd.R_drew)); exact Kd.R_mono HO270.out (fun _ hk => ⟨hk.1.1.2, hk.1.2⟩)⟩, ⟨by repeat (first | (with_reducible first | exact HB.out | apply below_alloc | apply pw_below_drewN | apply below_drew1) | exact HB.out)⟩⟩
      · rw [if_neg c21] at H
        have c21b0 : (t275 == t266) = false := beq_eq_false_iff_ne.mpr c21
        have c21b1 : (t275 != t266) = true := bne_iff_ne.mpr c21
        have H' := Aside0.mk H
        clear H
        go_wp2_with (first | (go_at_call 26; (with_reducible refine (grafterlaw0_Num.calls t264 t275 _ A20.out).mono ?_); rintro e w' ⟨rfl, ⟨nd, rfl⟩⟩))
        go_meet
        case rel => exact ⟨_, (true), (by first | rfl | (simp; done) | (simp [*]; done)), H', ⟨by first | omega | exact Nat.le_refl _⟩, ⟨by (with_reducible repeat (first | apply Kd.R_alloc | apply Kd.R_drewN | apply Kd.R_drew)); exact Kd.R_mono HO259.out (fun _ hk => ⟨hk.1.1.2, hk.1.2⟩)⟩, ⟨by (with_reducible repeat (first | apply Kd.R_alloc | apply Kd.R_drewN | apply Kd.R_drew)); exact Kd.R_mono HO262.out (fun _ hk => ⟨hk.1.1.2, hk.1.2⟩)⟩, ⟨by (with_reducible repeat (first | apply Kd.R_alloc | apply Kd.R_drewN | apply Kd.R_drew)); exact Kd.R_mono HO270.out (fun _ hk => ⟨hk.1.1.2, hk.1.2⟩)⟩, ⟨by repeat (first | (with_reducible first | exact HB.out | apply below_alloc | apply pw_below_drewN | apply below_drew1) | exact HB.out)⟩⟩
    · rw [if_neg c19] at H
      have c19b0 : (t263 == t265) = false := beq_eq_false_iff_ne.mpr c19
      have c19b1 : (t263 != t265) = true := bne_iff_ne.mpr c19
      (first | rw [c19b0] | (simp only [i64_w, i32_w]; rw [c19b0]) | skip)
      have H' := Aside0.mk H
      clear H
      go_wp2
      go_meet
      case rel => exact ⟨_, (true), (by first | rfl | (simp; done) | (simp [*]; done)), H', ⟨by first | omega | exact Nat.le_refl _⟩, ⟨by (with_reducible repeat (first | apply Kd.R_alloc | apply Kd.R_drewN | apply Kd.R_drew)); exact Kd.R_mono HO259.out (fun _ hk => ⟨hk.1.1.2, hk.1.2⟩)⟩, ⟨by (with_reducible repeat (first | apply Kd.R_alloc | apply Kd.R_drewN | apply Kd.R_drew)); exact Kd.R_mono HO262.out (fun _ hk => ⟨hk.1.1.2, hk.1.2⟩)⟩, ⟨by (with_reducible repeat (first | apply Kd.R_alloc | apply Kd.R_drewN | apply Kd.R_drew)); exact Kd.R_mono HO270.out (fun _ hk => ⟨hk.1.1.2, hk.1.2⟩)⟩, ⟨by repeat (first | (with_reducible first | exact HB.out | apply below_alloc | apply pw_below_drewN | apply below_drew1) | exact HB.out)⟩⟩
  case rest =>
    clear HC10
    try clear c1
    try clear c2
    try clear p2
    try clear c5
    try clear c6
    try clear c12
    try clear c19
    try clear c19b0
    try clear c19b1
    try clear c20
    try clear c21
    try clear c21b0
    try clear c21b1
    try clear c23
    try clear c25
    try clear c25b0
    try clear c25b1
    obtain ⟨kq, x74_9, rfl, HA, HJ9, HO_7, HO_8, HO_13, HB⟩ := hcut
    cases kq with
    | zero => exact absurd HA.out (by simp [grafterlaw4_Vecs.j0])
    | succ kj9 =>
      have H := HA.out
      clear HA
      simp only [grafterlaw4_Vecs.j0] at H
      by_cases c34 : x74_9 = true
      · subst c34
        have H1 : (some false) = some r := by rw [if_pos rfl] at H; exact H
        clear H
        have H := H1
        clear H1
        exact absurd ((Option.some.inj H).trans HRT.out) Bool.false_ne_true
      · replace c34 := Bool.eq_false_iff.mpr c34
        subst c34
        have H1 : ((grafterlaw0_SpoilInts.f kj9 t267).bind fun t280 => ((grafterlaw0_KeptInts.f kj9 t257 l0).bind fun t281 => (if t281 = true then ((grafterlaw0_KeptInts.f kj9 t260 l1).bind fun t282 => (if t282 = true then ((grafterlaw4_awake.f kj9).bind fun t283 => (some t283)) else (some false))) else (some false)))) = some r := by rw [if_neg (show ¬ (false = true) by decide)] at H; exact H
        clear H
        have H := H1
        clear H1
        replace H := Option.bind_eq_some_iff.mp H
        obtain ⟨t280, A350, H⟩ := H
        replace H : ((grafterlaw0_KeptInts.f kj9 t257 l0).bind fun t281 => (if t281 = true then ((grafterlaw0_KeptInts.f kj9 t260 l1).bind fun t282 => (if t282 = true then ((grafterlaw4_awake.f kj9).bind fun t283 => (some t283)) else (some false))) else (some false))) = some r := H
        have A35 := Aside0.mk A350
        clear A350
        replace H := Option.bind_eq_some_iff.mp H
        obtain ⟨t281, A360, H⟩ := H
        replace H : (if t281 = true then ((grafterlaw0_KeptInts.f kj9 t260 l1).bind fun t282 => (if t282 = true then ((grafterlaw4_awake.f kj9).bind fun t283 => (some t283)) else (some false))) else (some false)) = some r := H
        have A36 := Aside0.mk A360
        clear A360
        by_cases c37 : t281 = true
        · subst c37
          have H1 : ((grafterlaw0_KeptInts.f kj9 t260 l1).bind fun t282 => (if t282 = true then ((grafterlaw4_awake.f kj9).bind fun t283 => (some t283)) else (some false))) = some r := by rw [if_pos rfl] at H; exact H
          clear H
          have H := H1
          clear H1
          replace H := Option.bind_eq_some_iff.mp H
          obtain ⟨t282, A380, H⟩ := H
          replace H : (if t282 = true then ((grafterlaw4_awake.f kj9).bind fun t283 => (some t283)) else (some false)) = some r := H
          have A38 := Aside0.mk A380
          clear A380
          by_cases c39 : t282 = true
          · subst c39
            have H1 : ((grafterlaw4_awake.f kj9).bind fun t283 => (some t283)) = some r := by rw [if_pos rfl] at H; exact H
            clear H
            have H := H1
            clear H1
            replace H := Option.bind_eq_some_iff.mp H
            obtain ⟨t283, A400, H⟩ := H
            replace H : (some t283) = some r := H
            have A40 := Aside0.mk A400
            clear A400
            obtain rfl := Option.some.inj H
            obtain ⟨Ao41, co41, eo41⟩ := Kd.R_slice HO_13.out
            subst eo41
            go_wp2_with (first | ((with_reducible refine gate_callee (f := 54) rfl ?_); refine goesL_ (some 76) rfl rfl Try.func54 (by kernel_rfl) rfl #[.slice Ao41 t267.length co41] rfl (by (try simp only [List.map_toArray, List.map_cons, List.map_nil]); first | done | rfl | (simp only [List.length_drop, List.length_take]; rfl)) ?_; (with_reducible refine (grafterlaw0_SpoilInts.calls kj9 (fun k_ => some k_ = (.slice Ao41 t267.length co41 : Value).ownBlock) (.slice Ao41 t267.length co41) t267 t280 w _ ?side1 ?side2 A35.out).mono ?_); (case side1 => repeat (first | (with_reducible first | exact HB.out | apply below_alloc | apply pw_below_drewN | apply below_drew1) | exact HB.out)); (case side2 => exact Kd.R_tight rfl HO_13.out); rintro e w42 ⟨rfl, hy0, hb, hkp⟩; refine ⟨_, rfl, ?_⟩; have n0_ := Aside0.mk (Kd.R_mono (ok' := fun k_ => some k_ ≠ (.slice Ao14 t260.length co14 : Value).ownBlock ∧ some k_ ≠ (.slice Ao41 t267.length co41 : Value).ownBlock) (Kd.R_keptB (HO_7.out) hkp (fun k_ hk_ hs_ => (hk_.2) hs_)) (fun k_ hk_ => ⟨hk_.1.1, hk_.1.2⟩)); have n1_ := Aside0.mk (Kd.R_mono (ok' := fun k_ => some k_ ≠ (.slice Ao13 t257.length co13 : Value).ownBlock ∧ some k_ ≠ (.slice Ao41 t267.length co41 : Value).ownBlock) (Kd.R_keptB (HO_8.out) hkp (fun k_ hk_ hs_ => (hk_.2) hs_)) (fun k_ hk_ => ⟨hk_.1.1, hk_.1.2⟩)); have n2_ := Aside0.mk (Kd.R_reok rfl hy0 (fun k_ e_ => HO_13.out.1 k_ e_)); have n3_ := Aside0.mk (hb); clear HO_7; clear HO_8; clear HO_13; clear HB; have HO_7 := n0_; have HO_8 := n1_; have HO_13 := n2_; have HB := n3_; clear n0_ n1_ n2_ n3_; (try clear hb); (try clear hkp); (try clear hy0)) | ((with_reducible refine gate_callee (f := 55) rfl ?_); refine goesL_ (some 79) rfl rfl Try.func55 (by kernel_rfl) rfl #[.slice Ao13 (t257.length - 2) co13, .slice A0 l0.length c0] rfl (by (try simp only [List.map_toArray, List.map_cons, List.map_nil]); first | done | rfl | (simp only [List.length_drop, List.length_take]; rfl)) ?_; (with_reducible refine (grafterlaw0_KeptInts.calls kj9 _ _ t257 _ _ l0 true _ ?side1 ?side2 ?side3 ?side4 A36.out).mono ?_); (case side1 => repeat (first | exact (Kd.R_reads' HO_7.out).2.2 | (with_reducible refine Kd.C_alloc ?_ _) | (with_reducible refine Kd.C_drewN ?_ _) | (with_reducible refine Kd.C_drew ?_))); (case side2 => exact (Kd.R_reads' HO_7.out).2.1); (case side3 => repeat (first | exact (Kd.C_below HR0.out HB.out) | (with_reducible refine Kd.C_alloc ?_ _) | (with_reducible refine Kd.C_drewN ?_ _) | (with_reducible refine Kd.C_drew ?_))); (case side4 => exact HC0.out); rintro e w' ⟨rfl, ⟨nd, rfl⟩⟩; refine ⟨_, rfl, ?_⟩; (try clear A36)) | (go_at_call 55; (with_reducible refine (grafterlaw0_KeptInts.calls kj9 _ _ t260 _ _ l1 true _ ?side1 ?side2 ?side3 ?side4 A38.out).mono ?_); (case side1 => repeat (first | exact (Kd.R_reads' HO_8.out).2.2 | (with_reducible refine Kd.C_alloc ?_ _) | (with_reducible refine Kd.C_drewN ?_ _) | (with_reducible refine Kd.C_drew ?_))); (case side2 => exact (Kd.R_reads' HO_8.out).2.1); (case side3 => repeat (first | exact (Kd.C_below HR1.out (by repeat (first | (with_reducible first | exact HB.out | apply below_alloc | apply pw_below_drewN | apply below_drew1) | exact HB.out))) | (with_reducible refine Kd.C_alloc ?_ _) | (with_reducible refine Kd.C_drewN ?_ _) | (with_reducible refine Kd.C_drew ?_))); (case side4 => exact HC1.out); rintro e w' ⟨rfl, ⟨nd, rfl⟩⟩; (try clear A38)) | (go_at_call 63; (with_reducible refine (grafterlaw4_awake.calls kj9  t283 _ HRT.out A40.out).mono ?_); rintro e w43 ⟨rfl, hb⟩; have n0_ := Aside0.mk (Kd.R_below (by (with_reducible repeat (first | apply Kd.R_alloc | apply Kd.R_drewN | apply Kd.R_drew)); exact HO_7.out) hb); have n1_ := Aside0.mk (Kd.R_below (by (with_reducible repeat (first | apply Kd.R_alloc | apply Kd.R_drewN | apply Kd.R_drew)); exact HO_8.out) hb); have n2_ := Aside0.mk (Kd.R_below (by (with_reducible repeat (first | apply Kd.R_alloc | apply Kd.R_drewN | apply Kd.R_drew)); exact HO_13.out) hb); have n3_ := Aside0.mk (below_step (by repeat (first | (with_reducible first | exact HB.out | apply below_alloc | apply pw_below_drewN | apply below_drew1) | exact HB.out)) hb); clear HO_7; clear HO_8; clear HO_13; clear HB; have HO_7 := n0_; have HO_8 := n1_; have HO_13 := n2_; have HB := n3_; clear n0_ n1_ n2_ n3_; (try clear hb); (try clear hb2); (try clear hk); (try clear hi)))
            go_ret
            exact ⟨by first | rfl | (simp [errW_none, errW_some] <;> rfl) | (simp [*, errW_none, errW_some] <;> rfl), by repeat (first | (with_reducible first | exact HB.out | apply below_alloc | apply pw_below_drewN | apply below_drew1) | exact HB.out)⟩
          · replace c39 := Bool.eq_false_iff.mpr c39
            subst c39
            have H1 : (some false) = some r := by rw [if_neg (show ¬ (false = true) by decide)] at H; exact H
            clear H
            have H := H1
            clear H1
            exact absurd ((Option.some.inj H).trans HRT.out) Bool.false_ne_true
        · replace c37 := Bool.eq_false_iff.mpr c37
          subst c37
          have H1 : (some false) = some r := by rw [if_neg (show ¬ (false = true) by decide)] at H; exact H
          clear H
          have H := H1
          clear H1
          exact absurd ((Option.some.inj H).trans HRT.out) Bool.false_ne_true

/-- THE ONE PURE STATEMENT of grafterlaw4_Vecs: yours. -/
def grafterlaw4_Vecs.Pure : Prop := ∀ (l0 : List Int) (l1 : List Int) (a2 : Int), l0.length ≤ maxLen → l0.length * 8 ≤ 140737488351232 → (∀ x ∈ l0, (Lit.int .i64 x).wf = true) → l1.length ≤ maxLen → l1.length * 8 ≤ 140737488351232 → (∀ x ∈ l1, (Lit.int .i64 x).wf = true) → (Lit.int .i64 a2).wf = true → ∃ k, grafterlaw4_Vecs.f k l0 l1 a2 = some true
theorem grafterlaw4_Vecs.walk (P : grafterlaw4_Vecs.Pure) (a0 : Option Addr) (len0 cap0 : Nat) (z0 : List Int) (a1 : Option Addr) (len1 cap1 : Nat) (z1 : List Int) (a2 : Int) (w : World) (w0 : (a0 = none ∧ len0 = 0 ∧ cap0 = 0 ∧ z0 = []) ∨ ∃ x, a0 = some x ∧ len0 ≤ cap0 ∧ cap0 ≤ maxLen ∧ z0.length = cap0 ∧ (∀ i, i < z0.length → w.cell? (x.add i) = some (.int .i64 (z0.getD i 0))) ∧ ∀ n ∈ z0, (Lit.int .i64 n).wf = true) (y0 : len0 * 8 ≤ 140737488351232) (w1 : (a1 = none ∧ len1 = 0 ∧ cap1 = 0 ∧ z1 = []) ∨ ∃ x, a1 = some x ∧ len1 ≤ cap1 ∧ cap1 ≤ maxLen ∧ z1.length = cap1 ∧ (∀ i, i < z1.length → w.cell? (x.add i) = some (.int .i64 (z1.getD i 0))) ∧ ∀ n ∈ z1, (Lit.int .i64 n).wf = true) (y1 : len1 * 8 ≤ 140737488351232) (w2 : (Lit.int .i64 a2).wf = true) :
    Calls Try.prog 20 #[.slice a0 len0 cap0, .slice a1 len1 cap1, .int .i64 a2] w fun e w' => e = .returned (.bool true) ∧ Below w.heap.size w w' := by
  obtain ⟨l0, rfl, hr0, hm0, hw0, hc0⟩ := ReadsInt.ofRowC w0
  obtain ⟨l1, rfl, hr1, hm1, hw1, hc1⟩ := ReadsInt.ofRowC w1
  obtain ⟨k, h⟩ := P l0 l1 a2 hm0 y0 hw0 hm1 y1 hw1 w2
  refine (grafterlaw4_Vecs.calls k _ _ l0 _ _ l1 a2 true w rfl (Kd.C_of_reads (d := (0 : Int)) (h1 := fun _ => rfl) hr0) hc0 (Kd.C_of_reads (d := (0 : Int)) (h1 := fun _ => rfl) hr1) hc1 h).mono ?_
  rintro e w' ⟨rfl, hd⟩
  exact ⟨rfl, hd⟩

end Go.Proofs.Ytbhkmgidokonkaa.PVecs
