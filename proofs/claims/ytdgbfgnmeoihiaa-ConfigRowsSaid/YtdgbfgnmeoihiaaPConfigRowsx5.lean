-- Written by a program of this session (pprint.py) out of the translation, with hand-proved walks pasted in.
import Derived.Test.YtdgbfgnmeoihiaaPConfigRowsx0
import Derived.Test.YtdgbfgnmeoihiaaPConfigRowsx1
import Derived.Test.YtdgbfgnmeoihiaaPConfigRowsx2
import Derived.Test.YtdgbfgnmeoihiaaPConfigRowsx3
import Derived.Test.YtdgbfgnmeoihiaaPConfigRowsx4
namespace Go.Proofs.Ytdgbfgnmeoihiaa.PConfigRows
open Go.RowKit Go.Proofs.YtdgbfgnmeoihiaaW.PrintWords Go.Proofs.YtdgbfgnmeoihiaaW.PrintLast Go.Proofs.YtdgbfgnmeoihiaaW.PrintMore
attribute [local go_sem] max2_int min2_int max_two min_two max_three min_three max_four min_four   -- for this text's walks alone
set_option linter.unusedVariables false
set_option linter.unusedSimpArgs false

/-! ### grafterlaw19_ConfigRows: function 6 -/
def grafterlaw19_ConfigRows.j0 : Nat → Int → Int → Int → Bool → Int → Int → Int → List (S35) → Int → Int → Int → Int → Bool → Option (Bool)
  | 0, _, _, _, _, _, _, _, _, _, _, _, _, _ => none
  | k + 1, x1, x2, x3, x21, x217000, x217001, x217002, x217003, x217004, x217005, x217006, x217007, x217008 => if x21 = true then ((grafterref12_ConfigMay.f k x217000 x217001 x217002 x217003 x217004 x217005 x217006 x217007 x217008).bind fun t219 => (some (!t219))) else ((grafterlaw0_CopyConfig.f k x217000 x217001 x217002 x217003 x217004 x217005 x217006 x217007 x217008).bind fun bt220 => (if (IntKind.u64.wrap ((x217003.length : Int))) = 0 then (none) else ((some (([] : List (S35)) : List (S35))).bind fun y232 => (if 0 ≤ (wrap64 (Int.tmod (IntKind.u64.wrap (x1)) (IntKind.u64.wrap ((x217003.length : Int))))) then (if (wrap64 (Int.tmod (IntKind.u64.wrap (x1)) (IntKind.u64.wrap ((x217003.length : Int))))) ≤ (x217003.length : Int) then ((some (x217003.drop ((wrap64 (Int.tmod (IntKind.u64.wrap (x1)) (IntKind.u64.wrap ((x217003.length : Int))))) : Int).toNat : List (S35))).bind fun y235 => (if y232.length + y235.length < 4398046511104 then ((some (y232 ++ y235 : List (S35))).bind fun y240 => ((some (x217003.take ((wrap64 (Int.tmod (IntKind.u64.wrap (x1)) (IntKind.u64.wrap ((x217003.length : Int))))) : Int).toNat : List (S35))).bind fun y243 => (if y240.length + y243.length < 4398046511104 then ((config_May.f k bt220.1 bt220.2.1 bt220.2.2.1 (y240 ++ y243) (Go.bits .and .i64 x2 65535) (wrap64 (1 + (Go.bits .and .i64 x3 31))) (wrap64 (1 + (Go.bits .and .i64 x3 7))) bt220.2.2.2.2.2.2.2.1 (!x217008)).bind fun t251 => (if t251 = true then ((grafterlaw19_small.f).bind fun bt252 => (some ((bt252.2.2.2.1.length : Int) == 2))) else (some false))) else (none)))) else (none))) else (none)) else (none)))))
def grafterlaw19_ConfigRows.f (k : Nat) (a0_0 : Int) (a0_1 : Int) (a0_2 : Int) (l0_3 : List (S35)) (a0_4 : Int) (a0_5 : Int) (a0_6 : Int) (a0_7 : Int) (a0_8 : Bool) (a1 : Int) (a2 : Int) (a3 : Int) : Option (Bool) := (grafterlaw19_awake.f k).bind fun t217 => (if t217 = true then ((config_May.f k a0_0 a0_1 a0_2 l0_3 a0_4 a0_5 a0_6 a0_7 a0_8).bind fun t218 => (if t218 = true then (grafterlaw19_ConfigRows.j0 k a1 a2 a3 ((l0_3.length : Int) == 0) a0_0 a0_1 a0_2 l0_3 a0_4 a0_5 a0_6 a0_7 a0_8) else (grafterlaw19_ConfigRows.j0 k a1 a2 a3 true a0_0 a0_1 a0_2 l0_3 a0_4 a0_5 a0_6 a0_7 a0_8))) else (some false))
theorem grafterlaw19_ConfigRows.mono_l : ∀ k, (∀ y0 y1 y2 y3 y4 y5 y6 y7 y8 y9 y10 y11 y12, LeO (grafterlaw19_ConfigRows.j0 k y0 y1 y2 y3 y4 y5 y6 y7 y8 y9 y10 y11 y12) (grafterlaw19_ConfigRows.j0 (k + 1) y0 y1 y2 y3 y4 y5 y6 y7 y8 y9 y10 y11 y12))
  | 0 => fun _ _ _ _ _ _ _ _ _ _ _ _ _ r h => by simp [grafterlaw19_ConfigRows.j0] at h
  | k + 1 => by
    have ih0 := grafterlaw19_ConfigRows.mono_l k
    · intro y0 y1 y2 y3 y4 y5 y6 y7 y8 y9 y10 y11 y12
      unfold grafterlaw19_ConfigRows.j0
      repeat' first
      | (with_reducible exact ih0 _ _ _ _ _ _ _ _ _ _ _ _ _)
      | (with_reducible exact config_May.mono _ _ _ _ _ _ _ _ _ _)
      | (with_reducible exact grafterlaw0_CopyConfig.mono _ _ _ _ _ _ _ _ _ _)
      | (with_reducible exact grafterlaw19_awake.mono _)
      | (with_reducible exact grafterref12_ConfigMay.mono _ _ _ _ _ _ _ _ _ _)
      | (with_reducible exact LeO.refl _)
      | (with_reducible exact LeO.none _)
      | (with_reducible refine LeO.ite ?_ ?_)
      | (with_reducible refine LeO.bind ?_ (fun _ => ?_))
      | exact ih0 _ _ _ _ _ _ _ _ _ _ _ _ _
      | exact config_May.mono _ _ _ _ _ _ _ _ _ _
      | exact grafterlaw0_CopyConfig.mono _ _ _ _ _ _ _ _ _ _
      | exact grafterlaw19_awake.mono _
      | exact grafterref12_ConfigMay.mono _ _ _ _ _ _ _ _ _ _
      | exact LeO.none _
      | refine LeO.ite ?_ ?_
      | refine LeO.bind ?_ (fun _ => ?_)
theorem grafterlaw19_ConfigRows.mono : ∀ a0 a1 a2 a3 a4 a5 a6 a7 a8 a9 a10 a11 k, LeO (grafterlaw19_ConfigRows.f k a0 a1 a2 a3 a4 a5 a6 a7 a8 a9 a10 a11) (grafterlaw19_ConfigRows.f (k + 1) a0 a1 a2 a3 a4 a5 a6 a7 a8 a9 a10 a11) := by
  intro a0 a1 a2 a3 a4 a5 a6 a7 a8 a9 a10 a11 k
  have ih0 := grafterlaw19_ConfigRows.mono_l k
  unfold grafterlaw19_ConfigRows.f
  repeat' first
      | (with_reducible exact ih0 _ _ _ _ _ _ _ _ _ _ _ _ _)
      | (with_reducible exact config_May.mono _ _ _ _ _ _ _ _ _ _)
      | (with_reducible exact grafterlaw0_CopyConfig.mono _ _ _ _ _ _ _ _ _ _)
      | (with_reducible exact grafterlaw19_awake.mono _)
      | (with_reducible exact grafterref12_ConfigMay.mono _ _ _ _ _ _ _ _ _ _)
      | (with_reducible exact LeO.refl _)
      | (with_reducible exact LeO.none _)
      | (with_reducible refine LeO.ite ?_ ?_)
      | (with_reducible refine LeO.bind ?_ (fun _ => ?_))
      | exact ih0 _ _ _ _ _ _ _ _ _ _ _ _ _
      | exact config_May.mono _ _ _ _ _ _ _ _ _ _
      | exact grafterlaw0_CopyConfig.mono _ _ _ _ _ _ _ _ _ _
      | exact grafterlaw19_awake.mono _
      | exact grafterref12_ConfigMay.mono _ _ _ _ _ _ _ _ _ _
      | exact LeO.none _
      | refine LeO.ite ?_ ?_
      | refine LeO.bind ?_ (fun _ => ?_)
def grafterlaw19_ConfigRows.T8 : Bool × List (List Nat × List Nat) := (true, [([], []), ([0], [0]), ([], []), ([2], [2]), ([], []), ([3, 4], [3, 4]), ([1, 5], [1, 5]), ([0, 1, 2, 3, 4, 5, 6], []), ([7, 6, 6, 0, 1, 2, 3, 4, 5, 6], [6, 7])])
def grafterlaw19_ConfigRows.B8 : List Nat := [0, 1, 0, 4, 0, 28, 63, 127, 255]
theorem grafterlaw19_ConfigRows.tab8 : rtab .any (opsOf Try.f6 8) = grafterlaw19_ConfigRows.T8 := by kernel_rfl
theorem grafterlaw19_ConfigRows.bits8 : waitsOk grafterlaw19_ConfigRows.T8.2 grafterlaw19_ConfigRows.B8 = true := by kernel_rfl
set_option maxHeartbeats 8000000 in
set_option maxRecDepth 100000 in
theorem grafterlaw19_ConfigRows.calls (k : Nat) (a0_0 : Int) (a0_1 : Int) (a0_2 : Int) (P0_3_ : Nat → Prop) (A0_3 : Option Addr) (c0_3 : Nat) (l0_3 : List (S35)) (a0_4 : Int) (a0_5 : Int) (a0_6 : Int) (a0_7 : Int) (a0_8 : Bool) (a1 : Int) (a2 : Int) (a3 : Int) (r : Bool) (w : World) (hrt : r = true) (hs0_3 : Kd.V k35 35 w w.heap.size (fun k_ => P0_3_ k_) (.slice A0_3 l0_3.length c0_3) l0_3) (h : grafterlaw19_ConfigRows.f k a0_0 a0_1 a0_2 l0_3 a0_4 a0_5 a0_6 a0_7 a0_8 a1 a2 a3 = some r) :
    Calls Try.prog 6 #[.agg #[.int .i64 a0_0, .int .i64 a0_1, .int .i64 a0_2, .slice A0_3 l0_3.length c0_3, .int .i64 a0_4, .int .i64 a0_5, .int .i64 a0_6, .int .i64 a0_7, .bool a0_8], .int .i64 a1, .int .i64 a2, .int .i64 a3] w fun e w' => e = .returned (.bool r) ∧ Below w.heap.size w w' := by
  have HRT := Aside0.mk hrt
  clear hrt
  have hu26 := Try.underlying26
  have HO0_3 := Aside0.mk (show Kd.V k35 35 w w.heap.size (fun k_ => (P0_3_ k_ ∨ w.heap.size ≤ k_)) (.slice A0_3 l0_3.length c0_3) l0_3 from Kd.V_mono hs0_3 (fun k_ hk => .inl hk))
  have HB := Aside0.mk (Below.refl w.heap.size w)
  have H : ((grafterlaw19_awake.f k).bind fun t217 => (if t217 = true then ((config_May.f k a0_0 a0_1 a0_2 l0_3 a0_4 a0_5 a0_6 a0_7 a0_8).bind fun t218 => (if t218 = true then (grafterlaw19_ConfigRows.j0 k a1 a2 a3 ((l0_3.length : Int) == 0) a0_0 a0_1 a0_2 l0_3 a0_4 a0_5 a0_6 a0_7 a0_8) else (grafterlaw19_ConfigRows.j0 k a1 a2 a3 true a0_0 a0_1 a0_2 l0_3 a0_4 a0_5 a0_6 a0_7 a0_8))) else (some false))) = some r := h
  clear h
  replace H := Option.bind_eq_some_iff.mp H
  obtain ⟨t217, A50, H⟩ := H
  replace H : (if t217 = true then ((config_May.f k a0_0 a0_1 a0_2 l0_3 a0_4 a0_5 a0_6 a0_7 a0_8).bind fun t218 => (if t218 = true then (grafterlaw19_ConfigRows.j0 k a1 a2 a3 ((l0_3.length : Int) == 0) a0_0 a0_1 a0_2 l0_3 a0_4 a0_5 a0_6 a0_7 a0_8) else (grafterlaw19_ConfigRows.j0 k a1 a2 a3 true a0_0 a0_1 a0_2 l0_3 a0_4 a0_5 a0_6 a0_7 a0_8))) else (some false)) = some r := H
  have A5 := Aside0.mk A50
  clear A50
  by_cases c6 : t217 = true
  · subst c6
    have H1 : ((config_May.f k a0_0 a0_1 a0_2 l0_3 a0_4 a0_5 a0_6 a0_7 a0_8).bind fun t218 => (if t218 = true then (grafterlaw19_ConfigRows.j0 k a1 a2 a3 ((l0_3.length : Int) == 0) a0_0 a0_1 a0_2 l0_3 a0_4 a0_5 a0_6 a0_7 a0_8) else (grafterlaw19_ConfigRows.j0 k a1 a2 a3 true a0_0 a0_1 a0_2 l0_3 a0_4 a0_5 a0_6 a0_7 a0_8))) = some r := by rw [if_pos rfl] at H; exact H
    clear H
    have H := H1
    clear H1
    have HC7 := Aside0.mk H
    clear H
    go_enter Try.func6, Try.ntmps6
    go_upto_region 3 with (first | ((with_reducible refine gate_dst (N := 4) rfl ?_); (try (refine gate_guard (by rfl) ?_; dsimp only)); refine box_event ?hg (N := 4) ?hd (cs := #[.int .i64 a0_0, .int .i64 a0_1, .int .i64 a0_2, .slice A0_3 l0_3.length c0_3, .int .i64 a0_4, .int .i64 a0_5, .int .i64 a0_6, .int .i64 a0_7, .bool a0_8]) (t := 26) ?hr ?_; (case hd => rfl); (case hg => rfl); (case hr => first | (go_simp; done) | (go_simp; rfl)); intro gb216 hg w8 hbox hb; have n0_ := Aside0.mk (Kd.V_below (Kd.V_elderB (by (with_reducible repeat (first | apply Kd.V_alloc | apply Kd.V_drewN | apply Kd.V_drew)); exact HO0_3.out) gb216 (Nat.le_of_eq hg.symm)) hb); have n1_ := Aside0.mk (below_step (by repeat (first | (with_reducible first | exact HB.out | apply below_alloc | apply pw_below_drewN | apply below_drew1) | exact HB.out)) hb); have n2_ := Aside0.mk (hbox); have n3_ := Aside0.mk ((by rw [hg]; exact (below_size (by repeat (first | (with_reducible first | exact HB.out | apply below_alloc | apply pw_below_drewN | apply below_drew1) | exact HB.out))) : w.heap.size ≤ gb216)); have n4_ := Aside0.mk ((by rw [hg]; exact (below_size (by repeat (first | (with_reducible first | exact HB.out | apply below_alloc | apply pw_below_drewN | apply below_drew1) | exact HB.out))) : w.heap.size ≤ gb216)); clear HO0_3; clear HB; have HO0_3 := n0_; have HB := n1_; have BK216 := n2_; have GW216 := n3_; have GE216 := n4_; clear n0_ n1_ n2_ n3_ n4_; clear hb hbox hg) | ((with_reducible refine gate_callee (f := 20) rfl ?_); refine goesL_ (some 11) rfl rfl Try.func20 (by kernel_rfl) rfl #[] rfl (by (try simp only [List.map_toArray, List.map_cons, List.map_nil]); first | done | rfl | (simp only [List.length_drop, List.length_take]; rfl)) ?_; (with_reducible refine (grafterlaw19_awake.calls k  true _ rfl A5.out).mono ?_); rintro e w9 ⟨rfl, hb⟩; refine ⟨_, rfl, ?_⟩; have n0_ := Aside0.mk (Kd.V_below (by (with_reducible repeat (first | apply Kd.V_alloc | apply Kd.V_drewN | apply Kd.V_drew)); exact HO0_3.out) hb); have n1_ := Aside0.mk (blk_below (g := gb216) (o := .cells #[.int .i64 a0_0, .int .i64 a0_1, .int .i64 a0_2, .slice A0_3 l0_3.length c0_3, .int .i64 a0_4, .int .i64 a0_5, .int .i64 a0_6, .int .i64 a0_7, .bool a0_8] 26 (0, 0)) (by (with_reducible repeat (first | refine blk_drewN ?_ _ | refine blk_drew ?_ | refine blk_alloc ?_ _)); exact BK216.out) hb); have n2_ := Aside0.mk (below_step (by repeat (first | (with_reducible first | exact HB.out | apply below_alloc | apply pw_below_drewN | apply below_drew1 | refine below_set ?_ GE216.out) | exact HB.out)) hb); clear HO0_3; clear BK216; clear HB; have HO0_3 := n0_; have BK216 := n1_; have HB := n2_; clear n0_ n1_ n2_; (try clear hb); (try clear hb2); (try clear hk); (try clear hi)))
    (try simp only [Act.put, List.setIfInBounds_toArray, List.set_cons_zero, List.set_cons_succ])
    go_cut [21] (fun v21 wc => ∃ (kq : Nat) (x21_6 : Bool), v21 = .bool x21_6 ∧ Aside0 (grafterlaw19_ConfigRows.j0 kq a1 a2 a3 x21_6 a0_0 a0_1 a0_2 l0_3 a0_4 a0_5 a0_6 a0_7 a0_8 = some r) ∧ Aside0 (kq ≤ k) ∧ Aside0 (Kd.V k35 35 wc w.heap.size (fun k_ => (P0_3_ k_ ∨ w.heap.size ≤ k_) ∧ k_ ≠ gb216) (.slice A0_3 l0_3.length c0_3) l0_3) ∧ Aside0 (wc.heap[gb216]? = some (.cells #[.int .i64 a0_0, .int .i64 a0_1, .int .i64 a0_2, (.slice A0_3 l0_3.length c0_3), .int .i64 a0_4, .int .i64 a0_5, .int .i64 a0_6, .int .i64 a0_7, .bool a0_8] 26 (0, 0))) ∧ Aside0 (Below w.heap.size w wc))
    case first =>
      have H := HC7.out
      clear HC7
      replace H := Option.bind_eq_some_iff.mp H
      obtain ⟨t218, A100, H⟩ := H
      replace H : (if t218 = true then (grafterlaw19_ConfigRows.j0 k a1 a2 a3 ((l0_3.length : Int) == 0) a0_0 a0_1 a0_2 l0_3 a0_4 a0_5 a0_6 a0_7 a0_8) else (grafterlaw19_ConfigRows.j0 k a1 a2 a3 true a0_0 a0_1 a0_2 l0_3 a0_4 a0_5 a0_6 a0_7 a0_8)) = some r := H
      have A10 := Aside0.mk A100
      clear A100
      by_cases c11 : t218 = true
      · subst c11
        have H1 : (grafterlaw19_ConfigRows.j0 k a1 a2 a3 ((l0_3.length : Int) == 0) a0_0 a0_1 a0_2 l0_3 a0_4 a0_5 a0_6 a0_7 a0_8) = some r := by rw [if_pos rfl] at H; exact H
        clear H
        have H := H1
        clear H1
        have H' := Aside0.mk H
        clear H
        have hcz12_0 : w9.cell? ⟨gb216, 0, none⟩ = some (.int .i64 a0_0) := (blk_cell BK216.out 0).trans rfl
        have hcz12_1 : w9.cell? ⟨gb216, 1, none⟩ = some (.int .i64 a0_1) := (blk_cell BK216.out 1).trans rfl
        have hcz12_2 : w9.cell? ⟨gb216, 2, none⟩ = some (.int .i64 a0_2) := (blk_cell BK216.out 2).trans rfl
        have hcz12_3 : w9.cell? ⟨gb216, 3, none⟩ = some (.slice A0_3 l0_3.length c0_3) := (blk_cell BK216.out 3).trans rfl
        have hcz12_4 : w9.cell? ⟨gb216, 4, none⟩ = some (.int .i64 a0_4) := (blk_cell BK216.out 4).trans rfl
        have hcz12_5 : w9.cell? ⟨gb216, 5, none⟩ = some (.int .i64 a0_5) := (blk_cell BK216.out 5).trans rfl
        have hcz12_6 : w9.cell? ⟨gb216, 6, none⟩ = some (.int .i64 a0_6) := (blk_cell BK216.out 6).trans rfl
        have hcz12_7 : w9.cell? ⟨gb216, 7, none⟩ = some (.int .i64 a0_7) := (blk_cell BK216.out 7).trans rfl
        have hcz12_8 : w9.cell? ⟨gb216, 8, none⟩ = some (.bool a0_8) := (blk_cell BK216.out 8).trans rfl
        have hfz12_0 := blk_frozen BK216.out 0
        have hfz12_1 := blk_frozen BK216.out 1
        have hfz12_2 := blk_frozen BK216.out 2
        have hfz12_3 := blk_frozen BK216.out 3
        have hfz12_4 := blk_frozen BK216.out 4
        have hfz12_5 := blk_frozen BK216.out 5
        have hfz12_6 := blk_frozen BK216.out 6
        have hfz12_7 := blk_frozen BK216.out 7
        have hfz12_8 := blk_frozen BK216.out 8
        go_wp2_with (first | ((with_reducible refine gate_callee (f := 17) rfl ?_); refine goesL_ (some 14) rfl rfl Try.func17 (by kernel_rfl) rfl #[.agg #[.int .i64 a0_0, .int .i64 a0_1, .int .i64 a0_2, .slice A0_3 l0_3.length c0_3, .int .i64 a0_4, .int .i64 a0_5, .int .i64 a0_6, .int .i64 a0_7, .bool a0_8]] rfl (by (try simp only [List.map_toArray, List.map_cons, List.map_nil]); first | done | rfl | (simp only [List.length_drop, List.length_take]; rfl)) ?_; (with_reducible refine (config_May.calls k a0_0 a0_1 a0_2 _ _ l0_3 a0_4 a0_5 a0_6 a0_7 a0_8 true _ ?side1 ?side2 A10.out).mono ?_); (case side1 => repeat (first | (with_reducible refine Kd.C_alloc ?_ _) | (with_reducible refine Kd.C_drewN ?_ _) | (with_reducible refine Kd.C_drew ?_) | exact (Kd.V_reads' HO0_3.out).2.2)); (case side2 => exact (Kd.V_reads' HO0_3.out).2.1); rintro e w13 ⟨rfl, hb⟩; refine ⟨_, rfl, ?_⟩; have n0_ := Aside0.mk (Kd.V_below (by (with_reducible repeat (first | apply Kd.V_alloc | apply Kd.V_drewN | apply Kd.V_drew)); exact HO0_3.out) hb); have n1_ := Aside0.mk (blk_below (g := gb216) (o := .cells #[.int .i64 a0_0, .int .i64 a0_1, .int .i64 a0_2, .slice A0_3 l0_3.length c0_3, .int .i64 a0_4, .int .i64 a0_5, .int .i64 a0_6, .int .i64 a0_7, .bool a0_8] 26 (0, 0)) (by (with_reducible repeat (first | refine blk_drewN ?_ _ | refine blk_drew ?_ | refine blk_alloc ?_ _)); exact BK216.out) hb); have n2_ := Aside0.mk (below_step (by repeat (first | (with_reducible first | exact HB.out | apply below_alloc | apply pw_below_drewN | apply below_drew1 | refine below_set ?_ GE216.out) | exact HB.out)) hb); clear HO0_3; clear BK216; clear HB; have HO0_3 := n0_; have BK216 := n1_; have HB := n2_; clear n0_ n1_ n2_; (try clear hb); (try clear hb2); (try clear hk); (try clear hi); have hcz14_0 : w13.cell? ⟨gb216, 0, none⟩ = some (.int .i64 a0_0) := (blk_cell BK216.out 0).trans rfl; have hcz14_1 : w13.cell? ⟨gb216, 1, none⟩ = some (.int .i64 a0_1) := (blk_cell BK216.out 1).trans rfl; have hcz14_2 : w13.cell? ⟨gb216, 2, none⟩ = some (.int .i64 a0_2) := (blk_cell BK216.out 2).trans rfl; have hcz14_3 : w13.cell? ⟨gb216, 3, none⟩ = some (.slice A0_3 l0_3.length c0_3) := (blk_cell BK216.out 3).trans rfl; have hcz14_4 : w13.cell? ⟨gb216, 4, none⟩ = some (.int .i64 a0_4) := (blk_cell BK216.out 4).trans rfl; have hcz14_5 : w13.cell? ⟨gb216, 5, none⟩ = some (.int .i64 a0_5) := (blk_cell BK216.out 5).trans rfl; have hcz14_6 : w13.cell? ⟨gb216, 6, none⟩ = some (.int .i64 a0_6) := (blk_cell BK216.out 6).trans rfl; have hcz14_7 : w13.cell? ⟨gb216, 7, none⟩ = some (.int .i64 a0_7) := (blk_cell BK216.out 7).trans rfl; have hcz14_8 : w13.cell? ⟨gb216, 8, none⟩ = some (.bool a0_8) := (blk_cell BK216.out 8).trans rfl; have hfz14_0 := blk_frozen BK216.out 0; have hfz14_1 := blk_frozen BK216.out 1; have hfz14_2 := blk_frozen BK216.out 2; have hfz14_3 := blk_frozen BK216.out 3; have hfz14_4 := blk_frozen BK216.out 4; have hfz14_5 := blk_frozen BK216.out 5; have hfz14_6 := blk_frozen BK216.out 6; have hfz14_7 := blk_frozen BK216.out 7; have hfz14_8 := blk_frozen BK216.out 8))
        go_meet
        case rel => exact ⟨_, (((l0_3.length : Int) == 0)), (by first | rfl | (simp; done) | (simp [*]; done)), H', ⟨by first | omega | exact Nat.le_refl _⟩, ⟨by (with_reducible repeat (first | apply Kd.V_alloc | apply Kd.V_drewN | apply Kd.V_drew)); exact HO0_3.out⟩, ⟨by (with_reducible repeat (first | refine blk_drewN ?_ _ | refine blk_drew ?_ | refine blk_alloc ?_ _)); exact BK216.out⟩, ⟨by repeat (first | (with_reducible first | exact HB.out | apply below_alloc | apply pw_below_drewN | apply below_drew1 | refine below_set ?_ GE216.out) | exact HB.out)⟩⟩
      · replace c11 := Bool.eq_false_iff.mpr c11
        subst c11
        have H1 : (grafterlaw19_ConfigRows.j0 k a1 a2 a3 true a0_0 a0_1 a0_2 l0_3 a0_4 a0_5 a0_6 a0_7 a0_8) = some r := by rw [if_neg (show ¬ (false = true) by decide)] at H; exact H
        clear H
        have H := H1
        clear H1
        have H' := Aside0.mk H
        clear H
        have hcz15_0 : w9.cell? ⟨gb216, 0, none⟩ = some (.int .i64 a0_0) := (blk_cell BK216.out 0).trans rfl
        have hcz15_1 : w9.cell? ⟨gb216, 1, none⟩ = some (.int .i64 a0_1) := (blk_cell BK216.out 1).trans rfl
        have hcz15_2 : w9.cell? ⟨gb216, 2, none⟩ = some (.int .i64 a0_2) := (blk_cell BK216.out 2).trans rfl
        have hcz15_3 : w9.cell? ⟨gb216, 3, none⟩ = some (.slice A0_3 l0_3.length c0_3) := (blk_cell BK216.out 3).trans rfl
        have hcz15_4 : w9.cell? ⟨gb216, 4, none⟩ = some (.int .i64 a0_4) := (blk_cell BK216.out 4).trans rfl
        have hcz15_5 : w9.cell? ⟨gb216, 5, none⟩ = some (.int .i64 a0_5) := (blk_cell BK216.out 5).trans rfl
        have hcz15_6 : w9.cell? ⟨gb216, 6, none⟩ = some (.int .i64 a0_6) := (blk_cell BK216.out 6).trans rfl
        have hcz15_7 : w9.cell? ⟨gb216, 7, none⟩ = some (.int .i64 a0_7) := (blk_cell BK216.out 7).trans rfl
        have hcz15_8 : w9.cell? ⟨gb216, 8, none⟩ = some (.bool a0_8) := (blk_cell BK216.out 8).trans rfl
        have hfz15_0 := blk_frozen BK216.out 0
        have hfz15_1 := blk_frozen BK216.out 1
        have hfz15_2 := blk_frozen BK216.out 2
        have hfz15_3 := blk_frozen BK216.out 3
        have hfz15_4 := blk_frozen BK216.out 4
        have hfz15_5 := blk_frozen BK216.out 5
        have hfz15_6 := blk_frozen BK216.out 6
        have hfz15_7 := blk_frozen BK216.out 7
        have hfz15_8 := blk_frozen BK216.out 8
        go_wp2_with (first | ((with_reducible refine gate_callee (f := 17) rfl ?_); refine goesL_ (some 14) rfl rfl Try.func17 (by kernel_rfl) rfl #[.agg #[.int .i64 a0_0, .int .i64 a0_1, .int .i64 a0_2, .slice A0_3 l0_3.length c0_3, .int .i64 a0_4, .int .i64 a0_5, .int .i64 a0_6, .int .i64 a0_7, .bool a0_8]] rfl (by (try simp only [List.map_toArray, List.map_cons, List.map_nil]); first | done | rfl | (simp only [List.length_drop, List.length_take]; rfl)) ?_; (with_reducible refine (config_May.calls k a0_0 a0_1 a0_2 _ _ l0_3 a0_4 a0_5 a0_6 a0_7 a0_8 false _ ?side1 ?side2 A10.out).mono ?_); (case side1 => repeat (first | (with_reducible refine Kd.C_alloc ?_ _) | (with_reducible refine Kd.C_drewN ?_ _) | (with_reducible refine Kd.C_drew ?_) | exact (Kd.V_reads' HO0_3.out).2.2)); (case side2 => exact (Kd.V_reads' HO0_3.out).2.1); rintro e w16 ⟨rfl, hb⟩; refine ⟨_, rfl, ?_⟩; have n0_ := Aside0.mk (Kd.V_below (by (with_reducible repeat (first | apply Kd.V_alloc | apply Kd.V_drewN | apply Kd.V_drew)); exact HO0_3.out) hb); have n1_ := Aside0.mk (blk_below (g := gb216) (o := .cells #[.int .i64 a0_0, .int .i64 a0_1, .int .i64 a0_2, .slice A0_3 l0_3.length c0_3, .int .i64 a0_4, .int .i64 a0_5, .int .i64 a0_6, .int .i64 a0_7, .bool a0_8] 26 (0, 0)) (by (with_reducible repeat (first | refine blk_drewN ?_ _ | refine blk_drew ?_ | refine blk_alloc ?_ _)); exact BK216.out) hb); have n2_ := Aside0.mk (below_step (by repeat (first | (with_reducible first | exact HB.out | apply below_alloc | apply pw_below_drewN | apply below_drew1 | refine below_set ?_ GE216.out) | exact HB.out)) hb); clear HO0_3; clear BK216; clear HB; have HO0_3 := n0_; have BK216 := n1_; have HB := n2_; clear n0_ n1_ n2_; (try clear hb); (try clear hb2); (try clear hk); (try clear hi)))
        go_meet
        case rel => exact ⟨_, (true), (by first | rfl | (simp; done) | (simp [*]; done)), H', ⟨by first | omega | exact Nat.le_refl _⟩, ⟨by (with_reducible repeat (first | apply Kd.V_alloc | apply Kd.V_drewN | apply Kd.V_drew)); exact HO0_3.out⟩, ⟨by (with_reducible repeat (first | refine blk_drewN ?_ _ | refine blk_drew ?_ | refine blk_alloc ?_ _)); exact BK216.out⟩, ⟨by repeat (first | (with_reducible first | exact HB.out | apply below_alloc | apply pw_below_drewN | apply below_drew1 | refine below_set ?_ GE216.out) | exact HB.out)⟩⟩
    case rest =>
      clear HC7
      try clear c1
      try clear c2
      try clear p2
      try clear c6
      try clear c11
      try clear hcz12_0
      try clear hcz12_1
      try clear hcz12_2
      try clear hcz12_3
      try clear hcz12_4
      try clear hcz12_5
      try clear hcz12_6
      try clear hcz12_7
      try clear hcz12_8
      try clear hcz14_0
      try clear hcz14_1
      try clear hcz14_2
      try clear hcz14_3
      try clear hcz14_4
      try clear hcz14_5
      try clear hcz14_6
      try clear hcz14_7
      try clear hcz14_8
      try clear hcz15_0
      try clear hcz15_1
      try clear hcz15_2
      try clear hcz15_3
      try clear hcz15_4
      try clear hcz15_5
      try clear hcz15_6
      try clear hcz15_7
      try clear hcz15_8
      try clear hfz12_0
      try clear hfz12_1
      try clear hfz12_2
      try clear hfz12_3
      try clear hfz12_4
      try clear hfz12_5
      try clear hfz12_6
      try clear hfz12_7
      try clear hfz12_8
      try clear hfz14_0
      try clear hfz14_1
      try clear hfz14_2
      try clear hfz14_3
      try clear hfz14_4
      try clear hfz14_5
      try clear hfz14_6
      try clear hfz14_7
      try clear hfz14_8
      try clear hfz15_0
      try clear hfz15_1
      try clear hfz15_2
      try clear hfz15_3
      try clear hfz15_4
      try clear hfz15_5
      try clear hfz15_6
      try clear hfz15_7
      try clear hfz15_8
      obtain ⟨kq, x21_6, rfl, HA, HJ6, HO_217003, BK216, HB⟩ := hcut
      cases kq with
      | zero => exact absurd HA.out (by simp [grafterlaw19_ConfigRows.j0])
      | succ kj6 =>
        have H := HA.out
        clear HA
        simp only [grafterlaw19_ConfigRows.j0] at H
        by_cases c17 : x21_6 = true
        · subst c17
          have H1 : ((grafterref12_ConfigMay.f kj6 a0_0 a0_1 a0_2 l0_3 a0_4 a0_5 a0_6 a0_7 a0_8).bind fun t219 => (some (!t219))) = some r := by rw [if_pos rfl] at H; exact H
          clear H
          have H := H1
          clear H1
          replace H := Option.bind_eq_some_iff.mp H
          obtain ⟨t219, A180, H⟩ := H
          replace H : (some (!t219)) = some r := H
          have A18 := Aside0.mk A180
          clear A180
          obtain rfl := Option.some.inj H
          have hcz19_0 : wc.cell? ⟨gb216, 0, none⟩ = some (.int .i64 a0_0) := (blk_cell BK216.out 0).trans rfl
          have hcz19_1 : wc.cell? ⟨gb216, 1, none⟩ = some (.int .i64 a0_1) := (blk_cell BK216.out 1).trans rfl
          have hcz19_2 : wc.cell? ⟨gb216, 2, none⟩ = some (.int .i64 a0_2) := (blk_cell BK216.out 2).trans rfl
          have hcz19_3 : wc.cell? ⟨gb216, 3, none⟩ = some (.slice A0_3 l0_3.length c0_3) := (blk_cell BK216.out 3).trans rfl
          have hcz19_4 : wc.cell? ⟨gb216, 4, none⟩ = some (.int .i64 a0_4) := (blk_cell BK216.out 4).trans rfl
          have hcz19_5 : wc.cell? ⟨gb216, 5, none⟩ = some (.int .i64 a0_5) := (blk_cell BK216.out 5).trans rfl
          have hcz19_6 : wc.cell? ⟨gb216, 6, none⟩ = some (.int .i64 a0_6) := (blk_cell BK216.out 6).trans rfl
          have hcz19_7 : wc.cell? ⟨gb216, 7, none⟩ = some (.int .i64 a0_7) := (blk_cell BK216.out 7).trans rfl
          have hcz19_8 : wc.cell? ⟨gb216, 8, none⟩ = some (.bool a0_8) := (blk_cell BK216.out 8).trans rfl
          have hfz19_0 := blk_frozen BK216.out 0
          have hfz19_1 := blk_frozen BK216.out 1
          have hfz19_2 := blk_frozen BK216.out 2
          have hfz19_3 := blk_frozen BK216.out 3
          have hfz19_4 := blk_frozen BK216.out 4
          have hfz19_5 := blk_frozen BK216.out 5
          have hfz19_6 := blk_frozen BK216.out 6
          have hfz19_7 := blk_frozen BK216.out 7
          have hfz19_8 := blk_frozen BK216.out 8
          go_wp2_with (first | ((with_reducible refine gate_callee (f := 18) rfl ?_); refine goesL_ (some 23) rfl rfl Try.func18 (by kernel_rfl) rfl #[.agg #[.int .i64 a0_0, .int .i64 a0_1, .int .i64 a0_2, .slice A0_3 l0_3.length c0_3, .int .i64 a0_4, .int .i64 a0_5, .int .i64 a0_6, .int .i64 a0_7, .bool a0_8]] rfl (by (try simp only [List.map_toArray, List.map_cons, List.map_nil]); first | done | rfl | (simp only [List.length_drop, List.length_take]; rfl)) ?_; (with_reducible refine (grafterref12_ConfigMay.calls kj6 a0_0 a0_1 a0_2 _ _ l0_3 a0_4 a0_5 a0_6 a0_7 a0_8 t219 _ ?side1 ?side2 A18.out).mono ?_); (case side1 => repeat (first | (with_reducible refine Kd.C_alloc ?_ _) | (with_reducible refine Kd.C_drewN ?_ _) | (with_reducible refine Kd.C_drew ?_) | exact (Kd.V_reads' HO_217003.out).2.2)); (case side2 => exact (Kd.V_reads' HO_217003.out).2.1); rintro e w20 ⟨rfl, hb⟩; refine ⟨_, rfl, ?_⟩; have n0_ := Aside0.mk (Kd.V_below (by (with_reducible repeat (first | apply Kd.V_alloc | apply Kd.V_drewN | apply Kd.V_drew)); exact HO_217003.out) hb); have n1_ := Aside0.mk (blk_below (g := gb216) (o := .cells #[.int .i64 a0_0, .int .i64 a0_1, .int .i64 a0_2, .slice A0_3 l0_3.length c0_3, .int .i64 a0_4, .int .i64 a0_5, .int .i64 a0_6, .int .i64 a0_7, .bool a0_8] 26 (0, 0)) (by (with_reducible repeat (first | refine blk_drewN ?_ _ | refine blk_drew ?_ | refine blk_alloc ?_ _)); exact BK216.out) hb); have n2_ := Aside0.mk (below_step (by repeat (first | (with_reducible first | exact HB.out | apply below_alloc | apply pw_below_drewN | apply below_drew1 | refine below_set ?_ GE216.out) | exact HB.out)) hb); clear HO_217003; clear BK216; clear HB; have HO_217003 := n0_; have BK216 := n1_; have HB := n2_; clear n0_ n1_ n2_; (try clear hb); (try clear hb2); (try clear hk); (try clear hi)))
          go_ret
          exact ⟨by first | rfl | (simp [errW_none, errW_some] <;> rfl) | (simp [*, errW_none, errW_some] <;> rfl), by repeat (first | (with_reducible first | exact HB.out | apply below_alloc | apply pw_below_drewN | apply below_drew1 | refine below_set ?_ GE216.out) | exact HB.out)⟩
        · replace c17 := Bool.eq_false_iff.mpr c17
          subst c17
          have H1 : ((grafterlaw0_CopyConfig.f kj6 a0_0 a0_1 a0_2 l0_3 a0_4 a0_5 a0_6 a0_7 a0_8).bind fun bt220 => (if (IntKind.u64.wrap ((l0_3.length : Int))) = 0 then (none) else ((some (([] : List (S35)) : List (S35))).bind fun y232 => (if 0 ≤ (wrap64 (Int.tmod (IntKind.u64.wrap (a1)) (IntKind.u64.wrap ((l0_3.length : Int))))) then (if (wrap64 (Int.tmod (IntKind.u64.wrap (a1)) (IntKind.u64.wrap ((l0_3.length : Int))))) ≤ (l0_3.length : Int) then ((some (l0_3.drop ((wrap64 (Int.tmod (IntKind.u64.wrap (a1)) (IntKind.u64.wrap ((l0_3.length : Int))))) : Int).toNat : List (S35))).bind fun y235 => (if y232.length + y235.length < 4398046511104 then ((some (y232 ++ y235 : List (S35))).bind fun y240 => ((some (l0_3.take ((wrap64 (Int.tmod (IntKind.u64.wrap (a1)) (IntKind.u64.wrap ((l0_3.length : Int))))) : Int).toNat : List (S35))).bind fun y243 => (if y240.length + y243.length < 4398046511104 then ((config_May.f kj6 bt220.1 bt220.2.1 bt220.2.2.1 (y240 ++ y243) (Go.bits .and .i64 a2 65535) (wrap64 (1 + (Go.bits .and .i64 a3 31))) (wrap64 (1 + (Go.bits .and .i64 a3 7))) bt220.2.2.2.2.2.2.2.1 (!a0_8)).bind fun t251 => (if t251 = true then ((grafterlaw19_small.f).bind fun bt252 => (some ((bt252.2.2.2.1.length : Int) == 2))) else (some false))) else (none)))) else (none))) else (none)) else (none))))) = some r := by rw [if_neg (show ¬ (false = true) by decide)] at H; exact H
          clear H
          have H := H1
          clear H1
          replace H := Option.bind_eq_some_iff.mp H
          obtain ⟨⟨t220, t221, t222, t223, t226, t227, t228, t229, t230⟩, A210, H⟩ := H
          replace H : (if (IntKind.u64.wrap ((l0_3.length : Int))) = 0 then (none) else ((some (([] : List (S35)) : List (S35))).bind fun y232 => (if 0 ≤ (wrap64 (Int.tmod (IntKind.u64.wrap (a1)) (IntKind.u64.wrap ((l0_3.length : Int))))) then (if (wrap64 (Int.tmod (IntKind.u64.wrap (a1)) (IntKind.u64.wrap ((l0_3.length : Int))))) ≤ (l0_3.length : Int) then ((some (l0_3.drop ((wrap64 (Int.tmod (IntKind.u64.wrap (a1)) (IntKind.u64.wrap ((l0_3.length : Int))))) : Int).toNat : List (S35))).bind fun y235 => (if y232.length + y235.length < 4398046511104 then ((some (y232 ++ y235 : List (S35))).bind fun y240 => ((some (l0_3.take ((wrap64 (Int.tmod (IntKind.u64.wrap (a1)) (IntKind.u64.wrap ((l0_3.length : Int))))) : Int).toNat : List (S35))).bind fun y243 => (if y240.length + y243.length < 4398046511104 then ((config_May.f kj6 t220 t221 t222 (y240 ++ y243) (Go.bits .and .i64 a2 65535) (wrap64 (1 + (Go.bits .and .i64 a3 31))) (wrap64 (1 + (Go.bits .and .i64 a3 7))) t229 (!a0_8)).bind fun t251 => (if t251 = true then ((grafterlaw19_small.f).bind fun bt252 => (some ((bt252.2.2.2.1.length : Int) == 2))) else (some false))) else (none)))) else (none))) else (none)) else (none)))) = some r := H
          have A21 := Aside0.mk A210
          clear A210
          by_cases c22 : (IntKind.u64.wrap ((l0_3.length : Int))) = 0
          · rw [if_pos c22] at H
            exact absurd H (by simp)
          · rw [if_neg c22] at H
            have c22b0 : ((IntKind.u64.wrap ((l0_3.length : Int))) == 0) = false := beq_eq_false_iff_ne.mpr c22
            have c22b1 : ((IntKind.u64.wrap ((l0_3.length : Int))) != 0) = true := bne_iff_ne.mpr c22
            obtain ⟨y232, hy232⟩ : ∃ y_ : List (S35), y_ = (([] : List (S35))) := ⟨_, rfl⟩
            replace H : (if 0 ≤ (wrap64 (Int.tmod (IntKind.u64.wrap (a1)) (IntKind.u64.wrap ((l0_3.length : Int))))) then (if (wrap64 (Int.tmod (IntKind.u64.wrap (a1)) (IntKind.u64.wrap ((l0_3.length : Int))))) ≤ (l0_3.length : Int) then ((some (l0_3.drop ((wrap64 (Int.tmod (IntKind.u64.wrap (a1)) (IntKind.u64.wrap ((l0_3.length : Int))))) : Int).toNat : List (S35))).bind fun y235 => (if y232.length + y235.length < 4398046511104 then ((some (y232 ++ y235 : List (S35))).bind fun y240 => ((some (l0_3.take ((wrap64 (Int.tmod (IntKind.u64.wrap (a1)) (IntKind.u64.wrap ((l0_3.length : Int))))) : Int).toNat : List (S35))).bind fun y243 => (if y240.length + y243.length < 4398046511104 then ((config_May.f kj6 t220 t221 t222 (y240 ++ y243) (Go.bits .and .i64 a2 65535) (wrap64 (1 + (Go.bits .and .i64 a3 31))) (wrap64 (1 + (Go.bits .and .i64 a3 7))) t229 (!a0_8)).bind fun t251 => (if t251 = true then ((grafterlaw19_small.f).bind fun bt252 => (some ((bt252.2.2.2.1.length : Int) == 2))) else (some false))) else (none)))) else (none))) else (none)) else (none)) = some r := by first | (rw [hy232]; with_reducible exact H) | (have H2_ := (Option.bind_some _ _).symm.trans H; rw [hy232]; with_reducible exact H2_) | (have H2_ := (Option.bind_some _ _).symm.trans H; with_reducible exact H2_) | with_reducible exact H | (rw [hy232]; exact H) | exact H
            have Ny232 := Aside0.mk hy232
            clear hy232
            obtain ⟨ji23, hji23⟩ : ∃ j_ : Int, (wrap64 (Int.tmod (IntKind.u64.wrap (a1)) (IntKind.u64.wrap ((l0_3.length : Int))))) = j_ := ⟨_, rfl⟩
            replace H : (if 0 ≤ (ji23) then (if (ji23) ≤ (l0_3.length : Int) then ((some (l0_3.drop ((ji23) : Int).toNat : List (S35))).bind fun y235 => (if y232.length + y235.length < 4398046511104 then ((some (y232 ++ y235 : List (S35))).bind fun y240 => ((some (l0_3.take ((ji23) : Int).toNat : List (S35))).bind fun y243 => (if y240.length + y243.length < 4398046511104 then ((config_May.f kj6 t220 t221 t222 (y240 ++ y243) (Go.bits .and .i64 a2 65535) (wrap64 (1 + (Go.bits .and .i64 a3 31))) (wrap64 (1 + (Go.bits .and .i64 a3 7))) t229 (!a0_8)).bind fun t251 => (if t251 = true then ((grafterlaw19_small.f).bind fun bt252 => (some ((bt252.2.2.2.1.length : Int) == 2))) else (some false))) else (none)))) else (none))) else (none)) else (none)) = some r := by first | (rw [hji23] at H; exact H) | (simp only [hji23] at H ⊢; exact H)
            (try rw [hji23] at A21)
            have hji23w : (IntKind.i64.wrap (Int.tmod (IntKind.u64.wrap (a1)) (IntKind.u64.wrap ((l0_3.length : Int))))) = ji23 := (i64_w _).trans hji23
            by_cases c24 : 0 ≤ (ji23)
            · rw [if_pos c24] at H
              have c24b0 := eq_true c24
              have c24b1 : decide (0 ≤ (ji23)) = true := decide_eq_true c24
              clear c24
              by_cases c25 : (ji23) ≤ (l0_3.length : Int)
              · rw [if_pos c25] at H
                have c25b0 := eq_true c25
                have c25b1 : decide ((ji23) ≤ (l0_3.length : Int)) = true := decide_eq_true c25
                clear c25
                obtain ⟨y235, hy235⟩ : ∃ y_ : List (S35), y_ = (l0_3.drop ((ji23) : Int).toNat) := ⟨_, rfl⟩
                replace H : (if y232.length + y235.length < 4398046511104 then ((some (y232 ++ y235 : List (S35))).bind fun y240 => ((some (l0_3.take ((ji23) : Int).toNat : List (S35))).bind fun y243 => (if y240.length + y243.length < 4398046511104 then ((config_May.f kj6 t220 t221 t222 (y240 ++ y243) (Go.bits .and .i64 a2 65535) (wrap64 (1 + (Go.bits .and .i64 a3 31))) (wrap64 (1 + (Go.bits .and .i64 a3 7))) t229 (!a0_8)).bind fun t251 => (if t251 = true then ((grafterlaw19_small.f).bind fun bt252 => (some ((bt252.2.2.2.1.length : Int) == 2))) else (some false))) else (none)))) else (none)) = some r := by first | (rw [hy235]; with_reducible exact H) | (have H2_ := (Option.bind_some _ _).symm.trans H; rw [hy235]; with_reducible exact H2_) | (have H2_ := (Option.bind_some _ _).symm.trans H; with_reducible exact H2_) | with_reducible exact H | (rw [hy235]; exact H) | exact H
                have Ny235 := Aside0.mk hy235
                clear hy235
                by_cases c26 : y232.length + y235.length < 4398046511104
                · rw [if_pos c26] at H
                  have LMc26 := Aside0.mk c26
                  clear c26
                  obtain ⟨y240, hy240⟩ : ∃ y_ : List (S35), y_ = (y232 ++ y235) := ⟨_, rfl⟩
                  replace H : ((some (l0_3.take ((ji23) : Int).toNat : List (S35))).bind fun y243 => (if y240.length + y243.length < 4398046511104 then ((config_May.f kj6 t220 t221 t222 (y240 ++ y243) (Go.bits .and .i64 a2 65535) (wrap64 (1 + (Go.bits .and .i64 a3 31))) (wrap64 (1 + (Go.bits .and .i64 a3 7))) t229 (!a0_8)).bind fun t251 => (if t251 = true then ((grafterlaw19_small.f).bind fun bt252 => (some ((bt252.2.2.2.1.length : Int) == 2))) else (some false))) else (none))) = some r := by first | (rw [hy240]; with_reducible exact H) | (have H2_ := (Option.bind_some _ _).symm.trans H; rw [hy240]; with_reducible exact H2_) | (have H2_ := (Option.bind_some _ _).symm.trans H; with_reducible exact H2_) | with_reducible exact H | (rw [hy240]; exact H) | exact H
                  have Ny240 := Aside0.mk hy240
                  clear hy240
                  have c27b0 := eq_true (of_decide_eq_true (by first | (with_reducible assumption) | assumption) : 0 ≤ (ji23))
                  have c28b0 := eq_true (of_decide_eq_true (by first | (with_reducible assumption) | assumption) : (ji23) ≤ (l0_3.length : Int))
                  obtain ⟨y243, hy243⟩ : ∃ y_ : List (S35), y_ = (l0_3.take ((ji23) : Int).toNat) := ⟨_, rfl⟩
                  replace H : (if y240.length + y243.length < 4398046511104 then ((config_May.f kj6 t220 t221 t222 (y240 ++ y243) (Go.bits .and .i64 a2 65535) (wrap64 (1 + (Go.bits .and .i64 a3 31))) (wrap64 (1 + (Go.bits .and .i64 a3 7))) t229 (!a0_8)).bind fun t251 => (if t251 = true then ((grafterlaw19_small.f).bind fun bt252 => (some ((bt252.2.2.2.1.length : Int) == 2))) else (some false))) else (none)) = some r := by first | (rw [hy243]; with_reducible exact H) | (have H2_ := (Option.bind_some _ _).symm.trans H; rw [hy243]; with_reducible exact H2_) | (have H2_ := (Option.bind_some _ _).symm.trans H; with_reducible exact H2_) | with_reducible exact H | (rw [hy243]; exact H) | exact H
                  have Ny243 := Aside0.mk hy243
                  clear hy243
                  by_cases c29 : y240.length + y243.length < 4398046511104
                  · rw [if_pos c29] at H
                    have LMc29 := Aside0.mk c29
                    clear c29
                    obtain ⟨y248, hy248⟩ : ∃ y_ : List (S35), y_ = (y240 ++ y243) := ⟨_, rfl⟩
                    replace H : ((config_May.f kj6 t220 t221 t222 y248 (Go.bits .and .i64 a2 65535) (wrap64 (1 + (Go.bits .and .i64 a3 31))) (wrap64 (1 + (Go.bits .and .i64 a3 7))) t229 (!a0_8)).bind fun t251 => (if t251 = true then ((grafterlaw19_small.f).bind fun bt252 => (some ((bt252.2.2.2.1.length : Int) == 2))) else (some false))) = some r := by first | (rw [hy248]; with_reducible exact H) | (have H2_ := (Option.bind_some _ _).symm.trans H; rw [hy248]; with_reducible exact H2_) | (have H2_ := (Option.bind_some _ _).symm.trans H; with_reducible exact H2_) | with_reducible exact H | (rw [hy248]; exact H) | exact H
                    have Ny248 := Aside0.mk hy248
                    clear hy248
                    replace H := Option.bind_eq_some_iff.mp H
                    obtain ⟨t251, A300, H⟩ := H
                    replace H : (if t251 = true then ((grafterlaw19_small.f).bind fun bt252 => (some ((bt252.2.2.2.1.length : Int) == 2))) else (some false)) = some r := H
                    have A30 := Aside0.mk A300
                    clear A300
                    by_cases c31 : t251 = true
                    · subst c31
                      have H1 : ((grafterlaw19_small.f).bind fun bt252 => (some ((bt252.2.2.2.1.length : Int) == 2))) = some r := by rw [if_pos rfl] at H; exact H
                      clear H
                      have H := H1
                      clear H1
                      replace H := Option.bind_eq_some_iff.mp H
                      obtain ⟨⟨t252, t253, t254, t255, t258, t259, t260, t261, t262⟩, A320, H⟩ := H
                      replace H : (some ((t255.length : Int) == 2)) = some r := H
                      have A32 := Aside0.mk A320
                      clear A320
                      obtain rfl := Option.some.inj H
                      have hcz33_0 : wc.cell? ⟨gb216, 0, none⟩ = some (.int .i64 a0_0) := (blk_cell BK216.out 0).trans rfl
                      have hcz33_1 : wc.cell? ⟨gb216, 1, none⟩ = some (.int .i64 a0_1) := (blk_cell BK216.out 1).trans rfl
                      have hcz33_2 : wc.cell? ⟨gb216, 2, none⟩ = some (.int .i64 a0_2) := (blk_cell BK216.out 2).trans rfl
                      have hcz33_3 : wc.cell? ⟨gb216, 3, none⟩ = some (.slice A0_3 l0_3.length c0_3) := (blk_cell BK216.out 3).trans rfl
                      have hcz33_4 : wc.cell? ⟨gb216, 4, none⟩ = some (.int .i64 a0_4) := (blk_cell BK216.out 4).trans rfl
                      have hcz33_5 : wc.cell? ⟨gb216, 5, none⟩ = some (.int .i64 a0_5) := (blk_cell BK216.out 5).trans rfl
                      have hcz33_6 : wc.cell? ⟨gb216, 6, none⟩ = some (.int .i64 a0_6) := (blk_cell BK216.out 6).trans rfl
                      have hcz33_7 : wc.cell? ⟨gb216, 7, none⟩ = some (.int .i64 a0_7) := (blk_cell BK216.out 7).trans rfl
                      have hcz33_8 : wc.cell? ⟨gb216, 8, none⟩ = some (.bool a0_8) := (blk_cell BK216.out 8).trans rfl
                      have hfz33_0 := blk_frozen BK216.out 0
                      have hfz33_1 := blk_frozen BK216.out 1
                      have hfz33_2 := blk_frozen BK216.out 2
                      have hfz33_3 := blk_frozen BK216.out 3
                      have hfz33_4 := blk_frozen BK216.out 4
                      have hfz33_5 := blk_frozen BK216.out 5
                      have hfz33_6 := blk_frozen BK216.out 6
                      have hfz33_7 := blk_frozen BK216.out 7
                      have hfz33_8 := blk_frozen BK216.out 8
                      try go_wp2_with (first | ((with_reducible refine gate_callee (f := 16) rfl ?_); refine goesL_ (some 26) rfl rfl Try.func16 (by kernel_rfl) rfl #[.agg #[.int .i64 a0_0, .int .i64 a0_1, .int .i64 a0_2, .slice A0_3 l0_3.length c0_3, .int .i64 a0_4, .int .i64 a0_5, .int .i64 a0_6, .int .i64 a0_7, .bool a0_8]] rfl (by (try simp only [List.map_toArray, List.map_cons, List.map_nil]); first | done | rfl | (simp only [List.length_drop, List.length_take]; rfl)) ?_; (with_reducible refine (grafterlaw0_CopyConfig.calls kj6 a0_0 a0_1 a0_2 _ _ l0_3 a0_4 a0_5 a0_6 a0_7 a0_8 t220 t221 t222 t223 t226 t227 t228 t229 t230 _ ?side1 ?side2 A21.out).mono ?_); (case side1 => repeat (first | (with_reducible refine Kd.C_alloc ?_ _) | (with_reducible refine Kd.C_drewN ?_ _) | (with_reducible refine Kd.C_drew ?_) | exact (Kd.V_reads' HO_217003.out).2.2)); (case side2 => exact (Kd.V_reads' HO_217003.out).2.1); rintro e w34 ⟨v224, rfl, ho0, hb⟩; refine ⟨_, rfl, ?_⟩; have n0_ := Aside0.mk (Kd.V_elder' (by (with_reducible repeat (first | apply Kd.V_alloc | apply Kd.V_drewN | apply Kd.V_drew)); exact HO_217003.out) (Kd.R_base (Kd.S_R ho0)) hb); have n1_ := Aside0.mk (Kd.N_lower (Kd.N_mono (ok' := fun k_ => (P0_3_ k_ ∨ w.heap.size ≤ k_) ∧ k_ ≠ gb216) (Kd.S_N (Kd.S_bound ho0)) (fun k_ hk_ => ⟨(.inr (Nat.le_trans (below_size (by repeat (first | (with_reducible first | exact HB.out | apply below_alloc | apply pw_below_drewN | apply below_drew1 | refine below_set ?_ GE216.out) | exact HB.out))) hk_.2.1)), (Kd.freshB (g := gb216) (o := .cells #[.int .i64 a0_0, .int .i64 a0_1, .int .i64 a0_2, .slice A0_3 l0_3.length c0_3, .int .i64 a0_4, .int .i64 a0_5, .int .i64 a0_6, .int .i64 a0_7, .bool a0_8] 26 (0, 0)) (by (with_reducible repeat (first | refine blk_drewN ?_ _ | refine blk_drew ?_ | refine blk_alloc ?_ _)); exact BK216.out) k_ hk_.2.1)⟩)) (below_size (by repeat (first | (with_reducible first | exact HB.out | apply below_alloc | apply pw_below_drewN | apply below_drew1 | refine below_set ?_ GE216.out) | exact HB.out)))); have n2_ := Aside0.mk (blk_below (g := gb216) (o := .cells #[.int .i64 a0_0, .int .i64 a0_1, .int .i64 a0_2, .slice A0_3 l0_3.length c0_3, .int .i64 a0_4, .int .i64 a0_5, .int .i64 a0_6, .int .i64 a0_7, .bool a0_8] 26 (0, 0)) (by (with_reducible repeat (first | refine blk_drewN ?_ _ | refine blk_drew ?_ | refine blk_alloc ?_ _)); exact BK216.out) hb); have n3_ := Aside0.mk (below_step (by repeat (first | (with_reducible first | exact HB.out | apply below_alloc | apply pw_below_drewN | apply below_drew1 | refine below_set ?_ GE216.out) | exact HB.out)) hb); clear HO_217003; clear BK216; clear HB; have HO_217003 := n0_; have HO225 := n1_; have BK216 := n2_; have HB := n3_; clear n0_ n1_ n2_ n3_; (try clear hb); (try clear hb2); (try clear hk); (try clear hi); (try clear ho0)) | ((with_reducible refine gate_dst (N := 9) rfl ?_); (try (refine gate_guard (by rfl) ?_; dsimp only)); refine box_event ?hg (N := 9) ?hd (cs := #[.int .i64 0, .int .i64 0, .int .i64 0, .slice none 0 0, .int .i64 0, .int .i64 0, .int .i64 0, .int .i64 0, .bool false]) (t := 26) ?hr ?_; (case hd => rfl); (case hg => rfl); (case hr => first | (go_simp; done) | (go_simp; rfl)); intro gb231 hg w35 hbox hb; have n0_ := Aside0.mk (Kd.V_below (Kd.V_elderB (by (with_reducible repeat (first | apply Kd.V_alloc | apply Kd.V_drewN | apply Kd.V_drew)); exact HO_217003.out) gb231 (Nat.le_of_eq hg.symm)) hb); have n1_ := Aside0.mk (Kd.N_below (Kd.N_elderB (by (with_reducible repeat (first | apply Kd.N_alloc | apply Kd.N_drewN | apply Kd.N_drew)); exact HO225.out) gb231 (Nat.le_of_eq hg.symm)) hb); have n2_ := Aside0.mk (blk_below (g := gb216) (o := .cells #[.int .i64 a0_0, .int .i64 a0_1, .int .i64 a0_2, .slice A0_3 l0_3.length c0_3, .int .i64 a0_4, .int .i64 a0_5, .int .i64 a0_6, .int .i64 a0_7, .bool a0_8] 26 (0, 0)) (by (with_reducible repeat (first | refine blk_drewN ?_ _ | refine blk_drew ?_ | refine blk_alloc ?_ _)); exact BK216.out) hb); have n3_ := Aside0.mk (below_step (by repeat (first | (with_reducible first | exact HB.out | apply below_alloc | apply pw_below_drewN | apply below_drew1 | refine below_set ?_ GE216.out) | exact HB.out)) hb); have n4_ := Aside0.mk (hbox); have n5_ := Aside0.mk ((by rw [hg]; exact (below_size (by repeat (first | (with_reducible first | exact HB.out | apply below_alloc | apply pw_below_drewN | apply below_drew1 | refine below_set ?_ GE216.out) | exact HB.out))) : w.heap.size ≤ gb231)); have n6_ := Aside0.mk ((by rw [hg]; exact (below_size (by repeat (first | (with_reducible first | exact HB.out | apply below_alloc | apply pw_below_drewN | apply below_drew1 | refine below_set ?_ GE216.out) | exact HB.out))) : w.heap.size ≤ gb231)); have n7_ := Aside0.mk ((by rw [hg]; exact Nat.ne_of_lt (blk_lt (g := gb216) (o := .cells #[.int .i64 a0_0, .int .i64 a0_1, .int .i64 a0_2, .slice A0_3 l0_3.length c0_3, .int .i64 a0_4, .int .i64 a0_5, .int .i64 a0_6, .int .i64 a0_7, .bool a0_8] 26 (0, 0)) (by (with_reducible repeat (first | refine blk_drewN ?_ _ | refine blk_drew ?_ | refine blk_alloc ?_ _)); exact BK216.out)) : gb216 ≠ gb231)); have n8_ := Aside0.mk ((by rw [hg]; exact Nat.ne_of_gt (blk_lt (g := gb216) (o := .cells #[.int .i64 a0_0, .int .i64 a0_1, .int .i64 a0_2, .slice A0_3 l0_3.length c0_3, .int .i64 a0_4, .int .i64 a0_5, .int .i64 a0_6, .int .i64 a0_7, .bool a0_8] 26 (0, 0)) (by (with_reducible repeat (first | refine blk_drewN ?_ _ | refine blk_drew ?_ | refine blk_alloc ?_ _)); exact BK216.out)) : gb231 ≠ gb216)); clear HO_217003; clear HO225; clear BK216; clear HB; have HO_217003 := n0_; have HO225 := n1_; have BK216 := n2_; have HB := n3_; have BK231 := n4_; have GW231 := n5_; have GE231 := n6_; have NB216_231 := n7_; have NB231_216 := n8_; clear n0_ n1_ n2_ n3_ n4_ n5_ n6_ n7_ n8_; clear hb hbox hg; have hnb36 := NB231_216.out; have hnc36 := NB216_231.out; have hcz37_0 : w35.cell? ⟨gb231, 0, none⟩ = some (.int .i64 0) := (blk_cell BK231.out 0).trans rfl; have hcz37_1 : w35.cell? ⟨gb231, 1, none⟩ = some (.int .i64 0) := (blk_cell BK231.out 1).trans rfl; have hcz37_2 : w35.cell? ⟨gb231, 2, none⟩ = some (.int .i64 0) := (blk_cell BK231.out 2).trans rfl; have hcz37_3 : w35.cell? ⟨gb231, 3, none⟩ = some (.slice none 0 0) := (blk_cell BK231.out 3).trans rfl; have hcz37_4 : w35.cell? ⟨gb231, 4, none⟩ = some (.int .i64 0) := (blk_cell BK231.out 4).trans rfl; have hcz37_5 : w35.cell? ⟨gb231, 5, none⟩ = some (.int .i64 0) := (blk_cell BK231.out 5).trans rfl; have hcz37_6 : w35.cell? ⟨gb231, 6, none⟩ = some (.int .i64 0) := (blk_cell BK231.out 6).trans rfl; have hcz37_7 : w35.cell? ⟨gb231, 7, none⟩ = some (.int .i64 0) := (blk_cell BK231.out 7).trans rfl; have hcz37_8 : w35.cell? ⟨gb231, 8, none⟩ = some (.bool false) := (blk_cell BK231.out 8).trans rfl; have hfz37_0 := blk_frozen BK231.out 0; have hfz37_1 := blk_frozen BK231.out 1; have hfz37_2 := blk_frozen BK231.out 2; have hfz37_3 := blk_frozen BK231.out 3; have hfz37_4 := blk_frozen BK231.out 4; have hfz37_5 := blk_frozen BK231.out 5; have hfz37_6 := blk_frozen BK231.out 6; have hfz37_7 := blk_frozen BK231.out 7; have hfz37_8 := blk_frozen BK231.out 8; obtain ⟨Ao38, co38, eo38⟩ := Kd.N_slice HO225.out; subst eo38; have hcz39_0 : w35.cell? ⟨gb216, 0, none⟩ = some (.int .i64 a0_0) := (blk_cell BK216.out 0).trans rfl; have hcz39_1 : w35.cell? ⟨gb216, 1, none⟩ = some (.int .i64 a0_1) := (blk_cell BK216.out 1).trans rfl; have hcz39_2 : w35.cell? ⟨gb216, 2, none⟩ = some (.int .i64 a0_2) := (blk_cell BK216.out 2).trans rfl; have hcz39_3 : w35.cell? ⟨gb216, 3, none⟩ = some (.slice A0_3 l0_3.length c0_3) := (blk_cell BK216.out 3).trans rfl; have hcz39_4 : w35.cell? ⟨gb216, 4, none⟩ = some (.int .i64 a0_4) := (blk_cell BK216.out 4).trans rfl; have hcz39_5 : w35.cell? ⟨gb216, 5, none⟩ = some (.int .i64 a0_5) := (blk_cell BK216.out 5).trans rfl; have hcz39_6 : w35.cell? ⟨gb216, 6, none⟩ = some (.int .i64 a0_6) := (blk_cell BK216.out 6).trans rfl; have hcz39_7 : w35.cell? ⟨gb216, 7, none⟩ = some (.int .i64 a0_7) := (blk_cell BK216.out 7).trans rfl; have hcz39_8 : w35.cell? ⟨gb216, 8, none⟩ = some (.bool a0_8) := (blk_cell BK216.out 8).trans rfl; have hfz39_0 := blk_frozen BK216.out 0; have hfz39_1 := blk_frozen BK216.out 1; have hfz39_2 := blk_frozen BK216.out 2; have hfz39_3 := blk_frozen BK216.out 3; have hfz39_4 := blk_frozen BK216.out 4; have hfz39_5 := blk_frozen BK216.out 5; have hfz39_6 := blk_frozen BK216.out 6; have hfz39_7 := blk_frozen BK216.out 7; have hfz39_8 := blk_frozen BK216.out 8) | ((with_reducible refine gate_dst (N := 35) rfl ?_); (try (refine gate_guard (by rfl) ?_; dsimp only)); refine Kd.N_lit k35 _ 35 ?hg (N' := 35) ?hd (xs := ([] : List (S35))) (inner := []) (ok := (fun k_ => (P0_3_ k_ ∨ w.heap.size ≤ k_) ∧ some k_ ≠ (.slice Ao38 t223.length co38 : Value).ownBlock ∧ k_ ≠ gb216 ∧ k_ ≠ gb231)) (okp := (fun k_ => (P0_3_ k_ ∨ w.heap.size ≤ k_) ∧ some k_ ≠ (.slice Ao38 t223.length co38 : Value).ownBlock ∧ k_ ≠ gb216 ∧ k_ ≠ gb231)) ?hr ?hp (fun _ hk => hk) ((show ∀ k_, w35.heap.size ≤ k_ → (fun k_ => (P0_3_ k_ ∨ w.heap.size ≤ k_) ∧ some k_ ≠ (.slice Ao38 t223.length co38 : Value).ownBlock ∧ k_ ≠ gb216 ∧ k_ ≠ gb231) k_ from fun k_ hk => ⟨(.inr (Nat.le_trans (below_size HB.out) hk)), Kd.fresh' (Kd.N_lt HO225.out) k_ hk, Kd.freshB BK216.out k_ hk, Kd.freshB BK231.out k_ hk⟩) _ (by first | exact Nat.le_of_eq (by simp) | (simp; done) | simp [World.setCell])) (Below.refl _ _) (Nat.le_refl _) (by simp) ?_; (case hd => rfl); (case hg => rfl); (case hr => first | (go_simp; done) | (go_simp; rfl)); (case hp => exact (Reps.none _ _)); intro v233 w40 ho41 hb hg_ hnew_; clear hg_ hnew_; (first | rw [← Ny232.out] at ho41 | (simp only [Int.reduceToNat] at ho41; rw [← Ny232.out] at ho41)); have n0_ := Aside0.mk (Kd.V_elder' (by (with_reducible repeat (first | apply Kd.V_alloc | apply Kd.V_drewN | apply Kd.V_drew)); exact (Kd.V_mono (Kd.V_far (p := ⟨gb231, 8, none⟩) (Kd.V_far (p := ⟨gb231, 7, none⟩) (Kd.V_far (p := ⟨gb231, 6, none⟩) (Kd.V_far (p := ⟨gb231, 5, none⟩) (Kd.V_far (p := ⟨gb231, 4, none⟩) (Kd.V_far (p := ⟨gb231, 3, none⟩) (Kd.V_far (p := ⟨gb231, 2, none⟩) (Kd.V_far (p := ⟨gb231, 1, none⟩) (Kd.V_far (p := ⟨gb231, 0, none⟩) (Kd.V_mono HO_217003.out (fun k_ hk => (⟨hk, hk.2⟩ : _ ∧ k_ ≠ gb231))) (fun _ hk => hk.2) (.int .i64 t220)) (fun _ hk => hk.2) (.int .i64 t221)) (fun _ hk => hk.2) (.int .i64 t222)) (fun _ hk => hk.2) (.slice Ao38 t223.length co38)) (fun _ hk => hk.2) (.int .i64 t226)) (fun _ hk => hk.2) (.int .i64 t227)) (fun _ hk => hk.2) (.int .i64 t228)) (fun _ hk => hk.2) (.int .i64 t229)) (fun _ hk => hk.2) (.bool t230)) (fun _ h_ => h_.1))) (Kd.N_base ho41) hb); have n1_ := Aside0.mk (Kd.N_elder' (by (with_reducible repeat (first | apply Kd.N_alloc | apply Kd.N_drewN | apply Kd.N_drew)); exact (Kd.N_mono (Kd.N_far (p := ⟨gb231, 8, none⟩) (Kd.N_far (p := ⟨gb231, 7, none⟩) (Kd.N_far (p := ⟨gb231, 6, none⟩) (Kd.N_far (p := ⟨gb231, 5, none⟩) (Kd.N_far (p := ⟨gb231, 4, none⟩) (Kd.N_far (p := ⟨gb231, 3, none⟩) (Kd.N_far (p := ⟨gb231, 2, none⟩) (Kd.N_far (p := ⟨gb231, 1, none⟩) (Kd.N_far (p := ⟨gb231, 0, none⟩) (Kd.N_mono HO225.out (fun k_ hk => (⟨hk, hk.2⟩ : _ ∧ k_ ≠ gb231))) (fun _ hk => hk.2) (.int .i64 t220)) (fun _ hk => hk.2) (.int .i64 t221)) (fun _ hk => hk.2) (.int .i64 t222)) (fun _ hk => hk.2) (.slice Ao38 t223.length co38)) (fun _ hk => hk.2) (.int .i64 t226)) (fun _ hk => hk.2) (.int .i64 t227)) (fun _ hk => hk.2) (.int .i64 t228)) (fun _ hk => hk.2) (.int .i64 t229)) (fun _ hk => hk.2) (.bool t230)) (fun _ h_ => h_.1))) (Kd.N_base ho41) hb); have n2_ := Aside0.mk (Kd.N_lower ho41 (below_size (by repeat (first | (with_reducible first | exact HB.out | apply below_alloc | apply pw_below_drewN | apply below_drew1 | refine below_set ?_ GE216.out | refine below_set ?_ GE231.out) | exact HB.out)))); have n3_ := Aside0.mk (blk_below (g := gb216) (o := .cells #[.int .i64 a0_0, .int .i64 a0_1, .int .i64 a0_2, .slice A0_3 l0_3.length c0_3, .int .i64 a0_4, .int .i64 a0_5, .int .i64 a0_6, .int .i64 a0_7, .bool a0_8] 26 (0, 0)) (by (with_reducible repeat (first | refine blk_drewN ?_ _ | refine blk_drew ?_ | refine blk_alloc ?_ _)); refine blk_far ?_ NB216_231.out _; (with_reducible repeat (first | refine blk_drewN ?_ _ | refine blk_drew ?_ | refine blk_alloc ?_ _)); refine blk_far ?_ NB216_231.out _; (with_reducible repeat (first | refine blk_drewN ?_ _ | refine blk_drew ?_ | refine blk_alloc ?_ _)); refine blk_far ?_ NB216_231.out _; (with_reducible repeat (first | refine blk_drewN ?_ _ | refine blk_drew ?_ | refine blk_alloc ?_ _)); refine blk_far ?_ NB216_231.out _; (with_reducible repeat (first | refine blk_drewN ?_ _ | refine blk_drew ?_ | refine blk_alloc ?_ _)); refine blk_far ?_ NB216_231.out _; (with_reducible repeat (first | refine blk_drewN ?_ _ | refine blk_drew ?_ | refine blk_alloc ?_ _)); refine blk_far ?_ NB216_231.out _; (with_reducible repeat (first | refine blk_drewN ?_ _ | refine blk_drew ?_ | refine blk_alloc ?_ _)); refine blk_far ?_ NB216_231.out _; (with_reducible repeat (first | refine blk_drewN ?_ _ | refine blk_drew ?_ | refine blk_alloc ?_ _)); refine blk_far ?_ NB216_231.out _; (with_reducible repeat (first | refine blk_drewN ?_ _ | refine blk_drew ?_ | refine blk_alloc ?_ _)); refine blk_far ?_ NB216_231.out _; (with_reducible repeat (first | refine blk_drewN ?_ _ | refine blk_drew ?_ | refine blk_alloc ?_ _)); exact BK216.out) hb); have n4_ := Aside0.mk (blk_below (g := gb231) (o := .cells #[.int .i64 t220, .int .i64 t221, .int .i64 t222, .slice Ao38 t223.length co38, .int .i64 t226, .int .i64 t227, .int .i64 t228, .int .i64 t229, .bool t230] 26 (0, 0)) (by (with_reducible repeat (first | refine blk_drewN ?_ _ | refine blk_drew ?_ | refine blk_alloc ?_ _)); refine blk_put (cs := #[.int .i64 t220, .int .i64 t221, .int .i64 t222, .slice Ao38 t223.length co38, .int .i64 t226, .int .i64 t227, .int .i64 t228, .int .i64 t229, .bool false]) ?_ 8 _ rfl; (with_reducible repeat (first | refine blk_drewN ?_ _ | refine blk_drew ?_ | refine blk_alloc ?_ _)); refine blk_put (cs := #[.int .i64 t220, .int .i64 t221, .int .i64 t222, .slice Ao38 t223.length co38, .int .i64 t226, .int .i64 t227, .int .i64 t228, .int .i64 0, .bool false]) ?_ 7 _ rfl; (with_reducible repeat (first | refine blk_drewN ?_ _ | refine blk_drew ?_ | refine blk_alloc ?_ _)); refine blk_put (cs := #[.int .i64 t220, .int .i64 t221, .int .i64 t222, .slice Ao38 t223.length co38, .int .i64 t226, .int .i64 t227, .int .i64 0, .int .i64 0, .bool false]) ?_ 6 _ rfl; (with_reducible repeat (first | refine blk_drewN ?_ _ | refine blk_drew ?_ | refine blk_alloc ?_ _)); refine blk_put (cs := #[.int .i64 t220, .int .i64 t221, .int .i64 t222, .slice Ao38 t223.length co38, .int .i64 t226, .int .i64 0, .int .i64 0, .int .i64 0, .bool false]) ?_ 5 _ rfl; (with_reducible repeat (first | refine blk_drewN ?_ _ | refine blk_drew ?_ | refine blk_alloc ?_ _)); refine blk_put (cs := #[.int .i64 t220, .int .i64 t221, .int .i64 t222, .slice Ao38 t223.length co38, .int .i64 0, .int .i64 0, .int .i64 0, .int .i64 0, .bool false]) ?_ 4 _ rfl; (with_reducible repeat (first | refine blk_drewN ?_ _ | refine blk_drew ?_ | refine blk_alloc ?_ _)); refine blk_put (cs := #[.int .i64 t220, .int .i64 t221, .int .i64 t222, .slice none 0 0, .int .i64 0, .int .i64 0, .int .i64 0, .int .i64 0, .bool false]) ?_ 3 _ rfl; (with_reducible repeat (first | refine blk_drewN ?_ _ | refine blk_drew ?_ | refine blk_alloc ?_ _)); refine blk_put (cs := #[.int .i64 t220, .int .i64 t221, .int .i64 0, .slice none 0 0, .int .i64 0, .int .i64 0, .int .i64 0, .int .i64 0, .bool false]) ?_ 2 _ rfl; (with_reducible repeat (first | refine blk_drewN ?_ _ | refine blk_drew ?_ | refine blk_alloc ?_ _)); refine blk_put (cs := #[.int .i64 t220, .int .i64 0, .int .i64 0, .slice none 0 0, .int .i64 0, .int .i64 0, .int .i64 0, .int .i64 0, .bool false]) ?_ 1 _ rfl; (with_reducible repeat (first | refine blk_drewN ?_ _ | refine blk_drew ?_ | refine blk_alloc ?_ _)); refine blk_put (cs := #[.int .i64 0, .int .i64 0, .int .i64 0, .slice none 0 0, .int .i64 0, .int .i64 0, .int .i64 0, .int .i64 0, .bool false]) ?_ 0 _ rfl; (with_reducible repeat (first | refine blk_drewN ?_ _ | refine blk_drew ?_ | refine blk_alloc ?_ _)); exact BK231.out) hb); have n5_ := Aside0.mk (below_step (by repeat (first | (with_reducible first | exact HB.out | apply below_alloc | apply pw_below_drewN | apply below_drew1 | refine below_set ?_ GE216.out | refine below_set ?_ GE231.out) | exact HB.out)) hb); clear HO_217003; clear HO225; clear BK216; clear BK231; clear HB; have HO_217003 := n0_; have HO225 := n1_; have HO234 := n2_; have BK216 := n3_; have BK231 := n4_; have HB := n5_; clear n0_ n1_ n2_ n3_ n4_ n5_; clear hb ho41; have hcz42_0 : w40.cell? ⟨gb216, 0, none⟩ = some (.int .i64 a0_0) := (blk_cell BK216.out 0).trans rfl; have hcz42_1 : w40.cell? ⟨gb216, 1, none⟩ = some (.int .i64 a0_1) := (blk_cell BK216.out 1).trans rfl; have hcz42_2 : w40.cell? ⟨gb216, 2, none⟩ = some (.int .i64 a0_2) := (blk_cell BK216.out 2).trans rfl; have hcz42_3 : w40.cell? ⟨gb216, 3, none⟩ = some (.slice A0_3 l0_3.length c0_3) := (blk_cell BK216.out 3).trans rfl; have hcz42_4 : w40.cell? ⟨gb216, 4, none⟩ = some (.int .i64 a0_4) := (blk_cell BK216.out 4).trans rfl; have hcz42_5 : w40.cell? ⟨gb216, 5, none⟩ = some (.int .i64 a0_5) := (blk_cell BK216.out 5).trans rfl; have hcz42_6 : w40.cell? ⟨gb216, 6, none⟩ = some (.int .i64 a0_6) := (blk_cell BK216.out 6).trans rfl; have hcz42_7 : w40.cell? ⟨gb216, 7, none⟩ = some (.int .i64 a0_7) := (blk_cell BK216.out 7).trans rfl; have hcz42_8 : w40.cell? ⟨gb216, 8, none⟩ = some (.bool a0_8) := (blk_cell BK216.out 8).trans rfl; have hfz42_0 := blk_frozen BK216.out 0; have hfz42_1 := blk_frozen BK216.out 1; have hfz42_2 := blk_frozen BK216.out 2; have hfz42_3 := blk_frozen BK216.out 3; have hfz42_4 := blk_frozen BK216.out 4; have hfz42_5 := blk_frozen BK216.out 5; have hfz42_6 := blk_frozen BK216.out 6; have hfz42_7 := blk_frozen BK216.out 7; have hfz42_8 := blk_frozen BK216.out 8; have q43 : ((ji23) : Int) ≤ ((l0_3.length : Int) : Int) := of_decide_eq_true (by first | (with_reducible assumption) | assumption); obtain ⟨i043, hi043, _, hsz43, _⟩ := info_parts info35; have hroom43 : l0_3.length ≤ c0_3 := (Kd.V_reads' HO_217003.out).2.1; have hC43 : Kd.F k35 _ _ A0_3 l0_3.length l0_3 := (Kd.V_at (base := w.heap.size) HO_217003.out).2.2; have q043 : (0 : Int) ≤ ((ji23) : Int) := of_decide_eq_true (by first | (with_reducible assumption) | assumption); have hcut43 := cut_from (P := Try.prog) 24 35 .i64 Try.underlying24 hi043 2 hsz43 A0_3 l0_3.length c0_3 (ji23) q043 q43; have hr43 := Kd.F_cut (m := ((ji23) : Int).toNat) (c := c0_3) hC43 (by omega) hroom43; obtain ⟨A43, hA43⟩ : ∃ A1, A1 = (if c0_3 = ((ji23) : Int).toNat then A0_3 else (A0_3 : Option Addr).map (·.add (((ji23) : Int).toNat * 2))) := ⟨_, rfl⟩; obtain ⟨c43, hc43⟩ : ∃ c1, c1 = c0_3 - ((ji23) : Int).toNat := ⟨_, rfl⟩; have hy43 : y235.length = l0_3.length - ((ji23) : Int).toNat := (by rw [Ny235.out, List.length_drop] <;> omega); rw [show (l0_3).drop ((ji23) : Int).toNat = y235 from Ny235.out.symm] at hr43; replace hr43 : Kd.F k35 _ _ A43 y235.length y235 := (by rw [hA43]; exact hr43); rw [← hy43, ← hA43, ← hc43] at hcut43; have HO239 := Aside0.mk (show Kd.V k35 35 _ w.heap.size _ (.slice A43 y235.length c43) y235 from Kd.V_mk (by rw [hy43, hc43]; exact Nat.sub_le_sub_right hroom43 _) hr43); have HC239 := Aside0.mk (show y235.length ≤ c43 from by rw [hy43, hc43]; exact Nat.sub_le_sub_right hroom43 _); clear hr43 hC43 hroom43 hi043 hsz43 hc43; have KY43 := Aside0.mk hy43; have KA43 := Aside0.mk hA43; clear hy43 hA43; replace q43 := eq_true q43) | ((with_reducible refine gate_builtin (b := .append) (xs := #[.tmp 35, .tmp 39]) rfl ?_); (try (refine gate_guard (by rfl) ?_; dsimp only)); at_builtin; refine Kd.N_append_rows k35 (w0 := w) w.heap.size rfl (.tmp 35) (.tmp 39) 24 35 (.agg #[(.slice none 0 0), (.int .i64 0)]) 32 rfl Try.underlying24 info35 rfl (by decide) (by omega) v233 y232 y235 _ _ _ (fun k_ => (P0_3_ k_ ∨ w.heap.size ≤ k_) ∧ some k_ ≠ (.slice Ao38 t223.length co38 : Value).ownBlock ∧ k_ ≠ gb216 ∧ k_ ≠ gb231) (fun k_ => ((fun k_ => (P0_3_ k_ ∨ w.heap.size ≤ k_) ∧ some k_ ≠ (.slice Ao38 t223.length co38 : Value).ownBlock ∧ k_ ≠ gb216 ∧ k_ ≠ gb231)) k_ ∧ some k_ ≠ (v233 : Value).ownBlock) rfl rfl ?aO ?aR (fun _ hk => hk) ?aF ?aB ?aS ?aL ?_; (case aR => exact (by skip; exact Kd.V_F (Kd.V_mono (ok' := (fun k_ => ((fun k_ => (P0_3_ k_ ∨ w.heap.size ≤ k_) ∧ some k_ ≠ (.slice Ao38 t223.length co38 : Value).ownBlock ∧ k_ ≠ gb216 ∧ k_ ≠ gb231)) k_ ∧ some k_ ≠ (v233 : Value).ownBlock)) (HO239.out) (fun k_ hk => ⟨⟨hk.1.1.1.1, ⟨hk.1.1.2, ⟨hk.1.1.1.2, hk.1.2⟩⟩⟩, hk.2⟩)))); (case aB => exact (by repeat (first | (with_reducible first | exact HB.out | apply below_alloc | apply pw_below_drewN | apply below_drew1 | refine below_set ?_ GE216.out | refine below_set ?_ GE231.out) | exact HB.out))); (case aF => exact (fun k_ hk => ⟨(.inr (Nat.le_trans (below_size (by repeat (first | (with_reducible first | exact HB.out | apply below_alloc | apply pw_below_drewN | apply below_drew1 | refine below_set ?_ GE216.out | refine below_set ?_ GE231.out) | exact HB.out))) hk)), Kd.fresh' (Kd.N_lt (by (with_reducible repeat (first | apply Kd.N_alloc | apply Kd.N_drewN | apply Kd.N_drew)); exact HO225.out)) k_ hk, Kd.freshB (g := gb216) (o := .cells #[.int .i64 a0_0, .int .i64 a0_1, .int .i64 a0_2, .slice A0_3 l0_3.length c0_3, .int .i64 a0_4, .int .i64 a0_5, .int .i64 a0_6, .int .i64 a0_7, .bool a0_8] 26 (0, 0)) (by (with_reducible repeat (first | refine blk_drewN ?_ _ | refine blk_drew ?_ | refine blk_alloc ?_ _)); exact BK216.out) k_ hk, Kd.freshB (g := gb231) (o := .cells #[.int .i64 t220, .int .i64 t221, .int .i64 t222, .slice Ao38 t223.length co38, .int .i64 t226, .int .i64 t227, .int .i64 t228, .int .i64 t229, .bool t230] 26 (0, 0)) (by (with_reducible repeat (first | refine blk_drewN ?_ _ | refine blk_drew ?_ | refine blk_alloc ?_ _)); exact BK231.out) k_ hk⟩)); (case aO => exact (by (with_reducible repeat (first | apply Kd.N_alloc | apply Kd.N_drewN | apply Kd.N_drew)); exact HO234.out)); (case aS => exact (below_size (by repeat (first | (with_reducible first | exact HB.out | apply below_alloc | apply pw_below_drewN | apply below_drew1 | refine below_set ?_ GE216.out | refine below_set ?_ GE231.out) | exact HB.out)))); (case aL => have := LMc26.out; omega); intro v241 w44 ho hb hg hat; rw [← Ny240.out] at ho; have n0_ := Aside0.mk (Kd.V_afterv (ok := (fun k_ => (P0_3_ k_ ∨ w.heap.size ≤ k_) ∧ some k_ ≠ (.slice Ao38 t223.length co38 : Value).ownBlock ∧ k_ ≠ gb216 ∧ k_ ≠ gb231)) (by (with_reducible repeat (first | apply Kd.V_alloc | apply Kd.V_drewN | apply Kd.V_drew)); exact Kd.V_mono HO_217003.out (fun _ hk => ⟨⟨hk.1.1.1.1, ⟨hk.1.1.2, ⟨hk.1.1.1.2, hk.1.2⟩⟩⟩, hk.2⟩)) hg hat); have n1_ := Aside0.mk (blk_grown (g := gb216) (o := .cells #[.int .i64 a0_0, .int .i64 a0_1, .int .i64 a0_2, .slice A0_3 l0_3.length c0_3, .int .i64 a0_4, .int .i64 a0_5, .int .i64 a0_6, .int .i64 a0_7, .bool a0_8] 26 (0, 0)) (by (with_reducible repeat (first | refine blk_drewN ?_ _ | refine blk_drew ?_ | refine blk_alloc ?_ _)); exact BK216.out) hg (Kd.N_ne HO234.out BK216.out (by decide))); have n2_ := Aside0.mk (Kd.N_afterv (ok := (fun k_ => (P0_3_ k_ ∨ w.heap.size ≤ k_) ∧ k_ ≠ gb216 ∧ k_ ≠ gb231)) (by (with_reducible repeat (first | apply Kd.N_alloc | apply Kd.N_drewN | apply Kd.N_drew)); exact Kd.N_mono HO225.out (fun _ hk => ⟨⟨hk.1.1.1, ⟨hk.1.1.2, hk.1.2⟩⟩, hk.2⟩)) hg hat); have n3_ := Aside0.mk (blk_grown (g := gb231) (o := .cells #[.int .i64 t220, .int .i64 t221, .int .i64 t222, .slice Ao38 t223.length co38, .int .i64 t226, .int .i64 t227, .int .i64 t228, .int .i64 t229, .bool t230] 26 (0, 0)) (by (with_reducible repeat (first | refine blk_drewN ?_ _ | refine blk_drew ?_ | refine blk_alloc ?_ _)); exact BK231.out) hg (Kd.N_ne HO234.out BK231.out (by decide))); have n4_ := Aside0.mk (Kd.V_afterv (ok := (fun k_ => (P0_3_ k_ ∨ w.heap.size ≤ k_) ∧ some k_ ≠ (.slice Ao38 t223.length co38 : Value).ownBlock ∧ k_ ≠ gb216 ∧ k_ ≠ gb231)) (by (with_reducible repeat (first | apply Kd.V_alloc | apply Kd.V_drewN | apply Kd.V_drew)); exact Kd.V_mono HO239.out (fun _ hk => ⟨⟨hk.1.1.1.1, ⟨hk.1.1.2, ⟨hk.1.1.1.2, hk.1.2⟩⟩⟩, hk.2⟩)) hg hat); have n5_ := Aside0.mk (hb); have n6_ := Aside0.mk (ho); clear HO_217003; clear BK216; clear HO225; clear BK231; clear HO239; clear HB; clear HO234; have HO_217003 := n0_; have BK216 := n1_; have HO225 := n2_; have BK231 := n3_; have HO239 := n4_; have HB := n5_; have HO242 := n6_; clear n0_ n1_ n2_ n3_ n4_ n5_ n6_; clear ho hb hg hat; obtain ⟨Ao45, co45, eo45⟩ := Kd.N_slice HO242.out; subst eo45; have hcz46_0 : w44.cell? ⟨gb231, 0, none⟩ = some (.int .i64 t220) := (blk_cell BK231.out 0).trans rfl; have hcz46_1 : w44.cell? ⟨gb231, 1, none⟩ = some (.int .i64 t221) := (blk_cell BK231.out 1).trans rfl; have hcz46_2 : w44.cell? ⟨gb231, 2, none⟩ = some (.int .i64 t222) := (blk_cell BK231.out 2).trans rfl; have hcz46_3 : w44.cell? ⟨gb231, 3, none⟩ = some (.slice Ao38 t223.length co38) := (blk_cell BK231.out 3).trans rfl; have hcz46_4 : w44.cell? ⟨gb231, 4, none⟩ = some (.int .i64 t226) := (blk_cell BK231.out 4).trans rfl; have hcz46_5 : w44.cell? ⟨gb231, 5, none⟩ = some (.int .i64 t227) := (blk_cell BK231.out 5).trans rfl; have hcz46_6 : w44.cell? ⟨gb231, 6, none⟩ = some (.int .i64 t228) := (blk_cell BK231.out 6).trans rfl; have hcz46_7 : w44.cell? ⟨gb231, 7, none⟩ = some (.int .i64 t229) := (blk_cell BK231.out 7).trans rfl; have hcz46_8 : w44.cell? ⟨gb231, 8, none⟩ = some (.bool t230) := (blk_cell BK231.out 8).trans rfl; have hfz46_0 := blk_frozen BK231.out 0; have hfz46_1 := blk_frozen BK231.out 1; have hfz46_2 := blk_frozen BK231.out 2; have hfz46_3 := blk_frozen BK231.out 3; have hfz46_4 := blk_frozen BK231.out 4; have hfz46_5 := blk_frozen BK231.out 5; have hfz46_6 := blk_frozen BK231.out 6; have hfz46_7 := blk_frozen BK231.out 7; have hfz46_8 := blk_frozen BK231.out 8))
                      have n0_ : Aside0 (Kd.V k35 35 (w44.setCell ⟨gb231, 3, none⟩ (.slice Ao45 y240.length co45)) w.heap.size (fun k_ => (P0_3_ k_ ∨ w.heap.size ≤ k_) ∧ some k_ ≠ (.slice Ao38 t223.length co38 : Value).ownBlock ∧ some k_ ≠ (.slice Ao45 y240.length co45 : Value).ownBlock ∧ k_ ≠ gb216 ∧ k_ ≠ gb231) (.slice A0_3 l0_3.length c0_3) l0_3) := ⟨by (with_reducible repeat (first | apply Kd.V_alloc | apply Kd.V_drewN | apply Kd.V_drew)); exact Kd.V_mono (Kd.V_far (p := ⟨gb231, 3, none⟩) (Kd.V_mono HO_217003.out (fun k_ hk => (⟨hk, hk.1.2.2.2⟩ : _ ∧ k_ ≠ gb231))) (fun _ hk => hk.2) (.slice Ao45 y240.length co45)) (fun _ hk => ⟨hk.1.1.1, ⟨hk.1.1.2.1, ⟨hk.1.2, ⟨hk.1.1.2.2.1, hk.1.1.2.2.2⟩⟩⟩⟩)⟩
                      have n1_ : Aside0 (Kd.N k35 35 (w44.setCell ⟨gb231, 3, none⟩ (.slice Ao45 y240.length co45)) w.heap.size (fun k_ => (P0_3_ k_ ∨ w.heap.size ≤ k_) ∧ some k_ ≠ (.slice Ao45 y240.length co45 : Value).ownBlock ∧ k_ ≠ gb216 ∧ k_ ≠ gb231) (.slice Ao38 t223.length co38) t223) := ⟨by (with_reducible repeat (first | apply Kd.N_alloc | apply Kd.N_drewN | apply Kd.N_drew)); exact Kd.N_mono (Kd.N_far (p := ⟨gb231, 3, none⟩) (Kd.N_mono HO225.out (fun k_ hk => (⟨hk, hk.1.2.2⟩ : _ ∧ k_ ≠ gb231))) (fun _ hk => hk.2) (.slice Ao45 y240.length co45)) (fun _ hk => ⟨hk.1.1.1, ⟨hk.1.2, ⟨hk.1.1.2.1, hk.1.1.2.2⟩⟩⟩)⟩
                      have n2_ : Aside0 (Kd.V k35 35 (w44.setCell ⟨gb231, 3, none⟩ (.slice Ao45 y240.length co45)) w.heap.size (fun k_ => (P0_3_ k_ ∨ w.heap.size ≤ k_) ∧ some k_ ≠ (.slice Ao38 t223.length co38 : Value).ownBlock ∧ some k_ ≠ (.slice Ao45 y240.length co45 : Value).ownBlock ∧ k_ ≠ gb216 ∧ k_ ≠ gb231) (.slice A43 y235.length c43) y235) := ⟨by (with_reducible repeat (first | apply Kd.V_alloc | apply Kd.V_drewN | apply Kd.V_drew)); exact Kd.V_mono (Kd.V_far (p := ⟨gb231, 3, none⟩) (Kd.V_mono HO239.out (fun k_ hk => (⟨hk, hk.1.2.2.2⟩ : _ ∧ k_ ≠ gb231))) (fun _ hk => hk.2) (.slice Ao45 y240.length co45)) (fun _ hk => ⟨hk.1.1.1, ⟨hk.1.1.2.1, ⟨hk.1.2, ⟨hk.1.1.2.2.1, hk.1.1.2.2.2⟩⟩⟩⟩)⟩
                      have n3_ : Aside0 (Kd.N k35 35 (w44.setCell ⟨gb231, 3, none⟩ (.slice Ao45 y240.length co45)) w.heap.size (fun k_ => (P0_3_ k_ ∨ w.heap.size ≤ k_) ∧ some k_ ≠ (.slice Ao38 t223.length co38 : Value).ownBlock ∧ k_ ≠ gb216 ∧ k_ ≠ gb231) (.slice Ao45 y240.length co45) y240) := ⟨by (with_reducible repeat (first | apply Kd.N_alloc | apply Kd.N_drewN | apply Kd.N_drew)); exact Kd.N_mono (Kd.N_far (p := ⟨gb231, 3, none⟩) (Kd.N_mono HO242.out (fun k_ hk => (⟨hk, hk.2.2.2⟩ : _ ∧ k_ ≠ gb231))) (fun _ hk => hk.2) (.slice Ao45 y240.length co45)) (fun _ hk => ⟨hk.1.1, ⟨hk.1.2.1, ⟨hk.1.2.2.1, hk.1.2.2.2⟩⟩⟩)⟩
                      have n4_ : Aside0 ((w44.setCell ⟨gb231, 3, none⟩ (.slice Ao45 y240.length co45)).heap[gb216]? = some (.cells #[.int .i64 a0_0, .int .i64 a0_1, .int .i64 a0_2, .slice A0_3 l0_3.length c0_3, .int .i64 a0_4, .int .i64 a0_5, .int .i64 a0_6, .int .i64 a0_7, .bool a0_8] 26 (0, 0))) := ⟨by (with_reducible repeat (first | refine blk_drewN ?_ _ | refine blk_drew ?_ | refine blk_alloc ?_ _)); refine blk_far ?_ NB216_231.out _; (with_reducible repeat (first | refine blk_drewN ?_ _ | refine blk_drew ?_ | refine blk_alloc ?_ _)); exact BK216.out⟩
                      have n5_ : Aside0 ((w44.setCell ⟨gb231, 3, none⟩ (.slice Ao45 y240.length co45)).heap[gb231]? = some (.cells #[.int .i64 t220, .int .i64 t221, .int .i64 t222, .slice Ao45 y240.length co45, .int .i64 t226, .int .i64 t227, .int .i64 t228, .int .i64 t229, .bool t230] 26 (0, 0))) := ⟨by (with_reducible repeat (first | refine blk_drewN ?_ _ | refine blk_drew ?_ | refine blk_alloc ?_ _)); refine blk_put (cs := #[.int .i64 t220, .int .i64 t221, .int .i64 t222, .slice Ao38 t223.length co38, .int .i64 t226, .int .i64 t227, .int .i64 t228, .int .i64 t229, .bool t230]) ?_ 3 _ rfl; (with_reducible repeat (first | refine blk_drewN ?_ _ | refine blk_drew ?_ | refine blk_alloc ?_ _)); exact BK231.out⟩
                      have n6_ : Aside0 (Below w.heap.size w (w44.setCell ⟨gb231, 3, none⟩ (.slice Ao45 y240.length co45))) := ⟨by repeat (first | (with_reducible first | exact HB.out | apply below_alloc | apply pw_below_drewN | apply below_drew1 | refine below_set ?_ GE216.out | refine below_set ?_ GE231.out) | exact HB.out)⟩
                      (try clear HO_217003)
                      (try clear HO225)
                      (try clear HO239)
                      (try clear HO242)
                      (try clear BK216)
                      (try clear BK231)
                      (try clear HB)
                      generalize (w44.setCell ⟨gb231, 3, none⟩ (.slice Ao45 y240.length co45)) = w47 at n0_ n1_ n2_ n3_ n4_ n5_ n6_ ⊢
                      have HO_217003 := n0_
                      have HO225 := n1_
                      have HO239 := n2_
                      have HO242 := n3_
                      have BK216 := n4_
                      have BK231 := n5_
                      have HB := n6_
                      clear n0_ n1_ n2_ n3_ n4_ n5_ n6_
                      have n0_ := Aside0.mk (Kd.V_drew HO_217003.out)
                      have n1_ := Aside0.mk (Kd.N_drew HO225.out)
                      have n2_ := Aside0.mk (Kd.V_drew HO239.out)
                      have n3_ := Aside0.mk (Kd.N_drew HO242.out)
                      have n4_ := Aside0.mk (blk_drew BK216.out)
                      have n5_ := Aside0.mk (blk_drew BK231.out)
                      have n6_ := Aside0.mk (below_drew1 HB.out)
                      clear HO_217003
                      clear HO225
                      clear HO239
                      clear HO242
                      clear BK216
                      clear BK231
                      clear HB
                      have HO_217003 := n0_
                      have HO225 := n1_
                      have HO239 := n2_
                      have HO242 := n3_
                      have BK216 := n4_
                      have BK231 := n5_
                      have HB := n6_
                      clear n0_ n1_ n2_ n3_ n4_ n5_ n6_
                      have q49 : ((ji23) : Int) ≤ ((l0_3.length : Int) : Int) := of_decide_eq_true (by first | (with_reducible assumption) | assumption)
                      obtain ⟨i049, hi049, _, hsz49, _⟩ := info_parts info35
                      have hroom49 : l0_3.length ≤ c0_3 := (Kd.V_reads' HO_217003.out).2.1
                      have hC49 : Kd.F k35 _ _ A0_3 l0_3.length l0_3 := (Kd.V_at (base := w.heap.size) HO_217003.out).2.2
                      have hcut49 := cut_to (P := Try.prog) 24 35 .i64 Try.underlying24 hi049 A0_3 l0_3.length c0_3 (ji23) (of_decide_eq_true (by first | (with_reducible assumption) | assumption)) q49 hroom49
                      have hr49 := Kd.F_take (m := ((ji23) : Int).toNat) hC49 (by omega)
                      have hy49 : y243.length = ((ji23) : Int).toNat := (by rw [Ny243.out, List.length_take]; omega)
                      rw [← Ny243.out] at hr49
                      rw [← hy49] at hcut49
                      have HO247 := Aside0.mk (show Kd.V k35 35 _ w.heap.size _ (.slice A0_3 y243.length c0_3) y243 from Kd.V_mk (by omega) hr49)
                      have HC247 := Aside0.mk (show y243.length ≤ c0_3 from by omega)
                      clear hr49 hC49 hroom49 hi049 hsz49
                      have KY49 := Aside0.mk hy49
                      clear hy49
                      replace q49 := eq_true q49
                      refine start_ (n := 9) (S := fun w' => w'.cell? ⟨gb231, 0, none⟩ = some (.int .i64 t220) ∧ w'.cell? ⟨gb231, 1, none⟩ = some (.int .i64 t221) ∧ w'.cell? ⟨gb231, 2, none⟩ = some (.int .i64 t222) ∧ w'.cell? ⟨gb231, 3, none⟩ = some (.slice Ao45 y240.length co45) ∧ w'.cell? ⟨gb231, 4, none⟩ = some (.int .i64 t226) ∧ w'.cell? ⟨gb231, 5, none⟩ = some (.int .i64 t227) ∧ w'.cell? ⟨gb231, 6, none⟩ = some (.int .i64 t228) ∧ w'.cell? ⟨gb231, 7, none⟩ = some (.int .i64 t229) ∧ w'.cell? ⟨gb231, 8, none⟩ = some (.bool t230) ∧ w'.cell? ⟨gb216, 0, none⟩ = some (.int .i64 a0_0) ∧ w'.cell? ⟨gb216, 1, none⟩ = some (.int .i64 a0_1) ∧ w'.cell? ⟨gb216, 2, none⟩ = some (.int .i64 a0_2) ∧ w'.cell? ⟨gb216, 3, none⟩ = some (.slice A0_3 l0_3.length c0_3) ∧ w'.cell? ⟨gb216, 4, none⟩ = some (.int .i64 a0_4) ∧ w'.cell? ⟨gb216, 5, none⟩ = some (.int .i64 a0_5) ∧ w'.cell? ⟨gb216, 6, none⟩ = some (.int .i64 a0_6) ∧ w'.cell? ⟨gb216, 7, none⟩ = some (.int .i64 a0_7) ∧ w'.cell? ⟨gb216, 8, none⟩ = some (.bool a0_8)) (ds := [8]) #[false, false, false, false, false, false, false, false, false] (by kernel_rfl) rfl rfl ⟨(blk_cell BK231.out 0).trans rfl, (blk_cell BK231.out 1).trans rfl, (blk_cell BK231.out 2).trans rfl, (blk_cell BK231.out 3).trans rfl, (blk_cell BK231.out 4).trans rfl, (blk_cell BK231.out 5).trans rfl, (blk_cell BK231.out 6).trans rfl, (blk_cell BK231.out 7).trans rfl, (blk_cell BK231.out 8).trans rfl, (blk_cell BK216.out 0).trans rfl, (blk_cell BK216.out 1).trans rfl, (blk_cell BK216.out 2).trans rfl, (blk_cell BK216.out 3).trans rfl, (blk_cell BK216.out 4).trans rfl, (blk_cell BK216.out 5).trans rfl, (blk_cell BK216.out 6).trans rfl, (blk_cell BK216.out 7).trans rfl, (blk_cell BK216.out 8).trans rfl⟩ (fun hHeld => ?_); refine with_tabW grafterlaw19_ConfigRows.tab8 grafterlaw19_ConfigRows.bits8 (fun HT_ HW_ => ?_)
                      generalize w47.drew = w48 at HO_217003 HO225 HO239 HO242 BK216 BK231 HB HO247 hHeld ⊢
                      refine pure_ (i := 0) (N := some 42) (v := ?_) (a' := ?_) #[true, false, false, false, false, false, false, false, false] rfl rfl (any_of HT_.out (by kernel_rfl)) (fun _ _ _ h => h) (Or.inl ⟨by rfl, ?_⟩) ?_ ?_
                      rotate_left
                      · intro w'
                        go_simp
                        with_reducible rfl
                      rotate_left
                      · simp only [Act.put, List.setIfInBounds_toArray, List.set_cons_zero, List.set_cons_succ, i64_w, i32_w]
                        rfl
                      refine pure_ (i := 2) (N := some 44) (v := ?_) (a' := ?_) #[true, false, true, false, false, false, false, false, false] rfl rfl (any_of HT_.out (by kernel_rfl)) (fun _ _ _ h => h) (Or.inl ⟨by rfl, ?_⟩) ?_ ?_
                      rotate_left
                      · intro w'
                        go_simp
                        with_reducible rfl
                      rotate_left
                      · simp only [Act.put, List.setIfInBounds_toArray, List.set_cons_zero, List.set_cons_succ, i64_w, i32_w]
                        rfl
                      refine pure_ (i := 4) (N := some 46) (v := ?_) (a' := ?_) #[true, false, true, false, true, false, false, false, false] rfl rfl (any_of HT_.out (by kernel_rfl)) (fun _ _ _ h => h) (Or.inl ⟨by rfl, ?_⟩) ?_ ?_
                      rotate_left
                      · intro w'
                        go_simp
                        with_reducible rfl
                      rotate_left
                      · simp only [Act.put, List.setIfInBounds_toArray, List.set_cons_zero, List.set_cons_succ, i64_w, i32_w]
                        rfl
                      refine take_ (i := 1) (N := some 43) (v := ?_) (a' := ?_) #[true, true, true, false, true, false, false, false, false] rfl rfl (take_ofW HT_.out HW_.out (by kernel_rfl)) (fun _ _ _ h => h) (Or.inl ⟨by rfl, ?_⟩) hHeld ?_ ?_
                      rotate_left
                      · rintro w' ⟨s0, s1, s2, s3, s4, s5, s6, s7, s8, s9, s10, s11, s12, s13, s14, s15, s16, s17⟩
                        go_simp
                        with_reducible rfl
                      rotate_left
                      · simp only [Act.put, List.setIfInBounds_toArray, List.set_cons_zero, List.set_cons_succ, i64_w, i32_w]
                        rfl
                      refine take_ (i := 3) (N := some 45) (v := ?_) (a' := ?_) #[true, true, true, true, true, false, false, false, false] rfl rfl (take_ofW HT_.out HW_.out (by kernel_rfl)) (fun _ _ _ h => h) (Or.inl ⟨by rfl, ?_⟩) hHeld ?_ ?_
                      rotate_left
                      · rintro w' ⟨s0, s1, s2, s3, s4, s5, s6, s7, s8, s9, s10, s11, s12, s13, s14, s15, s16, s17⟩
                        go_simp
                        with_reducible rfl
                      rotate_left
                      · simp only [Act.put, List.setIfInBounds_toArray, List.set_cons_zero, List.set_cons_succ, i64_w, i32_w]
                        rfl
                      refine pure_ (i := 5) (N := some 47) (v := ?_) (a' := ?_) #[true, true, true, true, true, true, false, false, false] rfl rfl (any_of HT_.out (by kernel_rfl)) (fun _ _ _ h => h) (Or.inl ⟨by rfl, ?_⟩) ?_ ?_
                      rotate_left
                      · intro w'
                        go_simp
                        with_reducible rfl
                      rotate_left
                      · simp only [Act.put, List.setIfInBounds_toArray, List.set_cons_zero, List.set_cons_succ, i64_w, i32_w]
                        rfl
                      refine one_ (i := 6) (N := some 48) #[true, true, true, true, true, true, true, false, false] rfl rfl (one_of HT_.out (by kernel_rfl)) (by decide) (fun K hK => ?_)
                      refine Kd.N_append_rows_step k35 (w0 := w) w.heap.size (by rfl) (.tmp 43) (.tmp 47) 24 35 (.agg #[(.slice none 0 0), (.int .i64 0)]) 32 rfl Try.underlying24 info35 rfl (by decide) (by omega) (.slice Ao45 y240.length co45) y240 y243 _ _ _ (fun k_ => (P0_3_ k_ ∨ w.heap.size ≤ k_) ∧ some k_ ≠ (.slice Ao38 t223.length co38 : Value).ownBlock ∧ k_ ≠ gb216 ∧ k_ ≠ gb231) (fun k_ => ((fun k_ => (P0_3_ k_ ∨ w.heap.size ≤ k_) ∧ some k_ ≠ (.slice Ao38 t223.length co38 : Value).ownBlock ∧ k_ ≠ gb216 ∧ k_ ≠ gb231)) k_ ∧ some k_ ≠ (.slice Ao45 y240.length co45 : Value).ownBlock) rfl rfl ?aO ?aR (fun _ hk => hk) ?aF ?aB ?aS ?aL ?_
                      (case aR => exact (by skip; exact Kd.V_F (Kd.V_mono (ok' := (fun k_ => ((fun k_ => (P0_3_ k_ ∨ w.heap.size ≤ k_) ∧ some k_ ≠ (.slice Ao38 t223.length co38 : Value).ownBlock ∧ k_ ≠ gb216 ∧ k_ ≠ gb231)) k_ ∧ some k_ ≠ (.slice Ao45 y240.length co45 : Value).ownBlock)) (HO247.out) (fun k_ hk => ⟨⟨hk.1, ⟨hk.2.1, ⟨hk.2.2.2.1, hk.2.2.2.2⟩⟩⟩, hk.2.2.1⟩))))
                      (case aB => exact (by repeat (first | (with_reducible first | exact HB.out | apply below_alloc | apply pw_below_drewN | apply below_drew1 | refine below_set ?_ GE216.out | refine below_set ?_ GE231.out) | exact HB.out)))
                      (case aF => exact (fun k_ hk => ⟨(.inr (Nat.le_trans (below_size (by repeat (first | (with_reducible first | exact HB.out | apply below_alloc | apply pw_below_drewN | apply below_drew1 | refine below_set ?_ GE216.out | refine below_set ?_ GE231.out) | exact HB.out))) hk)), Kd.fresh' (Kd.N_lt (by (with_reducible repeat (first | apply Kd.N_alloc | apply Kd.N_drewN | apply Kd.N_drew)); exact HO225.out)) k_ hk, Kd.freshB (g := gb216) (o := .cells #[.int .i64 a0_0, .int .i64 a0_1, .int .i64 a0_2, .slice A0_3 l0_3.length c0_3, .int .i64 a0_4, .int .i64 a0_5, .int .i64 a0_6, .int .i64 a0_7, .bool a0_8] 26 (0, 0)) (by (with_reducible repeat (first | refine blk_drewN ?_ _ | refine blk_drew ?_ | refine blk_alloc ?_ _)); exact BK216.out) k_ hk, Kd.freshB (g := gb231) (o := .cells #[.int .i64 t220, .int .i64 t221, .int .i64 t222, .slice Ao45 y240.length co45, .int .i64 t226, .int .i64 t227, .int .i64 t228, .int .i64 t229, .bool t230] 26 (0, 0)) (by (with_reducible repeat (first | refine blk_drewN ?_ _ | refine blk_drew ?_ | refine blk_alloc ?_ _)); exact BK231.out) k_ hk⟩))
                      (case aO => exact (by (with_reducible repeat (first | apply Kd.N_alloc | apply Kd.N_drewN | apply Kd.N_drew)); exact HO242.out))
                      (case aS => exact (below_size (by repeat (first | (with_reducible first | exact HB.out | apply below_alloc | apply pw_below_drewN | apply below_drew1 | refine below_set ?_ GE216.out | refine below_set ?_ GE231.out) | exact HB.out))))
                      (case aL => have := LMc29.out; omega)
                      intro v249 w50 ho hb hg hat
                      rw [← Ny248.out] at ho
                      have n0_ := Aside0.mk (Kd.V_afterv (ok := (fun k_ => (P0_3_ k_ ∨ w.heap.size ≤ k_) ∧ some k_ ≠ (.slice Ao38 t223.length co38 : Value).ownBlock ∧ k_ ≠ gb216 ∧ k_ ≠ gb231)) (by (with_reducible repeat (first | apply Kd.V_alloc | apply Kd.V_drewN | apply Kd.V_drew)); exact Kd.V_mono HO_217003.out (fun _ hk => ⟨⟨hk.1, ⟨hk.2.1, ⟨hk.2.2.2.1, hk.2.2.2.2⟩⟩⟩, hk.2.2.1⟩)) hg hat)
                      have n1_ := Aside0.mk (blk_grown (g := gb216) (o := .cells #[.int .i64 a0_0, .int .i64 a0_1, .int .i64 a0_2, .slice A0_3 l0_3.length c0_3, .int .i64 a0_4, .int .i64 a0_5, .int .i64 a0_6, .int .i64 a0_7, .bool a0_8] 26 (0, 0)) (by (with_reducible repeat (first | refine blk_drewN ?_ _ | refine blk_drew ?_ | refine blk_alloc ?_ _)); exact BK216.out) hg (Kd.N_ne HO242.out BK216.out (by decide)))
                      have n2_ := Aside0.mk (Kd.N_afterv (ok := (fun k_ => (P0_3_ k_ ∨ w.heap.size ≤ k_) ∧ k_ ≠ gb216 ∧ k_ ≠ gb231)) (by (with_reducible repeat (first | apply Kd.N_alloc | apply Kd.N_drewN | apply Kd.N_drew)); exact Kd.N_mono HO225.out (fun _ hk => ⟨⟨hk.1, ⟨hk.2.2.1, hk.2.2.2⟩⟩, hk.2.1⟩)) hg hat)
                      have n3_ := Aside0.mk (blk_grown (g := gb231) (o := .cells #[.int .i64 t220, .int .i64 t221, .int .i64 t222, .slice Ao45 y240.length co45, .int .i64 t226, .int .i64 t227, .int .i64 t228, .int .i64 t229, .bool t230] 26 (0, 0)) (by (with_reducible repeat (first | refine blk_drewN ?_ _ | refine blk_drew ?_ | refine blk_alloc ?_ _)); exact BK231.out) hg (Kd.N_ne HO242.out BK231.out (by decide)))
                      have n4_ := Aside0.mk (Kd.V_afterv (ok := (fun k_ => (P0_3_ k_ ∨ w.heap.size ≤ k_) ∧ some k_ ≠ (.slice Ao38 t223.length co38 : Value).ownBlock ∧ k_ ≠ gb216 ∧ k_ ≠ gb231)) (by (with_reducible repeat (first | apply Kd.V_alloc | apply Kd.V_drewN | apply Kd.V_drew)); exact Kd.V_mono HO239.out (fun _ hk => ⟨⟨hk.1, ⟨hk.2.1, ⟨hk.2.2.2.1, hk.2.2.2.2⟩⟩⟩, hk.2.2.1⟩)) hg hat)
                      have n5_ := Aside0.mk (Kd.V_afterv (ok := (fun k_ => (P0_3_ k_ ∨ w.heap.size ≤ k_) ∧ some k_ ≠ (.slice Ao38 t223.length co38 : Value).ownBlock ∧ k_ ≠ gb216 ∧ k_ ≠ gb231)) (by (with_reducible repeat (first | apply Kd.V_alloc | apply Kd.V_drewN | apply Kd.V_drew)); exact Kd.V_mono HO247.out (fun _ hk => ⟨⟨hk.1, ⟨hk.2.1, ⟨hk.2.2.2.1, hk.2.2.2.2⟩⟩⟩, hk.2.2.1⟩)) hg hat)
                      have n6_ := Aside0.mk (hb)
                      have n7_ := Aside0.mk (ho)
                      clear HO_217003
                      clear BK216
                      clear HO225
                      clear BK231
                      clear HO239
                      clear HO247
                      clear HB
                      clear HO242
                      have HO_217003 := n0_
                      have BK216 := n1_
                      have HO225 := n2_
                      have BK231 := n3_
                      have HO239 := n4_
                      have HO247 := n5_
                      have HB := n6_
                      have HO250 := n7_
                      clear n0_ n1_ n2_ n3_ n4_ n5_ n6_ n7_
                      clear ho hb hg hat
                      obtain ⟨Ao51, co51, eo51⟩ := Kd.N_slice HO250.out
                      (first | subst eo51 | (injection eo51 with f1_ f2_ f3_; have f4_ := f1_.symm; have f5_ := f3_.symm; clear f1_ f2_ f3_; subst f4_; subst f5_))
                      refine hK.out _ _ ⟨(blk_cell BK231.out 0).trans rfl, (blk_cell BK231.out 1).trans rfl, (blk_cell BK231.out 2).trans rfl, (blk_cell BK231.out 3).trans rfl, (blk_cell BK231.out 4).trans rfl, (blk_cell BK231.out 5).trans rfl, (blk_cell BK231.out 6).trans rfl, (blk_cell BK231.out 7).trans rfl, (blk_cell BK231.out 8).trans rfl, (blk_cell BK216.out 0).trans rfl, (blk_cell BK216.out 1).trans rfl, (blk_cell BK216.out 2).trans rfl, (blk_cell BK216.out 3).trans rfl, (blk_cell BK216.out 4).trans rfl, (blk_cell BK216.out 5).trans rfl, (blk_cell BK216.out 6).trans rfl, (blk_cell BK216.out 7).trans rfl, (blk_cell BK216.out 8).trans rfl⟩ (fun hHeld => ?_)
                      clear hK K
                      refine norm_ (a' := ?_) ?_ ?_
                      rotate_left
                      · show Act.put _ (some 48) _ = _
                        simp only [Act.put, List.setIfInBounds_toArray, List.set_cons_zero, List.set_cons_succ, i64_w, i32_w]
                        rfl
                      refine pure_ (i := 7) (N := some 49) (v := ?_) (a' := ?_) #[true, true, true, true, true, true, true, true, false] rfl rfl (any_of HT_.out (by kernel_rfl)) (fun _ _ _ h => h) (Or.inl ⟨by rfl, ?_⟩) ?_ ?_
                      rotate_left
                      · intro w'
                        go_simp
                        with_reducible rfl
                      rotate_left
                      · simp only [Act.put, List.setIfInBounds_toArray, List.set_cons_zero, List.set_cons_succ, i64_w, i32_w]
                        rfl
                      refine last_ (i := 8) (N := none) #[true, true, true, true, true, true, true, true, true] rfl rfl (one_of HT_.out (by kernel_rfl)) (by decide) (fun K hK => ?_)
                      have hs52 : w50.cell? ⟨gb231, 3, none⟩ = some (.slice Ao45 y240.length co45) := (blk_cell BK231.out 3).trans rfl
                      have hfs52 := blk_frozen BK231.out 3
                      have hns52_0 := NB216_231.out
                      have hms52_0 := NB231_216.out
                      refine skip_ (w1 := ?_) (by rfl) rfl ?_ ?_
                      rotate_left
                      · go_simp
                        rfl
                      refine hK.out _ _ ?_
                      clear hK K
                      refine done_ (done_of HT_.out (by kernel_rfl)) ?_
                      have hcz53_0 : w50.cell? ⟨gb231, 0, none⟩ = some (.int .i64 t220) := (blk_cell BK231.out 0).trans rfl
                      have hcz53_1 : w50.cell? ⟨gb231, 1, none⟩ = some (.int .i64 t221) := (blk_cell BK231.out 1).trans rfl
                      have hcz53_2 : w50.cell? ⟨gb231, 2, none⟩ = some (.int .i64 t222) := (blk_cell BK231.out 2).trans rfl
                      have hcz53_3 : w50.cell? ⟨gb231, 3, none⟩ = some (.slice Ao45 y240.length co45) := (blk_cell BK231.out 3).trans rfl
                      have hcz53_4 : w50.cell? ⟨gb231, 4, none⟩ = some (.int .i64 t226) := (blk_cell BK231.out 4).trans rfl
                      have hcz53_5 : w50.cell? ⟨gb231, 5, none⟩ = some (.int .i64 t227) := (blk_cell BK231.out 5).trans rfl
                      have hcz53_6 : w50.cell? ⟨gb231, 6, none⟩ = some (.int .i64 t228) := (blk_cell BK231.out 6).trans rfl
                      have hcz53_7 : w50.cell? ⟨gb231, 7, none⟩ = some (.int .i64 t229) := (blk_cell BK231.out 7).trans rfl
                      have hcz53_8 : w50.cell? ⟨gb231, 8, none⟩ = some (.bool t230) := (blk_cell BK231.out 8).trans rfl
                      have hfz53_0 := blk_frozen BK231.out 0
                      have hfz53_1 := blk_frozen BK231.out 1
                      have hfz53_2 := blk_frozen BK231.out 2
                      have hfz53_3 := blk_frozen BK231.out 3
                      have hfz53_4 := blk_frozen BK231.out 4
                      have hfz53_5 := blk_frozen BK231.out 5
                      have hfz53_6 := blk_frozen BK231.out 6
                      have hfz53_7 := blk_frozen BK231.out 7
                      have hfz53_8 := blk_frozen BK231.out 8
                      have hcz54_0 : w50.cell? ⟨gb216, 0, none⟩ = some (.int .i64 a0_0) := (blk_cell BK216.out 0).trans rfl
                      have hcz54_1 : w50.cell? ⟨gb216, 1, none⟩ = some (.int .i64 a0_1) := (blk_cell BK216.out 1).trans rfl
                      have hcz54_2 : w50.cell? ⟨gb216, 2, none⟩ = some (.int .i64 a0_2) := (blk_cell BK216.out 2).trans rfl
                      have hcz54_3 : w50.cell? ⟨gb216, 3, none⟩ = some (.slice A0_3 l0_3.length c0_3) := (blk_cell BK216.out 3).trans rfl
                      have hcz54_4 : w50.cell? ⟨gb216, 4, none⟩ = some (.int .i64 a0_4) := (blk_cell BK216.out 4).trans rfl
                      have hcz54_5 : w50.cell? ⟨gb216, 5, none⟩ = some (.int .i64 a0_5) := (blk_cell BK216.out 5).trans rfl
                      have hcz54_6 : w50.cell? ⟨gb216, 6, none⟩ = some (.int .i64 a0_6) := (blk_cell BK216.out 6).trans rfl
                      have hcz54_7 : w50.cell? ⟨gb216, 7, none⟩ = some (.int .i64 a0_7) := (blk_cell BK216.out 7).trans rfl
                      have hcz54_8 : w50.cell? ⟨gb216, 8, none⟩ = some (.bool a0_8) := (blk_cell BK216.out 8).trans rfl
                      have hfz54_0 := blk_frozen BK216.out 0
                      have hfz54_1 := blk_frozen BK216.out 1
                      have hfz54_2 := blk_frozen BK216.out 2
                      have hfz54_3 := blk_frozen BK216.out 3
                      have hfz54_4 := blk_frozen BK216.out 4
                      have hfz54_5 := blk_frozen BK216.out 5
                      have hfz54_6 := blk_frozen BK216.out 6
                      have hfz54_7 := blk_frozen BK216.out 7
                      have hfz54_8 := blk_frozen BK216.out 8
                      have hfd_ : ∀ (x0 x1 x2 x4 x5 x6 x7 : Int) (x8 : Bool) (A : Option Addr) (n c : Nat) (w : World), (Instr.field 26 (.agg #[.int .i64 x0, .int .i64 x1, .int .i64 x2, .slice A n c, .int .i64 x4, .int .i64 x5, .int .i64 x6, .int .i64 x7, .bool x8]) 2).run Try.prog w = .ok (.slice A n c) w := fun _ _ _ _ _ _ _ _ _ _ _ _ => by kernel_rfl
                      try go_wp2_with (first | ((with_reducible refine gate_callee (f := 17) rfl ?_); refine goesL_ (some 66) rfl rfl Try.func17 (by kernel_rfl) rfl #[.agg #[.int .i64 t220, .int .i64 t221, .int .i64 t222, .slice Ao51 y248.length co51, .int .i64 (Go.bits .and .i64 a2 65535), .int .i64 (wrap64 (1 + (Go.bits .and .i64 a3 31))), .int .i64 (wrap64 (1 + (Go.bits .and .i64 a3 7))), .int .i64 t229, .bool (!a0_8)]] rfl (by (try simp only [List.map_toArray, List.map_cons, List.map_nil]); first | done | rfl | (simp only [List.length_drop, List.length_take]; rfl)) ?_; (with_reducible refine (config_May.calls kj6 t220 t221 t222 _ _ y248 (Go.bits .and .i64 a2 65535) (wrap64 (1 + (Go.bits .and .i64 a3 31))) (wrap64 (1 + (Go.bits .and .i64 a3 7))) t229 (!a0_8) true _ ?side1 ?side2 A30.out).mono ?_); (case side1 => refine (Kd.N_reads' (e := 35) (base := w.heap.size) (ok := fun k_ => ((P0_3_ k_ ∨ w.heap.size ≤ k_) ∧ (some k_ ≠ (.slice Ao38 t223.length co38 : Value).ownBlock ∧ (k_ ≠ gb216 ∧ k_ ≠ gb231)))) (n := y248.length) (c := co51) ?_).2.2; exact (by (with_reducible repeat (first | apply Kd.N_alloc | apply Kd.N_drewN | apply Kd.N_drew)); exact (Kd.N_mono (Kd.N_far (p := ⟨gb231, 8, none⟩) (Kd.N_far (p := ⟨gb231, 6, none⟩) (Kd.N_far (p := ⟨gb231, 5, none⟩) (Kd.N_far (p := ⟨gb231, 4, none⟩) (Kd.N_far (p := ⟨gb231, 3, none⟩) (Kd.N_mono HO250.out (fun k_ hk => (⟨hk, hk.2.2.2⟩ : _ ∧ k_ ≠ gb231))) (fun _ hk => hk.2) (.slice Ao51 y248.length co51)) (fun _ hk => hk.2) (.int .i64 (Go.bits .and .i64 a2 65535))) (fun _ hk => hk.2) (.int .i64 (wrap64 (1 + (Go.bits .and .i64 a3 31))))) (fun _ hk => hk.2) (.int .i64 (wrap64 (1 + (Go.bits .and .i64 a3 7))))) (fun _ hk => hk.2) (.bool (!a0_8))) (fun _ h_ => h_.1)))); (case side2 => exact (Kd.N_reads' HO250.out).2.1); rintro e w55 ⟨rfl, hb⟩; refine ⟨_, rfl, ?_⟩; have n0_ := Aside0.mk (Kd.V_below (by (with_reducible repeat (first | apply Kd.V_alloc | apply Kd.V_drewN | apply Kd.V_drew)); exact (Kd.V_mono (Kd.V_far (p := ⟨gb231, 8, none⟩) (Kd.V_far (p := ⟨gb231, 6, none⟩) (Kd.V_far (p := ⟨gb231, 5, none⟩) (Kd.V_far (p := ⟨gb231, 4, none⟩) (Kd.V_far (p := ⟨gb231, 3, none⟩) (Kd.V_mono HO_217003.out (fun k_ hk => (⟨hk, hk.1.2.2.2⟩ : _ ∧ k_ ≠ gb231))) (fun _ hk => hk.2) (.slice Ao51 y248.length co51)) (fun _ hk => hk.2) (.int .i64 (Go.bits .and .i64 a2 65535))) (fun _ hk => hk.2) (.int .i64 (wrap64 (1 + (Go.bits .and .i64 a3 31))))) (fun _ hk => hk.2) (.int .i64 (wrap64 (1 + (Go.bits .and .i64 a3 7))))) (fun _ hk => hk.2) (.bool (!a0_8))) (fun _ h_ => h_.1))) hb); have n1_ := Aside0.mk (Kd.N_below (by (with_reducible repeat (first | apply Kd.N_alloc | apply Kd.N_drewN | apply Kd.N_drew)); exact (Kd.N_mono (Kd.N_far (p := ⟨gb231, 8, none⟩) (Kd.N_far (p := ⟨gb231, 6, none⟩) (Kd.N_far (p := ⟨gb231, 5, none⟩) (Kd.N_far (p := ⟨gb231, 4, none⟩) (Kd.N_far (p := ⟨gb231, 3, none⟩) (Kd.N_mono HO225.out (fun k_ hk => (⟨hk, hk.1.2.2⟩ : _ ∧ k_ ≠ gb231))) (fun _ hk => hk.2) (.slice Ao51 y248.length co51)) (fun _ hk => hk.2) (.int .i64 (Go.bits .and .i64 a2 65535))) (fun _ hk => hk.2) (.int .i64 (wrap64 (1 + (Go.bits .and .i64 a3 31))))) (fun _ hk => hk.2) (.int .i64 (wrap64 (1 + (Go.bits .and .i64 a3 7))))) (fun _ hk => hk.2) (.bool (!a0_8))) (fun _ h_ => h_.1))) hb); have n2_ := Aside0.mk (Kd.V_below (by (with_reducible repeat (first | apply Kd.V_alloc | apply Kd.V_drewN | apply Kd.V_drew)); exact (Kd.V_mono (Kd.V_far (p := ⟨gb231, 8, none⟩) (Kd.V_far (p := ⟨gb231, 6, none⟩) (Kd.V_far (p := ⟨gb231, 5, none⟩) (Kd.V_far (p := ⟨gb231, 4, none⟩) (Kd.V_far (p := ⟨gb231, 3, none⟩) (Kd.V_mono HO239.out (fun k_ hk => (⟨hk, hk.1.2.2.2⟩ : _ ∧ k_ ≠ gb231))) (fun _ hk => hk.2) (.slice Ao51 y248.length co51)) (fun _ hk => hk.2) (.int .i64 (Go.bits .and .i64 a2 65535))) (fun _ hk => hk.2) (.int .i64 (wrap64 (1 + (Go.bits .and .i64 a3 31))))) (fun _ hk => hk.2) (.int .i64 (wrap64 (1 + (Go.bits .and .i64 a3 7))))) (fun _ hk => hk.2) (.bool (!a0_8))) (fun _ h_ => h_.1))) hb); have n3_ := Aside0.mk (Kd.V_below (by (with_reducible repeat (first | apply Kd.V_alloc | apply Kd.V_drewN | apply Kd.V_drew)); exact (Kd.V_mono (Kd.V_far (p := ⟨gb231, 8, none⟩) (Kd.V_far (p := ⟨gb231, 6, none⟩) (Kd.V_far (p := ⟨gb231, 5, none⟩) (Kd.V_far (p := ⟨gb231, 4, none⟩) (Kd.V_far (p := ⟨gb231, 3, none⟩) (Kd.V_mono HO247.out (fun k_ hk => (⟨hk, hk.1.2.2.2⟩ : _ ∧ k_ ≠ gb231))) (fun _ hk => hk.2) (.slice Ao51 y248.length co51)) (fun _ hk => hk.2) (.int .i64 (Go.bits .and .i64 a2 65535))) (fun _ hk => hk.2) (.int .i64 (wrap64 (1 + (Go.bits .and .i64 a3 31))))) (fun _ hk => hk.2) (.int .i64 (wrap64 (1 + (Go.bits .and .i64 a3 7))))) (fun _ hk => hk.2) (.bool (!a0_8))) (fun _ h_ => h_.1))) hb); have n4_ := Aside0.mk (Kd.N_below (by (with_reducible repeat (first | apply Kd.N_alloc | apply Kd.N_drewN | apply Kd.N_drew)); exact (Kd.N_mono (Kd.N_far (p := ⟨gb231, 8, none⟩) (Kd.N_far (p := ⟨gb231, 6, none⟩) (Kd.N_far (p := ⟨gb231, 5, none⟩) (Kd.N_far (p := ⟨gb231, 4, none⟩) (Kd.N_far (p := ⟨gb231, 3, none⟩) (Kd.N_mono HO250.out (fun k_ hk => (⟨hk, hk.2.2.2⟩ : _ ∧ k_ ≠ gb231))) (fun _ hk => hk.2) (.slice Ao51 y248.length co51)) (fun _ hk => hk.2) (.int .i64 (Go.bits .and .i64 a2 65535))) (fun _ hk => hk.2) (.int .i64 (wrap64 (1 + (Go.bits .and .i64 a3 31))))) (fun _ hk => hk.2) (.int .i64 (wrap64 (1 + (Go.bits .and .i64 a3 7))))) (fun _ hk => hk.2) (.bool (!a0_8))) (fun _ h_ => h_.1))) hb); have n5_ := Aside0.mk (blk_below (g := gb216) (o := .cells #[.int .i64 a0_0, .int .i64 a0_1, .int .i64 a0_2, .slice A0_3 l0_3.length c0_3, .int .i64 a0_4, .int .i64 a0_5, .int .i64 a0_6, .int .i64 a0_7, .bool a0_8] 26 (0, 0)) (by (with_reducible repeat (first | refine blk_drewN ?_ _ | refine blk_drew ?_ | refine blk_alloc ?_ _)); refine blk_far ?_ NB216_231.out _; (with_reducible repeat (first | refine blk_drewN ?_ _ | refine blk_drew ?_ | refine blk_alloc ?_ _)); refine blk_far ?_ NB216_231.out _; (with_reducible repeat (first | refine blk_drewN ?_ _ | refine blk_drew ?_ | refine blk_alloc ?_ _)); refine blk_far ?_ NB216_231.out _; (with_reducible repeat (first | refine blk_drewN ?_ _ | refine blk_drew ?_ | refine blk_alloc ?_ _)); refine blk_far ?_ NB216_231.out _; (with_reducible repeat (first | refine blk_drewN ?_ _ | refine blk_drew ?_ | refine blk_alloc ?_ _)); refine blk_far ?_ NB216_231.out _; (with_reducible repeat (first | refine blk_drewN ?_ _ | refine blk_drew ?_ | refine blk_alloc ?_ _)); exact BK216.out) hb); have n6_ := Aside0.mk (blk_below (g := gb231) (o := .cells #[.int .i64 t220, .int .i64 t221, .int .i64 t222, .slice Ao51 y248.length co51, .int .i64 (Go.bits .and .i64 a2 65535), .int .i64 (wrap64 (1 + (Go.bits .and .i64 a3 31))), .int .i64 (wrap64 (1 + (Go.bits .and .i64 a3 7))), .int .i64 t229, .bool (!a0_8)] 26 (0, 0)) (by (with_reducible repeat (first | refine blk_drewN ?_ _ | refine blk_drew ?_ | refine blk_alloc ?_ _)); refine blk_put (cs := #[.int .i64 t220, .int .i64 t221, .int .i64 t222, .slice Ao51 y248.length co51, .int .i64 (Go.bits .and .i64 a2 65535), .int .i64 (wrap64 (1 + (Go.bits .and .i64 a3 31))), .int .i64 (wrap64 (1 + (Go.bits .and .i64 a3 7))), .int .i64 t229, .bool t230]) ?_ 8 _ rfl; (with_reducible repeat (first | refine blk_drewN ?_ _ | refine blk_drew ?_ | refine blk_alloc ?_ _)); refine blk_put (cs := #[.int .i64 t220, .int .i64 t221, .int .i64 t222, .slice Ao51 y248.length co51, .int .i64 (Go.bits .and .i64 a2 65535), .int .i64 (wrap64 (1 + (Go.bits .and .i64 a3 31))), .int .i64 t228, .int .i64 t229, .bool t230]) ?_ 6 _ rfl; (with_reducible repeat (first | refine blk_drewN ?_ _ | refine blk_drew ?_ | refine blk_alloc ?_ _)); refine blk_put (cs := #[.int .i64 t220, .int .i64 t221, .int .i64 t222, .slice Ao51 y248.length co51, .int .i64 (Go.bits .and .i64 a2 65535), .int .i64 t227, .int .i64 t228, .int .i64 t229, .bool t230]) ?_ 5 _ rfl; (with_reducible repeat (first | refine blk_drewN ?_ _ | refine blk_drew ?_ | refine blk_alloc ?_ _)); refine blk_put (cs := #[.int .i64 t220, .int .i64 t221, .int .i64 t222, .slice Ao51 y248.length co51, .int .i64 t226, .int .i64 t227, .int .i64 t228, .int .i64 t229, .bool t230]) ?_ 4 _ rfl; (with_reducible repeat (first | refine blk_drewN ?_ _ | refine blk_drew ?_ | refine blk_alloc ?_ _)); refine blk_put (cs := #[.int .i64 t220, .int .i64 t221, .int .i64 t222, .slice Ao45 y240.length co45, .int .i64 t226, .int .i64 t227, .int .i64 t228, .int .i64 t229, .bool t230]) ?_ 3 _ rfl; (with_reducible repeat (first | refine blk_drewN ?_ _ | refine blk_drew ?_ | refine blk_alloc ?_ _)); exact BK231.out) hb); have n7_ := Aside0.mk (below_step (by repeat (first | (with_reducible first | exact HB.out | apply below_alloc | apply pw_below_drewN | apply below_drew1 | refine below_set ?_ GE216.out | refine below_set ?_ GE231.out) | exact HB.out)) hb); clear HO_217003; clear HO225; clear HO239; clear HO247; clear HO250; clear BK216; clear BK231; clear HB; have HO_217003 := n0_; have HO225 := n1_; have HO239 := n2_; have HO247 := n3_; have HO250 := n4_; have BK216 := n5_; have BK231 := n6_; have HB := n7_; clear n0_ n1_ n2_ n3_ n4_ n5_ n6_ n7_; (try clear hb); (try clear hb2); (try clear hk); (try clear hi)) | (go_at_call 21; (with_reducible refine (grafterlaw19_small.calls  t252 t253 t254 t255 t258 t259 t260 t261 t262 _ A32.out).mono ?_); rintro e w56 ⟨v256, rfl, ho0, hb⟩; have n0_ := Aside0.mk (Kd.V_elder' (by (with_reducible repeat (first | apply Kd.V_alloc | apply Kd.V_drewN | apply Kd.V_drew)); exact HO_217003.out) (Kd.N_base ho0) hb); have n1_ := Aside0.mk (Kd.N_elder' (by (with_reducible repeat (first | apply Kd.N_alloc | apply Kd.N_drewN | apply Kd.N_drew)); exact HO225.out) (Kd.N_base ho0) hb); have n2_ := Aside0.mk (Kd.V_elder' (by (with_reducible repeat (first | apply Kd.V_alloc | apply Kd.V_drewN | apply Kd.V_drew)); exact HO239.out) (Kd.N_base ho0) hb); have n3_ := Aside0.mk (Kd.V_elder' (by (with_reducible repeat (first | apply Kd.V_alloc | apply Kd.V_drewN | apply Kd.V_drew)); exact HO247.out) (Kd.N_base ho0) hb); have n4_ := Aside0.mk (Kd.N_elder' (by (with_reducible repeat (first | apply Kd.N_alloc | apply Kd.N_drewN | apply Kd.N_drew)); exact HO250.out) (Kd.N_base ho0) hb); have n5_ := Aside0.mk (Kd.N_lower (Kd.N_mono (ok' := fun k_ => (P0_3_ k_ ∨ w.heap.size ≤ k_) ∧ some k_ ≠ (.slice Ao38 t223.length co38 : Value).ownBlock ∧ some k_ ≠ (.slice Ao51 y248.length co51 : Value).ownBlock ∧ k_ ≠ gb216 ∧ k_ ≠ gb231) ho0 (fun k_ hk_ => ⟨(.inr (Nat.le_trans (below_size (by repeat (first | (with_reducible first | exact HB.out | apply below_alloc | apply pw_below_drewN | apply below_drew1 | refine below_set ?_ GE216.out | refine below_set ?_ GE231.out) | exact HB.out))) hk_)), (Kd.fresh' (Kd.N_lt (by (with_reducible repeat (first | apply Kd.N_alloc | apply Kd.N_drewN | apply Kd.N_drew)); exact HO225.out)) k_ hk_), (Kd.fresh' (Kd.N_lt (by (with_reducible repeat (first | apply Kd.N_alloc | apply Kd.N_drewN | apply Kd.N_drew)); exact HO250.out)) k_ hk_), (Kd.freshB (g := gb216) (o := .cells #[.int .i64 a0_0, .int .i64 a0_1, .int .i64 a0_2, .slice A0_3 l0_3.length c0_3, .int .i64 a0_4, .int .i64 a0_5, .int .i64 a0_6, .int .i64 a0_7, .bool a0_8] 26 (0, 0)) (by (with_reducible repeat (first | refine blk_drewN ?_ _ | refine blk_drew ?_ | refine blk_alloc ?_ _)); exact BK216.out) k_ hk_), (Kd.freshB (g := gb231) (o := .cells #[.int .i64 t220, .int .i64 t221, .int .i64 t222, .slice Ao51 y248.length co51, .int .i64 (Go.bits .and .i64 a2 65535), .int .i64 (wrap64 (1 + (Go.bits .and .i64 a3 31))), .int .i64 (wrap64 (1 + (Go.bits .and .i64 a3 7))), .int .i64 t229, .bool (!a0_8)] 26 (0, 0)) (by (with_reducible repeat (first | refine blk_drewN ?_ _ | refine blk_drew ?_ | refine blk_alloc ?_ _)); exact BK231.out) k_ hk_)⟩)) (below_size (by repeat (first | (with_reducible first | exact HB.out | apply below_alloc | apply pw_below_drewN | apply below_drew1 | refine below_set ?_ GE216.out | refine below_set ?_ GE231.out) | exact HB.out)))); have n6_ := Aside0.mk (blk_below (g := gb216) (o := .cells #[.int .i64 a0_0, .int .i64 a0_1, .int .i64 a0_2, .slice A0_3 l0_3.length c0_3, .int .i64 a0_4, .int .i64 a0_5, .int .i64 a0_6, .int .i64 a0_7, .bool a0_8] 26 (0, 0)) (by (with_reducible repeat (first | refine blk_drewN ?_ _ | refine blk_drew ?_ | refine blk_alloc ?_ _)); exact BK216.out) hb); have n7_ := Aside0.mk (blk_below (g := gb231) (o := .cells #[.int .i64 t220, .int .i64 t221, .int .i64 t222, .slice Ao51 y248.length co51, .int .i64 (Go.bits .and .i64 a2 65535), .int .i64 (wrap64 (1 + (Go.bits .and .i64 a3 31))), .int .i64 (wrap64 (1 + (Go.bits .and .i64 a3 7))), .int .i64 t229, .bool (!a0_8)] 26 (0, 0)) (by (with_reducible repeat (first | refine blk_drewN ?_ _ | refine blk_drew ?_ | refine blk_alloc ?_ _)); exact BK231.out) hb); have n8_ := Aside0.mk (below_step (by repeat (first | (with_reducible first | exact HB.out | apply below_alloc | apply pw_below_drewN | apply below_drew1 | refine below_set ?_ GE216.out | refine below_set ?_ GE231.out) | exact HB.out)) hb); clear HO_217003; clear HO225; clear HO239; clear HO247; clear HO250; clear BK216; clear BK231; clear HB; have HO_217003 := n0_; have HO225 := n1_; have HO239 := n2_; have HO247 := n3_; have HO250 := n4_; have HO257 := n5_; have BK216 := n6_; have BK231 := n7_; have HB := n8_; clear n0_ n1_ n2_ n3_ n4_ n5_ n6_ n7_ n8_; (try clear hb); (try clear hb2); (try clear hk); (try clear hi); (try clear ho0); obtain ⟨Ao57, co57, eo57⟩ := Kd.N_slice HO257.out; subst eo57))
                      all_goals go_ret
                      all_goals exact ⟨by first | (simp only [← hji23_]; split <;> first | (exfalso; omega) | (simp [ByteArray.extract_zero_size]; done) | (simp [ByteArray.extract_zero_size, *]; done)) | rfl | (simp [errW_none, errW_some] <;> rfl) | (simp only [← hji23]; first | rfl | (simp [errW_none, errW_some] <;> rfl)) | (simp [*, errW_none, errW_some] <;> rfl), by repeat (first | (with_reducible first | exact HB.out | apply below_alloc | apply pw_below_drewN | apply below_drew1 | refine below_set ?_ GE216.out | refine below_set ?_ GE231.out) | exact HB.out)⟩
                    · replace c31 := Bool.eq_false_iff.mpr c31
                      subst c31
                      have H1 : (some false) = some r := by rw [if_neg (show ¬ (false = true) by decide)] at H; exact H
                      clear H
                      have H := H1
                      clear H1
                      exact absurd ((Option.some.inj H).trans HRT.out) Bool.false_ne_true
                  · rw [if_neg c29] at H
                    exact absurd H (by simp)
                · rw [if_neg c26] at H
                  exact absurd H (by simp)
              · rw [if_neg c25] at H
                exact absurd H (by simp)
            · rw [if_neg c24] at H
              exact absurd H (by simp)
  · replace c6 := Bool.eq_false_iff.mpr c6
    subst c6
    have H1 : (some false) = some r := by rw [if_neg (show ¬ (false = true) by decide)] at H; exact H
    clear H
    have H := H1
    clear H1
    exact absurd ((Option.some.inj H).trans HRT.out) Bool.false_ne_true

def grafterlaw19_ConfigRows.Pure : Prop := ∀ (a0_0 : Int) (a0_1 : Int) (a0_2 : Int) (l0_3 : (List S35)) (a0_4 : Int) (a0_5 : Int) (a0_6 : Int) (a0_7 : Int) (a0_8 : Bool) (a1 : Int) (a2 : Int) (a3 : Int), (Lit.int .i64 a0_0).wf = true → (Lit.int .i64 a0_1).wf = true → (Lit.int .i64 a0_2).wf = true → l0_3.length ≤ maxLen → l0_3.length * 32 ≤ 140737488351232 → (∀ y0 ∈ l0_3, ((y0.f0.length ≤ maxLen ∧ y0.f0.length * 8 ≤ 140737488351232 ∧ ∀ y1 ∈ y0.f0, (Lit.int .i64 y1).wf = true) ∧ (Lit.int .i64 y0.f1).wf = true)) → (Lit.int .i64 a0_4).wf = true → (Lit.int .i64 a0_5).wf = true → (Lit.int .i64 a0_6).wf = true → (Lit.int .i64 a0_7).wf = true → (Lit.int .i64 a1).wf = true → (Lit.int .i64 a2).wf = true → (Lit.int .i64 a3).wf = true → ∃ k, grafterlaw19_ConfigRows.f k a0_0 a0_1 a0_2 l0_3 a0_4 a0_5 a0_6 a0_7 a0_8 a1 a2 a3 = some true
theorem grafterlaw19_ConfigRows.walk (P : grafterlaw19_ConfigRows.Pure) (a0_0 : Int) (a0_1 : Int) (a0_2 : Int) (A0_3 : Option Addr) (c0_3 : Nat) (l0_3 : (List S35)) (a0_4 : Int) (a0_5 : Int) (a0_6 : Int) (a0_7 : Int) (a0_8 : Bool) (a1 : Int) (a2 : Int) (a3 : Int) (w : World) (w0_0_0 : (Lit.int .i64 a0_0).wf = true) (w0_1_0 : (Lit.int .i64 a0_1).wf = true) (w0_2_0 : (Lit.int .i64 a0_2).wf = true) (hr0_3 : Kd.C k35 w A0_3 l0_3.length l0_3) (hc0_3 : l0_3.length ≤ c0_3) (w0_3_0 : l0_3.length ≤ maxLen) (w0_3_1 : l0_3.length * 32 ≤ 140737488351232) (w0_3_2 : (∀ y0 ∈ l0_3, ((y0.f0.length ≤ maxLen ∧ y0.f0.length * 8 ≤ 140737488351232 ∧ ∀ y1 ∈ y0.f0, (Lit.int .i64 y1).wf = true) ∧ (Lit.int .i64 y0.f1).wf = true))) (w0_4_0 : (Lit.int .i64 a0_4).wf = true) (w0_5_0 : (Lit.int .i64 a0_5).wf = true) (w0_6_0 : (Lit.int .i64 a0_6).wf = true) (w0_7_0 : (Lit.int .i64 a0_7).wf = true) (w1_0 : (Lit.int .i64 a1).wf = true) (w2_0 : (Lit.int .i64 a2).wf = true) (w3_0 : (Lit.int .i64 a3).wf = true) :
    Calls Try.prog 6 #[.agg #[.int .i64 a0_0, .int .i64 a0_1, .int .i64 a0_2, .slice A0_3 l0_3.length c0_3, .int .i64 a0_4, .int .i64 a0_5, .int .i64 a0_6, .int .i64 a0_7, .bool a0_8], .int .i64 a1, .int .i64 a2, .int .i64 a3] w fun e w' => e = .returned (.bool true) ∧ Below w.heap.size w w' := by
  obtain ⟨k, h⟩ := P a0_0 a0_1 a0_2 l0_3 a0_4 a0_5 a0_6 a0_7 a0_8 a1 a2 a3 w0_0_0 w0_1_0 w0_2_0 w0_3_0 w0_3_1 w0_3_2 w0_4_0 w0_5_0 w0_6_0 w0_7_0 w1_0 w2_0 w3_0
  refine (grafterlaw19_ConfigRows.calls k a0_0 a0_1 a0_2 (fun k_ => k_ < w.heap.size) _ _ l0_3 a0_4 a0_5 a0_6 a0_7 a0_8 a1 a2 a3 true w rfl (Kd.V_mk hc0_3 (Kd.C_F (Kd.heap_iso _ (Kd.heap_pair (Kd.heap_slice 3 (Kd.heap_int .i64)) (Kd.heap_int .i64))) hr0_3)) h).mono ?_
  rintro e w' ⟨rfl, hd⟩
  exact ⟨rfl, hd⟩

end Go.Proofs.Ytdgbfgnmeoihiaa.PConfigRows
