-- Written by a program of this session (pprint.py) out of the translation, with hand-proved walks pasted in.
import Derived.Test.YtbhkmgidokonkaaPChecksx0
import Derived.Test.YtbhkmgidokonkaaPChecksx2
import Derived.Test.YtbhkmgidokonkaaPChecksx4
namespace Go.Proofs.Ytbhkmgidokonkaa.PChecks
open Go.RowKit Go.Proofs.YtbhkmgidokonkaaW.PrintWords Go.Proofs.YtbhkmgidokonkaaW.PrintLast Go.Proofs.YtbhkmgidokonkaaW.PrintMore
attribute [local go_sem] max2_int min2_int max_two min_two max_three min_three max_four min_four   -- for this text's walks alone
set_option linter.unusedVariables false
set_option linter.unusedSimpArgs false

/-! ### check_Get: function 41 -/
theorem cut_to3 {P : Program} (t e : TypeId) (kh : IntKind) {i : TypeInfo} (ht : P.underlying t = some (.slice e)) (hi : P.info? e = some i) (A : Option Addr) (n c : Nat) (j : Int) (h0 : 0 ≤ j) (hm : j ≤ n) (hc : n ≤ c) :
    ∀ W : World, (Instr.slice t (.slice A n c) none (some (.int kh j)) (some (.int kh j))).run P W = .ok (.slice A j.toNat j.toNat) W := by
  intro W
  have hel : P.elem t = e := by simp [Program.elem, ht]
  have hu : P.underlying t = some (.slice (P.elem t)) := by rw [hel]; exact ht
  have ha : (A.map fun x => x.add 0) = A := by cases A <;> simp [Addr.add]
  rw [run_slice_hm W t A n c hu kh kh j j h0 (by omega) (by omega), hel]
  simp [sizeOf, typeInfo, hi, sliced, Result.andThen, ha]
mutual
def check_Get.j0 : Nat → ByteArray → Bool → Option (List Int × List Int × Int × Int × Int × Int)
  | 0, _, _ => none
  | k + 1, x0, x21 => if x21 = true then (some (([] : List Int), ([] : List Int), 0, 0, 0, 1400)) else (if 0 < (x0.size : Int) then (if 0 ≤ (wrap64 ((wrap64 (2 * (wrap64 (bt x0 0)))) + 2)) then (if (wrap64 ((wrap64 (2 * (wrap64 (bt x0 0)))) + 2) : Int).toNat ≤ 35184372088832 then ((some (List.replicate (wrap64 ((wrap64 (2 * (wrap64 (bt x0 0)))) + 2) : Int).toNat 0 : List Int)).bind fun y163 => (check_Get.l0 k x0 (wrap64 (bt x0 0)) y163 (y163.length : Int) 0)) else (none)) else (none)) else (none))
def check_Get.l0 : Nat → ByteArray → Int → List Int → Int → Int → Option (List Int × List Int × Int × Int × Int × Int)
  | 0, _, _, _, _, _ => none
  | k + 1, x0, x4, x5, x31, x32 => if x32 < x31 then (if 0 ≤ (wrap64 (1 + (wrap64 (4 * x32)))) then (if (wrap64 (1 + (wrap64 (4 * x32)))) ≤ (x0.size : Int) then ((check_get.f k (x0.extract ((wrap64 (1 + (wrap64 (4 * x32)))) : Int).toNat x0.size)).bind fun t166 => (if 0 ≤ x32 then (if x32 < (x5.length : Int) then (check_Get.l0 k x0 x4 (x5.set (x32 : Int).toNat t166) x31 (wrap64 (x32 + 1))) else (none)) else (none))) else (none)) else (none)) else (if 0 ≤ x4 then (if x4 ≤ (x5.length : Int) then ((some (x5.take (x4 : Int).toNat : List Int)).bind fun y168 => (if x4 ≤ (wrap64 (2 * x4)) then (if (wrap64 (2 * x4)) ≤ (x5.length : Int) then ((slices_Clone_int_int.f ((x5.take ((wrap64 (2 * x4)) : Int).toNat).drop (x4 : Int).toNat)).bind fun t178 => (if 0 ≤ (wrap64 (2 * x4)) then (if (wrap64 (2 * x4)) < (x5.length : Int) then (if 0 ≤ (wrap64 ((wrap64 (2 * x4)) + 1)) then (if (wrap64 ((wrap64 (2 * x4)) + 1)) < (x5.length : Int) then (if 0 ≤ (wrap64 ((x0.size : Int) - 1)) then (if (wrap64 ((x0.size : Int) - 1)) < (x0.size : Int) then ((check_May.f k y168 t178 (rd x5 (wrap64 (2 * x4))) (rd x5 (wrap64 ((wrap64 (2 * x4)) + 1))) (wrap64 (bt x0 (wrap64 ((x0.size : Int) - 1))))).bind fun t184 => (if t184 = true then (some (y168, t178, rd x5 (wrap64 (2 * x4)), rd x5 (wrap64 ((wrap64 (2 * x4)) + 1)), wrap64 (bt x0 (wrap64 ((x0.size : Int) - 1))), 0)) else (some (([] : List Int), ([] : List Int), 0, 0, 0, 1400)))) else (none)) else (none)) else (none)) else (none)) else (none)) else (none))) else (none)) else (none))) else (none)) else (none))
end
def check_Get.f (k : Nat) (a0 : ByteArray) : Option (List Int × List Int × Int × Int × Int × Int) := if a0.toList = ([] : List UInt8) then (check_Get.j0 k a0 true) else (if 0 < (a0.size : Int) then (check_Get.j0 k a0 ((a0.size : Int) != (wrap64 (2 + (wrap64 (4 * (wrap64 ((wrap64 (2 * (wrap64 (bt a0 0)))) + 2)))))))) else (none))
theorem check_Get.mono_l : ∀ k, (∀ y0 y1, LeO (check_Get.j0 k y0 y1) (check_Get.j0 (k + 1) y0 y1)) ∧ (∀ y0 y1 y2 y3 y4, LeO (check_Get.l0 k y0 y1 y2 y3 y4) (check_Get.l0 (k + 1) y0 y1 y2 y3 y4))
  | 0 => ⟨fun _ _ r h => by simp [check_Get.j0] at h, fun _ _ _ _ _ r h => by simp [check_Get.l0] at h⟩
  | k + 1 => by
    obtain ⟨ih0, ih1⟩ := check_Get.mono_l k
    refine ⟨?_, ?_⟩
    · intro y0 y1
      unfold check_Get.j0
      repeat' first
      | (with_reducible exact ih0 _ _)
      | (with_reducible exact ih1 _ _ _ _ _)
      | (with_reducible exact check_May.mono _ _ _ _ _ _)
      | (with_reducible exact check_get.mono _ _)
      | (with_reducible exact LeO.refl _)
      | (with_reducible exact LeO.none _)
      | (with_reducible refine LeO.ite ?_ ?_)
      | (with_reducible refine LeO.bind ?_ (fun _ => ?_))
      | exact ih0 _ _
      | exact ih1 _ _ _ _ _
      | exact check_May.mono _ _ _ _ _ _
      | exact check_get.mono _ _
      | exact LeO.none _
      | refine LeO.ite ?_ ?_
      | refine LeO.bind ?_ (fun _ => ?_)
    · intro y0 y1 y2 y3 y4
      unfold check_Get.l0
      repeat' first
      | (with_reducible exact ih0 _ _)
      | (with_reducible exact ih1 _ _ _ _ _)
      | (with_reducible exact check_May.mono _ _ _ _ _ _)
      | (with_reducible exact check_get.mono _ _)
      | (with_reducible exact LeO.refl _)
      | (with_reducible exact LeO.none _)
      | (with_reducible refine LeO.ite ?_ ?_)
      | (with_reducible refine LeO.bind ?_ (fun _ => ?_))
      | exact ih0 _ _
      | exact ih1 _ _ _ _ _
      | exact check_May.mono _ _ _ _ _ _
      | exact check_get.mono _ _
      | exact LeO.none _
      | refine LeO.ite ?_ ?_
      | refine LeO.bind ?_ (fun _ => ?_)
theorem check_Get.mono : ∀ a0 k, LeO (check_Get.f k a0) (check_Get.f (k + 1) a0) := by
  intro a0 k
  obtain ⟨ih0, ih1⟩ := check_Get.mono_l k
  unfold check_Get.f
  repeat' first
      | (with_reducible exact ih0 _ _)
      | (with_reducible exact ih1 _ _ _ _ _)
      | (with_reducible exact check_May.mono _ _ _ _ _ _)
      | (with_reducible exact check_get.mono _ _)
      | (with_reducible exact LeO.refl _)
      | (with_reducible exact LeO.none _)
      | (with_reducible refine LeO.ite ?_ ?_)
      | (with_reducible refine LeO.bind ?_ (fun _ => ?_))
      | exact ih0 _ _
      | exact ih1 _ _ _ _ _
      | exact check_May.mono _ _ _ _ _ _
      | exact check_get.mono _ _
      | exact LeO.none _
      | refine LeO.ite ?_ ?_
      | refine LeO.bind ?_ (fun _ => ?_)
def check_Get.T10 : Bool × List (List Nat × List Nat) := (true, [([], []), ([], []), ([], []), ([0, 1, 2], [0, 1, 2]), ([], []), ([], []), ([], []), ([6], [6]), ([4, 5, 7], [4, 5, 7]), ([8], [8]), ([], []), ([], []), ([11], [11]), ([10, 12], [10, 12]), ([13], [13]), ([], []), ([], []), ([16], [16]), ([17], [17]), ([15, 18], [15, 18]), ([19], [19]), ([14, 20], [14, 20]), ([], []), ([], []), ([23], [23]), ([24], [24]), ([22, 25], [22, 25]), ([26], [26]), ([3, 9, 21, 27], [3, 9, 21, 27]), ([], []), ([29, 28, 9, 0, 1, 2, 3, 4, 5, 6, 7, 8, 9, 10, 11, 12, 13, 14, 15, 16, 17, 18, 19, 20, 21, 22, 23, 24, 25, 26, 27, 28, 29], [28, 29])])
def check_Get.B10 : List Nat := [0, 0, 0, 7, 0, 0, 0, 64, 240, 496, 0, 0, 2048, 7168, 15360, 0, 0, 65536, 196608, 491520, 1015808, 2096128, 0, 0, 8388608, 25165824, 62914560, 130023424, 268435455, 0, 1073741823]
theorem check_Get.tab10 : rtab .any (opsOf Try.f41 10) = check_Get.T10 := by kernel_rfl
theorem check_Get.bits10 : waitsOk check_Get.T10.2 check_Get.B10 = true := by kernel_rfl
set_option maxHeartbeats 8000000 in
set_option maxRecDepth 100000 in
theorem check_Get.calls (k : Nat) (a0 : ByteArray) (r1 : List Int) (r2 : List Int) (r3 : Int) (r4 : Int) (r5 : Int) (r6 : Int) (w : World) (h : check_Get.f k a0 = some (r1, r2, r3, r4, r5, r6)) :
    Calls Try.prog 41 #[.string a0] w fun e w' => ∃ v0_ v1_ : Value, e = .returned (.tuple #[.agg #[v0_, v1_, .int .i64 r3, .int .i64 r4, .int .i64 r5], .int .i64 r6]) ∧ RC.V (Kd.int .i64) 3 w' w.heap.size (fun k_ => (w.heap.size ≤ k_) ∧ some k_ ≠ (v1_ : Value).ownBlock) v0_ r1 ∧ Kd.R (Kd.int .i64) 3 w' w.heap.size (fun k_ => (w.heap.size ≤ k_)) v1_ r2 ∧ Below w.heap.size w w' := by
 have hu56 := Try.underlying56
 have hu54 := Try.underlying54
 have HB := Aside0.mk (Below.refl w.heap.size w)
 have H := h
 clear h
 unfold check_Get.f at H
 have HC2 := Aside0.mk H
 clear H
 go_enter Try.func41, Try.ntmps41
 go_upto_region 1 with (first | ((with_reducible refine gate_dst (N := 2) rfl ?_); (try (refine gate_guard (by rfl) ?_; dsimp only)); refine box_event ?hg (N := 2) ?hd (cs := #[.slice none 0 0, .slice none 0 0, .int .i64 0, .int .i64 0, .int .i64 0]) (t := 56) ?hr ?_; (case hd => rfl); (case hg => rfl); (case hr => first | (go_simp; done) | (go_simp; rfl)); intro aE hg w3 hbox hb; have n0_ := Aside0.mk (below_step (by repeat (first | (with_reducible first | exact HB.out | apply below_alloc | apply pw_below_drewN | apply below_drew1) | exact HB.out)) hb); have n1_ := Aside0.mk (hbox); have n2_ := Aside0.mk ((by rw [hg]; exact (below_size (by repeat (first | (with_reducible first | exact HB.out | apply below_alloc | apply pw_below_drewN | apply below_drew1) | exact HB.out))) : w.heap.size ≤ aE)); have n3_ := Aside0.mk ((by rw [hg]; exact (below_size (by repeat (first | (with_reducible first | exact HB.out | apply below_alloc | apply pw_below_drewN | apply below_drew1) | exact HB.out))) : w.heap.size ≤ aE)); clear HB; have HB := n0_; have aD := n1_; have GW162 := n2_; have aM := n3_; clear n0_ n1_ n2_ n3_; clear hb hbox hg))
 (try simp only [Act.put, List.setIfInBounds_toArray, List.set_cons_zero, List.set_cons_succ])
 go_cut [21] (fun v21 wc => ∃ (kq : Nat) (x21_1 : Bool), v21 = .bool x21_1 ∧ Aside0 (check_Get.j0 kq a0 x21_1 = some (r1, r2, r3, r4, r5, r6)) ∧ Aside0 (kq ≤ k) ∧ Aside0 (wc.heap[aE]? = some (.cells #[(.slice none 0 0), (.slice none 0 0), .int .i64 0, .int .i64 0, .int .i64 0] 56 (0, 0))) ∧ Aside0 (Below w.heap.size w wc))
 case first =>
  have H := HC2.out
  clear HC2
  by_cases c4 : a0.toList = ([] : List UInt8)
  · rw [if_pos c4] at H
    have c4b0 : (a0.toList == ([] : List UInt8)) = true := beq_iff_eq.mpr c4
    have c4b1 : (a0.toList != ([] : List UInt8)) = false := bne_eq_false_iff_eq.mpr c4
    clear c4
    (first | rw [c4b0] | (simp only [i64_w, i32_w]; rw [c4b0]) | skip)
    have H' := Aside0.mk H
    clear H
    go_wp2
    go_meet
    case rel => exact ⟨_, (true), (by first | rfl | (simp; done) | (simp [*]; done)), H', ⟨by first | omega | exact Nat.le_refl _⟩, ⟨by (with_reducible repeat (first | refine blk_drewN ?_ _ | refine blk_drew ?_ | refine blk_alloc ?_ _)); exact aD.out⟩, ⟨by repeat (first | (with_reducible first | exact HB.out | apply below_alloc | apply pw_below_drewN | apply below_drew1 | refine below_set ?_ aM.out) | exact HB.out)⟩⟩
  rw [if_neg c4] at H
  have c4b0 : (a0.toList == ([] : List UInt8)) = false := beq_eq_false_iff_ne.mpr c4
  have c4b1 : (a0.toList != ([] : List UInt8)) = true := bne_iff_ne.mpr c4
  (first | rw [c4b0] | (simp only [i64_w, i32_w]; rw [c4b0]) | skip)
  by_cases c5 : 0 < (a0.size : Int)
  rotate_left
  · rw [if_neg c5] at H; exact absurd H (by simp)
  rw [if_pos c5] at H
  have c5b0 : decide (0 < (a0.size : Int)) = true := decide_eq_true c5
  have c5b1 : decide (0 < a0.size) = true := decide_eq_true (by omega)
  clear c5
  have H' := Aside0.mk H
  clear H
  have p6 : 0 ≤ (0 : Int) := (by omega)
  have q6 : 0 < a0.size := (by have : (0 : Int) < (a0.size : Int) := of_decide_eq_true (by first | (with_reducible assumption) | assumption); omega)
  have hx6 : ∀ h : 0 < a0.size, ((a0[0]'h).toNat : Int) = bt a0 0 := bt_at a0 0
  clear p6
  have qi6 : (0 < (a0.size : Int)) = True := eq_true (of_decide_eq_true (by first | (with_reducible assumption) | assumption))
  replace q6 := eq_true q6
  go_wp2
  go_meet
  case rel => exact ⟨_, (((a0.size : Int) != (wrap64 (2 + (wrap64 (4 * (wrap64 ((wrap64 (2 * (wrap64 (bt a0 0)))) + 2)))))))), (by first | rfl | (simp; done) | (simp [*]; done)), H', ⟨by first | omega | exact Nat.le_refl _⟩, ⟨by (with_reducible repeat (first | refine blk_drewN ?_ _ | refine blk_drew ?_ | refine blk_alloc ?_ _)); exact aD.out⟩, ⟨by repeat (first | (with_reducible first | exact HB.out | apply below_alloc | apply pw_below_drewN | apply below_drew1 | refine below_set ?_ aM.out) | exact HB.out)⟩⟩
 case rest =>
  clear HC2
  try clear p2
  try clear c4
  try clear c4b0
  try clear c4b1
  try clear c5
  try clear c5b0
  try clear c5b1
  try clear p6
  try clear q6
  try clear hx6
  try clear qi6
  try clear p6
  try clear q6
  obtain ⟨kq, x21_1, rfl, HA, HJ1, aD, HB⟩ := hcut
  cases kq with
  | zero => exact absurd HA.out (by simp [check_Get.j0])
  | succ kj1 =>
   have H := HA.out
   clear HA
   simp only [check_Get.j0] at H
   by_cases c7 : x21_1 = true
   · subst c7
     have H1 : (some (([] : List Int), ([] : List Int), 0, 0, 0, 1400)) = some (r1, r2, r3, r4, r5, r6) := by rw [if_pos rfl] at H; exact H
     clear H
     have H := H1
     clear H1
     simp only [Option.some.injEq, Prod.mk.injEq] at H
     obtain ⟨rfl, rfl, rfl, rfl, rfl, rfl⟩ := H
     obtain ⟨hcz8_0, hcz8_1, hcz8_2, hcz8_3, hcz8_4, hfz8_0, hfz8_1, hfz8_2, hfz8_3, hfz8_4⟩ := Blk.blk5 (show wc.heap[aE]? = some (.cells #[.slice none 0 0, .slice none 0 0, .int .i64 0, .int .i64 0, .int .i64 0] _ (0, 0)) from aD.out)
     go_wp2
     refine bodyPost_ret (results_ct rfl _ _ aE 56 #[.slice none 0 0, .slice none 0 0, .int .i64 0, .int .i64 0, .int .i64 0] (0, 0) _ rfl (by (with_reducible repeat (first | refine blk_drewN ?_ _ | refine blk_drew ?_ | refine blk_alloc ?_ _)); refine Blk.blk_put5 (z0 := (.slice none 0 0)) (z1 := (.slice none 0 0)) (z2 := (.int .i64 0)) (z3 := (.int .i64 0)) (z4 := (.int .i64 0)) ?_ _ _ _ _ _; (with_reducible repeat (first | refine blk_drewN ?_ _ | refine blk_drew ?_ | refine blk_alloc ?_ _)); exact aD.out) Try.underlying56 rfl (by kernel_rfl)) rfl ?_
     exact ⟨_, _, by first | rfl | (simp [errW_none, errW_some] <;> rfl) | (simp [*, errW_none, errW_some] <;> rfl), (RC.V_nil _ _ _ _ _), by first | exact Kd.R_nil _ _ _ _ _ | exact Kd.N_nil _ _ _ _ _ | exact Kd.V_nil _ _ _ _ _ | exact Kd.Q_nil _ _ _ _ _ | exact Kd.S_nil _ _ _ _ _, by repeat (first | (with_reducible first | exact HB.out | apply below_alloc | apply pw_below_drewN | apply below_drew1 | refine below_set ?_ aM.out) | exact HB.out)⟩
   replace c7 := Bool.eq_false_iff.mpr c7
   subst c7
   rw [if_neg (show ¬ (false = true) by decide)] at H
   by_cases c9 : 0 < (a0.size : Int)
   rotate_left
   · rw [if_neg c9] at H; exact absurd H (by simp)
   rw [if_pos c9] at H
   have c9b0 : decide (0 < (a0.size : Int)) = true := decide_eq_true c9
   have c9b1 : decide (0 < a0.size) = true := decide_eq_true (by omega)
   clear c9
   obtain ⟨bD, bG⟩ : ∃ j_ : Int, (wrap64 ((wrap64 (2 * (wrap64 (bt a0 0)))) + 2)) = j_ := ⟨_, rfl⟩
   replace H : (if 0 ≤ (bD) then (if (bD : Int).toNat ≤ 35184372088832 then ((some (List.replicate (bD : Int).toNat 0 : List Int)).bind fun y163 => (check_Get.l0 kj1 a0 (wrap64 (bt a0 0)) y163 (y163.length : Int) 0)) else (none)) else (none)) = some (r1, r2, r3, r4, r5, r6) := by first | (rw [bG] at H; exact H) | (simp only [bG] at H ⊢; exact H)
   have hji11w : (IntKind.i64.wrap ((wrap64 (2 * (wrap64 (bt a0 0)))) + 2)) = bD := (i64_w _).trans bG
   by_cases c12 : 0 ≤ (bD)
   rotate_left
   · rw [if_neg c12] at H; exact absurd H (by simp)
   rw [if_pos c12] at H
   have c12b0 := eq_true c12
   have c12b1 : decide (0 ≤ (bD)) = true := decide_eq_true c12
   clear c12
   by_cases c13 : (bD : Int).toNat ≤ 35184372088832
   rotate_left
   · rw [if_neg c13] at H; exact absurd H (by simp)
   rw [if_pos c13] at H
   have c13b0 := eq_true c13
   have c13b1 : decide ((bD : Int).toNat ≤ 35184372088832) = true := decide_eq_true c13
   clear c13
   obtain ⟨y163, hy163⟩ : ∃ y_ : List Int, y_ = (List.replicate (bD : Int).toNat 0) := ⟨_, rfl⟩
   replace H : (check_Get.l0 kj1 a0 (wrap64 (bt a0 0)) y163 (y163.length : Int) 0) = some (r1, r2, r3, r4, r5, r6) := by first | (rw [hy163]; with_reducible exact H) | (have H2_ := (Option.bind_some _ _).symm.trans H; rw [hy163]; with_reducible exact H2_) | (have H2_ := (Option.bind_some _ _).symm.trans H; with_reducible exact H2_) | with_reducible exact H | (rw [hy163]; exact H) | exact H
   have bL := Aside0.mk hy163
   clear hy163
   have H' := Aside0.mk H
   clear H
   have p10 : 0 ≤ (0 : Int) := (by omega)
   have q10 : 0 < a0.size := (by have : (0 : Int) < (a0.size : Int) := of_decide_eq_true (by first | (with_reducible assumption) | assumption); omega)
   have hx10 : ∀ h : 0 < a0.size, ((a0[0]'h).toNat : Int) = bt a0 0 := bt_at a0 0
   clear p10
   have qi10 : (0 < (a0.size : Int)) = True := eq_true (of_decide_eq_true (by first | (with_reducible assumption) | assumption))
   replace q10 := eq_true q10
   go_wp2_with (first | ((with_reducible refine gate_dst (N := 29) rfl ?_); (try (refine gate_guard (by rfl) ?_; dsimp only)); refine Kd.R_make (Kd.int .i64) _ 3 rfl (N := 29) rfl 37 _ _ rfl bD rfl rfl Try.underlying37 (.int .i64 0) 8 info3 rfl (by decide) (by omega) 0 (ok := fun _ => True) (okp := fun _ => True) rfl (fun _ hk => hk) trivial (of_decide_eq_true (by first | (with_reducible assumption) | assumption)) (Nat.le_trans (Nat.mul_le_mul_right _ (of_decide_eq_true (by first | (with_reducible assumption) | assumption) : bD.toNat ≤ 35184372088832)) (by omega)) (Below.refl _ _) (Nat.le_refl _) ?_; intro v164 w14 ho15 hb hg_ hnew_; clear hg_ hnew_; (first | rw [← bL.out] at ho15 | (simp only [Int.reduceToNat] at ho15; rw [← bL.out] at ho15)); have n0_ := Aside0.mk (Kd.R_lower (Kd.R_newM (M := fun k_ => (w.heap.size ≤ k_)) ho15 (below_size (by repeat (first | (with_reducible first | exact HB.out | apply below_alloc | apply pw_below_drewN | apply below_drew1 | refine below_set ?_ aM.out) | exact HB.out))) (fun k_ h_ => h_)) (below_size (by repeat (first | (with_reducible first | exact HB.out | apply below_alloc | apply pw_below_drewN | apply below_drew1 | refine below_set ?_ aM.out) | exact HB.out)))); have n1_ := Aside0.mk (blk_below (g := aE) (by (with_reducible repeat (first | refine blk_drewN ?_ _ | refine blk_drew ?_ | refine blk_alloc ?_ _)); exact aD.out) hb); have n2_ := Aside0.mk (below_step (by repeat (first | (with_reducible first | exact HB.out | apply below_alloc | apply pw_below_drewN | apply below_drew1 | refine below_set ?_ aM.out) | exact HB.out)) hb); clear aD; clear HB; have bM := n0_; have aD := n1_; have HB := n2_; clear n0_ n1_ n2_; clear hb ho15; obtain ⟨aX, aR, eo16⟩ := Kd.R_slice bM.out; subst eo16))
   go_loopg [32] kj1 (fun kq v32 w' => ∃ (x5_2 : List Int) (x32_2 : Int), v32 = .int .i64 x32_2 ∧ Aside0 (check_Get.l0 kq a0 (wrap64 (bt a0 0)) x5_2 (y163.length : Int) x32_2 = some (r1, r2, r3, r4, r5, r6)) ∧ Aside0 (kq ≤ kj1) ∧ Aside0 (Kd.R (Kd.int .i64) 3 w' w.heap.size (fun k_ => (w.heap.size ≤ k_)) (.slice aX y163.length aR) x5_2) ∧ Aside0 (w'.heap[aE]? = some (.cells #[(.slice none 0 0), (.slice none 0 0), .int .i64 0, .int .i64 0, .int .i64 0] 56 (0, 0))) ∧ Aside0 (Below w.heap.size w w'))
   case atStart => exact ⟨(y163), (0), (by first | rfl | (simp; done) | (simp [*]; done)), H', ⟨Nat.le_refl _⟩, ⟨by (with_reducible repeat (first | apply Kd.R_alloc | apply Kd.R_drewN | apply Kd.R_drew)); exact Kd.R_mono bM.out (fun _ hk => hk.1)⟩, ⟨by (with_reducible repeat (first | refine blk_drewN ?_ _ | refine blk_drew ?_ | refine blk_alloc ?_ _)); exact aD.out⟩, ⟨by repeat (first | (with_reducible first | exact HB.out | apply below_alloc | apply pw_below_drewN | apply below_drew1 | refine below_set ?_ aM.out) | exact HB.out)⟩⟩
   case round =>
    clear H'
    try clear c1
    try clear p1
    try clear q1
    try clear hx1
    try clear qi1
    try clear p2
    try clear c4
    try clear c4b0
    try clear c4b1
    try clear c5
    try clear c5b0
    try clear c5b1
    try clear p6
    try clear q6
    try clear hx6
    try clear qi6
    try clear c7
    try clear c9
    try clear c9b0
    try clear c9b1
    try clear p10
    try clear q10
    try clear hx10
    try clear qi10
    try clear c12
    try clear c12b0
    try clear c12b1
    try clear c13
    try clear c13b0
    try clear c13b1
    try clear hcz8_0
    try clear hcz8_1
    try clear hcz8_2
    try clear hcz8_3
    try clear hcz8_4
    try clear hfz8_0
    try clear hfz8_1
    try clear hfz8_2
    try clear hfz8_3
    try clear hfz8_4
    try clear p10
    try clear p2
    try clear p6
    try clear q10
    try clear q6
    obtain ⟨x5_2, x32_2, rfl, HA, HK2, aC, aD, HB⟩ := hrel
    have hl5_2 := (Kd.R_reads' aC.out).1
    rw [hl5_2] at aC
    (try simp only [hl5_2])
    (try simp only [hl5_2] at aD)
    cases gk with
    | zero => exact absurd HA.out (by simp [check_Get.l0])
    | succ k2 =>
     have H := HA.out
     clear HA
     simp only [check_Get.l0] at H
     by_cases c17 : x32_2 < (y163.length : Int)
     · rw [if_pos c17] at H
       have c17b0 : decide (x32_2 < (y163.length : Int)) = true := decide_eq_true c17
       clear c17
       obtain ⟨bE, bJ⟩ : ∃ j_ : Int, (wrap64 (1 + (wrap64 (4 * x32_2)))) = j_ := ⟨_, rfl⟩
       replace H : (if 0 ≤ (bE) then (if (bE) ≤ (a0.size : Int) then ((check_get.f k2 (a0.extract ((bE) : Int).toNat a0.size)).bind fun t166 => (if 0 ≤ x32_2 then (if x32_2 < (x5_2.length : Int) then (check_Get.l0 k2 a0 (wrap64 (bt a0 0)) (x5_2.set (x32_2 : Int).toNat t166) (y163.length : Int) (wrap64 (x32_2 + 1))) else (none)) else (none))) else (none)) else (none)) = some (r1, r2, r3, r4, r5, r6) := by first | (rw [bJ] at H; exact H) | (simp only [bJ] at H ⊢; exact H)
       have hji18w : (IntKind.i64.wrap (1 + (wrap64 (4 * x32_2)))) = bE := (i64_w _).trans bJ
       by_cases c19 : 0 ≤ (bE)
       rotate_left
       · rw [if_neg c19] at H; exact absurd H (by simp)
       rw [if_pos c19] at H
       have c19b0 := eq_true c19
       have c19b1 : decide (0 ≤ (bE)) = true := decide_eq_true c19
       clear c19
       by_cases c20 : (bE) ≤ (a0.size : Int)
       rotate_left
       · rw [if_neg c20] at H; exact absurd H (by simp)
       rw [if_pos c20] at H
       have c20b0 := eq_true c20
       have c20b1 : decide ((bE) ≤ (a0.size : Int)) = true := decide_eq_true c20
       clear c20
       replace H := Option.bind_eq_some_iff.mp H
       obtain ⟨t166, A210, H⟩ := H
       (try dsimp only at H)
       have A21 := Aside0.mk A210
       clear A210
       by_cases c22 : 0 ≤ x32_2
       rotate_left
       · rw [if_neg c22] at H; exact absurd H (by simp)
       rw [if_pos c22] at H
       have c22b0 : decide (0 ≤ x32_2) = true := decide_eq_true c22
       clear c22
       by_cases c23 : x32_2 < (x5_2.length : Int)
       rotate_left
       · rw [if_neg c23] at H; exact absurd H (by simp)
       rw [if_pos c23] at H
       have c23b0 : decide (x32_2 < (x5_2.length : Int)) = true := decide_eq_true c23
       clear c23
       obtain ⟨y167, hy167⟩ : ∃ y_ : List Int, y_ = (x5_2.set (x32_2 : Int).toNat t166) := ⟨_, rfl⟩
       replace H : (check_Get.l0 k2 a0 (wrap64 (bt a0 0)) y167 (y163.length : Int) (wrap64 (x32_2 + 1))) = some (r1, r2, r3, r4, r5, r6) := by first | (rw [hy167]; with_reducible exact H) | (have H2_ := (Option.bind_some _ _).symm.trans H; rw [hy167]; with_reducible exact H2_) | (have H2_ := (Option.bind_some _ _).symm.trans H; with_reducible exact H2_) | with_reducible exact H | (rw [hy167]; exact H) | exact H
       have Ny167 := Aside0.mk hy167
       clear hy167
       have H' := Aside0.mk H
       clear H
       go_wp2_with (first | ((with_reducible refine gate_callee (f := 77) rfl ?_); refine goesL_ (some 42) rfl rfl Try.func77 (by kernel_rfl) rfl #[.string (a0.extract ((bE) : Int).toNat a0.size)] rfl (by (try simp only [List.map_toArray, List.map_cons, List.map_nil]); first | done | (simp only [bJ]; rfl) | rfl | (simp only [List.length_drop, List.length_take]; rfl)) ?_; (with_reducible refine (check_get.calls k2 (a0.extract ((bE) : Int).toNat a0.size) t166 _ A21.out).mono ?_); rintro e w' ⟨rfl, ⟨nd, rfl⟩⟩; refine ⟨_, rfl, ?_⟩; (try (rw [drewN_self wr]; generalize hq_ : World.drewN wr _ = wr; have n0_ : Aside0 (Kd.R (Kd.int .i64) 3 wr w.heap.size (fun k_ => (w.heap.size ≤ k_)) (.slice aX x5_2.length aR) x5_2) := ⟨by rw [← hq_]; exact (by (with_reducible repeat (first | apply Kd.R_alloc | apply Kd.R_drewN | apply Kd.R_drew)); exact aC.out)⟩; have n1_ : Aside0 (wr.heap[aE]? = some (.cells #[.slice none 0 0, .slice none 0 0, .int .i64 0, .int .i64 0, .int .i64 0] 56 (0, 0))) := ⟨by rw [← hq_]; exact (by (with_reducible repeat (first | refine blk_drewN ?_ _ | refine blk_drew ?_ | refine blk_alloc ?_ _)); exact aD.out)⟩; have n2_ : Aside0 (Below w.heap.size w wr) := ⟨by rw [← hq_]; exact (by repeat (first | (with_reducible first | exact HB.out | apply below_alloc | apply pw_below_drewN | apply below_drew1 | refine below_set ?_ aM.out) | exact HB.out))⟩; clear aC aD HB hq_; have aC := n0_; have aD := n1_; have HB := n2_; clear n0_ n1_ n2_)); have p24 : 0 ≤ (x32_2 : Int) := of_decide_eq_true (by first | (with_reducible assumption) | assumption); have q24 : (x32_2 : Int) < ((x5_2.length : Int) : Int) := of_decide_eq_true (by first | (with_reducible assumption) | assumption); obtain ⟨bN, co24, bW, bP, gl24, cl24, HG24⟩ := Kd.R_form aC.out (by omega); (first | cases bW | (injection bW with ea_ en_ ec_; (first | subst ea_ | (injection ea_ with ea_; subst ea_)); subst ec_; clear en_)); have GB24 := Aside0.mk bP; have GG24 := Aside0.mk HG24; clear bP gl24 HG24; obtain ⟨hx24_0, hf24_0⟩ := Kd.R_celln 0 aC.out (x32_2 : Int) p24 q24; replace p24 := eq_true p24; replace q24 := eq_true q24; obtain ⟨hy25_, hz25_⟩ := Kd.R_celln 0 aC.out (x32_2 : Int) (of_decide_eq_true (by first | (with_reducible assumption) | assumption)) (of_decide_eq_true (by first | (with_reducible assumption) | assumption)); have bO := Kd.R_putg aC.out (x32_2 : Int) t166) | ((with_reducible refine gate_store (t := 3) (p := 43) rfl ?_); refine store_event (t := 3) (p := 43) (v := ?vo_w26) (w1 := (wr.setCell ⟨bN, (x32_2 : Int).toNat, none⟩ (.int .i64 t166))) ?hg ?ho ?hn ?hr ?_; (case ho => rfl); (case hg => rfl); (case hn => rfl); (case hr => first | (go_simp; done) | (go_simp; rfl)); intro w26 hw; have hg : wr.grownBy w26 (some bN) := (by rw [hw]; exact bO.2); have hp_ : Kd.R (Kd.int .i64) 3 w26 w.heap.size (fun k_ => (w.heap.size ≤ k_)) (.slice (some ⟨bN, 0, none⟩) x5_2.length aR) y167 := (by rw [hw, Ny167.out]; exact bO.1); clear bO; have n0_ := Aside0.mk (hp_); have n1_ := Aside0.mk (blk_grown (g := aE) (o := .cells #[.slice none 0 0, .slice none 0 0, .int .i64 0, .int .i64 0, .int .i64 0] 56 (0, 0)) (by (with_reducible repeat (first | refine blk_drewN ?_ _ | refine blk_drew ?_ | refine blk_alloc ?_ _)); exact aD.out) hg (Kd.R_ne aC.out aD.out (by decide))); have n2_ := Aside0.mk ((by rw [hw]; exact below_set (HB.out) GB24.out : Below w.heap.size w w26)); clear aC; clear aD; clear HB; have aC := n0_; have aD := n1_; have HB := n2_; clear n0_ n1_ n2_; clear hg hw hp_))
       (try simp only [← hl5_2])
       go_roundg k2
       case measure => have := HJ1.out; have := HK2.out; omega
       case rel => exact ⟨(y167), (wrap64 (x32_2 + 1)), (by first | rfl | (simp; done) | (simp [*]; done)), H', ⟨by have := HJ1.out; have := HK2.out; omega⟩, ⟨by (try simp only [hl5_2]); (with_reducible repeat (first | apply Kd.R_alloc | apply Kd.R_drewN | apply Kd.R_drew)); exact aC.out⟩, ⟨by (try simp only [hl5_2]); (with_reducible repeat (first | refine blk_drewN ?_ _ | refine blk_drew ?_ | refine blk_alloc ?_ _)); exact aD.out⟩, ⟨by repeat (first | (with_reducible first | exact HB.out | apply below_alloc | apply pw_below_drewN | apply below_drew1 | refine below_set ?_ aM.out) | exact HB.out)⟩⟩
     rw [if_neg c17] at H
     have c17b0 : decide (x32_2 < (y163.length : Int)) = false := decide_eq_false c17
     (try simp only [hl5_2] at c17b0)
     clear c17
     obtain ⟨aH, bF⟩ : ∃ j_ : Int, (wrap64 (bt a0 0)) = j_ := ⟨_, rfl⟩
     replace H : (if 0 ≤ (aH) then (if (aH) ≤ (x5_2.length : Int) then ((some (x5_2.take ((aH) : Int).toNat : List Int)).bind fun y168 => (if (aH) ≤ (wrap64 (2 * (aH))) then (if (wrap64 (2 * (aH))) ≤ (x5_2.length : Int) then ((slices_Clone_int_int.f ((x5_2.take ((wrap64 (2 * (aH))) : Int).toNat).drop ((aH) : Int).toNat)).bind fun t178 => (if 0 ≤ (wrap64 (2 * (aH))) then (if (wrap64 (2 * (aH))) < (x5_2.length : Int) then (if 0 ≤ (wrap64 ((wrap64 (2 * (aH))) + 1)) then (if (wrap64 ((wrap64 (2 * (aH))) + 1)) < (x5_2.length : Int) then (if 0 ≤ (wrap64 ((a0.size : Int) - 1)) then (if (wrap64 ((a0.size : Int) - 1)) < (a0.size : Int) then ((check_May.f k2 y168 t178 (rd x5_2 (wrap64 (2 * (aH)))) (rd x5_2 (wrap64 ((wrap64 (2 * (aH))) + 1))) (wrap64 (bt a0 (wrap64 ((a0.size : Int) - 1))))).bind fun t184 => (if t184 = true then (some (y168, t178, rd x5_2 (wrap64 (2 * (aH))), rd x5_2 (wrap64 ((wrap64 (2 * (aH))) + 1)), wrap64 (bt a0 (wrap64 ((a0.size : Int) - 1))), 0)) else (some (([] : List Int), ([] : List Int), 0, 0, 0, 1400)))) else (none)) else (none)) else (none)) else (none)) else (none)) else (none))) else (none)) else (none))) else (none)) else (none)) = some (r1, r2, r3, r4, r5, r6) := by first | (rw [bF] at H; exact H) | (simp only [bF] at H ⊢; exact H)
     have hji27w : (IntKind.i64.wrap (bt a0 0)) = aH := (i64_w _).trans bF
     by_cases c28 : 0 ≤ (aH)
     rotate_left
     · rw [if_neg c28] at H; exact absurd H (by simp)
     rw [if_pos c28] at H
     have c28b0 := eq_true c28
     have c28b1 : decide (0 ≤ (aH)) = true := decide_eq_true c28
     clear c28
     by_cases c29 : (aH) ≤ (x5_2.length : Int)
     rotate_left
     · rw [if_neg c29] at H; exact absurd H (by simp)
     rw [if_pos c29] at H
     have c29b0 := eq_true c29
     have c29b1 : decide ((aH) ≤ (x5_2.length : Int)) = true := decide_eq_true c29
     clear c29
     obtain ⟨y168, hy168⟩ : ∃ y_ : List Int, y_ = (x5_2.take ((aH) : Int).toNat) := ⟨_, rfl⟩
     replace H : (if (aH) ≤ (wrap64 (2 * (aH))) then (if (wrap64 (2 * (aH))) ≤ (x5_2.length : Int) then ((slices_Clone_int_int.f ((x5_2.take ((wrap64 (2 * (aH))) : Int).toNat).drop ((aH) : Int).toNat)).bind fun t178 => (if 0 ≤ (wrap64 (2 * (aH))) then (if (wrap64 (2 * (aH))) < (x5_2.length : Int) then (if 0 ≤ (wrap64 ((wrap64 (2 * (aH))) + 1)) then (if (wrap64 ((wrap64 (2 * (aH))) + 1)) < (x5_2.length : Int) then (if 0 ≤ (wrap64 ((a0.size : Int) - 1)) then (if (wrap64 ((a0.size : Int) - 1)) < (a0.size : Int) then ((check_May.f k2 y168 t178 (rd x5_2 (wrap64 (2 * (aH)))) (rd x5_2 (wrap64 ((wrap64 (2 * (aH))) + 1))) (wrap64 (bt a0 (wrap64 ((a0.size : Int) - 1))))).bind fun t184 => (if t184 = true then (some (y168, t178, rd x5_2 (wrap64 (2 * (aH))), rd x5_2 (wrap64 ((wrap64 (2 * (aH))) + 1)), wrap64 (bt a0 (wrap64 ((a0.size : Int) - 1))), 0)) else (some (([] : List Int), ([] : List Int), 0, 0, 0, 1400)))) else (none)) else (none)) else (none)) else (none)) else (none)) else (none))) else (none)) else (none)) = some (r1, r2, r3, r4, r5, r6) := by first | (rw [hy168]; with_reducible exact H) | (have H2_ := (Option.bind_some _ _).symm.trans H; rw [hy168]; with_reducible exact H2_) | (have H2_ := (Option.bind_some _ _).symm.trans H; with_reducible exact H2_) | with_reducible exact H | (rw [hy168]; exact H) | exact H
     have bI := Aside0.mk hy168
     clear hy168
     have c30b0 := eq_true (of_decide_eq_true (by first | (with_reducible assumption) | assumption) : 0 ≤ (aH))
     by_cases c31 : (aH) ≤ (wrap64 (2 * (aH)))
     rotate_left
     · rw [if_neg c31] at H; exact absurd H (by simp)
     rw [if_pos c31] at H
     have c31b0 := eq_true c31
     have c31b1 : decide ((aH) ≤ (wrap64 (2 * (aH)))) = true := decide_eq_true c31
     clear c31
     by_cases c32 : (wrap64 (2 * (aH))) ≤ (x5_2.length : Int)
     rotate_left
     · rw [if_neg c32] at H; exact absurd H (by simp)
     rw [if_pos c32] at H
     have c32b0 := eq_true c32
     have c32b1 : decide ((wrap64 (2 * (aH))) ≤ (x5_2.length : Int)) = true := decide_eq_true c32
     clear c32
     obtain ⟨y173, hy173⟩ : ∃ y_ : List Int, y_ = ((x5_2.take ((wrap64 (2 * (aH))) : Int).toNat).drop ((aH) : Int).toNat) := ⟨_, rfl⟩
     replace H : ((slices_Clone_int_int.f y173).bind fun t178 => (if 0 ≤ (wrap64 (2 * (aH))) then (if (wrap64 (2 * (aH))) < (x5_2.length : Int) then (if 0 ≤ (wrap64 ((wrap64 (2 * (aH))) + 1)) then (if (wrap64 ((wrap64 (2 * (aH))) + 1)) < (x5_2.length : Int) then (if 0 ≤ (wrap64 ((a0.size : Int) - 1)) then (if (wrap64 ((a0.size : Int) - 1)) < (a0.size : Int) then ((check_May.f k2 y168 t178 (rd x5_2 (wrap64 (2 * (aH)))) (rd x5_2 (wrap64 ((wrap64 (2 * (aH))) + 1))) (wrap64 (bt a0 (wrap64 ((a0.size : Int) - 1))))).bind fun t184 => (if t184 = true then (some (y168, t178, rd x5_2 (wrap64 (2 * (aH))), rd x5_2 (wrap64 ((wrap64 (2 * (aH))) + 1)), wrap64 (bt a0 (wrap64 ((a0.size : Int) - 1))), 0)) else (some (([] : List Int), ([] : List Int), 0, 0, 0, 1400)))) else (none)) else (none)) else (none)) else (none)) else (none)) else (none))) = some (r1, r2, r3, r4, r5, r6) := by first | (rw [hy173]; with_reducible exact H) | (have H2_ := (Option.bind_some _ _).symm.trans H; rw [hy173]; with_reducible exact H2_) | (have H2_ := (Option.bind_some _ _).symm.trans H; with_reducible exact H2_) | with_reducible exact H | (rw [hy173]; exact H) | exact H
     have bH := Aside0.mk hy173
     clear hy173
     replace H := Option.bind_eq_some_iff.mp H
     obtain ⟨t178, A330, H⟩ := H
     (try dsimp only at H)
     have A33 := Aside0.mk A330
     clear A330
     obtain ⟨aJ, aS⟩ : ∃ j_ : Int, (wrap64 (2 * (aH))) = j_ := ⟨_, rfl⟩
     replace H : (if 0 ≤ (aJ) then (if (aJ) < (x5_2.length : Int) then (if 0 ≤ (wrap64 ((aJ) + 1)) then (if (wrap64 ((aJ) + 1)) < (x5_2.length : Int) then (if 0 ≤ (wrap64 ((a0.size : Int) - 1)) then (if (wrap64 ((a0.size : Int) - 1)) < (a0.size : Int) then ((check_May.f k2 y168 t178 (rd x5_2 (aJ)) (rd x5_2 (wrap64 ((aJ) + 1))) (wrap64 (bt a0 (wrap64 ((a0.size : Int) - 1))))).bind fun t184 => (if t184 = true then (some (y168, t178, rd x5_2 (aJ), rd x5_2 (wrap64 ((aJ) + 1)), wrap64 (bt a0 (wrap64 ((a0.size : Int) - 1))), 0)) else (some (([] : List Int), ([] : List Int), 0, 0, 0, 1400)))) else (none)) else (none)) else (none)) else (none)) else (none)) else (none)) = some (r1, r2, r3, r4, r5, r6) := by first | (rw [aS] at H; exact H) | (simp only [aS] at H ⊢; exact H)
     (try rw [aS] at c31b0)
     (try rw [aS] at c31b1)
     (try rw [aS] at c32b0)
     (try rw [aS] at c32b1)
     (try rw [aS] at bH)
     (try rw [aS] at A33)
     have hji34w : (IntKind.i64.wrap (2 * (aH))) = aJ := (i64_w _).trans aS
     by_cases c35 : 0 ≤ (aJ)
     rotate_left
     · rw [if_neg c35] at H; exact absurd H (by simp)
     rw [if_pos c35] at H
     have c35b0 : decide (0 ≤ (aJ)) = true := decide_eq_true c35
     clear c35
     by_cases c36 : (aJ) < (x5_2.length : Int)
     rotate_left
     · rw [if_neg c36] at H; exact absurd H (by simp)
     rw [if_pos c36] at H
     have c36b0 : decide ((aJ) < (x5_2.length : Int)) = true := decide_eq_true c36
     clear c36
     obtain ⟨aN, bC⟩ : ∃ j_ : Int, (wrap64 ((aJ) + 1)) = j_ := ⟨_, rfl⟩
     replace H : (if 0 ≤ (aN) then (if (aN) < (x5_2.length : Int) then (if 0 ≤ (wrap64 ((a0.size : Int) - 1)) then (if (wrap64 ((a0.size : Int) - 1)) < (a0.size : Int) then ((check_May.f k2 y168 t178 (rd x5_2 (aJ)) (rd x5_2 (aN)) (wrap64 (bt a0 (wrap64 ((a0.size : Int) - 1))))).bind fun t184 => (if t184 = true then (some (y168, t178, rd x5_2 (aJ), rd x5_2 (aN), wrap64 (bt a0 (wrap64 ((a0.size : Int) - 1))), 0)) else (some (([] : List Int), ([] : List Int), 0, 0, 0, 1400)))) else (none)) else (none)) else (none)) else (none)) = some (r1, r2, r3, r4, r5, r6) := by first | (rw [bC] at H; exact H) | (simp only [bC] at H ⊢; exact H)
     (try rw [bC] at A33)
     have hji37w : (IntKind.i64.wrap ((aJ) + 1)) = aN := (i64_w _).trans bC
     by_cases c38 : 0 ≤ (aN)
     rotate_left
     · rw [if_neg c38] at H; exact absurd H (by simp)
     rw [if_pos c38] at H
     have c38b0 : decide (0 ≤ (aN)) = true := decide_eq_true c38
     clear c38
     by_cases c39 : (aN) < (x5_2.length : Int)
     rotate_left
     · rw [if_neg c39] at H; exact absurd H (by simp)
     rw [if_pos c39] at H
     have c39b0 : decide ((aN) < (x5_2.length : Int)) = true := decide_eq_true c39
     clear c39
     obtain ⟨aP, bB⟩ : ∃ j_ : Int, (wrap64 ((a0.size : Int) - 1)) = j_ := ⟨_, rfl⟩
     replace H : (if 0 ≤ (aP) then (if (aP) < (a0.size : Int) then ((check_May.f k2 y168 t178 (rd x5_2 (aJ)) (rd x5_2 (aN)) (wrap64 (bt a0 (aP)))).bind fun t184 => (if t184 = true then (some (y168, t178, rd x5_2 (aJ), rd x5_2 (aN), wrap64 (bt a0 (aP)), 0)) else (some (([] : List Int), ([] : List Int), 0, 0, 0, 1400)))) else (none)) else (none)) = some (r1, r2, r3, r4, r5, r6) := by first | (rw [bB] at H; exact H) | (simp only [bB] at H ⊢; exact H)
     (try rw [bB] at A33)
     have hji40w : (IntKind.i64.wrap ((a0.size : Int) - 1)) = aP := (i64_w _).trans bB
     by_cases c41 : 0 ≤ (aP)
     rotate_left
     · rw [if_neg c41] at H; exact absurd H (by simp)
     rw [if_pos c41] at H
     have c41b0 : decide (0 ≤ (aP)) = true := decide_eq_true c41
     clear c41
     by_cases c42 : (aP) < (a0.size : Int)
     rotate_left
     · rw [if_neg c42] at H; exact absurd H (by simp)
     rw [if_pos c42] at H
     have c42b0 : decide ((aP) < (a0.size : Int)) = true := decide_eq_true c42
     clear c42
     replace H := Option.bind_eq_some_iff.mp H
     obtain ⟨t184, A440, H⟩ := H
     (try dsimp only at H)
     have A44 := Aside0.mk A440
     clear A440
     by_cases c45 : t184 = true
     · subst c45
       have H1 : (some (y168, t178, rd x5_2 (aJ), rd x5_2 (aN), wrap64 (bt a0 (aP)), 0)) = some (r1, r2, r3, r4, r5, r6) := by rw [if_pos rfl] at H; exact H
       clear H
       have H := H1
       clear H1
       simp only [Option.some.injEq, Prod.mk.injEq] at H
       obtain ⟨rfl, rfl, rfl, rfl, rfl, rfl⟩ := H
       try go_wp2
       have n0_ := Aside0.mk (Kd.R_drew aC.out)
       have n1_ := Aside0.mk (blk_drew aD.out)
       have n2_ := Aside0.mk (below_drew1 HB.out)
       clear aC
       clear aD
       clear HB
       have aC := n0_
       have aD := n1_
       have HB := n2_
       clear n0_ n1_ n2_
       have q47 : ((aH) : Int) ≤ ((x5_2.length : Int) : Int) := of_decide_eq_true (by first | (with_reducible assumption) | assumption)
       obtain ⟨i047, hi047, _, hsz47, _⟩ := info_parts info3
       have hroom47 : x5_2.length ≤ aR := (Kd.R_reads' aC.out).2.1
       have hC47 : Kd.F (Kd.int .i64) _ _ aX x5_2.length x5_2 := (Kd.V_at (base := w.heap.size) (Kd.R_V (Kd.R_types (aC.out) aD.out (by decide)))).2.2
       have hcut47 := cut_to3 (P := Try.prog) 37 3 .i64 Try.underlying37 hi047 aX x5_2.length aR (aH) (of_decide_eq_true (by first | (with_reducible assumption) | assumption)) q47 hroom47
       have hr47 := Kd.F_take (m := ((aH) : Int).toNat) hC47 (by omega)
       have hy47 : y168.length = ((aH) : Int).toNat := (by rw [bI.out, List.length_take]; omega)
       rw [← bI.out] at hr47
       rw [← hy47] at hcut47
       have aL := Aside0.mk (show Kd.V (Kd.int .i64) 3 _ w.heap.size _ (.slice aX y168.length y168.length) y168 from Kd.V_mk (by omega) hr47)
       have HC172 := Aside0.mk (show y168.length ≤ aR from by omega)
       clear hr47 hC47 hroom47 hi047 hsz47
       have KY47 := Aside0.mk hy47
       clear hy47
       replace q47 := eq_true q47
       have q48 : ((aJ) : Int) ≤ ((x5_2.length : Int) : Int) := of_decide_eq_true (by first | (with_reducible assumption) | assumption)
       obtain ⟨i048, hi048, _, hsz48, _⟩ := info_parts info3
       have hroom48 : x5_2.length ≤ aR := (Kd.R_reads' aC.out).2.1
       have hC48 : Kd.F (Kd.int .i64) _ _ aX x5_2.length x5_2 := (Kd.V_at (base := w.heap.size) (Kd.R_V (Kd.R_types (aC.out) aD.out (by decide)))).2.2
       have ql48 : ((aH) : Int) ≤ ((aJ) : Int) := of_decide_eq_true (by first | (with_reducible assumption) | assumption)
       have q048 : (0 : Int) ≤ ((aH) : Int) := of_decide_eq_true (by first | (with_reducible assumption) | assumption)
       have hcut48 := cut_mid (P := Try.prog) 37 3 .i64 .i64 Try.underlying37 hi048 1 hsz48 aX x5_2.length aR (aH) (aJ) q048 ql48 q48 hroom48
       have hr48 := Kd.F_mid (lo := ((aH) : Int).toNat) (hi := ((aJ) : Int).toNat) (c := aR) hC48 (by omega) (by omega) hroom48
       obtain ⟨A48, hA48⟩ : ∃ A1, A1 = (if aR = ((aH) : Int).toNat then aX else (aX : Option Addr).map (·.add (((aH) : Int).toNat * 1))) := ⟨_, rfl⟩
       obtain ⟨c48, hc48⟩ : ∃ c1, c1 = aR - ((aH) : Int).toNat := ⟨_, rfl⟩
       have hy48 : y173.length = ((aJ) : Int).toNat - ((aH) : Int).toNat := (by rw [bH.out, List.length_drop, List.length_take] <;> omega)
       rw [show ((x5_2).take ((aJ) : Int).toNat).drop ((aH) : Int).toNat = y173 from bH.out.symm] at hr48
       replace hr48 : Kd.F (Kd.int .i64) _ _ A48 y173.length y173 := (by rw [hA48]; exact hr48)
       rw [← hy48, ← hA48, ← hc48] at hcut48
       have aI := Aside0.mk (show Kd.V (Kd.int .i64) 3 _ w.heap.size _ (.slice A48 y173.length c48) y173 from Kd.V_mk (by rw [hy48, hc48]; exact Nat.sub_le_sub_right (Nat.le_trans (by omega) hroom48) _) hr48)
       have HC177 := Aside0.mk (show y173.length ≤ c48 from by rw [hy48, hc48]; exact Nat.sub_le_sub_right (Nat.le_trans (by omega) hroom48) _)
       clear hr48 hC48 hroom48 hi048 hsz48 hc48
       have KY48 := Aside0.mk hy48
       have KA48 := Aside0.mk hA48
       clear hy48 hA48
       replace q48 := eq_true q48
       have p181 : 0 ≤ ((aJ) : Int) := of_decide_eq_true (by first | (with_reducible assumption) | assumption)
       have q181 : (aJ) < (x5_2.length : Int) := of_decide_eq_true (by first | (with_reducible assumption) | assumption)
       obtain ⟨aF, e181, hx181_0⟩ := Kd.at_int (Kd.R_reads' aC.out).2.2 (aJ) p181 q181
       cases e181
       replace p181 := eq_true p181
       replace q181 := eq_true q181
       have p182 : 0 ≤ ((aN) : Int) := of_decide_eq_true (by first | (with_reducible assumption) | assumption)
       have q182 : (aN) < (x5_2.length : Int) := of_decide_eq_true (by first | (with_reducible assumption) | assumption)
       obtain ⟨bK, e182, hx182_0⟩ := Kd.at_int (Kd.R_reads' aC.out).2.2 (aN) p182 q182
       obtain rfl : aF = bK := (by injection e182)
       replace p182 := eq_true p182
       replace q182 := eq_true q182
       have p43 : 0 ≤ ((aP) : Int) := of_decide_eq_true (by first | (with_reducible assumption) | assumption)
       have q43 : (aP) < (a0.size : Int) := of_decide_eq_true (by first | (with_reducible assumption) | assumption)
       have hx43 := bt_at a0 (aP)
       replace p43 := eq_true p43
       replace q43 := eq_true q43
       refine start_ (n := 31) (S := fun w' => w'.cell? (aF.add ((aJ)).toNat) = some (.int .i64 (rd x5_2 (aJ))) ∧ w'.cell? (aF.add ((aN)).toNat) = some (.int .i64 (rd x5_2 (aN)))) (ds := []) #[false, false, false, false, false, false, false, false, false, false, false, false, false, false, false, false, false, false, false, false, false, false, false, false, false, false, false, false, false, false, false] (by kernel_rfl) rfl rfl ⟨hx181_0, hx182_0⟩ (fun hHeld => ?_); refine with_tabW check_Get.tab10 check_Get.bits10 (fun HT_ HW_ => ?_)
       generalize wr.drew = w46 at aC aD HB aL aI hx181_0 hx182_0 hHeld ⊢
       refine pure_ (i := 0) (N := some 45) (v := ?_) (a' := ?_) #[true, false, false, false, false, false, false, false, false, false, false, false, false, false, false, false, false, false, false, false, false, false, false, false, false, false, false, false, false, false, false] rfl rfl (any_of HT_.out (by kernel_rfl)) (fun _ _ _ h => h) (Or.inl ⟨by rfl, ?_⟩) ?_ ?_
       rotate_left
       · intro w'; go_simp; with_reducible rfl
       rotate_left
       · simp only [Act.put, List.setIfInBounds_toArray, List.set_cons_zero, List.set_cons_succ, i64_w, i32_w]; rfl
       refine pure_ (i := 1) (N := some 46) (v := ?_) (a' := ?_) #[true, true, false, false, false, false, false, false, false, false, false, false, false, false, false, false, false, false, false, false, false, false, false, false, false, false, false, false, false, false, false] rfl rfl (any_of HT_.out (by kernel_rfl)) (fun _ _ _ h => h) (Or.inl ⟨by rfl, ?_⟩) ?_ ?_
       rotate_left
       · intro w'; go_simp; with_reducible rfl
       rotate_left
       · simp only [Act.put, List.setIfInBounds_toArray, List.set_cons_zero, List.set_cons_succ, i64_w, i32_w]; rfl
       refine pure_ (i := 2) (N := some 47) (v := ?_) (a' := ?_) #[true, true, true, false, false, false, false, false, false, false, false, false, false, false, false, false, false, false, false, false, false, false, false, false, false, false, false, false, false, false, false] rfl rfl (any_of HT_.out (by kernel_rfl)) (fun _ _ _ h => h) (Or.inl ⟨by rfl, ?_⟩) ?_ ?_
       rotate_left
       · intro w'; go_simp; with_reducible rfl
       rotate_left
       · simp only [Act.put, List.setIfInBounds_toArray, List.set_cons_zero, List.set_cons_succ, i64_w, i32_w]; rfl
       refine pure_ (i := 3) (N := some 48) (v := ?_) (a' := ?_) #[true, true, true, true, false, false, false, false, false, false, false, false, false, false, false, false, false, false, false, false, false, false, false, false, false, false, false, false, false, false, false] rfl rfl (any_of HT_.out (by kernel_rfl)) (fun _ _ _ h => h) (Or.inl ⟨by rfl, ?_⟩) ?_ ?_
       rotate_left
       · intro w'; go_simp; with_reducible rfl
       rotate_left
       · simp only [Act.put, List.setIfInBounds_toArray, List.set_cons_zero, List.set_cons_succ, i64_w, i32_w]; rfl
       refine pure_ (i := 4) (N := some 49) (v := ?_) (a' := ?_) #[true, true, true, true, true, false, false, false, false, false, false, false, false, false, false, false, false, false, false, false, false, false, false, false, false, false, false, false, false, false, false] rfl rfl (any_of HT_.out (by kernel_rfl)) (fun _ _ _ h => h) (Or.inl ⟨by rfl, ?_⟩) ?_ ?_
       rotate_left
       · intro w'; go_simp; with_reducible rfl
       rotate_left
       · simp only [Act.put, List.setIfInBounds_toArray, List.set_cons_zero, List.set_cons_succ, i64_w, i32_w]; rfl
       refine pure_ (i := 5) (N := some 50) (v := ?_) (a' := ?_) #[true, true, true, true, true, true, false, false, false, false, false, false, false, false, false, false, false, false, false, false, false, false, false, false, false, false, false, false, false, false, false] rfl rfl (any_of HT_.out (by kernel_rfl)) (fun _ _ _ h => h) (Or.inl ⟨by rfl, ?_⟩) ?_ ?_
       rotate_left
       · intro w'; go_simp; with_reducible rfl
       rotate_left
       · simp only [Act.put, List.setIfInBounds_toArray, List.set_cons_zero, List.set_cons_succ, i64_w, i32_w]; rfl
       refine pure_ (i := 6) (N := some 51) (v := ?_) (a' := ?_) #[true, true, true, true, true, true, true, false, false, false, false, false, false, false, false, false, false, false, false, false, false, false, false, false, false, false, false, false, false, false, false] rfl rfl (any_of HT_.out (by kernel_rfl)) (fun _ _ _ h => h) (Or.inl ⟨by rfl, ?_⟩) ?_ ?_
       rotate_left
       · intro w'; go_simp; with_reducible rfl
       rotate_left
       · simp only [Act.put, List.setIfInBounds_toArray, List.set_cons_zero, List.set_cons_succ, i64_w, i32_w]; rfl
       refine pure_ (i := 7) (N := some 52) (v := ?_) (a' := ?_) #[true, true, true, true, true, true, true, true, false, false, false, false, false, false, false, false, false, false, false, false, false, false, false, false, false, false, false, false, false, false, false] rfl rfl (any_of HT_.out (by kernel_rfl)) (fun _ _ _ h => h) (Or.inl ⟨by rfl, ?_⟩) ?_ ?_
       rotate_left
       · intro w'; go_simp; with_reducible rfl
       rotate_left
       · simp only [Act.put, List.setIfInBounds_toArray, List.set_cons_zero, List.set_cons_succ, i64_w, i32_w]; rfl
       refine pure_ (i := 8) (N := some 53) (v := ?_) (a' := ?_) #[true, true, true, true, true, true, true, true, true, false, false, false, false, false, false, false, false, false, false, false, false, false, false, false, false, false, false, false, false, false, false] rfl rfl (any_of HT_.out (by kernel_rfl)) (fun _ _ _ h => h) (Or.inl ⟨by rfl, ?_⟩) ?_ ?_
       rotate_left
       · intro w'; go_simp; with_reducible rfl
       rotate_left
       · simp only [Act.put, List.setIfInBounds_toArray, List.set_cons_zero, List.set_cons_succ, i64_w, i32_w]; rfl
       refine pure_ (i := 10) (N := some 55) (v := ?_) (a' := ?_) #[true, true, true, true, true, true, true, true, true, false, true, false, false, false, false, false, false, false, false, false, false, false, false, false, false, false, false, false, false, false, false] rfl rfl (any_of HT_.out (by kernel_rfl)) (fun _ _ _ h => h) (Or.inl ⟨by rfl, ?_⟩) ?_ ?_
       rotate_left
       · intro w'; go_simp; with_reducible rfl
       rotate_left
       · simp only [Act.put, List.setIfInBounds_toArray, List.set_cons_zero, List.set_cons_succ, i64_w, i32_w]; rfl
       refine pure_ (i := 11) (N := some 56) (v := ?_) (a' := ?_) #[true, true, true, true, true, true, true, true, true, false, true, true, false, false, false, false, false, false, false, false, false, false, false, false, false, false, false, false, false, false, false] rfl rfl (any_of HT_.out (by kernel_rfl)) (fun _ _ _ h => h) (Or.inl ⟨by rfl, ?_⟩) ?_ ?_
       rotate_left
       · intro w'; go_simp; with_reducible rfl
       rotate_left
       · simp only [Act.put, List.setIfInBounds_toArray, List.set_cons_zero, List.set_cons_succ, i64_w, i32_w]; rfl
       refine pure_ (i := 12) (N := some 57) (v := ?_) (a' := ?_) #[true, true, true, true, true, true, true, true, true, false, true, true, true, false, false, false, false, false, false, false, false, false, false, false, false, false, false, false, false, false, false] rfl rfl (any_of HT_.out (by kernel_rfl)) (fun _ _ _ h => h) (Or.inl ⟨by rfl, ?_⟩) ?_ ?_
       rotate_left
       · intro w'; go_simp; with_reducible rfl
       rotate_left
       · simp only [Act.put, List.setIfInBounds_toArray, List.set_cons_zero, List.set_cons_succ, i64_w, i32_w]; rfl
       refine pure_ (i := 13) (N := some 58) (v := ?_) (a' := ?_) #[true, true, true, true, true, true, true, true, true, false, true, true, true, true, false, false, false, false, false, false, false, false, false, false, false, false, false, false, false, false, false] rfl rfl (any_of HT_.out (by kernel_rfl)) (fun _ _ _ h => h) (Or.inl ⟨by rfl, ?_⟩) ?_ ?_
       rotate_left
       · intro w'; go_simp; with_reducible rfl
       rotate_left
       · simp only [Act.put, List.setIfInBounds_toArray, List.set_cons_zero, List.set_cons_succ, i64_w, i32_w]; rfl
       refine pure_ (i := 15) (N := some 60) (v := ?_) (a' := ?_) #[true, true, true, true, true, true, true, true, true, false, true, true, true, true, false, true, false, false, false, false, false, false, false, false, false, false, false, false, false, false, false] rfl rfl (any_of HT_.out (by kernel_rfl)) (fun _ _ _ h => h) (Or.inl ⟨by rfl, ?_⟩) ?_ ?_
       rotate_left
       · intro w'; go_simp; with_reducible rfl
       rotate_left
       · simp only [Act.put, List.setIfInBounds_toArray, List.set_cons_zero, List.set_cons_succ, i64_w, i32_w]; rfl
       refine pure_ (i := 16) (N := some 61) (v := ?_) (a' := ?_) #[true, true, true, true, true, true, true, true, true, false, true, true, true, true, false, true, true, false, false, false, false, false, false, false, false, false, false, false, false, false, false] rfl rfl (any_of HT_.out (by kernel_rfl)) (fun _ _ _ h => h) (Or.inl ⟨by rfl, ?_⟩) ?_ ?_
       rotate_left
       · intro w'; go_simp; with_reducible rfl
       rotate_left
       · simp only [Act.put, List.setIfInBounds_toArray, List.set_cons_zero, List.set_cons_succ, i64_w, i32_w]; rfl
       refine pure_ (i := 17) (N := some 62) (v := ?_) (a' := ?_) #[true, true, true, true, true, true, true, true, true, false, true, true, true, true, false, true, true, true, false, false, false, false, false, false, false, false, false, false, false, false, false] rfl rfl (any_of HT_.out (by kernel_rfl)) (fun _ _ _ h => h) (Or.inl ⟨by rfl, ?_⟩) ?_ ?_
       rotate_left
       · intro w'; go_simp; with_reducible rfl
       rotate_left
       · simp only [Act.put, List.setIfInBounds_toArray, List.set_cons_zero, List.set_cons_succ, i64_w, i32_w]; rfl
       refine pure_ (i := 18) (N := some 63) (v := ?_) (a' := ?_) #[true, true, true, true, true, true, true, true, true, false, true, true, true, true, false, true, true, true, true, false, false, false, false, false, false, false, false, false, false, false, false] rfl rfl (any_of HT_.out (by kernel_rfl)) (fun _ _ _ h => h) (Or.inl ⟨by rfl, ?_⟩) ?_ ?_
       rotate_left
       · intro w'; go_simp; with_reducible rfl
       rotate_left
       · simp only [Act.put, List.setIfInBounds_toArray, List.set_cons_zero, List.set_cons_succ, i64_w, i32_w]; rfl
       refine pure_ (i := 19) (N := some 64) (v := ?_) (a' := ?_) #[true, true, true, true, true, true, true, true, true, false, true, true, true, true, false, true, true, true, true, true, false, false, false, false, false, false, false, false, false, false, false] rfl rfl (any_of HT_.out (by kernel_rfl)) (fun _ _ _ h => h) (Or.inl ⟨by rfl, ?_⟩) ?_ ?_
       rotate_left
       · intro w'; go_simp; with_reducible rfl
       rotate_left
       · simp only [Act.put, List.setIfInBounds_toArray, List.set_cons_zero, List.set_cons_succ, i64_w, i32_w]; rfl
       refine pure_ (i := 22) (N := some 67) (v := ?_) (a' := ?_) #[true, true, true, true, true, true, true, true, true, false, true, true, true, true, false, true, true, true, true, true, false, false, true, false, false, false, false, false, false, false, false] rfl rfl (any_of HT_.out (by kernel_rfl)) (fun _ _ _ h => h) (Or.inl ⟨by rfl, ?_⟩) ?_ ?_
       rotate_left
       · intro w'; go_simp; with_reducible rfl
       rotate_left
       · simp only [Act.put, List.setIfInBounds_toArray, List.set_cons_zero, List.set_cons_succ, i64_w, i32_w]; rfl
       refine pure_ (i := 23) (N := some 68) (v := ?_) (a' := ?_) #[true, true, true, true, true, true, true, true, true, false, true, true, true, true, false, true, true, true, true, true, false, false, true, true, false, false, false, false, false, false, false] rfl rfl (any_of HT_.out (by kernel_rfl)) (fun _ _ _ h => h) (Or.inl ⟨by rfl, ?_⟩) ?_ ?_
       rotate_left
       · intro w'; go_simp; with_reducible rfl
       rotate_left
       · simp only [Act.put, List.setIfInBounds_toArray, List.set_cons_zero, List.set_cons_succ, i64_w, i32_w]; rfl
       refine pure_ (i := 24) (N := some 69) (v := ?_) (a' := ?_) #[true, true, true, true, true, true, true, true, true, false, true, true, true, true, false, true, true, true, true, true, false, false, true, true, true, false, false, false, false, false, false] rfl rfl (any_of HT_.out (by kernel_rfl)) (fun _ _ _ h => h) (Or.inl ⟨by rfl, ?_⟩) ?_ ?_
       rotate_left
       · intro w'; go_simp; with_reducible rfl
       rotate_left
       · simp only [Act.put, List.setIfInBounds_toArray, List.set_cons_zero, List.set_cons_succ, i64_w, i32_w]; rfl
       refine pure_ (i := 25) (N := some 70) (v := ?_) (a' := ?_) #[true, true, true, true, true, true, true, true, true, false, true, true, true, true, false, true, true, true, true, true, false, false, true, true, true, true, false, false, false, false, false] rfl rfl (any_of HT_.out (by kernel_rfl)) (fun _ _ _ h => h) (Or.inl ⟨by rfl, ?_⟩) ?_ ?_
       rotate_left
       · intro w'; go_simp; with_reducible rfl
       rotate_left
       · simp only [Act.put, List.setIfInBounds_toArray, List.set_cons_zero, List.set_cons_succ, i64_w, i32_w]; rfl
       refine take_ (i := 14) (N := some 59) (v := ?_) (a' := ?_) #[true, true, true, true, true, true, true, true, true, false, true, true, true, true, true, true, true, true, true, true, false, false, true, true, true, true, false, false, false, false, false] rfl rfl (take_ofW HT_.out HW_.out (by kernel_rfl)) (fun _ _ _ h => h) (Or.inl ⟨by rfl, ?_⟩) hHeld ?_ ?_
       rotate_left
       · rintro w' ⟨s0, s1⟩; go_simp; with_reducible rfl
       rotate_left
       · simp only [Act.put, List.setIfInBounds_toArray, List.set_cons_zero, List.set_cons_succ, i64_w, i32_w]; rfl
       refine take_ (i := 20) (N := some 65) (v := ?_) (a' := ?_) #[true, true, true, true, true, true, true, true, true, false, true, true, true, true, true, true, true, true, true, true, true, false, true, true, true, true, false, false, false, false, false] rfl rfl (take_ofW HT_.out HW_.out (by kernel_rfl)) (fun _ _ _ h => h) (Or.inl ⟨by rfl, ?_⟩) hHeld ?_ ?_
       rotate_left
       · rintro w' ⟨s0, s1⟩; go_simp; with_reducible rfl
       rotate_left
       · simp only [Act.put, List.setIfInBounds_toArray, List.set_cons_zero, List.set_cons_succ, i64_w, i32_w]; rfl
       refine pure_ (i := 21) (N := some 66) (v := ?_) (a' := ?_) #[true, true, true, true, true, true, true, true, true, false, true, true, true, true, true, true, true, true, true, true, true, true, true, true, true, true, false, false, false, false, false] rfl rfl (any_of HT_.out (by kernel_rfl)) (fun _ _ _ h => h) (Or.inl ⟨by rfl, ?_⟩) ?_ ?_
       rotate_left
       · intro w'; go_simp; with_reducible rfl
       rotate_left
       · simp only [Act.put, List.setIfInBounds_toArray, List.set_cons_zero, List.set_cons_succ, i64_w, i32_w]; rfl
       refine take_ (i := 26) (N := some 71) (v := ?_) (a' := ?_) #[true, true, true, true, true, true, true, true, true, false, true, true, true, true, true, true, true, true, true, true, true, true, true, true, true, true, true, false, false, false, false] rfl rfl (take_ofW HT_.out HW_.out (by kernel_rfl)) (fun _ _ _ h => h) (Or.inl ⟨by rfl, ?_⟩) hHeld ?_ ?_
       rotate_left
       · rintro w' ⟨s0, s1⟩; go_simp; with_reducible rfl
       rotate_left
       · simp only [Act.put, List.setIfInBounds_toArray, List.set_cons_zero, List.set_cons_succ, i64_w, i32_w]; rfl
       refine pure_ (i := 27) (N := some 72) (v := ?_) (a' := ?_) #[true, true, true, true, true, true, true, true, true, false, true, true, true, true, true, true, true, true, true, true, true, true, true, true, true, true, true, true, false, false, false] rfl rfl (any_of HT_.out (by kernel_rfl)) (fun _ _ _ h => h) (Or.inl ⟨by rfl, ?_⟩) ?_ ?_
       rotate_left
       · intro w'; go_simp; with_reducible rfl
       rotate_left
       · simp only [Act.put, List.setIfInBounds_toArray, List.set_cons_zero, List.set_cons_succ, i64_w, i32_w]; rfl
       refine join_ (σ := Value × Nat) 1 #[true, true, true, true, true, true, true, true, true, true, true, true, true, true, true, true, true, true, true, true, true, true, true, true, true, true, true, true, true, true, false] (fun s_ => [(54, s_.1), (7, .pointer (some ⟨s_.2, 0, none⟩)), (73, .agg #[.slice (some aF) y168.length y168.length, s_.1, .int .i64 (rd x5_2 (aJ)), .int .i64 (rd x5_2 (aN)), .int .i64 (wrap64 (bt a0 (aP)))])]) (fun s_ w' => (w'.cell? (aF.add ((aJ)).toNat) = some (.int .i64 (rd x5_2 (aJ))) ∧ w'.cell? (aF.add ((aN)).toNat) = some (.int .i64 (rd x5_2 (aN)))) ∧ (Kd.V (Kd.int .i64) 3 w' w.heap.size (fun k_ => (w.heap.size ≤ k_) ∧ some k_ ≠ (s_.1 : Value).ownBlock ∧ k_ ≠ aE ∧ k_ ≠ s_.2) (.slice (some aF) y168.length y168.length) y168) ∧ (Kd.V (Kd.int .i64) 3 w' w.heap.size (fun k_ => (w.heap.size ≤ k_) ∧ some k_ ≠ (s_.1 : Value).ownBlock ∧ k_ ≠ aE ∧ k_ ≠ s_.2) (.slice A48 y173.length c48) y173) ∧ (Kd.R (Kd.int .i64) 3 w' w.heap.size (fun k_ => (w.heap.size ≤ k_) ∧ some k_ ≠ (.slice (some aF) x5_2.length aR : Value).ownBlock) s_.1 t178) ∧ (Kd.R (Kd.int .i64) 3 w' w.heap.size (fun k_ => (w.heap.size ≤ k_) ∧ some k_ ≠ (s_.1 : Value).ownBlock) (.slice (some aF) x5_2.length aR) x5_2) ∧ (w'.heap[aE]? = some (.cells #[.slice none 0 0, .slice none 0 0, .int .i64 0, .int .i64 0, .int .i64 0] 56 (0, 0))) ∧ (w'.heap[s_.2]? = some (.cells #[.slice none 0 0, .slice none 0 0, .int .i64 0, .int .i64 0, .int .i64 0] 56 (0, 0))) ∧ (w.heap.size ≤ s_.2) ∧ (w.heap.size ≤ s_.2) ∧ (aE ≠ s_.2) ∧ (s_.2 ≠ aE) ∧ (Below w.heap.size w w')) ?_ ?_
       rotate_left
       · intro hCont
         refine two_ (i := 9) (j := 29) (Ni := some 54) (Nj := some 7) #[true, true, true, true, true, true, true, true, true, true, true, true, true, true, true, true, true, true, true, true, true, true, true, true, true, true, true, true, false, false, false] #[true, true, true, true, true, true, true, true, true, false, true, true, true, true, true, true, true, true, true, true, true, true, true, true, true, true, true, true, false, true, false] rfl rfl rfl rfl (two_of HT_.out (by kernel_rfl)) (by decide) (by decide) (fun K hK => ?_) (fun K hK => ?_)
         · skip
           refine goes_ Try.func78 (by kernel_rfl) rfl #[.slice A48 y173.length c48] (by rfl) rfl rfl (by (try simp only [List.map_toArray, List.map_cons, List.map_nil]); first | done | rfl | (simp only [List.length_drop, List.length_take]; rfl)) ?_
           with_reducible refine (slices_Clone_int_int.calls _ _ y173 t178 _ ?side1 ?side2 A33.out).mono ?_
           (case side1 => repeat (first | (with_reducible refine Kd.C_alloc ?_ _) | (with_reducible refine Kd.C_drewN ?_ _) | (with_reducible refine Kd.C_drew ?_) | exact (Kd.V_reads' aI.out).2.2))
           (case side2 => exact (Kd.V_reads' aI.out).2.1)
           rintro e w49 ⟨v179, rfl, ho0, hb⟩
           have aZ := (hb.cell (World.block_lt_of_cell? _ _ (hHeld.1))).trans (hHeld.1)
           have aY := (hb.cell (World.block_lt_of_cell? _ _ (hHeld.2))).trans (hHeld.2)
           refine ⟨_, rfl, ?_⟩
           have n0_ := Aside0.mk (Kd.R_elder' (by (with_reducible repeat (first | apply Kd.R_alloc | apply Kd.R_drewN | apply Kd.R_drew)); exact aC.out) (Kd.R_base ho0) hb)
           have n1_ := Aside0.mk (Kd.V_elder' (by (with_reducible repeat (first | apply Kd.V_alloc | apply Kd.V_drewN | apply Kd.V_drew)); exact aL.out) (Kd.R_base ho0) hb)
           have n2_ := Aside0.mk (Kd.V_elder' (by (with_reducible repeat (first | apply Kd.V_alloc | apply Kd.V_drewN | apply Kd.V_drew)); exact aI.out) (Kd.R_base ho0) hb)
           have n3_ := Aside0.mk (Kd.R_lower (Kd.R_new' (Kd.R_newM (M := fun k_ => (w.heap.size ≤ k_)) ho0 (below_size (by repeat (first | (with_reducible first | exact HB.out | apply below_alloc | apply pw_below_drewN | apply below_drew1 | refine below_set ?_ aM.out) | exact HB.out))) (fun k_ h_ => h_)) (Kd.R_lt (by (with_reducible repeat (first | apply Kd.R_alloc | apply Kd.R_drewN | apply Kd.R_drew)); exact aC.out))) (below_size (by repeat (first | (with_reducible first | exact HB.out | apply below_alloc | apply pw_below_drewN | apply below_drew1 | refine below_set ?_ aM.out) | exact HB.out))))
           have n4_ := Aside0.mk (blk_below (g := aE) (by (with_reducible repeat (first | refine blk_drewN ?_ _ | refine blk_drew ?_ | refine blk_alloc ?_ _)); exact aD.out) hb)
           have n5_ := Aside0.mk (below_step (by repeat (first | (with_reducible first | exact HB.out | apply below_alloc | apply pw_below_drewN | apply below_drew1 | refine below_set ?_ aM.out) | exact HB.out)) hb)
           clear aC
           clear aL
           clear aI
           clear aD
           clear HB
           have aC := n0_
           have aL := n1_
           have aI := n2_
           have aO := n3_
           have aD := n4_
           have HB := n5_
           clear n0_ n1_ n2_ n3_ n4_ n5_
           (try clear hb)
           (try clear hb2)
           (try clear hk)
           (try clear hi)
           (try clear ho0)
           obtain ⟨Ao50, co50, bV⟩ := Kd.R_slice aO.out
           (first | subst bV | (injection bV with f1_ f2_ f3_; have f4_ := f1_.symm; have f5_ := f3_.symm; clear f1_ f2_ f3_; subst f4_; subst f5_))
           refine hK.out _ _ ⟨aZ, aY⟩ (fun hHeld => ?_)
           clear hK K
           refine norm_ (a' := ?_) ?_ ?_
           rotate_left
           · show Act.put _ (some 54) _ = _; simp only [Act.put, List.setIfInBounds_toArray, List.set_cons_zero, List.set_cons_succ, i64_w, i32_w]; rfl
           refine pure_ (i := 28) (N := some 73) (v := ?_) (a' := ?_) #[true, true, true, true, true, true, true, true, true, true, true, true, true, true, true, true, true, true, true, true, true, true, true, true, true, true, true, true, true, false, false] rfl rfl (any_of HT_.out (by kernel_rfl)) (fun _ _ _ h => h) (Or.inl ⟨by rfl, ?_⟩) ?_ ?_
           rotate_left
           · intro w'; go_simp; with_reducible rfl
           rotate_left
           · simp only [Act.put, List.setIfInBounds_toArray, List.set_cons_zero, List.set_cons_succ, i64_w, i32_w]; rfl
           refine one_ (i := 29) (N := some 7) #[true, true, true, true, true, true, true, true, true, true, true, true, true, true, true, true, true, true, true, true, true, true, true, true, true, true, true, true, true, true, false] rfl rfl (one_of HT_.out (by kernel_rfl)) (by decide) (fun K hK => ?_)
           refine box_step ?hg (N := 7) ?hd (cs := #[.slice none 0 0, .slice none 0 0, .int .i64 0, .int .i64 0, .int .i64 0]) (t := 56) ?hr ?_; (case hd => rfl); (case hg => rfl); (case hr => first | (go_simp; done) | (go_simp; rfl))
           intro aA hg w51 hbox hb
           have aZ := (hb.cell (World.block_lt_of_cell? _ _ (hHeld.1))).trans (hHeld.1)
           have aY := (hb.cell (World.block_lt_of_cell? _ _ (hHeld.2))).trans (hHeld.2)
           have n0_ := Aside0.mk (Kd.R_below (by (with_reducible repeat (first | apply Kd.R_alloc | apply Kd.R_drewN | apply Kd.R_drew)); exact aC.out) hb)
           have n1_ := Aside0.mk (Kd.V_below (Kd.V_elderB (by (with_reducible repeat (first | apply Kd.V_alloc | apply Kd.V_drewN | apply Kd.V_drew)); exact aL.out) aA (Nat.le_of_eq hg.symm)) hb)
           have n2_ := Aside0.mk (Kd.V_below (Kd.V_elderB (by (with_reducible repeat (first | apply Kd.V_alloc | apply Kd.V_drewN | apply Kd.V_drew)); exact aI.out) aA (Nat.le_of_eq hg.symm)) hb)
           have n3_ := Aside0.mk (Kd.R_below (by (with_reducible repeat (first | apply Kd.R_alloc | apply Kd.R_drewN | apply Kd.R_drew)); exact aO.out) hb)
           have n4_ := Aside0.mk (blk_below (g := aE) (by (with_reducible repeat (first | refine blk_drewN ?_ _ | refine blk_drew ?_ | refine blk_alloc ?_ _)); exact aD.out) hb)
           have n5_ := Aside0.mk (below_step (by repeat (first | (with_reducible first | exact HB.out | apply below_alloc | apply pw_below_drewN | apply below_drew1 | refine below_set ?_ aM.out) | exact HB.out)) hb)
           have n6_ := Aside0.mk (hbox)
           have n7_ := Aside0.mk ((by rw [hg]; exact (below_size (by repeat (first | (with_reducible first | exact HB.out | apply below_alloc | apply pw_below_drewN | apply below_drew1 | refine below_set ?_ aM.out) | exact HB.out))) : w.heap.size ≤ aA))
           have n8_ := Aside0.mk ((by rw [hg]; exact (below_size (by repeat (first | (with_reducible first | exact HB.out | apply below_alloc | apply pw_below_drewN | apply below_drew1 | refine below_set ?_ aM.out) | exact HB.out))) : w.heap.size ≤ aA))
           have n9_ := Aside0.mk ((by rw [hg]; exact Nat.ne_of_lt (blk_lt (g := aE) (o := .cells #[.slice none 0 0, .slice none 0 0, .int .i64 0, .int .i64 0, .int .i64 0] 56 (0, 0)) (by (with_reducible repeat (first | refine blk_drewN ?_ _ | refine blk_drew ?_ | refine blk_alloc ?_ _)); exact aD.out)) : aE ≠ aA))
           have n10_ := Aside0.mk ((by rw [hg]; exact Nat.ne_of_gt (blk_lt (g := aE) (o := .cells #[.slice none 0 0, .slice none 0 0, .int .i64 0, .int .i64 0, .int .i64 0] 56 (0, 0)) (by (with_reducible repeat (first | refine blk_drewN ?_ _ | refine blk_drew ?_ | refine blk_alloc ?_ _)); exact aD.out)) : aA ≠ aE))
           clear aC
           clear aL
           clear aI
           clear aO
           clear aD
           clear HB
           have aC := n0_
           have aL := n1_
           have aI := n2_
           have aO := n3_
           have aD := n4_
           have HB := n5_
           have aB := n6_
           have bA := n7_
           have aQ := n8_
           have aG := n9_
           have aK := n10_
           clear n0_ n1_ n2_ n3_ n4_ n5_ n6_ n7_ n8_ n9_ n10_
           clear hb hbox hg
           refine hK.out _ _ ⟨aZ, aY⟩ (fun hHeld => ?_)
           clear hK K
           refine norm_ (a' := ?_) ?_ ?_
           rotate_left
           · show Act.put _ (some 7) _ = _; simp only [Act.put, List.setIfInBounds_toArray, List.set_cons_zero, List.set_cons_succ, i64_w, i32_w]; rfl
           exact norm_ (by simp only [putAll, Act.put, List.setIfInBounds_toArray, List.set_cons_zero, List.set_cons_succ]) (hCont (.slice Ao50 t178.length co50, aA) _ ⟨hHeld, (by (with_reducible repeat (first | apply Kd.V_alloc | apply Kd.V_drewN | apply Kd.V_drew)); exact Kd.V_mono aL.out (fun _ hk => ⟨hk.1.1.1, ⟨hk.1.2, ⟨hk.1.1.2, hk.2⟩⟩⟩)), (by (with_reducible repeat (first | apply Kd.V_alloc | apply Kd.V_drewN | apply Kd.V_drew)); exact Kd.V_mono aI.out (fun _ hk => ⟨hk.1.1.1, ⟨hk.1.2, ⟨hk.1.1.2, hk.2⟩⟩⟩)), (by (with_reducible repeat (first | apply Kd.R_alloc | apply Kd.R_drewN | apply Kd.R_drew)); exact Kd.R_mono aO.out (fun _ hk => ⟨hk.1.1, hk.2⟩)), (by (with_reducible repeat (first | apply Kd.R_alloc | apply Kd.R_drewN | apply Kd.R_drew)); exact aC.out), (by (with_reducible repeat (first | refine blk_drewN ?_ _ | refine blk_drew ?_ | refine blk_alloc ?_ _)); exact aD.out), (by (with_reducible repeat (first | refine blk_drewN ?_ _ | refine blk_drew ?_ | refine blk_alloc ?_ _)); exact aB.out), bA.out, aQ.out, aG.out, aK.out, (by repeat (first | (with_reducible first | exact HB.out | apply below_alloc | apply pw_below_drewN | apply below_drew1 | refine below_set ?_ aM.out | refine below_set ?_ aQ.out) | exact HB.out))⟩)
         · skip
           refine box_step ?hg (N := 7) ?hd (cs := #[.slice none 0 0, .slice none 0 0, .int .i64 0, .int .i64 0, .int .i64 0]) (t := 56) ?hr ?_; (case hd => rfl); (case hg => rfl); (case hr => first | (go_simp; done) | (go_simp; rfl))
           intro aA hg w49 hbox hb
           have aZ := (hb.cell (World.block_lt_of_cell? _ _ (hHeld.1))).trans (hHeld.1)
           have aY := (hb.cell (World.block_lt_of_cell? _ _ (hHeld.2))).trans (hHeld.2)
           have n0_ := Aside0.mk (Kd.R_below (by (with_reducible repeat (first | apply Kd.R_alloc | apply Kd.R_drewN | apply Kd.R_drew)); exact aC.out) hb)
           have n1_ := Aside0.mk (Kd.V_below (Kd.V_elderB (by (with_reducible repeat (first | apply Kd.V_alloc | apply Kd.V_drewN | apply Kd.V_drew)); exact aL.out) aA (Nat.le_of_eq hg.symm)) hb)
           have n2_ := Aside0.mk (Kd.V_below (Kd.V_elderB (by (with_reducible repeat (first | apply Kd.V_alloc | apply Kd.V_drewN | apply Kd.V_drew)); exact aI.out) aA (Nat.le_of_eq hg.symm)) hb)
           have n3_ := Aside0.mk (blk_below (g := aE) (by (with_reducible repeat (first | refine blk_drewN ?_ _ | refine blk_drew ?_ | refine blk_alloc ?_ _)); exact aD.out) hb)
           have n4_ := Aside0.mk (below_step (by repeat (first | (with_reducible first | exact HB.out | apply below_alloc | apply pw_below_drewN | apply below_drew1 | refine below_set ?_ aM.out) | exact HB.out)) hb)
           have n5_ := Aside0.mk (hbox)
           have n6_ := Aside0.mk ((by rw [hg]; exact (below_size (by repeat (first | (with_reducible first | exact HB.out | apply below_alloc | apply pw_below_drewN | apply below_drew1 | refine below_set ?_ aM.out) | exact HB.out))) : w.heap.size ≤ aA))
           have n7_ := Aside0.mk ((by rw [hg]; exact (below_size (by repeat (first | (with_reducible first | exact HB.out | apply below_alloc | apply pw_below_drewN | apply below_drew1 | refine below_set ?_ aM.out) | exact HB.out))) : w.heap.size ≤ aA))
           have n8_ := Aside0.mk ((by rw [hg]; exact Nat.ne_of_lt (blk_lt (g := aE) (o := .cells #[.slice none 0 0, .slice none 0 0, .int .i64 0, .int .i64 0, .int .i64 0] 56 (0, 0)) (by (with_reducible repeat (first | refine blk_drewN ?_ _ | refine blk_drew ?_ | refine blk_alloc ?_ _)); exact aD.out)) : aE ≠ aA))
           have n9_ := Aside0.mk ((by rw [hg]; exact Nat.ne_of_gt (blk_lt (g := aE) (o := .cells #[.slice none 0 0, .slice none 0 0, .int .i64 0, .int .i64 0, .int .i64 0] 56 (0, 0)) (by (with_reducible repeat (first | refine blk_drewN ?_ _ | refine blk_drew ?_ | refine blk_alloc ?_ _)); exact aD.out)) : aA ≠ aE))
           clear aC
           clear aL
           clear aI
           clear aD
           clear HB
           have aC := n0_
           have aL := n1_
           have aI := n2_
           have aD := n3_
           have HB := n4_
           have aB := n5_
           have bA := n6_
           have aQ := n7_
           have aG := n8_
           have aK := n9_
           clear n0_ n1_ n2_ n3_ n4_ n5_ n6_ n7_ n8_ n9_
           clear hb hbox hg
           refine hK.out _ _ ⟨aZ, aY⟩ (fun hHeld => ?_)
           clear hK K
           refine norm_ (a' := ?_) ?_ ?_
           rotate_left
           · show Act.put _ (some 7) _ = _; simp only [Act.put, List.setIfInBounds_toArray, List.set_cons_zero, List.set_cons_succ, i64_w, i32_w]; rfl
           refine one_ (i := 9) (N := some 54) #[true, true, true, true, true, true, true, true, true, true, true, true, true, true, true, true, true, true, true, true, true, true, true, true, true, true, true, true, false, true, false] rfl rfl (one_of HT_.out (by kernel_rfl)) (by decide) (fun K hK => ?_)
           refine goes_ Try.func78 (by kernel_rfl) rfl #[.slice A48 y173.length c48] (by rfl) rfl rfl (by (try simp only [List.map_toArray, List.map_cons, List.map_nil]); first | done | rfl | (simp only [List.length_drop, List.length_take]; rfl)) ?_
           with_reducible refine (slices_Clone_int_int.calls _ _ y173 t178 _ ?side1 ?side2 A33.out).mono ?_
           (case side1 => repeat (first | (with_reducible refine Kd.C_alloc ?_ _) | (with_reducible refine Kd.C_drewN ?_ _) | (with_reducible refine Kd.C_drew ?_) | exact (Kd.V_reads' aI.out).2.2))
           (case side2 => exact (Kd.V_reads' aI.out).2.1)
           rintro e w50 ⟨v179, rfl, ho0, hb⟩
           have aZ := (hb.cell (World.block_lt_of_cell? _ _ (hHeld.1))).trans (hHeld.1)
           have aY := (hb.cell (World.block_lt_of_cell? _ _ (hHeld.2))).trans (hHeld.2)
           refine ⟨_, rfl, ?_⟩
           have n0_ := Aside0.mk (Kd.R_elder' (by (with_reducible repeat (first | apply Kd.R_alloc | apply Kd.R_drewN | apply Kd.R_drew)); exact aC.out) (Kd.R_base ho0) hb)
           have n1_ := Aside0.mk (Kd.V_elder' (by (with_reducible repeat (first | apply Kd.V_alloc | apply Kd.V_drewN | apply Kd.V_drew)); exact aL.out) (Kd.R_base ho0) hb)
           have n2_ := Aside0.mk (Kd.V_elder' (by (with_reducible repeat (first | apply Kd.V_alloc | apply Kd.V_drewN | apply Kd.V_drew)); exact aI.out) (Kd.R_base ho0) hb)
           have n3_ := Aside0.mk (Kd.R_lower (Kd.R_new' (Kd.R_newM (M := fun k_ => (w.heap.size ≤ k_)) ho0 (below_size (by repeat (first | (with_reducible first | exact HB.out | apply below_alloc | apply pw_below_drewN | apply below_drew1 | refine below_set ?_ aM.out | refine below_set ?_ aQ.out) | exact HB.out))) (fun k_ h_ => h_)) (Kd.R_lt (by (with_reducible repeat (first | apply Kd.R_alloc | apply Kd.R_drewN | apply Kd.R_drew)); exact aC.out))) (below_size (by repeat (first | (with_reducible first | exact HB.out | apply below_alloc | apply pw_below_drewN | apply below_drew1 | refine below_set ?_ aM.out | refine below_set ?_ aQ.out) | exact HB.out))))
           have n4_ := Aside0.mk (blk_below (g := aE) (by (with_reducible repeat (first | refine blk_drewN ?_ _ | refine blk_drew ?_ | refine blk_alloc ?_ _)); exact aD.out) hb)
           have n5_ := Aside0.mk (blk_below (g := aA) (by (with_reducible repeat (first | refine blk_drewN ?_ _ | refine blk_drew ?_ | refine blk_alloc ?_ _)); exact aB.out) hb)
           have n6_ := Aside0.mk (below_step (by repeat (first | (with_reducible first | exact HB.out | apply below_alloc | apply pw_below_drewN | apply below_drew1 | refine below_set ?_ aM.out | refine below_set ?_ aQ.out) | exact HB.out)) hb)
           clear aC
           clear aL
           clear aI
           clear aD
           clear aB
           clear HB
           have aC := n0_
           have aL := n1_
           have aI := n2_
           have aO := n3_
           have aD := n4_
           have aB := n5_
           have HB := n6_
           clear n0_ n1_ n2_ n3_ n4_ n5_ n6_
           (try clear hb)
           (try clear hb2)
           (try clear hk)
           (try clear hi)
           (try clear ho0)
           obtain ⟨Ao51, co51, bU⟩ := Kd.R_slice aO.out
           (first | subst bU | (injection bU with f1_ f2_ f3_; have f4_ := f1_.symm; have f5_ := f3_.symm; clear f1_ f2_ f3_; subst f4_; subst f5_))
           refine hK.out _ _ ⟨aZ, aY⟩ (fun hHeld => ?_)
           clear hK K
           refine norm_ (a' := ?_) ?_ ?_
           rotate_left
           · show Act.put _ (some 54) _ = _; simp only [Act.put, List.setIfInBounds_toArray, List.set_cons_zero, List.set_cons_succ, i64_w, i32_w]; rfl
           refine pure_ (i := 28) (N := some 73) (v := ?_) (a' := ?_) #[true, true, true, true, true, true, true, true, true, true, true, true, true, true, true, true, true, true, true, true, true, true, true, true, true, true, true, true, true, true, false] rfl rfl (any_of HT_.out (by kernel_rfl)) (fun _ _ _ h => h) (Or.inl ⟨by rfl, ?_⟩) ?_ ?_
           rotate_left
           · intro w'; go_simp; with_reducible rfl
           rotate_left
           · simp only [Act.put, List.setIfInBounds_toArray, List.set_cons_zero, List.set_cons_succ, i64_w, i32_w]; rfl
           exact norm_ (by simp only [putAll, Act.put, List.setIfInBounds_toArray, List.set_cons_zero, List.set_cons_succ]) (hCont (.slice Ao51 t178.length co51, aA) _ ⟨hHeld, (by (with_reducible repeat (first | apply Kd.V_alloc | apply Kd.V_drewN | apply Kd.V_drew)); exact Kd.V_mono aL.out (fun _ hk => ⟨hk.1.1.1, ⟨hk.2, ⟨hk.1.1.2, hk.1.2⟩⟩⟩)), (by (with_reducible repeat (first | apply Kd.V_alloc | apply Kd.V_drewN | apply Kd.V_drew)); exact Kd.V_mono aI.out (fun _ hk => ⟨hk.1.1.1, ⟨hk.2, ⟨hk.1.1.2, hk.1.2⟩⟩⟩)), (by (with_reducible repeat (first | apply Kd.R_alloc | apply Kd.R_drewN | apply Kd.R_drew)); exact Kd.R_mono aO.out (fun _ hk => ⟨hk.1.1, hk.2⟩)), (by (with_reducible repeat (first | apply Kd.R_alloc | apply Kd.R_drewN | apply Kd.R_drew)); exact aC.out), (by (with_reducible repeat (first | refine blk_drewN ?_ _ | refine blk_drew ?_ | refine blk_alloc ?_ _)); exact aD.out), (by (with_reducible repeat (first | refine blk_drewN ?_ _ | refine blk_drew ?_ | refine blk_alloc ?_ _)); exact aB.out), bA.out, aQ.out, aG.out, aK.out, (by repeat (first | (with_reducible first | exact HB.out | apply below_alloc | apply pw_below_drewN | apply below_drew1 | refine below_set ?_ aM.out | refine below_set ?_ aQ.out) | exact HB.out))⟩)
       rintro ⟨v179, aA⟩ w52 ⟨hS_, h0_, h1_, h2_, h3_, h4_, h5_, h6_, h7_, h8_, h9_, h10_⟩
       have n0_ : Aside0 (Kd.V (Kd.int .i64) 3 w52 w.heap.size (fun k_ => (w.heap.size ≤ k_) ∧ some k_ ≠ (v179 : Value).ownBlock ∧ k_ ≠ aE ∧ k_ ≠ aA) (.slice (some aF) y168.length y168.length) y168) := ⟨h0_⟩
       have n1_ : Aside0 (Kd.V (Kd.int .i64) 3 w52 w.heap.size (fun k_ => (w.heap.size ≤ k_) ∧ some k_ ≠ (v179 : Value).ownBlock ∧ k_ ≠ aE ∧ k_ ≠ aA) (.slice A48 y173.length c48) y173) := ⟨h1_⟩
       have n2_ : Aside0 (Kd.R (Kd.int .i64) 3 w52 w.heap.size (fun k_ => (w.heap.size ≤ k_) ∧ some k_ ≠ (.slice (some aF) x5_2.length aR : Value).ownBlock) v179 t178) := ⟨h2_⟩
       have n3_ : Aside0 (Kd.R (Kd.int .i64) 3 w52 w.heap.size (fun k_ => (w.heap.size ≤ k_) ∧ some k_ ≠ (v179 : Value).ownBlock) (.slice (some aF) x5_2.length aR) x5_2) := ⟨h3_⟩
       have n4_ : Aside0 (w52.heap[aE]? = some (.cells #[.slice none 0 0, .slice none 0 0, .int .i64 0, .int .i64 0, .int .i64 0] 56 (0, 0))) := ⟨h4_⟩
       have n5_ : Aside0 (w52.heap[aA]? = some (.cells #[.slice none 0 0, .slice none 0 0, .int .i64 0, .int .i64 0, .int .i64 0] 56 (0, 0))) := ⟨h5_⟩
       have n6_ : Aside0 (w.heap.size ≤ aA) := ⟨h6_⟩
       have n7_ : Aside0 (w.heap.size ≤ aA) := ⟨h7_⟩
       have n8_ : Aside0 (aE ≠ aA) := ⟨h8_⟩
       have n9_ : Aside0 (aA ≠ aE) := ⟨h9_⟩
       have n10_ : Aside0 (Below w.heap.size w w52) := ⟨h10_⟩
       clear aC
       clear aD
       clear HB
       clear h0_ h1_ h2_ h3_ h4_ h5_ h6_ h7_ h8_ h9_ h10_
       have aL := n0_
       have aI := n1_
       have aO := n2_
       have aC := n3_
       have aD := n4_
       have aB := n5_
       have bA := n6_
       have aQ := n7_
       have aG := n8_
       have aK := n9_
       have HB := n10_
       clear n0_ n1_ n2_ n3_ n4_ n5_ n6_ n7_ n8_ n9_ n10_
       have hHeld : w52.cell? (aF.add ((aJ)).toNat) = some (.int .i64 (rd x5_2 (aJ))) ∧ w52.cell? (aF.add ((aN)).toNat) = some (.int .i64 (rd x5_2 (aN))) := hS_
       obtain ⟨aU, aT, bT⟩ := Kd.R_slice aO.out
       (first | subst bT | (injection bT with f1_ f2_ f3_; have f4_ := f1_.symm; have f5_ := f3_.symm; clear f1_ f2_ f3_; subst f4_; subst f5_))
       refine norm_ (a' := ?_) ?_ ?_
       rotate_left
       · simp only [putAll, Act.put, List.setIfInBounds_toArray, List.set_cons_zero, List.set_cons_succ]; rfl
       refine one_ (i := 30) (N := none) #[true, true, true, true, true, true, true, true, true, true, true, true, true, true, true, true, true, true, true, true, true, true, true, true, true, true, true, true, true, true, true] rfl rfl (one_of HT_.out (by kernel_rfl)) (by decide) (fun K hK => ?_)
       have hs54 : w52.cell? ⟨aA, 0, none⟩ = some (.slice none 0 0) := (blk_cell aB.out 0).trans rfl
       have hfs54 := blk_frozen aB.out 0
       have hns54_0 := aG.out
       have hms54_0 := aK.out
       have hs55 : w52.cell? ⟨aA, 1, none⟩ = some (.slice none 0 0) := (blk_cell aB.out 1).trans rfl
       have hfs55 := blk_frozen aB.out 1
       have hns55_0 := aG.out
       have hms55_0 := aK.out
       have hs56 : w52.cell? ⟨aA, 2, none⟩ = some (.int .i64 0) := (blk_cell aB.out 2).trans rfl
       have hfs56 := blk_frozen aB.out 2
       have hns56_0 := aG.out
       have hms56_0 := aK.out
       have hs57 : w52.cell? ⟨aA, 3, none⟩ = some (.int .i64 0) := (blk_cell aB.out 3).trans rfl
       have hfs57 := blk_frozen aB.out 3
       have hns57_0 := aG.out
       have hms57_0 := aK.out
       have hs58 : w52.cell? ⟨aA, 4, none⟩ = some (.int .i64 0) := (blk_cell aB.out 4).trans rfl
       have hfs58 := blk_frozen aB.out 4
       have hns58_0 := aG.out
       have hms58_0 := aK.out
       refine skip_ (w1 := ?_) (by rfl) rfl ?_ ?_
       rotate_left
       · go_simp; rfl
       refine hK.out _ _ ⟨((cell_far (p := ⟨aA, _, none⟩) (by first | exact Kd.own_blk (Kd.R_ne aC.out aB.out (by decide)) | (rw [add_block]; exact Kd.own_blk (Kd.R_ne aC.out aB.out (by decide))) | (show (Addr.add _ _).block ≠ _; rw [add_block]; exact Kd.own_blk (Kd.R_ne aC.out aB.out (by decide))) | (dsimp only; exact Kd.own_blk (Kd.R_ne aC.out aB.out (by decide)))) _).trans (((cell_far (p := ⟨aA, _, none⟩) (by first | exact Kd.own_blk (Kd.R_ne aC.out aB.out (by decide)) | (rw [add_block]; exact Kd.own_blk (Kd.R_ne aC.out aB.out (by decide))) | (show (Addr.add _ _).block ≠ _; rw [add_block]; exact Kd.own_blk (Kd.R_ne aC.out aB.out (by decide))) | (dsimp only; exact Kd.own_blk (Kd.R_ne aC.out aB.out (by decide)))) _).trans (((cell_far (p := ⟨aA, _, none⟩) (by first | exact Kd.own_blk (Kd.R_ne aC.out aB.out (by decide)) | (rw [add_block]; exact Kd.own_blk (Kd.R_ne aC.out aB.out (by decide))) | (show (Addr.add _ _).block ≠ _; rw [add_block]; exact Kd.own_blk (Kd.R_ne aC.out aB.out (by decide))) | (dsimp only; exact Kd.own_blk (Kd.R_ne aC.out aB.out (by decide)))) _).trans (((cell_far (p := ⟨aA, _, none⟩) (by first | exact Kd.own_blk (Kd.R_ne aC.out aB.out (by decide)) | (rw [add_block]; exact Kd.own_blk (Kd.R_ne aC.out aB.out (by decide))) | (show (Addr.add _ _).block ≠ _; rw [add_block]; exact Kd.own_blk (Kd.R_ne aC.out aB.out (by decide))) | (dsimp only; exact Kd.own_blk (Kd.R_ne aC.out aB.out (by decide)))) _).trans (((cell_far (p := ⟨aA, _, none⟩) (by first | exact Kd.own_blk (Kd.R_ne aC.out aB.out (by decide)) | (rw [add_block]; exact Kd.own_blk (Kd.R_ne aC.out aB.out (by decide))) | (show (Addr.add _ _).block ≠ _; rw [add_block]; exact Kd.own_blk (Kd.R_ne aC.out aB.out (by decide))) | (dsimp only; exact Kd.own_blk (Kd.R_ne aC.out aB.out (by decide)))) _).trans (hHeld.1)))))))))), ((cell_far (p := ⟨aA, _, none⟩) (by first | exact Kd.own_blk (Kd.R_ne aC.out aB.out (by decide)) | (rw [add_block]; exact Kd.own_blk (Kd.R_ne aC.out aB.out (by decide))) | (show (Addr.add _ _).block ≠ _; rw [add_block]; exact Kd.own_blk (Kd.R_ne aC.out aB.out (by decide))) | (dsimp only; exact Kd.own_blk (Kd.R_ne aC.out aB.out (by decide)))) _).trans (((cell_far (p := ⟨aA, _, none⟩) (by first | exact Kd.own_blk (Kd.R_ne aC.out aB.out (by decide)) | (rw [add_block]; exact Kd.own_blk (Kd.R_ne aC.out aB.out (by decide))) | (show (Addr.add _ _).block ≠ _; rw [add_block]; exact Kd.own_blk (Kd.R_ne aC.out aB.out (by decide))) | (dsimp only; exact Kd.own_blk (Kd.R_ne aC.out aB.out (by decide)))) _).trans (((cell_far (p := ⟨aA, _, none⟩) (by first | exact Kd.own_blk (Kd.R_ne aC.out aB.out (by decide)) | (rw [add_block]; exact Kd.own_blk (Kd.R_ne aC.out aB.out (by decide))) | (show (Addr.add _ _).block ≠ _; rw [add_block]; exact Kd.own_blk (Kd.R_ne aC.out aB.out (by decide))) | (dsimp only; exact Kd.own_blk (Kd.R_ne aC.out aB.out (by decide)))) _).trans (((cell_far (p := ⟨aA, _, none⟩) (by first | exact Kd.own_blk (Kd.R_ne aC.out aB.out (by decide)) | (rw [add_block]; exact Kd.own_blk (Kd.R_ne aC.out aB.out (by decide))) | (show (Addr.add _ _).block ≠ _; rw [add_block]; exact Kd.own_blk (Kd.R_ne aC.out aB.out (by decide))) | (dsimp only; exact Kd.own_blk (Kd.R_ne aC.out aB.out (by decide)))) _).trans (((cell_far (p := ⟨aA, _, none⟩) (by first | exact Kd.own_blk (Kd.R_ne aC.out aB.out (by decide)) | (rw [add_block]; exact Kd.own_blk (Kd.R_ne aC.out aB.out (by decide))) | (show (Addr.add _ _).block ≠ _; rw [add_block]; exact Kd.own_blk (Kd.R_ne aC.out aB.out (by decide))) | (dsimp only; exact Kd.own_blk (Kd.R_ne aC.out aB.out (by decide)))) _).trans (hHeld.2))))))))))⟩ (fun hHeld => ?_)
       clear hK K
       refine done_ (done_of HT_.out (by kernel_rfl)) ?_
       have n0_ : Aside0 (Kd.R (Kd.int .i64) 3 (((((w52.setCell ⟨aA, 0, none⟩ (.slice (some aF) y168.length y168.length)).setCell ⟨aA, 1, none⟩ (.slice aU t178.length aT)).setCell ⟨aA, 2, none⟩ (.int .i64 (rd x5_2 (aJ)))).setCell ⟨aA, 3, none⟩ (.int .i64 (rd x5_2 (aN)))).setCell ⟨aA, 4, none⟩ (.int .i64 (wrap64 (bt a0 (aP))))) w.heap.size (fun k_ => (w.heap.size ≤ k_) ∧ some k_ ≠ (.slice aU t178.length aT : Value).ownBlock) (.slice (some aF) x5_2.length aR) x5_2) := ⟨by (with_reducible repeat (first | apply Kd.R_alloc | apply Kd.R_drewN | apply Kd.R_drew)); exact Kd.R_mono (Blk.R_far5 (g := aA) (Kd.R_types aC.out aB.out (by decide)) (fun _ hk => hk.2) _ _ _ _ _) (fun _ hk => ⟨hk.1.1, hk.1.2⟩)⟩
       have n1_ : Aside0 (Kd.V (Kd.int .i64) 3 (((((w52.setCell ⟨aA, 0, none⟩ (.slice (some aF) y168.length y168.length)).setCell ⟨aA, 1, none⟩ (.slice aU t178.length aT)).setCell ⟨aA, 2, none⟩ (.int .i64 (rd x5_2 (aJ)))).setCell ⟨aA, 3, none⟩ (.int .i64 (rd x5_2 (aN)))).setCell ⟨aA, 4, none⟩ (.int .i64 (wrap64 (bt a0 (aP))))) w.heap.size (fun k_ => (w.heap.size ≤ k_) ∧ some k_ ≠ (.slice aU t178.length aT : Value).ownBlock ∧ k_ ≠ aE ∧ k_ ≠ aA) (.slice (some aF) y168.length y168.length) y168) := ⟨by (with_reducible repeat (first | apply Kd.V_alloc | apply Kd.V_drewN | apply Kd.V_drew)); exact Kd.V_mono (Blk.V_far5 (g := aA) (Kd.V_mono aL.out (fun k_ hk => (⟨hk, hk.2.2.2⟩ : _ ∧ k_ ≠ aA))) (fun _ hk => hk.2) _ _ _ _ _) (fun _ hk => ⟨hk.1.1, ⟨hk.1.2.1, ⟨hk.1.2.2.1, hk.1.2.2.2⟩⟩⟩)⟩
       have n2_ : Aside0 (Kd.V (Kd.int .i64) 3 (((((w52.setCell ⟨aA, 0, none⟩ (.slice (some aF) y168.length y168.length)).setCell ⟨aA, 1, none⟩ (.slice aU t178.length aT)).setCell ⟨aA, 2, none⟩ (.int .i64 (rd x5_2 (aJ)))).setCell ⟨aA, 3, none⟩ (.int .i64 (rd x5_2 (aN)))).setCell ⟨aA, 4, none⟩ (.int .i64 (wrap64 (bt a0 (aP))))) w.heap.size (fun k_ => (w.heap.size ≤ k_) ∧ some k_ ≠ (.slice aU t178.length aT : Value).ownBlock ∧ k_ ≠ aE ∧ k_ ≠ aA) (.slice A48 y173.length c48) y173) := ⟨by (with_reducible repeat (first | apply Kd.V_alloc | apply Kd.V_drewN | apply Kd.V_drew)); exact Kd.V_mono (Blk.V_far5 (g := aA) (Kd.V_mono aI.out (fun k_ hk => (⟨hk, hk.2.2.2⟩ : _ ∧ k_ ≠ aA))) (fun _ hk => hk.2) _ _ _ _ _) (fun _ hk => ⟨hk.1.1, ⟨hk.1.2.1, ⟨hk.1.2.2.1, hk.1.2.2.2⟩⟩⟩)⟩
       have n3_ : Aside0 (Kd.R (Kd.int .i64) 3 (((((w52.setCell ⟨aA, 0, none⟩ (.slice (some aF) y168.length y168.length)).setCell ⟨aA, 1, none⟩ (.slice aU t178.length aT)).setCell ⟨aA, 2, none⟩ (.int .i64 (rd x5_2 (aJ)))).setCell ⟨aA, 3, none⟩ (.int .i64 (rd x5_2 (aN)))).setCell ⟨aA, 4, none⟩ (.int .i64 (wrap64 (bt a0 (aP))))) w.heap.size (fun k_ => (w.heap.size ≤ k_) ∧ some k_ ≠ (.slice (some aF) x5_2.length aR : Value).ownBlock) (.slice aU t178.length aT) t178) := ⟨by (with_reducible repeat (first | apply Kd.R_alloc | apply Kd.R_drewN | apply Kd.R_drew)); exact Kd.R_mono (Blk.R_far5 (g := aA) (Kd.R_types aO.out aB.out (by decide)) (fun _ hk => hk.2) _ _ _ _ _) (fun _ hk => ⟨hk.1.1, hk.1.2⟩)⟩
       have n4_ : Aside0 ((((((w52.setCell ⟨aA, 0, none⟩ (.slice (some aF) y168.length y168.length)).setCell ⟨aA, 1, none⟩ (.slice aU t178.length aT)).setCell ⟨aA, 2, none⟩ (.int .i64 (rd x5_2 (aJ)))).setCell ⟨aA, 3, none⟩ (.int .i64 (rd x5_2 (aN)))).setCell ⟨aA, 4, none⟩ (.int .i64 (wrap64 (bt a0 (aP))))).heap[aE]? = some (.cells #[.slice none 0 0, .slice none 0 0, .int .i64 0, .int .i64 0, .int .i64 0] 56 (0, 0))) := ⟨by (with_reducible repeat (first | refine blk_drewN ?_ _ | refine blk_drew ?_ | refine blk_alloc ?_ _)); refine Blk.blk_far5 ?_ aG.out _ _ _ _ _; (with_reducible repeat (first | refine blk_drewN ?_ _ | refine blk_drew ?_ | refine blk_alloc ?_ _)); exact aD.out⟩
       have n5_ : Aside0 ((((((w52.setCell ⟨aA, 0, none⟩ (.slice (some aF) y168.length y168.length)).setCell ⟨aA, 1, none⟩ (.slice aU t178.length aT)).setCell ⟨aA, 2, none⟩ (.int .i64 (rd x5_2 (aJ)))).setCell ⟨aA, 3, none⟩ (.int .i64 (rd x5_2 (aN)))).setCell ⟨aA, 4, none⟩ (.int .i64 (wrap64 (bt a0 (aP))))).heap[aA]? = some (.cells #[.slice (some aF) y168.length y168.length, .slice aU t178.length aT, .int .i64 (rd x5_2 (aJ)), .int .i64 (rd x5_2 (aN)), .int .i64 (wrap64 (bt a0 (aP)))] 56 (0, 0))) := ⟨by (with_reducible repeat (first | refine blk_drewN ?_ _ | refine blk_drew ?_ | refine blk_alloc ?_ _)); refine Blk.blk_put5 (z0 := (.slice none 0 0)) (z1 := (.slice none 0 0)) (z2 := (.int .i64 0)) (z3 := (.int .i64 0)) (z4 := (.int .i64 0)) ?_ _ _ _ _ _; (with_reducible repeat (first | refine blk_drewN ?_ _ | refine blk_drew ?_ | refine blk_alloc ?_ _)); exact aB.out⟩
       have n6_ : Aside0 (Below w.heap.size w (((((w52.setCell ⟨aA, 0, none⟩ (.slice (some aF) y168.length y168.length)).setCell ⟨aA, 1, none⟩ (.slice aU t178.length aT)).setCell ⟨aA, 2, none⟩ (.int .i64 (rd x5_2 (aJ)))).setCell ⟨aA, 3, none⟩ (.int .i64 (rd x5_2 (aN)))).setCell ⟨aA, 4, none⟩ (.int .i64 (wrap64 (bt a0 (aP)))))) := ⟨by repeat (first | (with_reducible first | exact HB.out | apply below_alloc | apply pw_below_drewN | apply below_drew1 | refine below_set ?_ aM.out | refine below_set ?_ aQ.out) | exact HB.out)⟩
       (try clear aC)
       (try clear aL)
       (try clear aI)
       (try clear aO)
       (try clear aD)
       (try clear aB)
       (try clear HB)
       generalize (((((w52.setCell ⟨aA, 0, none⟩ (.slice (some aF) y168.length y168.length)).setCell ⟨aA, 1, none⟩ (.slice aU t178.length aT)).setCell ⟨aA, 2, none⟩ (.int .i64 (rd x5_2 (aJ)))).setCell ⟨aA, 3, none⟩ (.int .i64 (rd x5_2 (aN)))).setCell ⟨aA, 4, none⟩ (.int .i64 (wrap64 (bt a0 (aP))))) = w59 at n0_ n1_ n2_ n3_ n4_ n5_ n6_ ⊢
       have aC := n0_
       have aL := n1_
       have aI := n2_
       have aO := n3_
       have aD := n4_
       have aB := n5_
       have HB := n6_
       clear n0_ n1_ n2_ n3_ n4_ n5_ n6_
       have hnb60 := aK.out
       have hnc60 := aG.out
       obtain ⟨hcz61_0, hcz61_1, hcz61_2, hcz61_3, hcz61_4, hfz61_0, hfz61_1, hfz61_2, hfz61_3, hfz61_4⟩ := Blk.blk5 (show w59.heap[aA]? = some (.cells #[.slice (some aF) y168.length y168.length, .slice aU t178.length aT, .int .i64 (rd x5_2 (aJ)), .int .i64 (rd x5_2 (aN)), .int .i64 (wrap64 (bt a0 (aP)))] _ (0, 0)) from aB.out)
       try go_wp2_with (first | ((with_reducible refine gate_callee (f := 44) rfl ?_); refine goesL_ (some 75) rfl rfl Try.func44 (by kernel_rfl) rfl #[.agg #[.slice (some aF) y168.length y168.length, .slice aU t178.length aT, .int .i64 (rd x5_2 (aJ)), .int .i64 (rd x5_2 (aN)), .int .i64 (wrap64 (bt a0 (aP)))]] rfl (by (try simp only [List.map_toArray, List.map_cons, List.map_nil]); first | done | (simp only [aS, bC, bB]; rfl) | rfl | (simp only [List.length_drop, List.length_take]; rfl)) ?_; (with_reducible refine (check_May.calls k2 (fun k_ => ((w.heap.size ≤ k_) ∧ (some k_ ≠ (.slice aU t178.length aT : Value).ownBlock ∧ (k_ ≠ aE ∧ k_ ≠ aA)))) _ _ y168 (fun k_ => some k_ = (.slice aU t178.length aT : Value).ownBlock) _ _ t178 (rd x5_2 (aJ)) (rd x5_2 (aN)) (wrap64 (bt a0 (aP))) true _ ?side1 ?side2 A44.out).mono ?_); (case side1 => exact aL.out); (case side2 => exact Kd.R_V (Kd.R_tight rfl (Kd.R_types (Kd.R_types (aO.out) aD.out (by decide)) aB.out (by decide)))); rintro e w62 ⟨rfl, hb⟩; refine ⟨_, rfl, ?_⟩; have n0_ := Aside0.mk (Kd.R_below (by (with_reducible repeat (first | apply Kd.R_alloc | apply Kd.R_drewN | apply Kd.R_drew)); exact aC.out) hb); have n1_ := Aside0.mk (Kd.V_below (by (with_reducible repeat (first | apply Kd.V_alloc | apply Kd.V_drewN | apply Kd.V_drew)); exact aL.out) hb); have n2_ := Aside0.mk (Kd.V_below (by (with_reducible repeat (first | apply Kd.V_alloc | apply Kd.V_drewN | apply Kd.V_drew)); exact aI.out) hb); have n3_ := Aside0.mk (Kd.R_below (by (with_reducible repeat (first | apply Kd.R_alloc | apply Kd.R_drewN | apply Kd.R_drew)); exact aO.out) hb); have n4_ := Aside0.mk (blk_below (g := aE) (by (with_reducible repeat (first | refine blk_drewN ?_ _ | refine blk_drew ?_ | refine blk_alloc ?_ _)); exact aD.out) hb); have n5_ := Aside0.mk (blk_below (g := aA) (by (with_reducible repeat (first | refine blk_drewN ?_ _ | refine blk_drew ?_ | refine blk_alloc ?_ _)); exact aB.out) hb); have n6_ := Aside0.mk (below_step (by repeat (first | (with_reducible first | exact HB.out | apply below_alloc | apply pw_below_drewN | apply below_drew1 | refine below_set ?_ aM.out | refine below_set ?_ aQ.out) | exact HB.out)) hb); clear aC; clear aL; clear aI; clear aO; clear aD; clear aB; clear HB; have aC := n0_; have aL := n1_; have aI := n2_; have aO := n3_; have aD := n4_; have aB := n5_; have HB := n6_; clear n0_ n1_ n2_ n3_ n4_ n5_ n6_; (try clear hb); (try clear hb2); (try clear hk); (try clear hi); obtain ⟨hcz63_0, hcz63_1, hcz63_2, hcz63_3, hcz63_4, hfz63_0, hfz63_1, hfz63_2, hfz63_3, hfz63_4⟩ := Blk.blk5 (show w62.heap[aA]? = some (.cells #[.slice (some aF) y168.length y168.length, .slice aU t178.length aT, .int .i64 (rd x5_2 (aJ)), .int .i64 (rd x5_2 (aN)), .int .i64 (wrap64 (bt a0 (aP)))] _ (0, 0)) from aB.out); obtain ⟨hcz64_0, hcz64_1, hcz64_2, hcz64_3, hcz64_4, hfz64_0, hfz64_1, hfz64_2, hfz64_3, hfz64_4⟩ := Blk.blk5 (show w62.heap[aE]? = some (.cells #[.slice none 0 0, .slice none 0 0, .int .i64 0, .int .i64 0, .int .i64 0] _ (0, 0)) from aD.out)))
       refine bodyPost_ret (results_ct rfl _ _ aE 56 #[.slice (some aF) y168.length y168.length, .slice aU t178.length aT, .int .i64 (rd x5_2 (aJ)), .int .i64 (rd x5_2 (aN)), .int .i64 (wrap64 (bt a0 (aP)))] (0, 0) _ rfl (by (with_reducible repeat (first | refine blk_drewN ?_ _ | refine blk_drew ?_ | refine blk_alloc ?_ _)); refine Blk.blk_put5 (z0 := (.slice none 0 0)) (z1 := (.slice none 0 0)) (z2 := (.int .i64 0)) (z3 := (.int .i64 0)) (z4 := (.int .i64 0)) ?_ _ _ _ _ _; (with_reducible repeat (first | refine blk_drewN ?_ _ | refine blk_drew ?_ | refine blk_alloc ?_ _)); exact aD.out) Try.underlying56 rfl (by kernel_rfl)) rfl ?_
       exact ⟨_, _, by first | rfl | (simp [errW_none, errW_some] <;> rfl) | (simp only [← bG, ← bF, ← aS, ← bC, ← bB]; first | rfl | (simp [errW_none, errW_some] <;> rfl)) | (simp [*, errW_none, errW_some] <;> rfl), by (with_reducible repeat (first | apply RC.V_alloc | apply RC.V_drewN | apply RC.V_drew)); exact RC.V_mono (RC.V_far5 (g := aE) (RC.V_types (show RC.V (Kd.int .i64) 3 _ w.heap.size _ (.slice (some aF) y168.length y168.length) y168 from by rw [bI.out]; exact RC.V_cut aC.out _ (Nat.le_refl _)) aD.out (by decide)) (fun _ hk => hk.2) _ _ _ _ _) (fun _ hk => hk.1), by (with_reducible repeat (first | apply Kd.R_alloc | apply Kd.R_drewN | apply Kd.R_drew)); exact Kd.R_mono (Blk.R_far5 (g := aE) (Kd.R_types aO.out aD.out (by decide)) (fun _ hk => hk.2) _ _ _ _ _) (fun _ hk => hk.1.1), by repeat (first | (with_reducible first | exact HB.out | apply below_alloc | apply pw_below_drewN | apply below_drew1 | refine below_set ?_ aM.out | refine below_set ?_ aQ.out) | exact HB.out)⟩
     replace c45 := Bool.eq_false_iff.mpr c45
     subst c45
     have H1 : (some (([] : List Int), ([] : List Int), 0, 0, 0, 1400)) = some (r1, r2, r3, r4, r5, r6) := by rw [if_neg (show ¬ (false = true) by decide)] at H; exact H
     clear H
     have H := H1
     clear H1
     simp only [Option.some.injEq, Prod.mk.injEq] at H
     obtain ⟨rfl, rfl, rfl, rfl, rfl, rfl⟩ := H
     try go_wp2
     have n0_ := Aside0.mk (Kd.R_drew aC.out)
     have n1_ := Aside0.mk (blk_drew aD.out)
     have n2_ := Aside0.mk (below_drew1 HB.out)
     clear aC
     clear aD
     clear HB
     have aC := n0_
     have aD := n1_
     have HB := n2_
     clear n0_ n1_ n2_
     have q66 : ((aH) : Int) ≤ ((x5_2.length : Int) : Int) := of_decide_eq_true (by first | (with_reducible assumption) | assumption)
     obtain ⟨i066, hi066, _, hsz66, _⟩ := info_parts info3
     have hroom66 : x5_2.length ≤ aR := (Kd.R_reads' aC.out).2.1
     have hC66 : Kd.F (Kd.int .i64) _ _ aX x5_2.length x5_2 := (Kd.V_at (base := w.heap.size) (Kd.R_V (Kd.R_types (aC.out) aD.out (by decide)))).2.2
     have hcut66 := cut_to3 (P := Try.prog) 37 3 .i64 Try.underlying37 hi066 aX x5_2.length aR (aH) (of_decide_eq_true (by first | (with_reducible assumption) | assumption)) q66 hroom66
     have hr66 := Kd.F_take (m := ((aH) : Int).toNat) hC66 (by omega)
     have hy66 : y168.length = ((aH) : Int).toNat := (by rw [bI.out, List.length_take]; omega)
     rw [← bI.out] at hr66
     rw [← hy66] at hcut66
     have aL := Aside0.mk (show Kd.V (Kd.int .i64) 3 _ w.heap.size _ (.slice aX y168.length y168.length) y168 from Kd.V_mk (by omega) hr66)
     have HC172 := Aside0.mk (show y168.length ≤ aR from by omega)
     clear hr66 hC66 hroom66 hi066 hsz66
     have KY66 := Aside0.mk hy66
     clear hy66
     replace q66 := eq_true q66
     have q67 : ((aJ) : Int) ≤ ((x5_2.length : Int) : Int) := of_decide_eq_true (by first | (with_reducible assumption) | assumption)
     obtain ⟨i067, hi067, _, hsz67, _⟩ := info_parts info3
     have hroom67 : x5_2.length ≤ aR := (Kd.R_reads' aC.out).2.1
     have hC67 : Kd.F (Kd.int .i64) _ _ aX x5_2.length x5_2 := (Kd.V_at (base := w.heap.size) (Kd.R_V (Kd.R_types (aC.out) aD.out (by decide)))).2.2
     have ql67 : ((aH) : Int) ≤ ((aJ) : Int) := of_decide_eq_true (by first | (with_reducible assumption) | assumption)
     have q067 : (0 : Int) ≤ ((aH) : Int) := of_decide_eq_true (by first | (with_reducible assumption) | assumption)
     have hcut67 := cut_mid (P := Try.prog) 37 3 .i64 .i64 Try.underlying37 hi067 1 hsz67 aX x5_2.length aR (aH) (aJ) q067 ql67 q67 hroom67
     have hr67 := Kd.F_mid (lo := ((aH) : Int).toNat) (hi := ((aJ) : Int).toNat) (c := aR) hC67 (by omega) (by omega) hroom67
     obtain ⟨A67, hA67⟩ : ∃ A1, A1 = (if aR = ((aH) : Int).toNat then aX else (aX : Option Addr).map (·.add (((aH) : Int).toNat * 1))) := ⟨_, rfl⟩
     obtain ⟨c67, hc67⟩ : ∃ c1, c1 = aR - ((aH) : Int).toNat := ⟨_, rfl⟩
     have hy67 : y173.length = ((aJ) : Int).toNat - ((aH) : Int).toNat := (by rw [bH.out, List.length_drop, List.length_take] <;> omega)
     rw [show ((x5_2).take ((aJ) : Int).toNat).drop ((aH) : Int).toNat = y173 from bH.out.symm] at hr67
     replace hr67 : Kd.F (Kd.int .i64) _ _ A67 y173.length y173 := (by rw [hA67]; exact hr67)
     rw [← hy67, ← hA67, ← hc67] at hcut67
     have aI := Aside0.mk (show Kd.V (Kd.int .i64) 3 _ w.heap.size _ (.slice A67 y173.length c67) y173 from Kd.V_mk (by rw [hy67, hc67]; exact Nat.sub_le_sub_right (Nat.le_trans (by omega) hroom67) _) hr67)
     have HC177 := Aside0.mk (show y173.length ≤ c67 from by rw [hy67, hc67]; exact Nat.sub_le_sub_right (Nat.le_trans (by omega) hroom67) _)
     clear hr67 hC67 hroom67 hi067 hsz67 hc67
     have KY67 := Aside0.mk hy67
     have KA67 := Aside0.mk hA67
     clear hy67 hA67
     replace q67 := eq_true q67
     have p181 : 0 ≤ ((aJ) : Int) := of_decide_eq_true (by first | (with_reducible assumption) | assumption)
     have q181 : (aJ) < (x5_2.length : Int) := of_decide_eq_true (by first | (with_reducible assumption) | assumption)
     obtain ⟨aF, e181, hx181_0⟩ := Kd.at_int (Kd.R_reads' aC.out).2.2 (aJ) p181 q181
     cases e181
     replace p181 := eq_true p181
     replace q181 := eq_true q181
     have p182 : 0 ≤ ((aN) : Int) := of_decide_eq_true (by first | (with_reducible assumption) | assumption)
     have q182 : (aN) < (x5_2.length : Int) := of_decide_eq_true (by first | (with_reducible assumption) | assumption)
     obtain ⟨bK, e182, hx182_0⟩ := Kd.at_int (Kd.R_reads' aC.out).2.2 (aN) p182 q182
     obtain rfl : aF = bK := (by injection e182)
     replace p182 := eq_true p182
     replace q182 := eq_true q182
     have p43 : 0 ≤ ((aP) : Int) := of_decide_eq_true (by first | (with_reducible assumption) | assumption)
     have q43 : (aP) < (a0.size : Int) := of_decide_eq_true (by first | (with_reducible assumption) | assumption)
     have hx43 := bt_at a0 (aP)
     replace p43 := eq_true p43
     replace q43 := eq_true q43
     refine start_ (n := 31) (S := fun w' => w'.cell? (aF.add ((aJ)).toNat) = some (.int .i64 (rd x5_2 (aJ))) ∧ w'.cell? (aF.add ((aN)).toNat) = some (.int .i64 (rd x5_2 (aN)))) (ds := []) #[false, false, false, false, false, false, false, false, false, false, false, false, false, false, false, false, false, false, false, false, false, false, false, false, false, false, false, false, false, false, false] (by kernel_rfl) rfl rfl ⟨hx181_0, hx182_0⟩ (fun hHeld => ?_); refine with_tabW check_Get.tab10 check_Get.bits10 (fun HT_ HW_ => ?_)
     generalize wr.drew = w65 at aC aD HB aL aI hx181_0 hx182_0 hHeld ⊢
     refine pure_ (i := 0) (N := some 45) (v := ?_) (a' := ?_) #[true, false, false, false, false, false, false, false, false, false, false, false, false, false, false, false, false, false, false, false, false, false, false, false, false, false, false, false, false, false, false] rfl rfl (any_of HT_.out (by kernel_rfl)) (fun _ _ _ h => h) (Or.inl ⟨by rfl, ?_⟩) ?_ ?_
     rotate_left
     · intro w'; go_simp; with_reducible rfl
     rotate_left
     · simp only [Act.put, List.setIfInBounds_toArray, List.set_cons_zero, List.set_cons_succ, i64_w, i32_w]; rfl
     refine pure_ (i := 1) (N := some 46) (v := ?_) (a' := ?_) #[true, true, false, false, false, false, false, false, false, false, false, false, false, false, false, false, false, false, false, false, false, false, false, false, false, false, false, false, false, false, false] rfl rfl (any_of HT_.out (by kernel_rfl)) (fun _ _ _ h => h) (Or.inl ⟨by rfl, ?_⟩) ?_ ?_
     rotate_left
     · intro w'; go_simp; with_reducible rfl
     rotate_left
     · simp only [Act.put, List.setIfInBounds_toArray, List.set_cons_zero, List.set_cons_succ, i64_w, i32_w]; rfl
     refine pure_ (i := 2) (N := some 47) (v := ?_) (a' := ?_) #[true, true, true, false, false, false, false, false, false, false, false, false, false, false, false, false, false, false, false, false, false, false, false, false, false, false, false, false, false, false, false] rfl rfl (any_of HT_.out (by kernel_rfl)) (fun _ _ _ h => h) (Or.inl ⟨by rfl, ?_⟩) ?_ ?_
     rotate_left
     · intro w'; go_simp; with_reducible rfl
     rotate_left
     · simp only [Act.put, List.setIfInBounds_toArray, List.set_cons_zero, List.set_cons_succ, i64_w, i32_w]; rfl
     refine pure_ (i := 3) (N := some 48) (v := ?_) (a' := ?_) #[true, true, true, true, false, false, false, false, false, false, false, false, false, false, false, false, false, false, false, false, false, false, false, false, false, false, false, false, false, false, false] rfl rfl (any_of HT_.out (by kernel_rfl)) (fun _ _ _ h => h) (Or.inl ⟨by rfl, ?_⟩) ?_ ?_
     rotate_left
     · intro w'; go_simp; with_reducible rfl
     rotate_left
     · simp only [Act.put, List.setIfInBounds_toArray, List.set_cons_zero, List.set_cons_succ, i64_w, i32_w]; rfl
     refine pure_ (i := 4) (N := some 49) (v := ?_) (a' := ?_) #[true, true, true, true, true, false, false, false, false, false, false, false, false, false, false, false, false, false, false, false, false, false, false, false, false, false, false, false, false, false, false] rfl rfl (any_of HT_.out (by kernel_rfl)) (fun _ _ _ h => h) (Or.inl ⟨by rfl, ?_⟩) ?_ ?_
     rotate_left
     · intro w'; go_simp; with_reducible rfl
     rotate_left
     · simp only [Act.put, List.setIfInBounds_toArray, List.set_cons_zero, List.set_cons_succ, i64_w, i32_w]; rfl
     refine pure_ (i := 5) (N := some 50) (v := ?_) (a' := ?_) #[true, true, true, true, true, true, false, false, false, false, false, false, false, false, false, false, false, false, false, false, false, false, false, false, false, false, false, false, false, false, false] rfl rfl (any_of HT_.out (by kernel_rfl)) (fun _ _ _ h => h) (Or.inl ⟨by rfl, ?_⟩) ?_ ?_
     rotate_left
     · intro w'; go_simp; with_reducible rfl
     rotate_left
     · simp only [Act.put, List.setIfInBounds_toArray, List.set_cons_zero, List.set_cons_succ, i64_w, i32_w]; rfl
     refine pure_ (i := 6) (N := some 51) (v := ?_) (a' := ?_) #[true, true, true, true, true, true, true, false, false, false, false, false, false, false, false, false, false, false, false, false, false, false, false, false, false, false, false, false, false, false, false] rfl rfl (any_of HT_.out (by kernel_rfl)) (fun _ _ _ h => h) (Or.inl ⟨by rfl, ?_⟩) ?_ ?_
     rotate_left
     · intro w'; go_simp; with_reducible rfl
     rotate_left
     · simp only [Act.put, List.setIfInBounds_toArray, List.set_cons_zero, List.set_cons_succ, i64_w, i32_w]; rfl
     refine pure_ (i := 7) (N := some 52) (v := ?_) (a' := ?_) #[true, true, true, true, true, true, true, true, false, false, false, false, false, false, false, false, false, false, false, false, false, false, false, false, false, false, false, false, false, false, false] rfl rfl (any_of HT_.out (by kernel_rfl)) (fun _ _ _ h => h) (Or.inl ⟨by rfl, ?_⟩) ?_ ?_
     rotate_left
     · intro w'; go_simp; with_reducible rfl
     rotate_left
     · simp only [Act.put, List.setIfInBounds_toArray, List.set_cons_zero, List.set_cons_succ, i64_w, i32_w]; rfl
     refine pure_ (i := 8) (N := some 53) (v := ?_) (a' := ?_) #[true, true, true, true, true, true, true, true, true, false, false, false, false, false, false, false, false, false, false, false, false, false, false, false, false, false, false, false, false, false, false] rfl rfl (any_of HT_.out (by kernel_rfl)) (fun _ _ _ h => h) (Or.inl ⟨by rfl, ?_⟩) ?_ ?_
     rotate_left
     · intro w'; go_simp; with_reducible rfl
     rotate_left
     · simp only [Act.put, List.setIfInBounds_toArray, List.set_cons_zero, List.set_cons_succ, i64_w, i32_w]; rfl
     refine pure_ (i := 10) (N := some 55) (v := ?_) (a' := ?_) #[true, true, true, true, true, true, true, true, true, false, true, false, false, false, false, false, false, false, false, false, false, false, false, false, false, false, false, false, false, false, false] rfl rfl (any_of HT_.out (by kernel_rfl)) (fun _ _ _ h => h) (Or.inl ⟨by rfl, ?_⟩) ?_ ?_
     rotate_left
     · intro w'; go_simp; with_reducible rfl
     rotate_left
     · simp only [Act.put, List.setIfInBounds_toArray, List.set_cons_zero, List.set_cons_succ, i64_w, i32_w]; rfl
     refine pure_ (i := 11) (N := some 56) (v := ?_) (a' := ?_) #[true, true, true, true, true, true, true, true, true, false, true, true, false, false, false, false, false, false, false, false, false, false, false, false, false, false, false, false, false, false, false] rfl rfl (any_of HT_.out (by kernel_rfl)) (fun _ _ _ h => h) (Or.inl ⟨by rfl, ?_⟩) ?_ ?_
     rotate_left
     · intro w'; go_simp; with_reducible rfl
     rotate_left
     · simp only [Act.put, List.setIfInBounds_toArray, List.set_cons_zero, List.set_cons_succ, i64_w, i32_w]; rfl
     refine pure_ (i := 12) (N := some 57) (v := ?_) (a' := ?_) #[true, true, true, true, true, true, true, true, true, false, true, true, true, false, false, false, false, false, false, false, false, false, false, false, false, false, false, false, false, false, false] rfl rfl (any_of HT_.out (by kernel_rfl)) (fun _ _ _ h => h) (Or.inl ⟨by rfl, ?_⟩) ?_ ?_
     rotate_left
     · intro w'; go_simp; with_reducible rfl
     rotate_left
     · simp only [Act.put, List.setIfInBounds_toArray, List.set_cons_zero, List.set_cons_succ, i64_w, i32_w]; rfl
     refine pure_ (i := 13) (N := some 58) (v := ?_) (a' := ?_) #[true, true, true, true, true, true, true, true, true, false, true, true, true, true, false, false, false, false, false, false, false, false, false, false, false, false, false, false, false, false, false] rfl rfl (any_of HT_.out (by kernel_rfl)) (fun _ _ _ h => h) (Or.inl ⟨by rfl, ?_⟩) ?_ ?_
     rotate_left
     · intro w'; go_simp; with_reducible rfl
     rotate_left
     · simp only [Act.put, List.setIfInBounds_toArray, List.set_cons_zero, List.set_cons_succ, i64_w, i32_w]; rfl
     refine pure_ (i := 15) (N := some 60) (v := ?_) (a' := ?_) #[true, true, true, true, true, true, true, true, true, false, true, true, true, true, false, true, false, false, false, false, false, false, false, false, false, false, false, false, false, false, false] rfl rfl (any_of HT_.out (by kernel_rfl)) (fun _ _ _ h => h) (Or.inl ⟨by rfl, ?_⟩) ?_ ?_
     rotate_left
     · intro w'; go_simp; with_reducible rfl
     rotate_left
     · simp only [Act.put, List.setIfInBounds_toArray, List.set_cons_zero, List.set_cons_succ, i64_w, i32_w]; rfl
     refine pure_ (i := 16) (N := some 61) (v := ?_) (a' := ?_) #[true, true, true, true, true, true, true, true, true, false, true, true, true, true, false, true, true, false, false, false, false, false, false, false, false, false, false, false, false, false, false] rfl rfl (any_of HT_.out (by kernel_rfl)) (fun _ _ _ h => h) (Or.inl ⟨by rfl, ?_⟩) ?_ ?_
     rotate_left
     · intro w'; go_simp; with_reducible rfl
     rotate_left
     · simp only [Act.put, List.setIfInBounds_toArray, List.set_cons_zero, List.set_cons_succ, i64_w, i32_w]; rfl
     refine pure_ (i := 17) (N := some 62) (v := ?_) (a' := ?_) #[true, true, true, true, true, true, true, true, true, false, true, true, true, true, false, true, true, true, false, false, false, false, false, false, false, false, false, false, false, false, false] rfl rfl (any_of HT_.out (by kernel_rfl)) (fun _ _ _ h => h) (Or.inl ⟨by rfl, ?_⟩) ?_ ?_
     rotate_left
     · intro w'; go_simp; with_reducible rfl
     rotate_left
     · simp only [Act.put, List.setIfInBounds_toArray, List.set_cons_zero, List.set_cons_succ, i64_w, i32_w]; rfl
     refine pure_ (i := 18) (N := some 63) (v := ?_) (a' := ?_) #[true, true, true, true, true, true, true, true, true, false, true, true, true, true, false, true, true, true, true, false, false, false, false, false, false, false, false, false, false, false, false] rfl rfl (any_of HT_.out (by kernel_rfl)) (fun _ _ _ h => h) (Or.inl ⟨by rfl, ?_⟩) ?_ ?_
     rotate_left
     · intro w'; go_simp; with_reducible rfl
     rotate_left
     · simp only [Act.put, List.setIfInBounds_toArray, List.set_cons_zero, List.set_cons_succ, i64_w, i32_w]; rfl
     refine pure_ (i := 19) (N := some 64) (v := ?_) (a' := ?_) #[true, true, true, true, true, true, true, true, true, false, true, true, true, true, false, true, true, true, true, true, false, false, false, false, false, false, false, false, false, false, false] rfl rfl (any_of HT_.out (by kernel_rfl)) (fun _ _ _ h => h) (Or.inl ⟨by rfl, ?_⟩) ?_ ?_
     rotate_left
     · intro w'; go_simp; with_reducible rfl
     rotate_left
     · simp only [Act.put, List.setIfInBounds_toArray, List.set_cons_zero, List.set_cons_succ, i64_w, i32_w]; rfl
     refine pure_ (i := 22) (N := some 67) (v := ?_) (a' := ?_) #[true, true, true, true, true, true, true, true, true, false, true, true, true, true, false, true, true, true, true, true, false, false, true, false, false, false, false, false, false, false, false] rfl rfl (any_of HT_.out (by kernel_rfl)) (fun _ _ _ h => h) (Or.inl ⟨by rfl, ?_⟩) ?_ ?_
     rotate_left
     · intro w'; go_simp; with_reducible rfl
     rotate_left
     · simp only [Act.put, List.setIfInBounds_toArray, List.set_cons_zero, List.set_cons_succ, i64_w, i32_w]; rfl
     refine pure_ (i := 23) (N := some 68) (v := ?_) (a' := ?_) #[true, true, true, true, true, true, true, true, true, false, true, true, true, true, false, true, true, true, true, true, false, false, true, true, false, false, false, false, false, false, false] rfl rfl (any_of HT_.out (by kernel_rfl)) (fun _ _ _ h => h) (Or.inl ⟨by rfl, ?_⟩) ?_ ?_
     rotate_left
     · intro w'; go_simp; with_reducible rfl
     rotate_left
     · simp only [Act.put, List.setIfInBounds_toArray, List.set_cons_zero, List.set_cons_succ, i64_w, i32_w]; rfl
     refine pure_ (i := 24) (N := some 69) (v := ?_) (a' := ?_) #[true, true, true, true, true, true, true, true, true, false, true, true, true, true, false, true, true, true, true, true, false, false, true, true, true, false, false, false, false, false, false] rfl rfl (any_of HT_.out (by kernel_rfl)) (fun _ _ _ h => h) (Or.inl ⟨by rfl, ?_⟩) ?_ ?_
     rotate_left
     · intro w'; go_simp; with_reducible rfl
     rotate_left
     · simp only [Act.put, List.setIfInBounds_toArray, List.set_cons_zero, List.set_cons_succ, i64_w, i32_w]; rfl
     refine pure_ (i := 25) (N := some 70) (v := ?_) (a' := ?_) #[true, true, true, true, true, true, true, true, true, false, true, true, true, true, false, true, true, true, true, true, false, false, true, true, true, true, false, false, false, false, false] rfl rfl (any_of HT_.out (by kernel_rfl)) (fun _ _ _ h => h) (Or.inl ⟨by rfl, ?_⟩) ?_ ?_
     rotate_left
     · intro w'; go_simp; with_reducible rfl
     rotate_left
     · simp only [Act.put, List.setIfInBounds_toArray, List.set_cons_zero, List.set_cons_succ, i64_w, i32_w]; rfl
     refine take_ (i := 14) (N := some 59) (v := ?_) (a' := ?_) #[true, true, true, true, true, true, true, true, true, false, true, true, true, true, true, true, true, true, true, true, false, false, true, true, true, true, false, false, false, false, false] rfl rfl (take_ofW HT_.out HW_.out (by kernel_rfl)) (fun _ _ _ h => h) (Or.inl ⟨by rfl, ?_⟩) hHeld ?_ ?_
     rotate_left
     · rintro w' ⟨s0, s1⟩; go_simp; with_reducible rfl
     rotate_left
     · simp only [Act.put, List.setIfInBounds_toArray, List.set_cons_zero, List.set_cons_succ, i64_w, i32_w]; rfl
     refine take_ (i := 20) (N := some 65) (v := ?_) (a' := ?_) #[true, true, true, true, true, true, true, true, true, false, true, true, true, true, true, true, true, true, true, true, true, false, true, true, true, true, false, false, false, false, false] rfl rfl (take_ofW HT_.out HW_.out (by kernel_rfl)) (fun _ _ _ h => h) (Or.inl ⟨by rfl, ?_⟩) hHeld ?_ ?_
     rotate_left
     · rintro w' ⟨s0, s1⟩; go_simp; with_reducible rfl
     rotate_left
     · simp only [Act.put, List.setIfInBounds_toArray, List.set_cons_zero, List.set_cons_succ, i64_w, i32_w]; rfl
     refine pure_ (i := 21) (N := some 66) (v := ?_) (a' := ?_) #[true, true, true, true, true, true, true, true, true, false, true, true, true, true, true, true, true, true, true, true, true, true, true, true, true, true, false, false, false, false, false] rfl rfl (any_of HT_.out (by kernel_rfl)) (fun _ _ _ h => h) (Or.inl ⟨by rfl, ?_⟩) ?_ ?_
     rotate_left
     · intro w'; go_simp; with_reducible rfl
     rotate_left
     · simp only [Act.put, List.setIfInBounds_toArray, List.set_cons_zero, List.set_cons_succ, i64_w, i32_w]; rfl
     refine take_ (i := 26) (N := some 71) (v := ?_) (a' := ?_) #[true, true, true, true, true, true, true, true, true, false, true, true, true, true, true, true, true, true, true, true, true, true, true, true, true, true, true, false, false, false, false] rfl rfl (take_ofW HT_.out HW_.out (by kernel_rfl)) (fun _ _ _ h => h) (Or.inl ⟨by rfl, ?_⟩) hHeld ?_ ?_
     rotate_left
     · rintro w' ⟨s0, s1⟩; go_simp; with_reducible rfl
     rotate_left
     · simp only [Act.put, List.setIfInBounds_toArray, List.set_cons_zero, List.set_cons_succ, i64_w, i32_w]; rfl
     refine pure_ (i := 27) (N := some 72) (v := ?_) (a' := ?_) #[true, true, true, true, true, true, true, true, true, false, true, true, true, true, true, true, true, true, true, true, true, true, true, true, true, true, true, true, false, false, false] rfl rfl (any_of HT_.out (by kernel_rfl)) (fun _ _ _ h => h) (Or.inl ⟨by rfl, ?_⟩) ?_ ?_
     rotate_left
     · intro w'; go_simp; with_reducible rfl
     rotate_left
     · simp only [Act.put, List.setIfInBounds_toArray, List.set_cons_zero, List.set_cons_succ, i64_w, i32_w]; rfl
     refine join_ (σ := Value × Nat) 1 #[true, true, true, true, true, true, true, true, true, true, true, true, true, true, true, true, true, true, true, true, true, true, true, true, true, true, true, true, true, true, false] (fun s_ => [(54, s_.1), (7, .pointer (some ⟨s_.2, 0, none⟩)), (73, .agg #[.slice (some aF) y168.length y168.length, s_.1, .int .i64 (rd x5_2 (aJ)), .int .i64 (rd x5_2 (aN)), .int .i64 (wrap64 (bt a0 (aP)))])]) (fun s_ w' => (w'.cell? (aF.add ((aJ)).toNat) = some (.int .i64 (rd x5_2 (aJ))) ∧ w'.cell? (aF.add ((aN)).toNat) = some (.int .i64 (rd x5_2 (aN)))) ∧ (Kd.V (Kd.int .i64) 3 w' w.heap.size (fun k_ => (w.heap.size ≤ k_) ∧ some k_ ≠ (s_.1 : Value).ownBlock ∧ k_ ≠ aE ∧ k_ ≠ s_.2) (.slice (some aF) y168.length y168.length) y168) ∧ (Kd.V (Kd.int .i64) 3 w' w.heap.size (fun k_ => (w.heap.size ≤ k_) ∧ some k_ ≠ (s_.1 : Value).ownBlock ∧ k_ ≠ aE ∧ k_ ≠ s_.2) (.slice A67 y173.length c67) y173) ∧ (Kd.R (Kd.int .i64) 3 w' w.heap.size (fun k_ => (w.heap.size ≤ k_) ∧ some k_ ≠ (.slice (some aF) x5_2.length aR : Value).ownBlock) s_.1 t178) ∧ (Kd.R (Kd.int .i64) 3 w' w.heap.size (fun k_ => (w.heap.size ≤ k_) ∧ some k_ ≠ (s_.1 : Value).ownBlock) (.slice (some aF) x5_2.length aR) x5_2) ∧ (w'.heap[aE]? = some (.cells #[.slice none 0 0, .slice none 0 0, .int .i64 0, .int .i64 0, .int .i64 0] 56 (0, 0))) ∧ (w'.heap[s_.2]? = some (.cells #[.slice none 0 0, .slice none 0 0, .int .i64 0, .int .i64 0, .int .i64 0] 56 (0, 0))) ∧ (w.heap.size ≤ s_.2) ∧ (w.heap.size ≤ s_.2) ∧ (aE ≠ s_.2) ∧ (s_.2 ≠ aE) ∧ (Below w.heap.size w w')) ?_ ?_
     rotate_left
     · intro hCont
       refine two_ (i := 9) (j := 29) (Ni := some 54) (Nj := some 7) #[true, true, true, true, true, true, true, true, true, true, true, true, true, true, true, true, true, true, true, true, true, true, true, true, true, true, true, true, false, false, false] #[true, true, true, true, true, true, true, true, true, false, true, true, true, true, true, true, true, true, true, true, true, true, true, true, true, true, true, true, false, true, false] rfl rfl rfl rfl (two_of HT_.out (by kernel_rfl)) (by decide) (by decide) (fun K hK => ?_) (fun K hK => ?_)
       · skip
         refine goes_ Try.func78 (by kernel_rfl) rfl #[.slice A67 y173.length c67] (by rfl) rfl rfl (by (try simp only [List.map_toArray, List.map_cons, List.map_nil]); first | done | rfl | (simp only [List.length_drop, List.length_take]; rfl)) ?_
         with_reducible refine (slices_Clone_int_int.calls _ _ y173 t178 _ ?side1 ?side2 A33.out).mono ?_
         (case side1 => repeat (first | (with_reducible refine Kd.C_alloc ?_ _) | (with_reducible refine Kd.C_drewN ?_ _) | (with_reducible refine Kd.C_drew ?_) | exact (Kd.V_reads' aI.out).2.2))
         (case side2 => exact (Kd.V_reads' aI.out).2.1)
         rintro e w68 ⟨v179, rfl, ho0, hb⟩
         have aZ := (hb.cell (World.block_lt_of_cell? _ _ (hHeld.1))).trans (hHeld.1)
         have aY := (hb.cell (World.block_lt_of_cell? _ _ (hHeld.2))).trans (hHeld.2)
         refine ⟨_, rfl, ?_⟩
         have n0_ := Aside0.mk (Kd.R_elder' (by (with_reducible repeat (first | apply Kd.R_alloc | apply Kd.R_drewN | apply Kd.R_drew)); exact aC.out) (Kd.R_base ho0) hb)
         have n1_ := Aside0.mk (Kd.V_elder' (by (with_reducible repeat (first | apply Kd.V_alloc | apply Kd.V_drewN | apply Kd.V_drew)); exact aL.out) (Kd.R_base ho0) hb)
         have n2_ := Aside0.mk (Kd.V_elder' (by (with_reducible repeat (first | apply Kd.V_alloc | apply Kd.V_drewN | apply Kd.V_drew)); exact aI.out) (Kd.R_base ho0) hb)
         have n3_ := Aside0.mk (Kd.R_lower (Kd.R_new' (Kd.R_newM (M := fun k_ => (w.heap.size ≤ k_)) ho0 (below_size (by repeat (first | (with_reducible first | exact HB.out | apply below_alloc | apply pw_below_drewN | apply below_drew1 | refine below_set ?_ aM.out) | exact HB.out))) (fun k_ h_ => h_)) (Kd.R_lt (by (with_reducible repeat (first | apply Kd.R_alloc | apply Kd.R_drewN | apply Kd.R_drew)); exact aC.out))) (below_size (by repeat (first | (with_reducible first | exact HB.out | apply below_alloc | apply pw_below_drewN | apply below_drew1 | refine below_set ?_ aM.out) | exact HB.out))))
         have n4_ := Aside0.mk (blk_below (g := aE) (by (with_reducible repeat (first | refine blk_drewN ?_ _ | refine blk_drew ?_ | refine blk_alloc ?_ _)); exact aD.out) hb)
         have n5_ := Aside0.mk (below_step (by repeat (first | (with_reducible first | exact HB.out | apply below_alloc | apply pw_below_drewN | apply below_drew1 | refine below_set ?_ aM.out) | exact HB.out)) hb)
         clear aC
         clear aL
         clear aI
         clear aD
         clear HB
         have aC := n0_
         have aL := n1_
         have aI := n2_
         have aO := n3_
         have aD := n4_
         have HB := n5_
         clear n0_ n1_ n2_ n3_ n4_ n5_
         (try clear hb)
         (try clear hb2)
         (try clear hk)
         (try clear hi)
         (try clear ho0)
         obtain ⟨Ao69, co69, bS⟩ := Kd.R_slice aO.out
         (first | subst bS | (injection bS with f1_ f2_ f3_; have f4_ := f1_.symm; have f5_ := f3_.symm; clear f1_ f2_ f3_; subst f4_; subst f5_))
         refine hK.out _ _ ⟨aZ, aY⟩ (fun hHeld => ?_)
         clear hK K
         refine norm_ (a' := ?_) ?_ ?_
         rotate_left
         · show Act.put _ (some 54) _ = _; simp only [Act.put, List.setIfInBounds_toArray, List.set_cons_zero, List.set_cons_succ, i64_w, i32_w]; rfl
         refine pure_ (i := 28) (N := some 73) (v := ?_) (a' := ?_) #[true, true, true, true, true, true, true, true, true, true, true, true, true, true, true, true, true, true, true, true, true, true, true, true, true, true, true, true, true, false, false] rfl rfl (any_of HT_.out (by kernel_rfl)) (fun _ _ _ h => h) (Or.inl ⟨by rfl, ?_⟩) ?_ ?_
         rotate_left
         · intro w'; go_simp; with_reducible rfl
         rotate_left
         · simp only [Act.put, List.setIfInBounds_toArray, List.set_cons_zero, List.set_cons_succ, i64_w, i32_w]; rfl
         refine one_ (i := 29) (N := some 7) #[true, true, true, true, true, true, true, true, true, true, true, true, true, true, true, true, true, true, true, true, true, true, true, true, true, true, true, true, true, true, false] rfl rfl (one_of HT_.out (by kernel_rfl)) (by decide) (fun K hK => ?_)
         refine box_step ?hg (N := 7) ?hd (cs := #[.slice none 0 0, .slice none 0 0, .int .i64 0, .int .i64 0, .int .i64 0]) (t := 56) ?hr ?_; (case hd => rfl); (case hg => rfl); (case hr => first | (go_simp; done) | (go_simp; rfl))
         intro aA hg w70 hbox hb
         have aZ := (hb.cell (World.block_lt_of_cell? _ _ (hHeld.1))).trans (hHeld.1)
         have aY := (hb.cell (World.block_lt_of_cell? _ _ (hHeld.2))).trans (hHeld.2)
         have n0_ := Aside0.mk (Kd.R_below (by (with_reducible repeat (first | apply Kd.R_alloc | apply Kd.R_drewN | apply Kd.R_drew)); exact aC.out) hb)
         have n1_ := Aside0.mk (Kd.V_below (Kd.V_elderB (by (with_reducible repeat (first | apply Kd.V_alloc | apply Kd.V_drewN | apply Kd.V_drew)); exact aL.out) aA (Nat.le_of_eq hg.symm)) hb)
         have n2_ := Aside0.mk (Kd.V_below (Kd.V_elderB (by (with_reducible repeat (first | apply Kd.V_alloc | apply Kd.V_drewN | apply Kd.V_drew)); exact aI.out) aA (Nat.le_of_eq hg.symm)) hb)
         have n3_ := Aside0.mk (Kd.R_below (by (with_reducible repeat (first | apply Kd.R_alloc | apply Kd.R_drewN | apply Kd.R_drew)); exact aO.out) hb)
         have n4_ := Aside0.mk (blk_below (g := aE) (by (with_reducible repeat (first | refine blk_drewN ?_ _ | refine blk_drew ?_ | refine blk_alloc ?_ _)); exact aD.out) hb)
         have n5_ := Aside0.mk (below_step (by repeat (first | (with_reducible first | exact HB.out | apply below_alloc | apply pw_below_drewN | apply below_drew1 | refine below_set ?_ aM.out) | exact HB.out)) hb)
         have n6_ := Aside0.mk (hbox)
         have n7_ := Aside0.mk ((by rw [hg]; exact (below_size (by repeat (first | (with_reducible first | exact HB.out | apply below_alloc | apply pw_below_drewN | apply below_drew1 | refine below_set ?_ aM.out) | exact HB.out))) : w.heap.size ≤ aA))
         have n8_ := Aside0.mk ((by rw [hg]; exact (below_size (by repeat (first | (with_reducible first | exact HB.out | apply below_alloc | apply pw_below_drewN | apply below_drew1 | refine below_set ?_ aM.out) | exact HB.out))) : w.heap.size ≤ aA))
         have n9_ := Aside0.mk ((by rw [hg]; exact Nat.ne_of_lt (blk_lt (g := aE) (o := .cells #[.slice none 0 0, .slice none 0 0, .int .i64 0, .int .i64 0, .int .i64 0] 56 (0, 0)) (by (with_reducible repeat (first | refine blk_drewN ?_ _ | refine blk_drew ?_ | refine blk_alloc ?_ _)); exact aD.out)) : aE ≠ aA))
         have n10_ := Aside0.mk ((by rw [hg]; exact Nat.ne_of_gt (blk_lt (g := aE) (o := .cells #[.slice none 0 0, .slice none 0 0, .int .i64 0, .int .i64 0, .int .i64 0] 56 (0, 0)) (by (with_reducible repeat (first | refine blk_drewN ?_ _ | refine blk_drew ?_ | refine blk_alloc ?_ _)); exact aD.out)) : aA ≠ aE))
         clear aC
         clear aL
         clear aI
         clear aO
         clear aD
         clear HB
         have aC := n0_
         have aL := n1_
         have aI := n2_
         have aO := n3_
         have aD := n4_
         have HB := n5_
         have aB := n6_
         have bA := n7_
         have aQ := n8_
         have aG := n9_
         have aK := n10_
         clear n0_ n1_ n2_ n3_ n4_ n5_ n6_ n7_ n8_ n9_ n10_
         clear hb hbox hg
         refine hK.out _ _ ⟨aZ, aY⟩ (fun hHeld => ?_)
         clear hK K
         refine norm_ (a' := ?_) ?_ ?_
         rotate_left
         · show Act.put _ (some 7) _ = _; simp only [Act.put, List.setIfInBounds_toArray, List.set_cons_zero, List.set_cons_succ, i64_w, i32_w]; rfl
         exact norm_ (by simp only [putAll, Act.put, List.setIfInBounds_toArray, List.set_cons_zero, List.set_cons_succ]) (hCont (.slice Ao69 t178.length co69, aA) _ ⟨hHeld, (by (with_reducible repeat (first | apply Kd.V_alloc | apply Kd.V_drewN | apply Kd.V_drew)); exact Kd.V_mono aL.out (fun _ hk => ⟨hk.1.1.1, ⟨hk.1.2, ⟨hk.1.1.2, hk.2⟩⟩⟩)), (by (with_reducible repeat (first | apply Kd.V_alloc | apply Kd.V_drewN | apply Kd.V_drew)); exact Kd.V_mono aI.out (fun _ hk => ⟨hk.1.1.1, ⟨hk.1.2, ⟨hk.1.1.2, hk.2⟩⟩⟩)), (by (with_reducible repeat (first | apply Kd.R_alloc | apply Kd.R_drewN | apply Kd.R_drew)); exact Kd.R_mono aO.out (fun _ hk => ⟨hk.1.1, hk.2⟩)), (by (with_reducible repeat (first | apply Kd.R_alloc | apply Kd.R_drewN | apply Kd.R_drew)); exact aC.out), (by (with_reducible repeat (first | refine blk_drewN ?_ _ | refine blk_drew ?_ | refine blk_alloc ?_ _)); exact aD.out), (by (with_reducible repeat (first | refine blk_drewN ?_ _ | refine blk_drew ?_ | refine blk_alloc ?_ _)); exact aB.out), bA.out, aQ.out, aG.out, aK.out, (by repeat (first | (with_reducible first | exact HB.out | apply below_alloc | apply pw_below_drewN | apply below_drew1 | refine below_set ?_ aM.out | refine below_set ?_ aQ.out) | exact HB.out))⟩)
       · skip
         refine box_step ?hg (N := 7) ?hd (cs := #[.slice none 0 0, .slice none 0 0, .int .i64 0, .int .i64 0, .int .i64 0]) (t := 56) ?hr ?_; (case hd => rfl); (case hg => rfl); (case hr => first | (go_simp; done) | (go_simp; rfl))
         intro aA hg w68 hbox hb
         have aZ := (hb.cell (World.block_lt_of_cell? _ _ (hHeld.1))).trans (hHeld.1)
         have aY := (hb.cell (World.block_lt_of_cell? _ _ (hHeld.2))).trans (hHeld.2)
         have n0_ := Aside0.mk (Kd.R_below (by (with_reducible repeat (first | apply Kd.R_alloc | apply Kd.R_drewN | apply Kd.R_drew)); exact aC.out) hb)
         have n1_ := Aside0.mk (Kd.V_below (Kd.V_elderB (by (with_reducible repeat (first | apply Kd.V_alloc | apply Kd.V_drewN | apply Kd.V_drew)); exact aL.out) aA (Nat.le_of_eq hg.symm)) hb)
         have n2_ := Aside0.mk (Kd.V_below (Kd.V_elderB (by (with_reducible repeat (first | apply Kd.V_alloc | apply Kd.V_drewN | apply Kd.V_drew)); exact aI.out) aA (Nat.le_of_eq hg.symm)) hb)
         have n3_ := Aside0.mk (blk_below (g := aE) (by (with_reducible repeat (first | refine blk_drewN ?_ _ | refine blk_drew ?_ | refine blk_alloc ?_ _)); exact aD.out) hb)
         have n4_ := Aside0.mk (below_step (by repeat (first | (with_reducible first | exact HB.out | apply below_alloc | apply pw_below_drewN | apply below_drew1 | refine below_set ?_ aM.out) | exact HB.out)) hb)
         have n5_ := Aside0.mk (hbox)
         have n6_ := Aside0.mk ((by rw [hg]; exact (below_size (by repeat (first | (with_reducible first | exact HB.out | apply below_alloc | apply pw_below_drewN | apply below_drew1 | refine below_set ?_ aM.out) | exact HB.out))) : w.heap.size ≤ aA))
         have n7_ := Aside0.mk ((by rw [hg]; exact (below_size (by repeat (first | (with_reducible first | exact HB.out | apply below_alloc | apply pw_below_drewN | apply below_drew1 | refine below_set ?_ aM.out) | exact HB.out))) : w.heap.size ≤ aA))
         have n8_ := Aside0.mk ((by rw [hg]; exact Nat.ne_of_lt (blk_lt (g := aE) (o := .cells #[.slice none 0 0, .slice none 0 0, .int .i64 0, .int .i64 0, .int .i64 0] 56 (0, 0)) (by (with_reducible repeat (first | refine blk_drewN ?_ _ | refine blk_drew ?_ | refine blk_alloc ?_ _)); exact aD.out)) : aE ≠ aA))
         have n9_ := Aside0.mk ((by rw [hg]; exact Nat.ne_of_gt (blk_lt (g := aE) (o := .cells #[.slice none 0 0, .slice none 0 0, .int .i64 0, .int .i64 0, .int .i64 0] 56 (0, 0)) (by (with_reducible repeat (first | refine blk_drewN ?_ _ | refine blk_drew ?_ | refine blk_alloc ?_ _)); exact aD.out)) : aA ≠ aE))
         clear aC
         clear aL
         clear aI
         clear aD
         clear HB
         have aC := n0_
         have aL := n1_
         have aI := n2_
         have aD := n3_
         have HB := n4_
         have aB := n5_
         have bA := n6_
         have aQ := n7_
         have aG := n8_
         have aK := n9_
         clear n0_ n1_ n2_ n3_ n4_ n5_ n6_ n7_ n8_ n9_
         clear hb hbox hg
         refine hK.out _ _ ⟨aZ, aY⟩ (fun hHeld => ?_)
         clear hK K
         refine norm_ (a' := ?_) ?_ ?_
         rotate_left
         · show Act.put _ (some 7) _ = _; simp only [Act.put, List.setIfInBounds_toArray, List.set_cons_zero, List.set_cons_succ, i64_w, i32_w]; rfl
         refine one_ (i := 9) (N := some 54) #[true, true, true, true, true, true, true, true, true, true, true, true, true, true, true, true, true, true, true, true, true, true, true, true, true, true, true, true, false, true, false] rfl rfl (one_of HT_.out (by kernel_rfl)) (by decide) (fun K hK => ?_)
         refine goes_ Try.func78 (by kernel_rfl) rfl #[.slice A67 y173.length c67] (by rfl) rfl rfl (by (try simp only [List.map_toArray, List.map_cons, List.map_nil]); first | done | rfl | (simp only [List.length_drop, List.length_take]; rfl)) ?_
         with_reducible refine (slices_Clone_int_int.calls _ _ y173 t178 _ ?side1 ?side2 A33.out).mono ?_
         (case side1 => repeat (first | (with_reducible refine Kd.C_alloc ?_ _) | (with_reducible refine Kd.C_drewN ?_ _) | (with_reducible refine Kd.C_drew ?_) | exact (Kd.V_reads' aI.out).2.2))
         (case side2 => exact (Kd.V_reads' aI.out).2.1)
         rintro e w69 ⟨v179, rfl, ho0, hb⟩
         have aZ := (hb.cell (World.block_lt_of_cell? _ _ (hHeld.1))).trans (hHeld.1)
         have aY := (hb.cell (World.block_lt_of_cell? _ _ (hHeld.2))).trans (hHeld.2)
         refine ⟨_, rfl, ?_⟩
         have n0_ := Aside0.mk (Kd.R_elder' (by (with_reducible repeat (first | apply Kd.R_alloc | apply Kd.R_drewN | apply Kd.R_drew)); exact aC.out) (Kd.R_base ho0) hb)
         have n1_ := Aside0.mk (Kd.V_elder' (by (with_reducible repeat (first | apply Kd.V_alloc | apply Kd.V_drewN | apply Kd.V_drew)); exact aL.out) (Kd.R_base ho0) hb)
         have n2_ := Aside0.mk (Kd.V_elder' (by (with_reducible repeat (first | apply Kd.V_alloc | apply Kd.V_drewN | apply Kd.V_drew)); exact aI.out) (Kd.R_base ho0) hb)
         have n3_ := Aside0.mk (Kd.R_lower (Kd.R_new' (Kd.R_newM (M := fun k_ => (w.heap.size ≤ k_)) ho0 (below_size (by repeat (first | (with_reducible first | exact HB.out | apply below_alloc | apply pw_below_drewN | apply below_drew1 | refine below_set ?_ aM.out | refine below_set ?_ aQ.out) | exact HB.out))) (fun k_ h_ => h_)) (Kd.R_lt (by (with_reducible repeat (first | apply Kd.R_alloc | apply Kd.R_drewN | apply Kd.R_drew)); exact aC.out))) (below_size (by repeat (first | (with_reducible first | exact HB.out | apply below_alloc | apply pw_below_drewN | apply below_drew1 | refine below_set ?_ aM.out | refine below_set ?_ aQ.out) | exact HB.out))))
         have n4_ := Aside0.mk (blk_below (g := aE) (by (with_reducible repeat (first | refine blk_drewN ?_ _ | refine blk_drew ?_ | refine blk_alloc ?_ _)); exact aD.out) hb)
         have n5_ := Aside0.mk (blk_below (g := aA) (by (with_reducible repeat (first | refine blk_drewN ?_ _ | refine blk_drew ?_ | refine blk_alloc ?_ _)); exact aB.out) hb)
         have n6_ := Aside0.mk (below_step (by repeat (first | (with_reducible first | exact HB.out | apply below_alloc | apply pw_below_drewN | apply below_drew1 | refine below_set ?_ aM.out | refine below_set ?_ aQ.out) | exact HB.out)) hb)
         clear aC
         clear aL
         clear aI
         clear aD
         clear aB
         clear HB
         have aC := n0_
         have aL := n1_
         have aI := n2_
         have aO := n3_
         have aD := n4_
         have aB := n5_
         have HB := n6_
         clear n0_ n1_ n2_ n3_ n4_ n5_ n6_
         (try clear hb)
         (try clear hb2)
         (try clear hk)
         (try clear hi)
         (try clear ho0)
         obtain ⟨Ao70, co70, bR⟩ := Kd.R_slice aO.out
         (first | subst bR | (injection bR with f1_ f2_ f3_; have f4_ := f1_.symm; have f5_ := f3_.symm; clear f1_ f2_ f3_; subst f4_; subst f5_))
         refine hK.out _ _ ⟨aZ, aY⟩ (fun hHeld => ?_)
         clear hK K
         refine norm_ (a' := ?_) ?_ ?_
         rotate_left
         · show Act.put _ (some 54) _ = _; simp only [Act.put, List.setIfInBounds_toArray, List.set_cons_zero, List.set_cons_succ, i64_w, i32_w]; rfl
         refine pure_ (i := 28) (N := some 73) (v := ?_) (a' := ?_) #[true, true, true, true, true, true, true, true, true, true, true, true, true, true, true, true, true, true, true, true, true, true, true, true, true, true, true, true, true, true, false] rfl rfl (any_of HT_.out (by kernel_rfl)) (fun _ _ _ h => h) (Or.inl ⟨by rfl, ?_⟩) ?_ ?_
         rotate_left
         · intro w'; go_simp; with_reducible rfl
         rotate_left
         · simp only [Act.put, List.setIfInBounds_toArray, List.set_cons_zero, List.set_cons_succ, i64_w, i32_w]; rfl
         exact norm_ (by simp only [putAll, Act.put, List.setIfInBounds_toArray, List.set_cons_zero, List.set_cons_succ]) (hCont (.slice Ao70 t178.length co70, aA) _ ⟨hHeld, (by (with_reducible repeat (first | apply Kd.V_alloc | apply Kd.V_drewN | apply Kd.V_drew)); exact Kd.V_mono aL.out (fun _ hk => ⟨hk.1.1.1, ⟨hk.2, ⟨hk.1.1.2, hk.1.2⟩⟩⟩)), (by (with_reducible repeat (first | apply Kd.V_alloc | apply Kd.V_drewN | apply Kd.V_drew)); exact Kd.V_mono aI.out (fun _ hk => ⟨hk.1.1.1, ⟨hk.2, ⟨hk.1.1.2, hk.1.2⟩⟩⟩)), (by (with_reducible repeat (first | apply Kd.R_alloc | apply Kd.R_drewN | apply Kd.R_drew)); exact Kd.R_mono aO.out (fun _ hk => ⟨hk.1.1, hk.2⟩)), (by (with_reducible repeat (first | apply Kd.R_alloc | apply Kd.R_drewN | apply Kd.R_drew)); exact aC.out), (by (with_reducible repeat (first | refine blk_drewN ?_ _ | refine blk_drew ?_ | refine blk_alloc ?_ _)); exact aD.out), (by (with_reducible repeat (first | refine blk_drewN ?_ _ | refine blk_drew ?_ | refine blk_alloc ?_ _)); exact aB.out), bA.out, aQ.out, aG.out, aK.out, (by repeat (first | (with_reducible first | exact HB.out | apply below_alloc | apply pw_below_drewN | apply below_drew1 | refine below_set ?_ aM.out | refine below_set ?_ aQ.out) | exact HB.out))⟩)
     rintro ⟨v179, aA⟩ w71 ⟨hS_, h0_, h1_, h2_, h3_, h4_, h5_, h6_, h7_, h8_, h9_, h10_⟩
     have n0_ : Aside0 (Kd.V (Kd.int .i64) 3 w71 w.heap.size (fun k_ => (w.heap.size ≤ k_) ∧ some k_ ≠ (v179 : Value).ownBlock ∧ k_ ≠ aE ∧ k_ ≠ aA) (.slice (some aF) y168.length y168.length) y168) := ⟨h0_⟩
     have n1_ : Aside0 (Kd.V (Kd.int .i64) 3 w71 w.heap.size (fun k_ => (w.heap.size ≤ k_) ∧ some k_ ≠ (v179 : Value).ownBlock ∧ k_ ≠ aE ∧ k_ ≠ aA) (.slice A67 y173.length c67) y173) := ⟨h1_⟩
     have n2_ : Aside0 (Kd.R (Kd.int .i64) 3 w71 w.heap.size (fun k_ => (w.heap.size ≤ k_) ∧ some k_ ≠ (.slice (some aF) x5_2.length aR : Value).ownBlock) v179 t178) := ⟨h2_⟩
     have n3_ : Aside0 (Kd.R (Kd.int .i64) 3 w71 w.heap.size (fun k_ => (w.heap.size ≤ k_) ∧ some k_ ≠ (v179 : Value).ownBlock) (.slice (some aF) x5_2.length aR) x5_2) := ⟨h3_⟩
     have n4_ : Aside0 (w71.heap[aE]? = some (.cells #[.slice none 0 0, .slice none 0 0, .int .i64 0, .int .i64 0, .int .i64 0] 56 (0, 0))) := ⟨h4_⟩
     have n5_ : Aside0 (w71.heap[aA]? = some (.cells #[.slice none 0 0, .slice none 0 0, .int .i64 0, .int .i64 0, .int .i64 0] 56 (0, 0))) := ⟨h5_⟩
     have n6_ : Aside0 (w.heap.size ≤ aA) := ⟨h6_⟩
     have n7_ : Aside0 (w.heap.size ≤ aA) := ⟨h7_⟩
     have n8_ : Aside0 (aE ≠ aA) := ⟨h8_⟩
     have n9_ : Aside0 (aA ≠ aE) := ⟨h9_⟩
     have n10_ : Aside0 (Below w.heap.size w w71) := ⟨h10_⟩
     clear aC
     clear aD
     clear HB
     clear h0_ h1_ h2_ h3_ h4_ h5_ h6_ h7_ h8_ h9_ h10_
     have aL := n0_
     have aI := n1_
     have aO := n2_
     have aC := n3_
     have aD := n4_
     have aB := n5_
     have bA := n6_
     have aQ := n7_
     have aG := n8_
     have aK := n9_
     have HB := n10_
     clear n0_ n1_ n2_ n3_ n4_ n5_ n6_ n7_ n8_ n9_ n10_
     have hHeld : w71.cell? (aF.add ((aJ)).toNat) = some (.int .i64 (rd x5_2 (aJ))) ∧ w71.cell? (aF.add ((aN)).toNat) = some (.int .i64 (rd x5_2 (aN))) := hS_
     obtain ⟨aW, aV, bQ⟩ := Kd.R_slice aO.out
     (first | subst bQ | (injection bQ with f1_ f2_ f3_; have f4_ := f1_.symm; have f5_ := f3_.symm; clear f1_ f2_ f3_; subst f4_; subst f5_))
     refine norm_ (a' := ?_) ?_ ?_
     rotate_left
     · simp only [putAll, Act.put, List.setIfInBounds_toArray, List.set_cons_zero, List.set_cons_succ]; rfl
     refine one_ (i := 30) (N := none) #[true, true, true, true, true, true, true, true, true, true, true, true, true, true, true, true, true, true, true, true, true, true, true, true, true, true, true, true, true, true, true] rfl rfl (one_of HT_.out (by kernel_rfl)) (by decide) (fun K hK => ?_)
     have hs73 : w71.cell? ⟨aA, 0, none⟩ = some (.slice none 0 0) := (blk_cell aB.out 0).trans rfl
     have hfs73 := blk_frozen aB.out 0
     have hns73_0 := aG.out
     have hms73_0 := aK.out
     have hs74 : w71.cell? ⟨aA, 1, none⟩ = some (.slice none 0 0) := (blk_cell aB.out 1).trans rfl
     have hfs74 := blk_frozen aB.out 1
     have hns74_0 := aG.out
     have hms74_0 := aK.out
     have hs75 : w71.cell? ⟨aA, 2, none⟩ = some (.int .i64 0) := (blk_cell aB.out 2).trans rfl
     have hfs75 := blk_frozen aB.out 2
     have hns75_0 := aG.out
     have hms75_0 := aK.out
     have hs76 : w71.cell? ⟨aA, 3, none⟩ = some (.int .i64 0) := (blk_cell aB.out 3).trans rfl
     have hfs76 := blk_frozen aB.out 3
     have hns76_0 := aG.out
     have hms76_0 := aK.out
     have hs77 : w71.cell? ⟨aA, 4, none⟩ = some (.int .i64 0) := (blk_cell aB.out 4).trans rfl
     have hfs77 := blk_frozen aB.out 4
     have hns77_0 := aG.out
     have hms77_0 := aK.out
     refine skip_ (w1 := ?_) (by rfl) rfl ?_ ?_
     rotate_left
     · go_simp; rfl
     refine hK.out _ _ ⟨((cell_far (p := ⟨aA, _, none⟩) (by first | exact Kd.own_blk (Kd.R_ne aC.out aB.out (by decide)) | (rw [add_block]; exact Kd.own_blk (Kd.R_ne aC.out aB.out (by decide))) | (show (Addr.add _ _).block ≠ _; rw [add_block]; exact Kd.own_blk (Kd.R_ne aC.out aB.out (by decide))) | (dsimp only; exact Kd.own_blk (Kd.R_ne aC.out aB.out (by decide)))) _).trans (((cell_far (p := ⟨aA, _, none⟩) (by first | exact Kd.own_blk (Kd.R_ne aC.out aB.out (by decide)) | (rw [add_block]; exact Kd.own_blk (Kd.R_ne aC.out aB.out (by decide))) | (show (Addr.add _ _).block ≠ _; rw [add_block]; exact Kd.own_blk (Kd.R_ne aC.out aB.out (by decide))) | (dsimp only; exact Kd.own_blk (Kd.R_ne aC.out aB.out (by decide)))) _).trans (((cell_far (p := ⟨aA, _, none⟩) (by first | exact Kd.own_blk (Kd.R_ne aC.out aB.out (by decide)) | (rw [add_block]; exact Kd.own_blk (Kd.R_ne aC.out aB.out (by decide))) | (show (Addr.add _ _).block ≠ _; rw [add_block]; exact Kd.own_blk (Kd.R_ne aC.out aB.out (by decide))) | (dsimp only; exact Kd.own_blk (Kd.R_ne aC.out aB.out (by decide)))) _).trans (((cell_far (p := ⟨aA, _, none⟩) (by first | exact Kd.own_blk (Kd.R_ne aC.out aB.out (by decide)) | (rw [add_block]; exact Kd.own_blk (Kd.R_ne aC.out aB.out (by decide))) | (show (Addr.add _ _).block ≠ _; rw [add_block]; exact Kd.own_blk (Kd.R_ne aC.out aB.out (by decide))) | (dsimp only; exact Kd.own_blk (Kd.R_ne aC.out aB.out (by decide)))) _).trans (((cell_far (p := ⟨aA, _, none⟩) (by first | exact Kd.own_blk (Kd.R_ne aC.out aB.out (by decide)) | (rw [add_block]; exact Kd.own_blk (Kd.R_ne aC.out aB.out (by decide))) | (show (Addr.add _ _).block ≠ _; rw [add_block]; exact Kd.own_blk (Kd.R_ne aC.out aB.out (by decide))) | (dsimp only; exact Kd.own_blk (Kd.R_ne aC.out aB.out (by decide)))) _).trans (hHeld.1)))))))))), ((cell_far (p := ⟨aA, _, none⟩) (by first | exact Kd.own_blk (Kd.R_ne aC.out aB.out (by decide)) | (rw [add_block]; exact Kd.own_blk (Kd.R_ne aC.out aB.out (by decide))) | (show (Addr.add _ _).block ≠ _; rw [add_block]; exact Kd.own_blk (Kd.R_ne aC.out aB.out (by decide))) | (dsimp only; exact Kd.own_blk (Kd.R_ne aC.out aB.out (by decide)))) _).trans (((cell_far (p := ⟨aA, _, none⟩) (by first | exact Kd.own_blk (Kd.R_ne aC.out aB.out (by decide)) | (rw [add_block]; exact Kd.own_blk (Kd.R_ne aC.out aB.out (by decide))) | (show (Addr.add _ _).block ≠ _; rw [add_block]; exact Kd.own_blk (Kd.R_ne aC.out aB.out (by decide))) | (dsimp only; exact Kd.own_blk (Kd.R_ne aC.out aB.out (by decide)))) _).trans (((cell_far (p := ⟨aA, _, none⟩) (by first | exact Kd.own_blk (Kd.R_ne aC.out aB.out (by decide)) | (rw [add_block]; exact Kd.own_blk (Kd.R_ne aC.out aB.out (by decide))) | (show (Addr.add _ _).block ≠ _; rw [add_block]; exact Kd.own_blk (Kd.R_ne aC.out aB.out (by decide))) | (dsimp only; exact Kd.own_blk (Kd.R_ne aC.out aB.out (by decide)))) _).trans (((cell_far (p := ⟨aA, _, none⟩) (by first | exact Kd.own_blk (Kd.R_ne aC.out aB.out (by decide)) | (rw [add_block]; exact Kd.own_blk (Kd.R_ne aC.out aB.out (by decide))) | (show (Addr.add _ _).block ≠ _; rw [add_block]; exact Kd.own_blk (Kd.R_ne aC.out aB.out (by decide))) | (dsimp only; exact Kd.own_blk (Kd.R_ne aC.out aB.out (by decide)))) _).trans (((cell_far (p := ⟨aA, _, none⟩) (by first | exact Kd.own_blk (Kd.R_ne aC.out aB.out (by decide)) | (rw [add_block]; exact Kd.own_blk (Kd.R_ne aC.out aB.out (by decide))) | (show (Addr.add _ _).block ≠ _; rw [add_block]; exact Kd.own_blk (Kd.R_ne aC.out aB.out (by decide))) | (dsimp only; exact Kd.own_blk (Kd.R_ne aC.out aB.out (by decide)))) _).trans (hHeld.2))))))))))⟩ (fun hHeld => ?_)
     clear hK K
     refine done_ (done_of HT_.out (by kernel_rfl)) ?_
     have n0_ : Aside0 (Kd.R (Kd.int .i64) 3 (((((w71.setCell ⟨aA, 0, none⟩ (.slice (some aF) y168.length y168.length)).setCell ⟨aA, 1, none⟩ (.slice aW t178.length aV)).setCell ⟨aA, 2, none⟩ (.int .i64 (rd x5_2 (aJ)))).setCell ⟨aA, 3, none⟩ (.int .i64 (rd x5_2 (aN)))).setCell ⟨aA, 4, none⟩ (.int .i64 (wrap64 (bt a0 (aP))))) w.heap.size (fun k_ => (w.heap.size ≤ k_) ∧ some k_ ≠ (.slice aW t178.length aV : Value).ownBlock) (.slice (some aF) x5_2.length aR) x5_2) := ⟨by (with_reducible repeat (first | apply Kd.R_alloc | apply Kd.R_drewN | apply Kd.R_drew)); exact Kd.R_mono (Blk.R_far5 (g := aA) (Kd.R_types aC.out aB.out (by decide)) (fun _ hk => hk.2) _ _ _ _ _) (fun _ hk => ⟨hk.1.1, hk.1.2⟩)⟩
     have n1_ : Aside0 (Kd.V (Kd.int .i64) 3 (((((w71.setCell ⟨aA, 0, none⟩ (.slice (some aF) y168.length y168.length)).setCell ⟨aA, 1, none⟩ (.slice aW t178.length aV)).setCell ⟨aA, 2, none⟩ (.int .i64 (rd x5_2 (aJ)))).setCell ⟨aA, 3, none⟩ (.int .i64 (rd x5_2 (aN)))).setCell ⟨aA, 4, none⟩ (.int .i64 (wrap64 (bt a0 (aP))))) w.heap.size (fun k_ => (w.heap.size ≤ k_) ∧ some k_ ≠ (.slice aW t178.length aV : Value).ownBlock ∧ k_ ≠ aE ∧ k_ ≠ aA) (.slice (some aF) y168.length y168.length) y168) := ⟨by (with_reducible repeat (first | apply Kd.V_alloc | apply Kd.V_drewN | apply Kd.V_drew)); exact Kd.V_mono (Blk.V_far5 (g := aA) (Kd.V_mono aL.out (fun k_ hk => (⟨hk, hk.2.2.2⟩ : _ ∧ k_ ≠ aA))) (fun _ hk => hk.2) _ _ _ _ _) (fun _ hk => ⟨hk.1.1, ⟨hk.1.2.1, ⟨hk.1.2.2.1, hk.1.2.2.2⟩⟩⟩)⟩
     have n2_ : Aside0 (Kd.V (Kd.int .i64) 3 (((((w71.setCell ⟨aA, 0, none⟩ (.slice (some aF) y168.length y168.length)).setCell ⟨aA, 1, none⟩ (.slice aW t178.length aV)).setCell ⟨aA, 2, none⟩ (.int .i64 (rd x5_2 (aJ)))).setCell ⟨aA, 3, none⟩ (.int .i64 (rd x5_2 (aN)))).setCell ⟨aA, 4, none⟩ (.int .i64 (wrap64 (bt a0 (aP))))) w.heap.size (fun k_ => (w.heap.size ≤ k_) ∧ some k_ ≠ (.slice aW t178.length aV : Value).ownBlock ∧ k_ ≠ aE ∧ k_ ≠ aA) (.slice A67 y173.length c67) y173) := ⟨by (with_reducible repeat (first | apply Kd.V_alloc | apply Kd.V_drewN | apply Kd.V_drew)); exact Kd.V_mono (Blk.V_far5 (g := aA) (Kd.V_mono aI.out (fun k_ hk => (⟨hk, hk.2.2.2⟩ : _ ∧ k_ ≠ aA))) (fun _ hk => hk.2) _ _ _ _ _) (fun _ hk => ⟨hk.1.1, ⟨hk.1.2.1, ⟨hk.1.2.2.1, hk.1.2.2.2⟩⟩⟩)⟩
     have n3_ : Aside0 (Kd.R (Kd.int .i64) 3 (((((w71.setCell ⟨aA, 0, none⟩ (.slice (some aF) y168.length y168.length)).setCell ⟨aA, 1, none⟩ (.slice aW t178.length aV)).setCell ⟨aA, 2, none⟩ (.int .i64 (rd x5_2 (aJ)))).setCell ⟨aA, 3, none⟩ (.int .i64 (rd x5_2 (aN)))).setCell ⟨aA, 4, none⟩ (.int .i64 (wrap64 (bt a0 (aP))))) w.heap.size (fun k_ => (w.heap.size ≤ k_) ∧ some k_ ≠ (.slice (some aF) x5_2.length aR : Value).ownBlock) (.slice aW t178.length aV) t178) := ⟨by (with_reducible repeat (first | apply Kd.R_alloc | apply Kd.R_drewN | apply Kd.R_drew)); exact Kd.R_mono (Blk.R_far5 (g := aA) (Kd.R_types aO.out aB.out (by decide)) (fun _ hk => hk.2) _ _ _ _ _) (fun _ hk => ⟨hk.1.1, hk.1.2⟩)⟩
     have n4_ : Aside0 ((((((w71.setCell ⟨aA, 0, none⟩ (.slice (some aF) y168.length y168.length)).setCell ⟨aA, 1, none⟩ (.slice aW t178.length aV)).setCell ⟨aA, 2, none⟩ (.int .i64 (rd x5_2 (aJ)))).setCell ⟨aA, 3, none⟩ (.int .i64 (rd x5_2 (aN)))).setCell ⟨aA, 4, none⟩ (.int .i64 (wrap64 (bt a0 (aP))))).heap[aE]? = some (.cells #[.slice none 0 0, .slice none 0 0, .int .i64 0, .int .i64 0, .int .i64 0] 56 (0, 0))) := ⟨by (with_reducible repeat (first | refine blk_drewN ?_ _ | refine blk_drew ?_ | refine blk_alloc ?_ _)); refine Blk.blk_far5 ?_ aG.out _ _ _ _ _; (with_reducible repeat (first | refine blk_drewN ?_ _ | refine blk_drew ?_ | refine blk_alloc ?_ _)); exact aD.out⟩
     have n5_ : Aside0 ((((((w71.setCell ⟨aA, 0, none⟩ (.slice (some aF) y168.length y168.length)).setCell ⟨aA, 1, none⟩ (.slice aW t178.length aV)).setCell ⟨aA, 2, none⟩ (.int .i64 (rd x5_2 (aJ)))).setCell ⟨aA, 3, none⟩ (.int .i64 (rd x5_2 (aN)))).setCell ⟨aA, 4, none⟩ (.int .i64 (wrap64 (bt a0 (aP))))).heap[aA]? = some (.cells #[.slice (some aF) y168.length y168.length, .slice aW t178.length aV, .int .i64 (rd x5_2 (aJ)), .int .i64 (rd x5_2 (aN)), .int .i64 (wrap64 (bt a0 (aP)))] 56 (0, 0))) := ⟨by (with_reducible repeat (first | refine blk_drewN ?_ _ | refine blk_drew ?_ | refine blk_alloc ?_ _)); refine Blk.blk_put5 (z0 := (.slice none 0 0)) (z1 := (.slice none 0 0)) (z2 := (.int .i64 0)) (z3 := (.int .i64 0)) (z4 := (.int .i64 0)) ?_ _ _ _ _ _; (with_reducible repeat (first | refine blk_drewN ?_ _ | refine blk_drew ?_ | refine blk_alloc ?_ _)); exact aB.out⟩
     have n6_ : Aside0 (Below w.heap.size w (((((w71.setCell ⟨aA, 0, none⟩ (.slice (some aF) y168.length y168.length)).setCell ⟨aA, 1, none⟩ (.slice aW t178.length aV)).setCell ⟨aA, 2, none⟩ (.int .i64 (rd x5_2 (aJ)))).setCell ⟨aA, 3, none⟩ (.int .i64 (rd x5_2 (aN)))).setCell ⟨aA, 4, none⟩ (.int .i64 (wrap64 (bt a0 (aP)))))) := ⟨by repeat (first | (with_reducible first | exact HB.out | apply below_alloc | apply pw_below_drewN | apply below_drew1 | refine below_set ?_ aM.out | refine below_set ?_ aQ.out) | exact HB.out)⟩
     (try clear aC)
     (try clear aL)
     (try clear aI)
     (try clear aO)
     (try clear aD)
     (try clear aB)
     (try clear HB)
     generalize (((((w71.setCell ⟨aA, 0, none⟩ (.slice (some aF) y168.length y168.length)).setCell ⟨aA, 1, none⟩ (.slice aW t178.length aV)).setCell ⟨aA, 2, none⟩ (.int .i64 (rd x5_2 (aJ)))).setCell ⟨aA, 3, none⟩ (.int .i64 (rd x5_2 (aN)))).setCell ⟨aA, 4, none⟩ (.int .i64 (wrap64 (bt a0 (aP))))) = w78 at n0_ n1_ n2_ n3_ n4_ n5_ n6_ ⊢
     have aC := n0_
     have aL := n1_
     have aI := n2_
     have aO := n3_
     have aD := n4_
     have aB := n5_
     have HB := n6_
     clear n0_ n1_ n2_ n3_ n4_ n5_ n6_
     have hnb79 := aK.out
     have hnc79 := aG.out
     obtain ⟨hcz80_0, hcz80_1, hcz80_2, hcz80_3, hcz80_4, hfz80_0, hfz80_1, hfz80_2, hfz80_3, hfz80_4⟩ := Blk.blk5 (show w78.heap[aA]? = some (.cells #[.slice (some aF) y168.length y168.length, .slice aW t178.length aV, .int .i64 (rd x5_2 (aJ)), .int .i64 (rd x5_2 (aN)), .int .i64 (wrap64 (bt a0 (aP)))] _ (0, 0)) from aB.out)
     try go_wp2_with (first | ((with_reducible refine gate_callee (f := 44) rfl ?_); refine goesL_ (some 75) rfl rfl Try.func44 (by kernel_rfl) rfl #[.agg #[.slice (some aF) y168.length y168.length, .slice aW t178.length aV, .int .i64 (rd x5_2 (aJ)), .int .i64 (rd x5_2 (aN)), .int .i64 (wrap64 (bt a0 (aP)))]] rfl (by (try simp only [List.map_toArray, List.map_cons, List.map_nil]); first | done | (simp only [aS, bC, bB]; rfl) | rfl | (simp only [List.length_drop, List.length_take]; rfl)) ?_; (with_reducible refine (check_May.calls k2 (fun k_ => ((w.heap.size ≤ k_) ∧ (some k_ ≠ (.slice aW t178.length aV : Value).ownBlock ∧ (k_ ≠ aE ∧ k_ ≠ aA)))) _ _ y168 (fun k_ => some k_ = (.slice aW t178.length aV : Value).ownBlock) _ _ t178 (rd x5_2 (aJ)) (rd x5_2 (aN)) (wrap64 (bt a0 (aP))) false _ ?side1 ?side2 A44.out).mono ?_); (case side1 => exact aL.out); (case side2 => exact Kd.R_V (Kd.R_tight rfl (Kd.R_types (Kd.R_types (aO.out) aD.out (by decide)) aB.out (by decide)))); rintro e w81 ⟨rfl, hb⟩; refine ⟨_, rfl, ?_⟩; have n0_ := Aside0.mk (Kd.R_below (by (with_reducible repeat (first | apply Kd.R_alloc | apply Kd.R_drewN | apply Kd.R_drew)); exact aC.out) hb); have n1_ := Aside0.mk (Kd.V_below (by (with_reducible repeat (first | apply Kd.V_alloc | apply Kd.V_drewN | apply Kd.V_drew)); exact aL.out) hb); have n2_ := Aside0.mk (Kd.V_below (by (with_reducible repeat (first | apply Kd.V_alloc | apply Kd.V_drewN | apply Kd.V_drew)); exact aI.out) hb); have n3_ := Aside0.mk (Kd.R_below (by (with_reducible repeat (first | apply Kd.R_alloc | apply Kd.R_drewN | apply Kd.R_drew)); exact aO.out) hb); have n4_ := Aside0.mk (blk_below (g := aE) (by (with_reducible repeat (first | refine blk_drewN ?_ _ | refine blk_drew ?_ | refine blk_alloc ?_ _)); exact aD.out) hb); have n5_ := Aside0.mk (blk_below (g := aA) (by (with_reducible repeat (first | refine blk_drewN ?_ _ | refine blk_drew ?_ | refine blk_alloc ?_ _)); exact aB.out) hb); have n6_ := Aside0.mk (below_step (by repeat (first | (with_reducible first | exact HB.out | apply below_alloc | apply pw_below_drewN | apply below_drew1 | refine below_set ?_ aM.out | refine below_set ?_ aQ.out) | exact HB.out)) hb); clear aC; clear aL; clear aI; clear aO; clear aD; clear aB; clear HB; have aC := n0_; have aL := n1_; have aI := n2_; have aO := n3_; have aD := n4_; have aB := n5_; have HB := n6_; clear n0_ n1_ n2_ n3_ n4_ n5_ n6_; (try clear hb); (try clear hb2); (try clear hk); (try clear hi); obtain ⟨hcz82_0, hcz82_1, hcz82_2, hcz82_3, hcz82_4, hfz82_0, hfz82_1, hfz82_2, hfz82_3, hfz82_4⟩ := Blk.blk5 (show w81.heap[aE]? = some (.cells #[.slice none 0 0, .slice none 0 0, .int .i64 0, .int .i64 0, .int .i64 0] _ (0, 0)) from aD.out)))
     refine bodyPost_ret (results_ct rfl _ _ aE 56 #[.slice none 0 0, .slice none 0 0, .int .i64 0, .int .i64 0, .int .i64 0] (0, 0) _ rfl (by (with_reducible repeat (first | refine blk_drewN ?_ _ | refine blk_drew ?_ | refine blk_alloc ?_ _)); refine Blk.blk_put5 (z0 := (.slice none 0 0)) (z1 := (.slice none 0 0)) (z2 := (.int .i64 0)) (z3 := (.int .i64 0)) (z4 := (.int .i64 0)) ?_ _ _ _ _ _; (with_reducible repeat (first | refine blk_drewN ?_ _ | refine blk_drew ?_ | refine blk_alloc ?_ _)); exact aD.out) Try.underlying56 rfl (by kernel_rfl)) rfl ?_
     exact ⟨_, _, by first | rfl | (simp [errW_none, errW_some] <;> rfl) | (simp only [← bG, ← bF, ← aS, ← bC, ← bB]; first | rfl | (simp [errW_none, errW_some] <;> rfl)) | (simp [*, errW_none, errW_some] <;> rfl), (RC.V_nil _ _ _ _ _), by first | exact Kd.R_nil _ _ _ _ _ | exact Kd.N_nil _ _ _ _ _ | exact Kd.V_nil _ _ _ _ _ | exact Kd.Q_nil _ _ _ _ _ | exact Kd.S_nil _ _ _ _ _, by repeat (first | (with_reducible first | exact HB.out | apply below_alloc | apply pw_below_drewN | apply below_drew1 | refine below_set ?_ aM.out | refine below_set ?_ aQ.out) | exact HB.out)⟩

end Go.Proofs.Ytbhkmgidokonkaa.PChecks
