-- Written by a program of this session (pprint.py) out of the translation, with hand-proved walks pasted in.
import Derived.Test.YtbhkmgidokonkaaPFrameTurnedx0
import Derived.Test.YtbhkmgidokonkaaPFrameTurnedx1
namespace Go.Proofs.Ytbhkmgidokonkaa.PFrameTurned
open Go.RowKit Go.Proofs.YtbhkmgidokonkaaW.PrintWords Go.Proofs.YtbhkmgidokonkaaW.PrintLast Go.Proofs.YtbhkmgidokonkaaW.PrintMore
attribute [local go_sem] max2_int min2_int max_two min_two max_three min_three max_four min_four   -- for this text's walks alone
set_option linter.unusedVariables false
set_option linter.unusedSimpArgs false

/-! ### grafterlaw16_FrameTurned: function 4 -/
mutual
def grafterlaw16_FrameTurned.j0 : Nat → Int → Int → ByteArray → Bool → Option (Bool)
  | 0, _, _, _, _ => none
  | k + 1, x1, x2, x7, x30 => if x30 = true then (some (x7.toList == ([] : List UInt8))) else ((some (([] : List Int) : List Int)).bind fun y132 => (if y132.length + x7.size < 140737488355328 then ((some (y132 ++ bytesOf x7 : List Int)).bind fun y135 => (if (IntKind.u64.wrap (wrap64 ((y135.length : Int) - 5))) = 0 then (none) else (grafterlaw16_FrameTurned.l0 k y135 (wrap64 (2 + (wrap64 (Int.tmod (IntKind.u64.wrap (x1)) (IntKind.u64.wrap (wrap64 ((y135.length : Int) - 5))))))) (wrap64 (1 + (wrap64 (Int.tmod (IntKind.u64.wrap (x2)) 4294967295)))) 0))) else (none)))
def grafterlaw16_FrameTurned.l0 : Nat → List Int → Int → Int → Int → Option (Bool)
  | 0, _, _, _, _ => none
  | k + 1, x9, x10, x11, x12 => if x12 < 4 then (if 0 ≤ (wrap64 (x10 + x12)) then (if (wrap64 (x10 + x12)) < (x9.length : Int) then (if 0 ≤ (wrap64 (8 * x12)) then (grafterlaw16_FrameTurned.l0 k (x9.set ((wrap64 (x10 + x12)) : Int).toNat (Go.bits .xor .u8 (rd x9 (wrap64 (x10 + x12))) ((shr .i64 x11 (wrap64 (8 * x12))) % 256))) x10 x11 (wrap64 (x12 + 1))) else (none)) else (none)) else (none)) else ((frame_Get.f k (strOfNums x9) 0).bind fun bt140 => ((grafterlaw0_Num.f bt140.2.2).bind fun t143 => (some (t143 == 1600))))
end
def grafterlaw16_FrameTurned.f (k : Nat) (a0 : ByteArray) (a1 : Int) (a2 : Int) : Option (Bool) := (grafterlaw16_awake.f k).bind fun t128 => (if t128 = true then ((frame_Put.f k a0).bind fun bt129 => ((grafterlaw0_Num.f bt129.2).bind fun t131 => (if t131 = 0 then (grafterlaw16_FrameTurned.j0 k a1 a2 bt129.1 (decide ((bt129.1.size : Int) < 6))) else (grafterlaw16_FrameTurned.j0 k a1 a2 bt129.1 true)))) else (some false))
theorem grafterlaw16_FrameTurned.mono_l : ∀ k, (∀ y0 y1 y2 y3, LeO (grafterlaw16_FrameTurned.j0 k y0 y1 y2 y3) (grafterlaw16_FrameTurned.j0 (k + 1) y0 y1 y2 y3)) ∧ (∀ y0 y1 y2 y3, LeO (grafterlaw16_FrameTurned.l0 k y0 y1 y2 y3) (grafterlaw16_FrameTurned.l0 (k + 1) y0 y1 y2 y3))
  | 0 => ⟨fun _ _ _ _ r h => by simp [grafterlaw16_FrameTurned.j0] at h, fun _ _ _ _ r h => by simp [grafterlaw16_FrameTurned.l0] at h⟩
  | k + 1 => by
    obtain ⟨ih0, ih1⟩ := grafterlaw16_FrameTurned.mono_l k
    refine ⟨?_, ?_⟩
    · intro y0 y1 y2 y3
      unfold grafterlaw16_FrameTurned.j0
      repeat' first
      | (with_reducible exact ih0 _ _ _ _)
      | (with_reducible exact ih1 _ _ _ _)
      | (with_reducible exact frame_Get.mono _ _ _)
      | (with_reducible exact frame_Put.mono _ _)
      | (with_reducible exact grafterlaw16_awake.mono _)
      | (with_reducible exact LeO.refl _)
      | (with_reducible exact LeO.none _)
      | (with_reducible refine LeO.ite ?_ ?_)
      | (with_reducible refine LeO.bind ?_ (fun _ => ?_))
      | exact ih0 _ _ _ _
      | exact ih1 _ _ _ _
      | exact frame_Get.mono _ _ _
      | exact frame_Put.mono _ _
      | exact grafterlaw16_awake.mono _
      | exact LeO.none _
      | refine LeO.ite ?_ ?_
      | refine LeO.bind ?_ (fun _ => ?_)
    · intro y0 y1 y2 y3
      unfold grafterlaw16_FrameTurned.l0
      repeat' first
      | (with_reducible exact ih0 _ _ _ _)
      | (with_reducible exact ih1 _ _ _ _)
      | (with_reducible exact frame_Get.mono _ _ _)
      | (with_reducible exact frame_Put.mono _ _)
      | (with_reducible exact grafterlaw16_awake.mono _)
      | (with_reducible exact LeO.refl _)
      | (with_reducible exact LeO.none _)
      | (with_reducible refine LeO.ite ?_ ?_)
      | (with_reducible refine LeO.bind ?_ (fun _ => ?_))
      | exact ih0 _ _ _ _
      | exact ih1 _ _ _ _
      | exact frame_Get.mono _ _ _
      | exact frame_Put.mono _ _
      | exact grafterlaw16_awake.mono _
      | exact LeO.none _
      | refine LeO.ite ?_ ?_
      | refine LeO.bind ?_ (fun _ => ?_)
theorem grafterlaw16_FrameTurned.mono : ∀ a0 a1 a2 k, LeO (grafterlaw16_FrameTurned.f k a0 a1 a2) (grafterlaw16_FrameTurned.f (k + 1) a0 a1 a2) := by
  intro a0 a1 a2 k
  obtain ⟨ih0, ih1⟩ := grafterlaw16_FrameTurned.mono_l k
  unfold grafterlaw16_FrameTurned.f
  repeat' first
      | (with_reducible exact ih0 _ _ _ _)
      | (with_reducible exact ih1 _ _ _ _)
      | (with_reducible exact frame_Get.mono _ _ _)
      | (with_reducible exact frame_Put.mono _ _)
      | (with_reducible exact grafterlaw16_awake.mono _)
      | (with_reducible exact LeO.refl _)
      | (with_reducible exact LeO.none _)
      | (with_reducible refine LeO.ite ?_ ?_)
      | (with_reducible refine LeO.bind ?_ (fun _ => ?_))
      | exact ih0 _ _ _ _
      | exact ih1 _ _ _ _
      | exact frame_Get.mono _ _ _
      | exact frame_Put.mono _ _
      | exact grafterlaw16_awake.mono _
      | exact LeO.none _
      | refine LeO.ite ?_ ?_
      | refine LeO.bind ?_ (fun _ => ?_)
def grafterlaw16_FrameTurned.T12 : Bool × List (List Nat × List Nat) := (true, [([], []), ([], []), ([], []), ([1, 2], [1, 2]), ([], []), ([], []), ([], []), ([5, 6], [5, 6]), ([4, 7], [4, 7]), ([8], [8]), ([], []), ([], []), ([11], [11]), ([10, 12], [10, 12]), ([13], [13]), ([9, 14], [9, 14]), ([0, 3, 0, 1, 2, 3, 4, 5, 6, 7, 8, 9, 10, 11, 12, 13, 14, 15], [0, 3]), ([16, 15, 0, 1, 2, 3, 4, 5, 6, 7, 8, 9, 10, 11, 12, 13, 14, 15], [15, 16])])
def grafterlaw16_FrameTurned.B12 : List Nat := [0, 0, 0, 6, 0, 0, 0, 96, 240, 496, 0, 0, 2048, 7168, 15360, 32752, 65535, 131071]
theorem grafterlaw16_FrameTurned.tab12 : rtab .any (opsOf Try.f4 12) = grafterlaw16_FrameTurned.T12 := by kernel_rfl
theorem grafterlaw16_FrameTurned.bits12 : waitsOk grafterlaw16_FrameTurned.T12.2 grafterlaw16_FrameTurned.B12 = true := by kernel_rfl
set_option maxHeartbeats 8000000 in
set_option maxRecDepth 100000 in
theorem grafterlaw16_FrameTurned.calls (k : Nat) (a0 : ByteArray) (a1 : Int) (a2 : Int) (r : Bool) (w : World) (hrt : r = true) (h : grafterlaw16_FrameTurned.f k a0 a1 a2 = some r) :
    Calls Try.prog 4 #[.string a0, .int .i64 a1, .int .i64 a2] w fun e w' => e = .returned (.bool r) ∧ Below w.heap.size w w' := by
  have HRT := Aside0.mk hrt
  clear hrt
  have HB := Aside0.mk (Below.refl w.heap.size w)
  have H : ((grafterlaw16_awake.f k).bind fun t128 => (if t128 = true then ((frame_Put.f k a0).bind fun bt129 => ((grafterlaw0_Num.f bt129.2).bind fun t131 => (if t131 = 0 then (grafterlaw16_FrameTurned.j0 k a1 a2 bt129.1 (decide ((bt129.1.size : Int) < 6))) else (grafterlaw16_FrameTurned.j0 k a1 a2 bt129.1 true)))) else (some false))) = some r := h
  clear h
  replace H := Option.bind_eq_some_iff.mp H
  obtain ⟨t128, A40, H⟩ := H
  replace H : (if t128 = true then ((frame_Put.f k a0).bind fun bt129 => ((grafterlaw0_Num.f bt129.2).bind fun t131 => (if t131 = 0 then (grafterlaw16_FrameTurned.j0 k a1 a2 bt129.1 (decide ((bt129.1.size : Int) < 6))) else (grafterlaw16_FrameTurned.j0 k a1 a2 bt129.1 true)))) else (some false)) = some r := H
  have A4 := Aside0.mk A40
  clear A40
  by_cases c5 : t128 = true
  · subst c5
    have H1 : ((frame_Put.f k a0).bind fun bt129 => ((grafterlaw0_Num.f bt129.2).bind fun t131 => (if t131 = 0 then (grafterlaw16_FrameTurned.j0 k a1 a2 bt129.1 (decide ((bt129.1.size : Int) < 6))) else (grafterlaw16_FrameTurned.j0 k a1 a2 bt129.1 true)))) = some r := by rw [if_pos rfl] at H; exact H
    clear H
    have H := H1
    clear H1
    replace H := Option.bind_eq_some_iff.mp H
    obtain ⟨⟨t129, t130⟩, A60, H⟩ := H
    replace H : ((grafterlaw0_Num.f t130).bind fun t131 => (if t131 = 0 then (grafterlaw16_FrameTurned.j0 k a1 a2 t129 (decide ((t129.size : Int) < 6))) else (grafterlaw16_FrameTurned.j0 k a1 a2 t129 true))) = some r := H
    have A6 := Aside0.mk A60
    clear A60
    have HC7 := Aside0.mk H
    clear H
    go_enter Try.func4, Try.ntmps4
    go_upto_region 4 with (first | ((with_reducible refine gate_callee (f := 27) rfl ?_); refine goesL_ (some 16) rfl rfl Try.func27 (by kernel_rfl) rfl #[] rfl (by (try simp only [List.map_toArray, List.map_cons, List.map_nil]); first | done | rfl | (simp only [List.length_drop, List.length_take]; rfl)) ?_; (with_reducible refine (grafterlaw16_awake.calls k  true _ rfl A4.out).mono ?_); rintro e w8 ⟨rfl, hb⟩; refine ⟨_, rfl, ?_⟩; have n0_ := Aside0.mk (below_step (by repeat (first | (with_reducible first | exact HB.out | apply below_alloc | apply pw_below_drewN | apply below_drew1) | exact HB.out)) hb); clear HB; have HB := n0_; clear n0_; (try clear hb); (try clear hb2); (try clear hk); (try clear hi)) | ((with_reducible refine gate_callee (f := 22) rfl ?_); refine goesL_ (some 20) rfl rfl Try.func22 (by kernel_rfl) rfl #[.string a0] rfl (by (try simp only [List.map_toArray, List.map_cons, List.map_nil]); first | done | rfl | (simp only [List.length_drop, List.length_take]; rfl)) ?_; (with_reducible refine (frame_Put.calls k a0 t129 t130 _ A6.out).mono ?_); rintro e w9 ⟨rfl, hb⟩; refine ⟨_, rfl, ?_⟩; have n0_ := Aside0.mk (below_step (by repeat (first | (with_reducible first | exact HB.out | apply below_alloc | apply pw_below_drewN | apply below_drew1) | exact HB.out)) hb); clear HB; have HB := n0_; clear n0_; (try clear hb); (try clear hb2); (try clear hk); (try clear hi)))
    (try simp only [Act.put, List.setIfInBounds_toArray, List.set_cons_zero, List.set_cons_succ])
    go_cut [30] (fun v30 wc => ∃ (kq : Nat) (x30_6 : Bool), v30 = .bool x30_6 ∧ Aside0 (grafterlaw16_FrameTurned.j0 kq a1 a2 t129 x30_6 = some r) ∧ Aside0 (kq ≤ k) ∧ Aside0 (Below w.heap.size w wc))
    case first =>
      have H := HC7.out
      clear HC7
      replace H := Option.bind_eq_some_iff.mp H
      obtain ⟨t131, A100, H⟩ := H
      replace H : (if t131 = 0 then (grafterlaw16_FrameTurned.j0 k a1 a2 t129 (decide ((t129.size : Int) < 6))) else (grafterlaw16_FrameTurned.j0 k a1 a2 t129 true)) = some r := H
      have A10 := Aside0.mk A100
      clear A100
      by_cases c11 : t131 = 0
      · rw [if_pos c11] at H
        have c11b0 : (t131 == 0) = true := beq_iff_eq.mpr c11
        have c11b1 : (t131 != 0) = false := bne_eq_false_iff_eq.mpr c11
        clear c11
        (first | rw [c11b0] | (simp only [i64_w, i32_w]; rw [c11b0]) | skip)
        have H' := Aside0.mk H
        clear H
        go_wp2_with (first | ((with_reducible refine gate_callee (f := 26) rfl ?_); refine goesL_ (some 24) rfl rfl Try.func26 (by kernel_rfl) rfl #[.int .i64 t130] rfl (by (try simp only [List.map_toArray, List.map_cons, List.map_nil]); first | done | rfl | (simp only [List.length_drop, List.length_take]; rfl)) ?_; (with_reducible refine (grafterlaw0_Num.calls t130 t131 _ A10.out).mono ?_); rintro e w' ⟨rfl, ⟨nd, rfl⟩⟩; refine ⟨_, rfl, ?_⟩))
        go_meet
        case rel => exact ⟨_, (decide ((t129.size : Int) < 6)), (by first | rfl | (simp; done) | (simp [*]; done)), H', ⟨by first | omega | exact Nat.le_refl _⟩, ⟨by repeat (first | (with_reducible first | exact HB.out | apply below_alloc | apply pw_below_drewN | apply below_drew1) | exact HB.out)⟩⟩
      · rw [if_neg c11] at H
        have c11b0 : (t131 == 0) = false := beq_eq_false_iff_ne.mpr c11
        have c11b1 : (t131 != 0) = true := bne_iff_ne.mpr c11
        (first | rw [c11b0] | (simp only [i64_w, i32_w]; rw [c11b0]) | skip)
        have H' := Aside0.mk H
        clear H
        go_wp2_with (first | ((with_reducible refine gate_callee (f := 26) rfl ?_); refine goesL_ (some 24) rfl rfl Try.func26 (by kernel_rfl) rfl #[.int .i64 t130] rfl (by (try simp only [List.map_toArray, List.map_cons, List.map_nil]); first | done | rfl | (simp only [List.length_drop, List.length_take]; rfl)) ?_; (with_reducible refine (grafterlaw0_Num.calls t130 t131 _ A10.out).mono ?_); rintro e w' ⟨rfl, ⟨nd, rfl⟩⟩; refine ⟨_, rfl, ?_⟩))
        go_meet
        case rel => exact ⟨_, (true), (by first | rfl | (simp; done) | (simp [*]; done)), H', ⟨by first | omega | exact Nat.le_refl _⟩, ⟨by repeat (first | (with_reducible first | exact HB.out | apply below_alloc | apply pw_below_drewN | apply below_drew1) | exact HB.out)⟩⟩
    case rest =>
      clear HC7
      try clear c1
      try clear c2
      try clear p2
      try clear c4
      try clear c5
      try clear c11
      try clear c11b0
      try clear c11b1
      obtain ⟨kq, x30_6, rfl, HA, HJ6, HB⟩ := hcut
      cases kq with
      | zero => exact absurd HA.out (by simp [grafterlaw16_FrameTurned.j0])
      | succ kj6 =>
        have H := HA.out
        clear HA
        simp only [grafterlaw16_FrameTurned.j0] at H
        by_cases c12 : x30_6 = true
        · subst c12
          have H1 : (some (t129.toList == ([] : List UInt8))) = some r := by rw [if_pos rfl] at H; exact H
          clear H
          have H := H1
          clear H1
          obtain rfl := Option.some.inj H
          go_wp2
          go_ret
          exact ⟨by first | rfl | (simp [errW_none, errW_some] <;> rfl) | (simp [*, errW_none, errW_some] <;> rfl), by repeat (first | (with_reducible first | exact HB.out | apply below_alloc | apply pw_below_drewN | apply below_drew1) | exact HB.out)⟩
        · replace c12 := Bool.eq_false_iff.mpr c12
          subst c12
          have H1 : ((some (([] : List Int) : List Int)).bind fun y132 => (if y132.length + t129.size < 140737488355328 then ((some (y132 ++ bytesOf t129 : List Int)).bind fun y135 => (if (IntKind.u64.wrap (wrap64 ((y135.length : Int) - 5))) = 0 then (none) else (grafterlaw16_FrameTurned.l0 kj6 y135 (wrap64 (2 + (wrap64 (Int.tmod (IntKind.u64.wrap (a1)) (IntKind.u64.wrap (wrap64 ((y135.length : Int) - 5))))))) (wrap64 (1 + (wrap64 (Int.tmod (IntKind.u64.wrap (a2)) 4294967295)))) 0))) else (none))) = some r := by rw [if_neg (show ¬ (false = true) by decide)] at H; exact H
          clear H
          have H := H1
          clear H1
          obtain ⟨y132, hy132⟩ : ∃ y_ : List Int, y_ = (([] : List Int)) := ⟨_, rfl⟩
          replace H : (if y132.length + t129.size < 140737488355328 then ((some (y132 ++ bytesOf t129 : List Int)).bind fun y135 => (if (IntKind.u64.wrap (wrap64 ((y135.length : Int) - 5))) = 0 then (none) else (grafterlaw16_FrameTurned.l0 kj6 y135 (wrap64 (2 + (wrap64 (Int.tmod (IntKind.u64.wrap (a1)) (IntKind.u64.wrap (wrap64 ((y135.length : Int) - 5))))))) (wrap64 (1 + (wrap64 (Int.tmod (IntKind.u64.wrap (a2)) 4294967295)))) 0))) else (none)) = some r := by first | (rw [hy132]; with_reducible exact H) | (have H2_ := (Option.bind_some _ _).symm.trans H; rw [hy132]; with_reducible exact H2_) | (have H2_ := (Option.bind_some _ _).symm.trans H; with_reducible exact H2_) | with_reducible exact H | (rw [hy132]; exact H) | exact H
          have Ny132 := Aside0.mk hy132
          clear hy132
          by_cases c13 : y132.length + t129.size < 140737488355328
          · rw [if_pos c13] at H
            have LMc13 := Aside0.mk c13
            clear c13
            obtain ⟨y135, hy135⟩ : ∃ y_ : List Int, y_ = (y132 ++ bytesOf t129) := ⟨_, rfl⟩
            replace H : (if (IntKind.u64.wrap (wrap64 ((y135.length : Int) - 5))) = 0 then (none) else (grafterlaw16_FrameTurned.l0 kj6 y135 (wrap64 (2 + (wrap64 (Int.tmod (IntKind.u64.wrap (a1)) (IntKind.u64.wrap (wrap64 ((y135.length : Int) - 5))))))) (wrap64 (1 + (wrap64 (Int.tmod (IntKind.u64.wrap (a2)) 4294967295)))) 0)) = some r := by first | (rw [hy135]; with_reducible exact H) | (have H2_ := (Option.bind_some _ _).symm.trans H; rw [hy135]; with_reducible exact H2_) | (have H2_ := (Option.bind_some _ _).symm.trans H; with_reducible exact H2_) | with_reducible exact H | (rw [hy135]; exact H) | exact H
            have Ny135 := Aside0.mk hy135
            clear hy135
            by_cases c14 : (IntKind.u64.wrap (wrap64 ((y135.length : Int) - 5))) = 0
            · rw [if_pos c14] at H
              exact absurd H (by simp)
            · rw [if_neg c14] at H
              have c14b0 : ((IntKind.u64.wrap (wrap64 ((y135.length : Int) - 5))) == 0) = false := beq_eq_false_iff_ne.mpr c14
              have c14b1 : ((IntKind.u64.wrap (wrap64 ((y135.length : Int) - 5))) != 0) = true := bne_iff_ne.mpr c14
              have H' := Aside0.mk H
              clear H
              obtain ⟨W1, hW1⟩ : ∃ W1, W1 = Lib.bytesWorld wc 5 t129 := ⟨_, rfl⟩
              obtain ⟨Ao18, hgS⟩ : ∃ g : Option Addr, g = some ⟨wc.heap.size, 0, none⟩ := ⟨_, rfl⟩
              obtain ⟨co18, hco⟩ : ∃ c, c = grownCap wc t129.size 0 5 := ⟨_, rfl⟩
              have hyl : y135.length = t129.size := by rw [Ny135.out, Ny132.out, List.nil_append, bytesOf_length]
              have kc : (convert 9 34 (.string t129)).run Try.prog wc = .ok (.slice Ao18 y135.length co18) W1 := by
                rw [hW1, hgS, hco, hyl]
                exact Lib.run_convert_string_bytes wc 9 34 5 t129 Try.underlying9 Try.underlying34 Try.underlying5
              have HO137 := Aside0.mk (show Go.Proofs.Ytbhkmgidokonkaa.Cv.RF W1 w.heap.size (.slice Ao18 y135.length co18) y135 by
                rw [hW1, hgS, hco, hyl, Ny135.out, Ny132.out, List.nil_append]
                exact Go.Proofs.Ytbhkmgidokonkaa.Cv.rf_made wc t129 (by have := LMc13.out; omega) w.heap.size HB.out.size)
              have HBn := Aside0.mk (show Below w.heap.size w W1 by
                rw [hW1]
                exact below_step HB.out (below_bytesWorld wc 5 t129))
              clear HB
              have HB := HBn
              clear HBn hW1 hgS hco hyl
              go_wp2
              go_loopg [12] kj6 (fun kq v12 w' => ∃ (x9_2 : List Int) (x12_2 : Int), v12 = .int .i64 x12_2 ∧ Aside0 (grafterlaw16_FrameTurned.l0 kq x9_2 (wrap64 (2 + (wrap64 (Int.tmod (IntKind.u64.wrap (a1)) (IntKind.u64.wrap (wrap64 ((y135.length : Int) - 5))))))) (wrap64 (1 + (wrap64 (Int.tmod (IntKind.u64.wrap (a2)) 4294967295)))) x12_2 = some r) ∧ Aside0 (kq ≤ kj6) ∧ Aside0 (Go.Proofs.Ytbhkmgidokonkaa.Cv.RF w' w.heap.size (.slice Ao18 y135.length co18) x9_2) ∧ Aside0 (Below w.heap.size w w'))
              case atStart => exact ⟨(y135), (0), (by first | rfl | (simp; done) | (simp [*]; done)), H', ⟨Nat.le_refl _⟩, ⟨by (with_reducible repeat (first | apply Go.Proofs.Ytbhkmgidokonkaa.Cv.rf_alloc | apply Go.Proofs.Ytbhkmgidokonkaa.Cv.rf_drewN | apply Go.Proofs.Ytbhkmgidokonkaa.Cv.rf_drew)); exact HO137.out⟩, ⟨by repeat (first | (with_reducible first | exact HB.out | apply below_alloc | apply pw_below_drewN | apply below_drew1) | exact HB.out)⟩⟩
              case round =>
                clear H'
                try clear c1
                try clear c2
                try clear p2
                try clear c4
                try clear c5
                try clear p6
                try clear c11
                try clear c11b0
                try clear c11b1
                try clear c12
                try clear c13
                try clear c14
                try clear c14b0
                try clear c14b1
                try clear p2
                obtain ⟨x9_2, x12_2, rfl, HA, HK2, HO_9, HB⟩ := hrel
                have hl9_2 := Go.Proofs.Ytbhkmgidokonkaa.Cv.rf_len HO_9.out
                rw [hl9_2] at HO_9
                (try simp only [hl9_2])
                cases gk with
                | zero => exact absurd HA.out (by simp [grafterlaw16_FrameTurned.l0])
                | succ k2 =>
                  have H := HA.out
                  clear HA
                  simp only [grafterlaw16_FrameTurned.l0] at H
                  by_cases c19 : x12_2 < 4
                  · rw [if_pos c19] at H
                    have c19b0 : decide (x12_2 < 4) = true := decide_eq_true c19
                    clear c19
                    obtain ⟨ji20, hji20⟩ : ∃ j_ : Int, (wrap64 ((wrap64 (2 + (wrap64 (Int.tmod (IntKind.u64.wrap (a1)) (IntKind.u64.wrap (wrap64 ((y135.length : Int) - 5))))))) + x12_2)) = j_ := ⟨_, rfl⟩
                    replace H : (if 0 ≤ (ji20) then (if (ji20) < (x9_2.length : Int) then (if 0 ≤ (wrap64 (8 * x12_2)) then (grafterlaw16_FrameTurned.l0 k2 (x9_2.set ((ji20) : Int).toNat (Go.bits .xor .u8 (rd x9_2 (ji20)) ((shr .i64 (wrap64 (1 + (wrap64 (Int.tmod (IntKind.u64.wrap (a2)) 4294967295)))) (wrap64 (8 * x12_2))) % 256))) (wrap64 (2 + (wrap64 (Int.tmod (IntKind.u64.wrap (a1)) (IntKind.u64.wrap (wrap64 ((y135.length : Int) - 5))))))) (wrap64 (1 + (wrap64 (Int.tmod (IntKind.u64.wrap (a2)) 4294967295)))) (wrap64 (x12_2 + 1))) else (none)) else (none)) else (none)) = some r := by first | (rw [hji20] at H; exact H) | (simp only [hji20] at H ⊢; exact H)
                    have hji20w : (IntKind.i64.wrap ((wrap64 (2 + (wrap64 (Int.tmod (IntKind.u64.wrap (a1)) (IntKind.u64.wrap (wrap64 ((y135.length : Int) - 5))))))) + x12_2)) = ji20 := (i64_w _).trans hji20
                    (try simp only [hl9_2] at hji20); (try simp only [hl9_2] at hji20w)
                    by_cases c21 : 0 ≤ (ji20)
                    · rw [if_pos c21] at H
                      have c21b0 : decide (0 ≤ (ji20)) = true := decide_eq_true c21
                      clear c21
                      by_cases c22 : (ji20) < (x9_2.length : Int)
                      · rw [if_pos c22] at H
                        have c22b0 : decide ((ji20) < (x9_2.length : Int)) = true := decide_eq_true c22
                        clear c22
                        obtain ⟨ji23, hji23⟩ : ∃ j_ : Int, (wrap64 (8 * x12_2)) = j_ := ⟨_, rfl⟩
                        replace H : (if 0 ≤ (ji23) then (grafterlaw16_FrameTurned.l0 k2 (x9_2.set ((ji20) : Int).toNat (Go.bits .xor .u8 (rd x9_2 (ji20)) ((shr .i64 (wrap64 (1 + (wrap64 (Int.tmod (IntKind.u64.wrap (a2)) 4294967295)))) (ji23)) % 256))) (wrap64 (2 + (wrap64 (Int.tmod (IntKind.u64.wrap (a1)) (IntKind.u64.wrap (wrap64 ((y135.length : Int) - 5))))))) (wrap64 (1 + (wrap64 (Int.tmod (IntKind.u64.wrap (a2)) 4294967295)))) (wrap64 (x12_2 + 1))) else (none)) = some r := by first | (rw [hji23] at H; exact H) | (simp only [hji23] at H ⊢; exact H)
                        have hji23w : (IntKind.i64.wrap (8 * x12_2)) = ji23 := (i64_w _).trans hji23
                        (try simp only [hl9_2] at hji23); (try simp only [hl9_2] at hji23w)
                        by_cases c24 : 0 ≤ (ji23)
                        · rw [if_pos c24] at H
                          have c24b0 := eq_true c24
                          have c24b1 : decide (0 ≤ (ji23)) = true := decide_eq_true c24
                          clear c24
                          obtain ⟨ji25, hji25⟩ : ∃ j_ : Int, (shr .i64 (wrap64 (1 + (wrap64 (Int.tmod (IntKind.u64.wrap (a2)) 4294967295)))) (ji23)) = j_ := ⟨_, rfl⟩
                          replace H : (grafterlaw16_FrameTurned.l0 k2 (x9_2.set ((ji20) : Int).toNat (Go.bits .xor .u8 (rd x9_2 (ji20)) ((ji25) % 256))) (wrap64 (2 + (wrap64 (Int.tmod (IntKind.u64.wrap (a1)) (IntKind.u64.wrap (wrap64 ((y135.length : Int) - 5))))))) (wrap64 (1 + (wrap64 (Int.tmod (IntKind.u64.wrap (a2)) 4294967295)))) (wrap64 (x12_2 + 1))) = some r := by first | (rw [hji25] at H; exact H) | (simp only [hji25] at H ⊢; exact H)
                          have hji25_ : ((wrap64 (1 + (wrap64 (Int.tmod (IntKind.u64.wrap (a2)) 4294967295)))) / 2 ^ min (ji23).toNat 64) = ji25 := hji25
                          have hji25z : (ji23) ≤ 64 → ((wrap64 (1 + (wrap64 (Int.tmod (IntKind.u64.wrap (a2)) 4294967295)))) / 2 ^ (ji23).toNat) = ji25 := shr_small hji25
                          obtain ⟨y139, hy139⟩ : ∃ y_ : List Int, y_ = (x9_2.set ((ji20) : Int).toNat (Go.bits .xor .u8 (rd x9_2 (ji20)) ((ji25) % 256))) := ⟨_, rfl⟩
                          replace H : (grafterlaw16_FrameTurned.l0 k2 y139 (wrap64 (2 + (wrap64 (Int.tmod (IntKind.u64.wrap (a1)) (IntKind.u64.wrap (wrap64 ((y135.length : Int) - 5))))))) (wrap64 (1 + (wrap64 (Int.tmod (IntKind.u64.wrap (a2)) 4294967295)))) (wrap64 (x12_2 + 1))) = some r := by first | (rw [hy139]; with_reducible exact H) | (have H2_ := (Option.bind_some _ _).symm.trans H; rw [hy139]; with_reducible exact H2_) | (have H2_ := (Option.bind_some _ _).symm.trans H; with_reducible exact H2_) | with_reducible exact H | (rw [hy139]; exact H) | exact H
                          have Ny139 := Aside0.mk hy139
                          clear hy139
                          have H' := Aside0.mk H
                          clear H
                          try go_wp2
                          have n0_ := Aside0.mk (Go.Proofs.Ytbhkmgidokonkaa.Cv.rf_drew HO_9.out)
                          have n1_ := Aside0.mk (below_drew1 HB.out)
                          clear HO_9
                          clear HB
                          have HO_9 := n0_
                          have HB := n1_
                          clear n0_ n1_
                          have p138 : 0 ≤ ((ji20) : Int) := of_decide_eq_true (by first | (with_reducible assumption) | assumption)
                          have q138 : (ji20) < (x9_2.length : Int) := of_decide_eq_true (by first | (with_reducible assumption) | assumption)
                          obtain ⟨ad138, e138, hx138_0⟩ := Kd.at_int (Go.Proofs.Ytbhkmgidokonkaa.Cv.rf_C HO_9.out) (ji20) p138 q138
                          cases e138
                          replace p138 := eq_true p138
                          replace q138 := eq_true q138
                          have p26 : 0 ≤ ((ji20) : Int) := of_decide_eq_true (by first | (with_reducible assumption) | assumption)
                          have q26 : ((ji20) : Int) < ((x9_2.length : Int) : Int) := of_decide_eq_true (by first | (with_reducible assumption) | assumption)
                          obtain ⟨go26, co26, eo26, gb26, gl26, cl26, HG26⟩ := Go.Proofs.Ytbhkmgidokonkaa.Cv.rf_form HO_9.out (by omega)
                          (first | cases eo26 | (injection eo26 with ea_ en_ ec_; (first | subst ea_ | (injection ea_ with ea_; subst ea_)); subst ec_; clear en_))
                          have GB26 := Aside0.mk gb26
                          have GG26 := Aside0.mk HG26
                          clear gb26 gl26 HG26
                          (first | simp only [add_plain] at hx138_0 | skip)
                          obtain ⟨hx26_0, hf26_0⟩ := Go.Proofs.Ytbhkmgidokonkaa.Cv.rf_celln HO_9.out ((ji20) : Int) p26 q26
                          replace p26 := eq_true p26
                          replace q26 := eq_true q26
                          have HP28 := Go.Proofs.Ytbhkmgidokonkaa.Cv.rf_putn HO_9.out ((ji20) : Int) (Go.bits .xor .u8 (rd x9_2 (ji20)) ((ji25) % 256))
                          rw [← Ny139.out] at HP28
                          have HQ28 := Aside0.mk HP28
                          clear HP28
                          refine start_ (n := 18) (S := fun w' => w'.cell? ⟨go26, ((ji20)).toNat, none⟩ = some (.int .u8 (rd x9_2 (ji20)))) (ds := [17]) #[false, false, false, false, false, false, false, false, false, false, false, false, false, false, false, false, false, false] (by kernel_rfl) rfl rfl (hx138_0) (fun hHeld => ?_); refine with_tabW grafterlaw16_FrameTurned.tab12 grafterlaw16_FrameTurned.bits12 (fun HT_ HW_ => ?_)
                          generalize wr.drew = w27 at HO_9 HB GG26 HQ28 hf26_0 hx138_0 hx26_0 hHeld ⊢
                          refine pure_ (i := 0) (N := some 53) (v := ?_) (a' := ?_) #[true, false, false, false, false, false, false, false, false, false, false, false, false, false, false, false, false, false] rfl rfl (any_of HT_.out (by kernel_rfl)) (fun _ _ _ h => h) (Or.inl ⟨by rfl, ?_⟩) ?_ ?_
                          rotate_left
                          · intro w'
                            go_simp
                            with_reducible rfl
                          rotate_left
                          · simp only [Act.put, List.setIfInBounds_toArray, List.set_cons_zero, List.set_cons_succ, i64_w, i32_w]
                            rfl
                          refine pure_ (i := 1) (N := some 54) (v := ?_) (a' := ?_) #[true, true, false, false, false, false, false, false, false, false, false, false, false, false, false, false, false, false] rfl rfl (any_of HT_.out (by kernel_rfl)) (fun _ _ _ h => h) (Or.inl ⟨by rfl, ?_⟩) ?_ ?_
                          rotate_left
                          · intro w'
                            go_simp
                            with_reducible rfl
                          rotate_left
                          · simp only [Act.put, List.setIfInBounds_toArray, List.set_cons_zero, List.set_cons_succ, i64_w, i32_w]
                            rfl
                          refine pure_ (i := 2) (N := some 55) (v := ?_) (a' := ?_) #[true, true, true, false, false, false, false, false, false, false, false, false, false, false, false, false, false, false] rfl rfl (any_of HT_.out (by kernel_rfl)) (fun _ _ _ h => h) (Or.inl ⟨by rfl, ?_⟩) ?_ ?_
                          rotate_left
                          · intro w'
                            go_simp
                            with_reducible rfl
                          rotate_left
                          · simp only [Act.put, List.setIfInBounds_toArray, List.set_cons_zero, List.set_cons_succ, i64_w, i32_w]
                            rfl
                          refine pure_ (i := 3) (N := some 56) (v := ?_) (a' := ?_) #[true, true, true, true, false, false, false, false, false, false, false, false, false, false, false, false, false, false] rfl rfl (any_of HT_.out (by kernel_rfl)) (fun _ _ _ h => h) (Or.inl ⟨by rfl, ?_⟩) ?_ ?_
                          rotate_left
                          · intro w'
                            go_simp
                            with_reducible rfl
                          rotate_left
                          · simp only [Act.put, List.setIfInBounds_toArray, List.set_cons_zero, List.set_cons_succ, i64_w, i32_w]
                            rfl
                          refine pure_ (i := 4) (N := some 57) (v := ?_) (a' := ?_) #[true, true, true, true, true, false, false, false, false, false, false, false, false, false, false, false, false, false] rfl rfl (any_of HT_.out (by kernel_rfl)) (fun _ _ _ h => h) (Or.inl ⟨by rfl, ?_⟩) ?_ ?_
                          rotate_left
                          · intro w'
                            go_simp
                            with_reducible rfl
                          rotate_left
                          · simp only [Act.put, List.setIfInBounds_toArray, List.set_cons_zero, List.set_cons_succ, i64_w, i32_w]
                            rfl
                          refine pure_ (i := 5) (N := some 58) (v := ?_) (a' := ?_) #[true, true, true, true, true, true, false, false, false, false, false, false, false, false, false, false, false, false] rfl rfl (any_of HT_.out (by kernel_rfl)) (fun _ _ _ h => h) (Or.inl ⟨by rfl, ?_⟩) ?_ ?_
                          rotate_left
                          · intro w'
                            go_simp
                            with_reducible rfl
                          rotate_left
                          · simp only [Act.put, List.setIfInBounds_toArray, List.set_cons_zero, List.set_cons_succ, i64_w, i32_w]
                            rfl
                          refine pure_ (i := 6) (N := some 59) (v := ?_) (a' := ?_) #[true, true, true, true, true, true, true, false, false, false, false, false, false, false, false, false, false, false] rfl rfl (any_of HT_.out (by kernel_rfl)) (fun _ _ _ h => h) (Or.inl ⟨by rfl, ?_⟩) ?_ ?_
                          rotate_left
                          · intro w'
                            go_simp
                            with_reducible rfl
                          rotate_left
                          · simp only [Act.put, List.setIfInBounds_toArray, List.set_cons_zero, List.set_cons_succ, i64_w, i32_w]
                            rfl
                          refine pure_ (i := 7) (N := some 60) (v := ?_) (a' := ?_) #[true, true, true, true, true, true, true, true, false, false, false, false, false, false, false, false, false, false] rfl rfl (any_of HT_.out (by kernel_rfl)) (fun _ _ _ h => h) (Or.inl ⟨by rfl, ?_⟩) ?_ ?_
                          rotate_left
                          · intro w'
                            go_simp
                            with_reducible rfl
                          rotate_left
                          · simp only [Act.put, List.setIfInBounds_toArray, List.set_cons_zero, List.set_cons_succ, i64_w, i32_w]
                            rfl
                          refine pure_ (i := 8) (N := some 61) (v := ?_) (a' := ?_) #[true, true, true, true, true, true, true, true, true, false, false, false, false, false, false, false, false, false] rfl rfl (any_of HT_.out (by kernel_rfl)) (fun _ _ _ h => h) (Or.inl ⟨by rfl, ?_⟩) ?_ ?_
                          rotate_left
                          · intro w'
                            go_simp
                            with_reducible rfl
                          rotate_left
                          · simp only [Act.put, List.setIfInBounds_toArray, List.set_cons_zero, List.set_cons_succ, i64_w, i32_w]
                            rfl
                          refine pure_ (i := 10) (N := some 63) (v := ?_) (a' := ?_) #[true, true, true, true, true, true, true, true, true, false, true, false, false, false, false, false, false, false] rfl rfl (any_of HT_.out (by kernel_rfl)) (fun _ _ _ h => h) (Or.inl ⟨by rfl, ?_⟩) ?_ ?_
                          rotate_left
                          · intro w'
                            go_simp
                            with_reducible rfl
                          rotate_left
                          · simp only [Act.put, List.setIfInBounds_toArray, List.set_cons_zero, List.set_cons_succ, i64_w, i32_w]
                            rfl
                          refine pure_ (i := 11) (N := some 64) (v := ?_) (a' := ?_) #[true, true, true, true, true, true, true, true, true, false, true, true, false, false, false, false, false, false] rfl rfl (any_of HT_.out (by kernel_rfl)) (fun _ _ _ h => h) (Or.inl ⟨by rfl, ?_⟩) ?_ ?_
                          rotate_left
                          · intro w'
                            go_simp
                            with_reducible rfl
                          rotate_left
                          · simp only [Act.put, List.setIfInBounds_toArray, List.set_cons_zero, List.set_cons_succ, i64_w, i32_w]
                            rfl
                          refine pure_ (i := 12) (N := some 65) (v := ?_) (a' := ?_) #[true, true, true, true, true, true, true, true, true, false, true, true, true, false, false, false, false, false] rfl rfl (any_of HT_.out (by kernel_rfl)) (fun _ _ _ h => h) (Or.inl ⟨by rfl, ?_⟩) ?_ ?_
                          rotate_left
                          · intro w'
                            go_simp
                            with_reducible rfl
                          rotate_left
                          · simp only [Act.put, List.setIfInBounds_toArray, List.set_cons_zero, List.set_cons_succ, i64_w, i32_w]
                            rfl
                          refine pure_ (i := 13) (N := some 66) (v := ?_) (a' := ?_) #[true, true, true, true, true, true, true, true, true, false, true, true, true, true, false, false, false, false] rfl rfl (any_of HT_.out (by kernel_rfl)) (fun _ _ _ h => h) (Or.inl ⟨by rfl, ?_⟩) ?_ ?_
                          rotate_left
                          · intro w'
                            go_simp
                            with_reducible rfl
                          rotate_left
                          · simp only [Act.put, List.setIfInBounds_toArray, List.set_cons_zero, List.set_cons_succ, i64_w, i32_w]
                            rfl
                          refine pure_ (i := 14) (N := some 67) (v := ?_) (a' := ?_) #[true, true, true, true, true, true, true, true, true, false, true, true, true, true, true, false, false, false] rfl rfl (any_of HT_.out (by kernel_rfl)) (fun _ _ _ h => h) (Or.inl ⟨by rfl, ?_⟩) ?_ ?_
                          rotate_left
                          · intro w'
                            go_simp
                            with_reducible rfl
                          rotate_left
                          · simp only [Act.put, List.setIfInBounds_toArray, List.set_cons_zero, List.set_cons_succ, i64_w, i32_w]
                            rfl
                          refine take_ (i := 9) (N := some 62) (v := ?_) (a' := ?_) #[true, true, true, true, true, true, true, true, true, true, true, true, true, true, true, false, false, false] rfl rfl (take_ofW HT_.out HW_.out (by kernel_rfl)) (fun _ _ _ h => h) (Or.inl ⟨by rfl, ?_⟩) hHeld ?_ ?_
                          rotate_left
                          · intro w' s0
                            go_simp
                            with_reducible rfl
                          rotate_left
                          · simp only [Act.put, List.setIfInBounds_toArray, List.set_cons_zero, List.set_cons_succ, i64_w, i32_w]
                            rfl
                          refine pure_ (i := 15) (N := some 68) (v := ?_) (a' := ?_) #[true, true, true, true, true, true, true, true, true, true, true, true, true, true, true, true, false, false] rfl rfl (any_of HT_.out (by kernel_rfl)) (fun _ _ _ h => h) (Or.inl ⟨by rfl, ?_⟩) ?_ ?_
                          rotate_left
                          · intro w'
                            go_simp
                            with_reducible rfl
                          rotate_left
                          · simp only [Act.put, List.setIfInBounds_toArray, List.set_cons_zero, List.set_cons_succ, i64_w, i32_w]
                            rfl
                          refine pure_ (i := 16) (N := some 69) (v := ?_) (a' := ?_) #[true, true, true, true, true, true, true, true, true, true, true, true, true, true, true, true, true, false] rfl rfl (any_of HT_.out (by kernel_rfl)) (fun _ _ _ h => h) (Or.inl ⟨by rfl, ?_⟩) ?_ ?_
                          rotate_left
                          · intro w'
                            go_simp
                            with_reducible rfl
                          rotate_left
                          · simp only [Act.put, List.setIfInBounds_toArray, List.set_cons_zero, List.set_cons_succ, i64_w, i32_w]
                            rfl
                          refine last_ (i := 17) (N := none) #[true, true, true, true, true, true, true, true, true, true, true, true, true, true, true, true, true, true] rfl rfl (one_of HT_.out (by kernel_rfl)) (by decide) (fun K hK => ?_)
                          refine skip_ (w1 := ?_) (by rfl) rfl ?_ ?_
                          rotate_left
                          · go_simp
                            rfl
                          refine hK.out _ _ ?_
                          clear hK K
                          refine done_ (done_of HT_.out (by kernel_rfl)) ?_
                          try go_wp2
                          (try simp only [← hl9_2])
                          go_roundg k2
                          case measure => have := HJ6.out; have := HK2.out; omega
                          case rel => exact ⟨(y139), (wrap64 (x12_2 + 1)), (by first | rfl | (simp; done) | (simp [*]; done)), H', ⟨by have := HJ6.out; have := HK2.out; omega⟩, ⟨by (try simp only [hl9_2]); (with_reducible repeat (first | apply Go.Proofs.Ytbhkmgidokonkaa.Cv.rf_alloc | apply Go.Proofs.Ytbhkmgidokonkaa.Cv.rf_drewN | apply Go.Proofs.Ytbhkmgidokonkaa.Cv.rf_drew)); exact HQ28.out⟩, ⟨by repeat (first | (with_reducible first | exact HB.out | apply below_alloc | apply pw_below_drewN | apply below_drew1 | refine below_set ?_ GB26.out) | exact HB.out)⟩⟩
                        · rw [if_neg c24] at H
                          exact absurd H (by simp)
                      · rw [if_neg c22] at H
                        exact absurd H (by simp)
                    · rw [if_neg c21] at H
                      exact absurd H (by simp)
                  · rw [if_neg c19] at H
                    have c19b0 : decide (x12_2 < 4) = false := decide_eq_false c19
                    clear c19
                    replace H := Option.bind_eq_some_iff.mp H
                    obtain ⟨⟨t140, t141, t142⟩, A290, H⟩ := H
                    replace H : ((grafterlaw0_Num.f t142).bind fun t143 => (some (t143 == 1600))) = some r := H
                    have A29 := Aside0.mk A290
                    clear A290
                    replace H := Option.bind_eq_some_iff.mp H
                    obtain ⟨t143, A300, H⟩ := H
                    replace H : (some (t143 == 1600)) = some r := H
                    have A30 := Aside0.mk A300
                    clear A300
                    obtain rfl := Option.some.inj H
                    have hcv31 := Go.Proofs.Ytbhkmgidokonkaa.Cv.rf_string (P := Try.prog) Try.underlying34 Try.underlying5 Try.underlying9 HO_9.out
                    go_wp2_with (first | ((with_reducible refine gate_callee (f := 24) rfl ?_); refine goesL_ (some 73) rfl rfl Try.func24 (by kernel_rfl) rfl #[.string (strOfNums x9_2), .int .i64 0] rfl (by (try simp only [List.map_toArray, List.map_cons, List.map_nil]); first | done | rfl | (simp only [List.length_drop, List.length_take]; rfl)) ?_; (with_reducible refine (frame_Get.calls k2 (strOfNums x9_2) 0 t140 t141 t142 _ A29.out).mono ?_); rintro e w32 ⟨rfl, hb⟩; refine ⟨_, rfl, ?_⟩; have n0_ := Aside0.mk (Go.Proofs.Ytbhkmgidokonkaa.Cv.rf_below (by (with_reducible repeat (first | apply Go.Proofs.Ytbhkmgidokonkaa.Cv.rf_alloc | apply Go.Proofs.Ytbhkmgidokonkaa.Cv.rf_drewN | apply Go.Proofs.Ytbhkmgidokonkaa.Cv.rf_drew)); exact HO_9.out) hb); have n1_ := Aside0.mk (below_step (by repeat (first | (with_reducible first | exact HB.out | apply below_alloc | apply pw_below_drewN | apply below_drew1) | exact HB.out)) hb); clear HO_9; clear HB; have HO_9 := n0_; have HB := n1_; clear n0_ n1_; (try clear hb); (try clear hb2); (try clear hk); (try clear hi)) | ((with_reducible refine gate_callee (f := 26) rfl ?_); refine goesL_ (some 78) rfl rfl Try.func26 (by kernel_rfl) rfl #[.int .i64 t142] rfl (by (try simp only [List.map_toArray, List.map_cons, List.map_nil]); first | done | rfl | (simp only [List.length_drop, List.length_take]; rfl)) ?_; (with_reducible refine (grafterlaw0_Num.calls t142 t143 _ A30.out).mono ?_); rintro e w' ⟨rfl, ⟨nd, rfl⟩⟩; refine ⟨_, rfl, ?_⟩))
                    go_ret
                    exact ⟨by first | rfl | (simp [errW_none, errW_some] <;> rfl) | (simp [*, errW_none, errW_some] <;> rfl), by repeat (first | (with_reducible first | exact HB.out | apply below_alloc | apply pw_below_drewN | apply below_drew1) | exact HB.out)⟩
          · rw [if_neg c13] at H
            exact absurd H (by simp)
  · replace c5 := Bool.eq_false_iff.mpr c5
    subst c5
    have H1 : (some false) = some r := by rw [if_neg (show ¬ (false = true) by decide)] at H; exact H
    clear H
    have H := H1
    clear H1
    exact absurd ((Option.some.inj H).trans HRT.out) Bool.false_ne_true

/-- THE ONE PURE STATEMENT of grafterlaw16_FrameTurned: yours. -/
def grafterlaw16_FrameTurned.Pure : Prop := ∀ (a0 : ByteArray) (a1 : Int) (a2 : Int), a0.size ≤ 140737488351232 → (Lit.int .i64 a1).wf = true → (Lit.int .i64 a2).wf = true → ∃ k, grafterlaw16_FrameTurned.f k a0 a1 a2 = some true
theorem grafterlaw16_FrameTurned.walk (P : grafterlaw16_FrameTurned.Pure) (a0 : ByteArray) (a1 : Int) (a2 : Int) (w : World) (w0 : a0.size ≤ 140737488351232) (w1 : (Lit.int .i64 a1).wf = true) (w2 : (Lit.int .i64 a2).wf = true) :
    Calls Try.prog 4 #[.string a0, .int .i64 a1, .int .i64 a2] w fun e w' => e = .returned (.bool true) ∧ Below w.heap.size w w' := by
  obtain ⟨k, h⟩ := P a0 a1 a2 w0 w1 w2
  refine (grafterlaw16_FrameTurned.calls k a0 a1 a2 true w rfl h).mono ?_
  rintro e w' ⟨rfl, hd⟩
  exact ⟨rfl, hd⟩

end Go.Proofs.Ytbhkmgidokonkaa.PFrameTurned
