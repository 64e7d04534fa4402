-- Written by a program of this session (pprint.py) out of the translation, with hand-proved walks pasted in.
import Derived.Test.YtbhkmgidokonkaaPFrameFormsx0
import Derived.Test.YtbhkmgidokonkaaPFrameFormsx1
namespace Go.Proofs.Ytbhkmgidokonkaa.PFrameForms
open Go.RowKit Go.Proofs.YtbhkmgidokonkaaW.PrintWords Go.Proofs.YtbhkmgidokonkaaW.PrintLast Go.Proofs.YtbhkmgidokonkaaW.PrintMore
attribute [local go_sem] max2_int min2_int max_two min_two max_three min_three max_four min_four   -- for this text's walks alone
set_option linter.unusedVariables false
set_option linter.unusedSimpArgs false

/-! ### grafterlaw16_FrameForms: function 5 -/
def grafterlaw16_FrameForms.j0 : Nat → Int → Int → Int → Int → ByteArray → Bool → Option (Bool)
  | 0, _, _, _, _, _, _ => none
  | k + 1, x0, x1, x5, x7, x8, x49 => if x49 = true then (some false) else ((some (([wrap64 (-x5), wrap64 (9 + x5)] : List Int) : List Int)).bind fun y137 => (if 0 ≤ (Go.bits .and .i64 x0 1) then (if (Go.bits .and .i64 x0 1) < (y137.length : Int) then ((frame_Get.f k x8 (rd y137 (Go.bits .and .i64 x0 1))).bind fun bt141 => (if 0 ≤ (wrap64 (Int.tmod (IntKind.u64.wrap (x1)) 9)) then (if (wrap64 (Int.tmod (IntKind.u64.wrap (x1)) 9)) ≤ (x8.size : Int) then ((frame_Get.f k (x8.extract 0 ((wrap64 (Int.tmod (IntKind.u64.wrap (x1)) 9)) : Int).toNat) 0).bind fun bt144 => ((frame_Get.f k x8 9).bind fun bt147 => (if 1 ≤ (x8.size : Int) then (if 1 + (x8.extract 1 x8.size).size ≤ 9223372036854775807 then ((frame_Get.f k ((⟨#[2]⟩ : ByteArray) ++ (x8.extract 1 x8.size)) 0).bind fun bt150 => (if 2 ≤ (x8.size : Int) then (if 2 + (x8.extract 2 x8.size).size ≤ 9223372036854775807 then ((frame_Get.f k ((⟨#[255, 255]⟩ : ByteArray) ++ (x8.extract 2 x8.size)) 0).bind fun bt153 => ((grafterlaw0_Num.f x7).bind fun t156 => (if t156 = 1600 then ((grafterlaw0_Num.f bt141.2.2).bind fun t157 => (if t157 = 1600 then ((grafterlaw0_Num.f bt144.2.2).bind fun t158 => (if t158 = 1600 then ((grafterlaw0_Num.f bt147.2.2).bind fun t159 => (if t159 = 1600 then ((grafterlaw0_Num.f bt150.2.2).bind fun t160 => (if t160 = 1600 then ((grafterlaw0_Num.f bt153.2.2).bind fun t161 => (if t161 = 1600 then ((grafterref12_Sum.f k (⟨#[49, 50, 51, 52, 53, 54, 55, 56, 57]⟩ : ByteArray)).bind fun t162 => (some (t162 == 3421780262))) else (some false))) else (some false))) else (some false))) else (some false))) else (some false))) else (some false)))) else (none)) else (none))) else (none)) else (none)))) else (none)) else (none))) else (none)) else (none)))
def grafterlaw16_FrameForms.f (k : Nat) (a0 : Int) (a1 : Int) : Option (Bool) := (grafterlaw16_awake.f k).bind fun t128 => (if t128 = true then (if 0 ≤ (wrap64 (1024 + (wrap64 (1 + (Go.bits .and .i64 a1 1023))))) then (if (wrap64 (1024 + (wrap64 (1 + (Go.bits .and .i64 a1 1023)))) : Int).toNat ≤ 281474976710656 then ((frame_Put.f k (strOfNums (List.replicate (wrap64 (1024 + (wrap64 (1 + (Go.bits .and .i64 a1 1023)))) : Int).toNat 0))).bind fun bt132 => ((frame_Put.f k (⟨#[97, 98, 99]⟩ : ByteArray)).bind fun bt134 => ((grafterlaw0_Num.f bt134.2).bind fun t136 => (if t136 = 0 then (grafterlaw16_FrameForms.j0 k a0 a1 (wrap64 (1 + (Go.bits .and .i64 a1 1023))) bt132.2 bt134.1 ((bt134.1.size : Int) != 9)) else (grafterlaw16_FrameForms.j0 k a0 a1 (wrap64 (1 + (Go.bits .and .i64 a1 1023))) bt132.2 bt134.1 true))))) else (none)) else (none)) else (some false))
theorem grafterlaw16_FrameForms.mono_l : ∀ k, (∀ y0 y1 y2 y3 y4 y5, LeO (grafterlaw16_FrameForms.j0 k y0 y1 y2 y3 y4 y5) (grafterlaw16_FrameForms.j0 (k + 1) y0 y1 y2 y3 y4 y5))
  | 0 => fun _ _ _ _ _ _ r h => by simp [grafterlaw16_FrameForms.j0] at h
  | k + 1 => by
    have ih0 := grafterlaw16_FrameForms.mono_l k
    · intro y0 y1 y2 y3 y4 y5
      unfold grafterlaw16_FrameForms.j0
      repeat' first
      | (with_reducible exact ih0 _ _ _ _ _ _)
      | (with_reducible exact frame_Get.mono _ _ _)
      | (with_reducible exact frame_Put.mono _ _)
      | (with_reducible exact grafterlaw16_awake.mono _)
      | (with_reducible exact grafterref12_Sum.mono _ _)
      | (with_reducible exact LeO.refl _)
      | (with_reducible exact LeO.none _)
      | (with_reducible refine LeO.ite ?_ ?_)
      | (with_reducible refine LeO.bind ?_ (fun _ => ?_))
      | exact ih0 _ _ _ _ _ _
      | exact frame_Get.mono _ _ _
      | exact frame_Put.mono _ _
      | exact grafterlaw16_awake.mono _
      | exact grafterref12_Sum.mono _ _
      | exact LeO.none _
      | refine LeO.ite ?_ ?_
      | refine LeO.bind ?_ (fun _ => ?_)
theorem grafterlaw16_FrameForms.mono : ∀ a0 a1 k, LeO (grafterlaw16_FrameForms.f k a0 a1) (grafterlaw16_FrameForms.f (k + 1) a0 a1) := by
  intro a0 a1 k
  have ih0 := grafterlaw16_FrameForms.mono_l k
  unfold grafterlaw16_FrameForms.f
  repeat' first
      | (with_reducible exact ih0 _ _ _ _ _ _)
      | (with_reducible exact frame_Get.mono _ _ _)
      | (with_reducible exact frame_Put.mono _ _)
      | (with_reducible exact grafterlaw16_awake.mono _)
      | (with_reducible exact grafterref12_Sum.mono _ _)
      | (with_reducible exact LeO.refl _)
      | (with_reducible exact LeO.none _)
      | (with_reducible refine LeO.ite ?_ ?_)
      | (with_reducible refine LeO.bind ?_ (fun _ => ?_))
      | exact ih0 _ _ _ _ _ _
      | exact frame_Get.mono _ _ _
      | exact frame_Put.mono _ _
      | exact grafterlaw16_awake.mono _
      | exact grafterref12_Sum.mono _ _
      | exact LeO.none _
      | refine LeO.ite ?_ ?_
      | refine LeO.bind ?_ (fun _ => ?_)
set_option maxHeartbeats 8000000 in
set_option maxRecDepth 100000 in
theorem grafterlaw16_FrameForms.calls (k : Nat) (a0 : Int) (a1 : Int) (r : Bool) (w : World) (hrt : r = true) (h : grafterlaw16_FrameForms.f k a0 a1 = some r) :
    Calls Try.prog 5 #[.int .i64 a0, .int .i64 a1] w fun e w' => e = .returned (.bool r) ∧ Below w.heap.size w w' := by
  have HRT := Aside0.mk hrt
  clear hrt
  have HB := Aside0.mk (Below.refl w.heap.size w)
  have H : ((grafterlaw16_awake.f k).bind fun t128 => (if t128 = true then (if 0 ≤ (wrap64 (1024 + (wrap64 (1 + (Go.bits .and .i64 a1 1023))))) then (if (wrap64 (1024 + (wrap64 (1 + (Go.bits .and .i64 a1 1023)))) : Int).toNat ≤ 281474976710656 then ((frame_Put.f k (strOfNums (List.replicate (wrap64 (1024 + (wrap64 (1 + (Go.bits .and .i64 a1 1023)))) : Int).toNat 0))).bind fun bt132 => ((frame_Put.f k (⟨#[97, 98, 99]⟩ : ByteArray)).bind fun bt134 => ((grafterlaw0_Num.f bt134.2).bind fun t136 => (if t136 = 0 then (grafterlaw16_FrameForms.j0 k a0 a1 (wrap64 (1 + (Go.bits .and .i64 a1 1023))) bt132.2 bt134.1 ((bt134.1.size : Int) != 9)) else (grafterlaw16_FrameForms.j0 k a0 a1 (wrap64 (1 + (Go.bits .and .i64 a1 1023))) bt132.2 bt134.1 true))))) else (none)) else (none)) else (some false))) = some r := h
  clear h
  replace H := Option.bind_eq_some_iff.mp H
  obtain ⟨t128, A30, H⟩ := H
  replace H : (if t128 = true then (if 0 ≤ (wrap64 (1024 + (wrap64 (1 + (Go.bits .and .i64 a1 1023))))) then (if (wrap64 (1024 + (wrap64 (1 + (Go.bits .and .i64 a1 1023)))) : Int).toNat ≤ 281474976710656 then ((frame_Put.f k (strOfNums (List.replicate (wrap64 (1024 + (wrap64 (1 + (Go.bits .and .i64 a1 1023)))) : Int).toNat 0))).bind fun bt132 => ((frame_Put.f k (⟨#[97, 98, 99]⟩ : ByteArray)).bind fun bt134 => ((grafterlaw0_Num.f bt134.2).bind fun t136 => (if t136 = 0 then (grafterlaw16_FrameForms.j0 k a0 a1 (wrap64 (1 + (Go.bits .and .i64 a1 1023))) bt132.2 bt134.1 ((bt134.1.size : Int) != 9)) else (grafterlaw16_FrameForms.j0 k a0 a1 (wrap64 (1 + (Go.bits .and .i64 a1 1023))) bt132.2 bt134.1 true))))) else (none)) else (none)) else (some false)) = some r := H
  have A3 := Aside0.mk A30
  clear A30
  by_cases c4 : t128 = true
  · subst c4
    have H1 : (if 0 ≤ (wrap64 (1024 + (wrap64 (1 + (Go.bits .and .i64 a1 1023))))) then (if (wrap64 (1024 + (wrap64 (1 + (Go.bits .and .i64 a1 1023)))) : Int).toNat ≤ 281474976710656 then ((frame_Put.f k (strOfNums (List.replicate (wrap64 (1024 + (wrap64 (1 + (Go.bits .and .i64 a1 1023)))) : Int).toNat 0))).bind fun bt132 => ((frame_Put.f k (⟨#[97, 98, 99]⟩ : ByteArray)).bind fun bt134 => ((grafterlaw0_Num.f bt134.2).bind fun t136 => (if t136 = 0 then (grafterlaw16_FrameForms.j0 k a0 a1 (wrap64 (1 + (Go.bits .and .i64 a1 1023))) bt132.2 bt134.1 ((bt134.1.size : Int) != 9)) else (grafterlaw16_FrameForms.j0 k a0 a1 (wrap64 (1 + (Go.bits .and .i64 a1 1023))) bt132.2 bt134.1 true))))) else (none)) else (none)) = some r := by rw [if_pos rfl] at H; exact H
    clear H
    have H := H1
    clear H1
    obtain ⟨ji5, hji5⟩ : ∃ j_ : Int, (wrap64 (1024 + (wrap64 (1 + (Go.bits .and .i64 a1 1023))))) = j_ := ⟨_, rfl⟩
    replace H : (if 0 ≤ (ji5) then (if (ji5 : Int).toNat ≤ 281474976710656 then ((frame_Put.f k (strOfNums (List.replicate (ji5 : Int).toNat 0))).bind fun bt132 => ((frame_Put.f k (⟨#[97, 98, 99]⟩ : ByteArray)).bind fun bt134 => ((grafterlaw0_Num.f bt134.2).bind fun t136 => (if t136 = 0 then (grafterlaw16_FrameForms.j0 k a0 a1 (wrap64 (1 + (Go.bits .and .i64 a1 1023))) bt132.2 bt134.1 ((bt134.1.size : Int) != 9)) else (grafterlaw16_FrameForms.j0 k a0 a1 (wrap64 (1 + (Go.bits .and .i64 a1 1023))) bt132.2 bt134.1 true))))) else (none)) else (none)) = some r := by first | (rw [hji5] at H; exact H) | (simp only [hji5] at H ⊢; exact H)
    (try rw [hji5] at A3)
    have hji5w : (IntKind.i64.wrap (1024 + (wrap64 (1 + (Go.bits .and .i64 a1 1023))))) = ji5 := (i64_w _).trans hji5
    by_cases c6 : 0 ≤ (ji5)
    · rw [if_pos c6] at H
      have c6b0 := eq_true c6
      have c6b1 : decide (0 ≤ (ji5)) = true := decide_eq_true c6
      clear c6
      by_cases c7 : (ji5 : Int).toNat ≤ 281474976710656
      · rw [if_pos c7] at H
        have c7b0 := eq_true c7
        have c7b1 : decide ((ji5 : Int).toNat ≤ 281474976710656) = true := decide_eq_true c7
        clear c7
        obtain ⟨y129, hy129⟩ : ∃ y_ : List Int, y_ = (List.replicate (ji5 : Int).toNat 0) := ⟨_, rfl⟩
        replace H : ((frame_Put.f k (strOfNums y129)).bind fun bt132 => ((frame_Put.f k (⟨#[97, 98, 99]⟩ : ByteArray)).bind fun bt134 => ((grafterlaw0_Num.f bt134.2).bind fun t136 => (if t136 = 0 then (grafterlaw16_FrameForms.j0 k a0 a1 (wrap64 (1 + (Go.bits .and .i64 a1 1023))) bt132.2 bt134.1 ((bt134.1.size : Int) != 9)) else (grafterlaw16_FrameForms.j0 k a0 a1 (wrap64 (1 + (Go.bits .and .i64 a1 1023))) bt132.2 bt134.1 true))))) = some r := by first | (rw [hy129]; with_reducible exact H) | (have H2_ := (Option.bind_some _ _).symm.trans H; rw [hy129]; with_reducible exact H2_) | (have H2_ := (Option.bind_some _ _).symm.trans H; with_reducible exact H2_) | with_reducible exact H | (rw [hy129]; exact H) | exact H
        have Ny129 := Aside0.mk hy129
        clear hy129
        replace H := Option.bind_eq_some_iff.mp H
        obtain ⟨⟨t132, t133⟩, A80, H⟩ := H
        replace H : ((frame_Put.f k (⟨#[97, 98, 99]⟩ : ByteArray)).bind fun bt134 => ((grafterlaw0_Num.f bt134.2).bind fun t136 => (if t136 = 0 then (grafterlaw16_FrameForms.j0 k a0 a1 (wrap64 (1 + (Go.bits .and .i64 a1 1023))) t133 bt134.1 ((bt134.1.size : Int) != 9)) else (grafterlaw16_FrameForms.j0 k a0 a1 (wrap64 (1 + (Go.bits .and .i64 a1 1023))) t133 bt134.1 true)))) = some r := H
        have A8 := Aside0.mk A80
        clear A80
        replace H := Option.bind_eq_some_iff.mp H
        obtain ⟨⟨t134, t135⟩, A90, H⟩ := H
        replace H : ((grafterlaw0_Num.f t135).bind fun t136 => (if t136 = 0 then (grafterlaw16_FrameForms.j0 k a0 a1 (wrap64 (1 + (Go.bits .and .i64 a1 1023))) t133 t134 ((t134.size : Int) != 9)) else (grafterlaw16_FrameForms.j0 k a0 a1 (wrap64 (1 + (Go.bits .and .i64 a1 1023))) t133 t134 true))) = some r := H
        have A9 := Aside0.mk A90
        clear A90
        have HC10 := Aside0.mk H
        clear H
        go_enter Try.func5, Try.ntmps5
        go_upto_region 6 with (first | ((with_reducible refine gate_callee (f := 27) rfl ?_); refine goesL_ (some 25) rfl rfl Try.func27 (by kernel_rfl) rfl #[] rfl (by (try simp only [List.map_toArray, List.map_cons, List.map_nil]); first | done | rfl | (simp only [List.length_drop, List.length_take]; rfl)) ?_; (with_reducible refine (grafterlaw16_awake.calls k  true _ rfl A3.out).mono ?_); rintro e w11 ⟨rfl, hb⟩; refine ⟨_, rfl, ?_⟩; have n0_ := Aside0.mk (below_step (by repeat (first | (with_reducible first | exact HB.out | apply below_alloc | apply pw_below_drewN | apply below_drew1) | exact HB.out)) hb); clear HB; have HB := n0_; clear n0_; (try clear hb); (try clear hb2); (try clear hk); (try clear hi)) | ((with_reducible refine gate_dst (N := 33) rfl ?_); (try (refine gate_guard (by rfl) ?_; dsimp only)); refine Kd.R_make (Kd.int .u8) _ 5 rfl (N := 33) rfl 34 _ _ rfl ji5 rfl rfl Try.underlying34 (.int .u8 0) 1 info5 rfl (by decide) (by omega) 0 (ok := fun _ => True) (okp := fun _ => True) rfl (fun _ hk => hk) trivial (of_decide_eq_true (by first | (with_reducible assumption) | assumption)) (Nat.le_trans (Nat.mul_le_mul_right _ (of_decide_eq_true (by first | (with_reducible assumption) | assumption) : ji5.toNat ≤ 281474976710656)) (by omega)) (Below.refl _ _) (Nat.le_refl _) ?_; intro v130 w12 ho13 hb hg_ hnew_; clear hg_ hnew_; (first | rw [← Ny129.out] at ho13 | (simp only [Int.reduceToNat] at ho13; rw [← Ny129.out] at ho13)); have n0_ := Aside0.mk (Kd.R_lower ho13 (below_size (by repeat (first | (with_reducible first | exact HB.out | apply below_alloc | apply pw_below_drewN | apply below_drew1) | exact HB.out)))); have n1_ := Aside0.mk (below_step (by repeat (first | (with_reducible first | exact HB.out | apply below_alloc | apply pw_below_drewN | apply below_drew1) | exact HB.out)) hb); clear HB; have HO131 := n0_; have HB := n1_; clear n0_ n1_; clear hb ho13; have hcv14 := own_string (P := Try.prog) Try.underlying34 Try.underlying5 Try.underlying9 (Kd.own_of_R HO131.out)) | ((with_reducible refine gate_callee (f := 22) rfl ?_); refine goesL_ (some 35) rfl rfl Try.func22 (by kernel_rfl) rfl #[.string (strOfNums y129)] rfl (by (try simp only [List.map_toArray, List.map_cons, List.map_nil]); first | done | rfl | (simp only [List.length_drop, List.length_take]; rfl)) ?_; (with_reducible refine (frame_Put.calls k (strOfNums y129) t132 t133 _ A8.out).mono ?_); rintro e w15 ⟨rfl, hb⟩; refine ⟨_, rfl, ?_⟩; have n0_ := Aside0.mk (Kd.R_below (by (with_reducible repeat (first | apply Kd.R_alloc | apply Kd.R_drewN | apply Kd.R_drew)); exact HO131.out) hb); have n1_ := Aside0.mk (below_step (by repeat (first | (with_reducible first | exact HB.out | apply below_alloc | apply pw_below_drewN | apply below_drew1) | exact HB.out)) hb); clear HO131; clear HB; have HO131 := n0_; have HB := n1_; clear n0_ n1_; (try clear hb); (try clear hb2); (try clear hk); (try clear hi)) | ((with_reducible refine gate_callee (f := 22) rfl ?_); refine goesL_ (some 39) rfl rfl Try.func22 (by kernel_rfl) rfl #[.string (⟨#[97, 98, 99]⟩ : ByteArray)] rfl (by (try simp only [List.map_toArray, List.map_cons, List.map_nil]); first | done | rfl | (simp only [List.length_drop, List.length_take]; rfl)) ?_; (with_reducible refine (frame_Put.calls k (⟨#[97, 98, 99]⟩ : ByteArray) t134 t135 _ A9.out).mono ?_); rintro e w16 ⟨rfl, hb⟩; refine ⟨_, rfl, ?_⟩; have n0_ := Aside0.mk (Kd.R_below (by (with_reducible repeat (first | apply Kd.R_alloc | apply Kd.R_drewN | apply Kd.R_drew)); exact HO131.out) hb); have n1_ := Aside0.mk (below_step (by repeat (first | (with_reducible first | exact HB.out | apply below_alloc | apply pw_below_drewN | apply below_drew1) | exact HB.out)) hb); clear HO131; clear HB; have HO131 := n0_; have HB := n1_; clear n0_ n1_; (try clear hb); (try clear hb2); (try clear hk); (try clear hi)))
        (try simp only [Act.put, List.setIfInBounds_toArray, List.set_cons_zero, List.set_cons_succ])
        go_cut [49] (fun v49 wc => ∃ (kq : Nat) (x49_9 : Bool), v49 = .bool x49_9 ∧ Aside0 (grafterlaw16_FrameForms.j0 kq a0 a1 (wrap64 (1 + (Go.bits .and .i64 a1 1023))) t133 t134 x49_9 = some r) ∧ Aside0 (kq ≤ k) ∧ Aside0 (Below w.heap.size w wc))
        case first =>
          have H := HC10.out
          clear HC10
          replace H := Option.bind_eq_some_iff.mp H
          obtain ⟨t136, A170, H⟩ := H
          replace H : (if t136 = 0 then (grafterlaw16_FrameForms.j0 k a0 a1 (wrap64 (1 + (Go.bits .and .i64 a1 1023))) t133 t134 ((t134.size : Int) != 9)) else (grafterlaw16_FrameForms.j0 k a0 a1 (wrap64 (1 + (Go.bits .and .i64 a1 1023))) t133 t134 true)) = some r := H
          have A17 := Aside0.mk A170
          clear A170
          by_cases c18 : t136 = 0
          · rw [if_pos c18] at H
            have c18b0 : (t136 == 0) = true := beq_iff_eq.mpr c18
            have c18b1 : (t136 != 0) = false := bne_eq_false_iff_eq.mpr c18
            clear c18
            (first | rw [c18b0] | (simp only [i64_w, i32_w]; rw [c18b0]) | skip)
            have H' := Aside0.mk H
            clear H
            go_wp2_with (first | ((with_reducible refine gate_callee (f := 26) rfl ?_); refine goesL_ (some 43) rfl rfl Try.func26 (by kernel_rfl) rfl #[.int .i64 t135] rfl (by (try simp only [List.map_toArray, List.map_cons, List.map_nil]); first | done | rfl | (simp only [List.length_drop, List.length_take]; rfl)) ?_; (with_reducible refine (grafterlaw0_Num.calls t135 t136 _ A17.out).mono ?_); rintro e w' ⟨rfl, ⟨nd, rfl⟩⟩; refine ⟨_, rfl, ?_⟩))
            go_meet
            case rel => exact ⟨_, (((t134.size : Int) != 9)), (by first | rfl | (simp; done) | (simp [*]; done)), H', ⟨by first | omega | exact Nat.le_refl _⟩, ⟨by repeat (first | (with_reducible first | exact HB.out | apply below_alloc | apply pw_below_drewN | apply below_drew1) | exact HB.out)⟩⟩
          · rw [if_neg c18] at H
            have c18b0 : (t136 == 0) = false := beq_eq_false_iff_ne.mpr c18
            have c18b1 : (t136 != 0) = true := bne_iff_ne.mpr c18
            (first | rw [c18b0] | (simp only [i64_w, i32_w]; rw [c18b0]) | skip)
            have H' := Aside0.mk H
            clear H
            go_wp2_with (first | ((with_reducible refine gate_callee (f := 26) rfl ?_); refine goesL_ (some 43) rfl rfl Try.func26 (by kernel_rfl) rfl #[.int .i64 t135] rfl (by (try simp only [List.map_toArray, List.map_cons, List.map_nil]); first | done | rfl | (simp only [List.length_drop, List.length_take]; rfl)) ?_; (with_reducible refine (grafterlaw0_Num.calls t135 t136 _ A17.out).mono ?_); rintro e w' ⟨rfl, ⟨nd, rfl⟩⟩; refine ⟨_, rfl, ?_⟩))
            go_meet
            case rel => exact ⟨_, (true), (by first | rfl | (simp; done) | (simp [*]; done)), H', ⟨by first | omega | exact Nat.le_refl _⟩, ⟨by repeat (first | (with_reducible first | exact HB.out | apply below_alloc | apply pw_below_drewN | apply below_drew1) | exact HB.out)⟩⟩
        case rest =>
          clear HC10
          try clear c1
          try clear hcv1
          try clear c2
          try clear p2
          try clear c4
          try clear c5
          try clear c6
          try clear c6b0
          try clear c6b1
          try clear p6
          try clear c7
          try clear c7b0
          try clear c7b1
          try clear hcv14
          try clear c18
          try clear c18b0
          try clear c18b1
          obtain ⟨kq, x49_9, rfl, HA, HJ9, HB⟩ := hcut
          cases kq with
          | zero => exact absurd HA.out (by simp [grafterlaw16_FrameForms.j0])
          | succ kj9 =>
            have H := HA.out
            clear HA
            simp only [grafterlaw16_FrameForms.j0] at H
            by_cases c19 : x49_9 = true
            · subst c19
              have H1 : (some false) = some r := by rw [if_pos rfl] at H; exact H
              clear H
              have H := H1
              clear H1
              exact absurd ((Option.some.inj H).trans HRT.out) Bool.false_ne_true
            · replace c19 := Bool.eq_false_iff.mpr c19
              subst c19
              have H1 : ((some (([wrap64 (-(wrap64 (1 + (Go.bits .and .i64 a1 1023)))), wrap64 (9 + (wrap64 (1 + (Go.bits .and .i64 a1 1023))))] : List Int) : List Int)).bind fun y137 => (if 0 ≤ (Go.bits .and .i64 a0 1) then (if (Go.bits .and .i64 a0 1) < (y137.length : Int) then ((frame_Get.f kj9 t134 (rd y137 (Go.bits .and .i64 a0 1))).bind fun bt141 => (if 0 ≤ (wrap64 (Int.tmod (IntKind.u64.wrap (a1)) 9)) then (if (wrap64 (Int.tmod (IntKind.u64.wrap (a1)) 9)) ≤ (t134.size : Int) then ((frame_Get.f kj9 (t134.extract 0 ((wrap64 (Int.tmod (IntKind.u64.wrap (a1)) 9)) : Int).toNat) 0).bind fun bt144 => ((frame_Get.f kj9 t134 9).bind fun bt147 => (if 1 ≤ (t134.size : Int) then (if 1 + (t134.extract 1 t134.size).size ≤ 9223372036854775807 then ((frame_Get.f kj9 ((⟨#[2]⟩ : ByteArray) ++ (t134.extract 1 t134.size)) 0).bind fun bt150 => (if 2 ≤ (t134.size : Int) then (if 2 + (t134.extract 2 t134.size).size ≤ 9223372036854775807 then ((frame_Get.f kj9 ((⟨#[255, 255]⟩ : ByteArray) ++ (t134.extract 2 t134.size)) 0).bind fun bt153 => ((grafterlaw0_Num.f t133).bind fun t156 => (if t156 = 1600 then ((grafterlaw0_Num.f bt141.2.2).bind fun t157 => (if t157 = 1600 then ((grafterlaw0_Num.f bt144.2.2).bind fun t158 => (if t158 = 1600 then ((grafterlaw0_Num.f bt147.2.2).bind fun t159 => (if t159 = 1600 then ((grafterlaw0_Num.f bt150.2.2).bind fun t160 => (if t160 = 1600 then ((grafterlaw0_Num.f bt153.2.2).bind fun t161 => (if t161 = 1600 then ((grafterref12_Sum.f kj9 (⟨#[49, 50, 51, 52, 53, 54, 55, 56, 57]⟩ : ByteArray)).bind fun t162 => (some (t162 == 3421780262))) else (some false))) else (some false))) else (some false))) else (some false))) else (some false))) else (some false)))) else (none)) else (none))) else (none)) else (none)))) else (none)) else (none))) else (none)) else (none))) = some r := by rw [if_neg (show ¬ (false = true) by decide)] at H; exact H
              clear H
              have H := H1
              clear H1
              obtain ⟨y137, hy137⟩ : ∃ y_ : List Int, y_ = (([wrap64 (-(wrap64 (1 + (Go.bits .and .i64 a1 1023)))), wrap64 (9 + (wrap64 (1 + (Go.bits .and .i64 a1 1023))))] : List Int)) := ⟨_, rfl⟩
              replace H : (if 0 ≤ (Go.bits .and .i64 a0 1) then (if (Go.bits .and .i64 a0 1) < (y137.length : Int) then ((frame_Get.f kj9 t134 (rd y137 (Go.bits .and .i64 a0 1))).bind fun bt141 => (if 0 ≤ (wrap64 (Int.tmod (IntKind.u64.wrap (a1)) 9)) then (if (wrap64 (Int.tmod (IntKind.u64.wrap (a1)) 9)) ≤ (t134.size : Int) then ((frame_Get.f kj9 (t134.extract 0 ((wrap64 (Int.tmod (IntKind.u64.wrap (a1)) 9)) : Int).toNat) 0).bind fun bt144 => ((frame_Get.f kj9 t134 9).bind fun bt147 => (if 1 ≤ (t134.size : Int) then (if 1 + (t134.extract 1 t134.size).size ≤ 9223372036854775807 then ((frame_Get.f kj9 ((⟨#[2]⟩ : ByteArray) ++ (t134.extract 1 t134.size)) 0).bind fun bt150 => (if 2 ≤ (t134.size : Int) then (if 2 + (t134.extract 2 t134.size).size ≤ 9223372036854775807 then ((frame_Get.f kj9 ((⟨#[255, 255]⟩ : ByteArray) ++ (t134.extract 2 t134.size)) 0).bind fun bt153 => ((grafterlaw0_Num.f t133).bind fun t156 => (if t156 = 1600 then ((grafterlaw0_Num.f bt141.2.2).bind fun t157 => (if t157 = 1600 then ((grafterlaw0_Num.f bt144.2.2).bind fun t158 => (if t158 = 1600 then ((grafterlaw0_Num.f bt147.2.2).bind fun t159 => (if t159 = 1600 then ((grafterlaw0_Num.f bt150.2.2).bind fun t160 => (if t160 = 1600 then ((grafterlaw0_Num.f bt153.2.2).bind fun t161 => (if t161 = 1600 then ((grafterref12_Sum.f kj9 (⟨#[49, 50, 51, 52, 53, 54, 55, 56, 57]⟩ : ByteArray)).bind fun t162 => (some (t162 == 3421780262))) else (some false))) else (some false))) else (some false))) else (some false))) else (some false))) else (some false)))) else (none)) else (none))) else (none)) else (none)))) else (none)) else (none))) else (none)) else (none)) = some r := by first | (rw [hy137]; with_reducible exact H) | (have H2_ := (Option.bind_some _ _).symm.trans H; rw [hy137]; with_reducible exact H2_) | (have H2_ := (Option.bind_some _ _).symm.trans H; with_reducible exact H2_) | with_reducible exact H | (rw [hy137]; exact H) | exact H
              have Ny137 := Aside0.mk hy137
              clear hy137
              by_cases c20 : 0 ≤ (Go.bits .and .i64 a0 1)
              · rw [if_pos c20] at H
                have c20b0 : decide (0 ≤ (Go.bits .and .i64 a0 1)) = true := decide_eq_true c20
                clear c20
                by_cases c21 : (Go.bits .and .i64 a0 1) < (y137.length : Int)
                · rw [if_pos c21] at H
                  have c21b0 : decide ((Go.bits .and .i64 a0 1) < (y137.length : Int)) = true := decide_eq_true c21
                  clear c21
                  replace H := Option.bind_eq_some_iff.mp H
                  obtain ⟨⟨t141, t142, t143⟩, A220, H⟩ := H
                  replace H : (if 0 ≤ (wrap64 (Int.tmod (IntKind.u64.wrap (a1)) 9)) then (if (wrap64 (Int.tmod (IntKind.u64.wrap (a1)) 9)) ≤ (t134.size : Int) then ((frame_Get.f kj9 (t134.extract 0 ((wrap64 (Int.tmod (IntKind.u64.wrap (a1)) 9)) : Int).toNat) 0).bind fun bt144 => ((frame_Get.f kj9 t134 9).bind fun bt147 => (if 1 ≤ (t134.size : Int) then (if 1 + (t134.extract 1 t134.size).size ≤ 9223372036854775807 then ((frame_Get.f kj9 ((⟨#[2]⟩ : ByteArray) ++ (t134.extract 1 t134.size)) 0).bind fun bt150 => (if 2 ≤ (t134.size : Int) then (if 2 + (t134.extract 2 t134.size).size ≤ 9223372036854775807 then ((frame_Get.f kj9 ((⟨#[255, 255]⟩ : ByteArray) ++ (t134.extract 2 t134.size)) 0).bind fun bt153 => ((grafterlaw0_Num.f t133).bind fun t156 => (if t156 = 1600 then ((grafterlaw0_Num.f t143).bind fun t157 => (if t157 = 1600 then ((grafterlaw0_Num.f bt144.2.2).bind fun t158 => (if t158 = 1600 then ((grafterlaw0_Num.f bt147.2.2).bind fun t159 => (if t159 = 1600 then ((grafterlaw0_Num.f bt150.2.2).bind fun t160 => (if t160 = 1600 then ((grafterlaw0_Num.f bt153.2.2).bind fun t161 => (if t161 = 1600 then ((grafterref12_Sum.f kj9 (⟨#[49, 50, 51, 52, 53, 54, 55, 56, 57]⟩ : ByteArray)).bind fun t162 => (some (t162 == 3421780262))) else (some false))) else (some false))) else (some false))) else (some false))) else (some false))) else (some false)))) else (none)) else (none))) else (none)) else (none)))) else (none)) else (none)) = some r := H
                  have A22 := Aside0.mk A220
                  clear A220
                  obtain ⟨ji23, hji23⟩ : ∃ j_ : Int, (wrap64 (Int.tmod (IntKind.u64.wrap (a1)) 9)) = j_ := ⟨_, rfl⟩
                  replace H : (if 0 ≤ (ji23) then (if (ji23) ≤ (t134.size : Int) then ((frame_Get.f kj9 (t134.extract 0 ((ji23) : Int).toNat) 0).bind fun bt144 => ((frame_Get.f kj9 t134 9).bind fun bt147 => (if 1 ≤ (t134.size : Int) then (if 1 + (t134.extract 1 t134.size).size ≤ 9223372036854775807 then ((frame_Get.f kj9 ((⟨#[2]⟩ : ByteArray) ++ (t134.extract 1 t134.size)) 0).bind fun bt150 => (if 2 ≤ (t134.size : Int) then (if 2 + (t134.extract 2 t134.size).size ≤ 9223372036854775807 then ((frame_Get.f kj9 ((⟨#[255, 255]⟩ : ByteArray) ++ (t134.extract 2 t134.size)) 0).bind fun bt153 => ((grafterlaw0_Num.f t133).bind fun t156 => (if t156 = 1600 then ((grafterlaw0_Num.f t143).bind fun t157 => (if t157 = 1600 then ((grafterlaw0_Num.f bt144.2.2).bind fun t158 => (if t158 = 1600 then ((grafterlaw0_Num.f bt147.2.2).bind fun t159 => (if t159 = 1600 then ((grafterlaw0_Num.f bt150.2.2).bind fun t160 => (if t160 = 1600 then ((grafterlaw0_Num.f bt153.2.2).bind fun t161 => (if t161 = 1600 then ((grafterref12_Sum.f kj9 (⟨#[49, 50, 51, 52, 53, 54, 55, 56, 57]⟩ : ByteArray)).bind fun t162 => (some (t162 == 3421780262))) else (some false))) else (some false))) else (some false))) else (some false))) else (some false))) else (some false)))) else (none)) else (none))) else (none)) else (none)))) else (none)) else (none)) = some r := by first | (rw [hji23] at H; exact H) | (simp only [hji23] at H ⊢; exact H)
                  (try rw [hji23] at A22)
                  have hji23w : (IntKind.i64.wrap (Int.tmod (IntKind.u64.wrap (a1)) 9)) = ji23 := (i64_w _).trans hji23
                  by_cases c24 : 0 ≤ (ji23)
                  · rw [if_pos c24] at H
                    have c24b0 := eq_true c24
                    have c24b1 : decide (0 ≤ (ji23)) = true := decide_eq_true c24
                    clear c24
                    by_cases c25 : (ji23) ≤ (t134.size : Int)
                    · rw [if_pos c25] at H
                      have c25b0 := eq_true c25
                      have c25b1 : decide ((ji23) ≤ (t134.size : Int)) = true := decide_eq_true c25
                      clear c25
                      replace H := Option.bind_eq_some_iff.mp H
                      obtain ⟨⟨t144, t145, t146⟩, A260, H⟩ := H
                      replace H : ((frame_Get.f kj9 t134 9).bind fun bt147 => (if 1 ≤ (t134.size : Int) then (if 1 + (t134.extract 1 t134.size).size ≤ 9223372036854775807 then ((frame_Get.f kj9 ((⟨#[2]⟩ : ByteArray) ++ (t134.extract 1 t134.size)) 0).bind fun bt150 => (if 2 ≤ (t134.size : Int) then (if 2 + (t134.extract 2 t134.size).size ≤ 9223372036854775807 then ((frame_Get.f kj9 ((⟨#[255, 255]⟩ : ByteArray) ++ (t134.extract 2 t134.size)) 0).bind fun bt153 => ((grafterlaw0_Num.f t133).bind fun t156 => (if t156 = 1600 then ((grafterlaw0_Num.f t143).bind fun t157 => (if t157 = 1600 then ((grafterlaw0_Num.f t146).bind fun t158 => (if t158 = 1600 then ((grafterlaw0_Num.f bt147.2.2).bind fun t159 => (if t159 = 1600 then ((grafterlaw0_Num.f bt150.2.2).bind fun t160 => (if t160 = 1600 then ((grafterlaw0_Num.f bt153.2.2).bind fun t161 => (if t161 = 1600 then ((grafterref12_Sum.f kj9 (⟨#[49, 50, 51, 52, 53, 54, 55, 56, 57]⟩ : ByteArray)).bind fun t162 => (some (t162 == 3421780262))) else (some false))) else (some false))) else (some false))) else (some false))) else (some false))) else (some false)))) else (none)) else (none))) else (none)) else (none))) = some r := H
                      have A26 := Aside0.mk A260
                      clear A260
                      replace H := Option.bind_eq_some_iff.mp H
                      obtain ⟨⟨t147, t148, t149⟩, A270, H⟩ := H
                      replace H : (if 1 ≤ (t134.size : Int) then (if 1 + (t134.extract 1 t134.size).size ≤ 9223372036854775807 then ((frame_Get.f kj9 ((⟨#[2]⟩ : ByteArray) ++ (t134.extract 1 t134.size)) 0).bind fun bt150 => (if 2 ≤ (t134.size : Int) then (if 2 + (t134.extract 2 t134.size).size ≤ 9223372036854775807 then ((frame_Get.f kj9 ((⟨#[255, 255]⟩ : ByteArray) ++ (t134.extract 2 t134.size)) 0).bind fun bt153 => ((grafterlaw0_Num.f t133).bind fun t156 => (if t156 = 1600 then ((grafterlaw0_Num.f t143).bind fun t157 => (if t157 = 1600 then ((grafterlaw0_Num.f t146).bind fun t158 => (if t158 = 1600 then ((grafterlaw0_Num.f t149).bind fun t159 => (if t159 = 1600 then ((grafterlaw0_Num.f bt150.2.2).bind fun t160 => (if t160 = 1600 then ((grafterlaw0_Num.f bt153.2.2).bind fun t161 => (if t161 = 1600 then ((grafterref12_Sum.f kj9 (⟨#[49, 50, 51, 52, 53, 54, 55, 56, 57]⟩ : ByteArray)).bind fun t162 => (some (t162 == 3421780262))) else (some false))) else (some false))) else (some false))) else (some false))) else (some false))) else (some false)))) else (none)) else (none))) else (none)) else (none)) = some r := H
                      have A27 := Aside0.mk A270
                      clear A270
                      by_cases c28 : 1 ≤ (t134.size : Int)
                      · rw [if_pos c28] at H
                        have c28b0 := eq_true c28
                        have c28b1 : decide (1 ≤ (t134.size : Int)) = true := decide_eq_true c28
                        clear c28
                        by_cases c29 : 1 + (t134.extract 1 t134.size).size ≤ 9223372036854775807
                        · rw [if_pos c29] at H
                          have c29b0 := eq_true c29
                          have c29b1 : decide (1 + (t134.extract 1 t134.size).size ≤ 9223372036854775807) = true := decide_eq_true c29
                          try have c29b2 : (9223372036854775807 < 1 + (t134.extract 1 t134.size).size) = False := eq_false (Nat.not_lt.2 c29)
                          try simp only [ByteArray.size_append] at c29b2
                          try have c29b3 : (9223372036854775807 < 1 + (t134.size - 1)) = False := by (have h_ := c29b2; rw [ByteArray.size_extract, Nat.min_self] at h_; exact h_)
                          replace H := Option.bind_eq_some_iff.mp H
                          obtain ⟨⟨t150, t151, t152⟩, A300, H⟩ := H
                          replace H : (if 2 ≤ (t134.size : Int) then (if 2 + (t134.extract 2 t134.size).size ≤ 9223372036854775807 then ((frame_Get.f kj9 ((⟨#[255, 255]⟩ : ByteArray) ++ (t134.extract 2 t134.size)) 0).bind fun bt153 => ((grafterlaw0_Num.f t133).bind fun t156 => (if t156 = 1600 then ((grafterlaw0_Num.f t143).bind fun t157 => (if t157 = 1600 then ((grafterlaw0_Num.f t146).bind fun t158 => (if t158 = 1600 then ((grafterlaw0_Num.f t149).bind fun t159 => (if t159 = 1600 then ((grafterlaw0_Num.f t152).bind fun t160 => (if t160 = 1600 then ((grafterlaw0_Num.f bt153.2.2).bind fun t161 => (if t161 = 1600 then ((grafterref12_Sum.f kj9 (⟨#[49, 50, 51, 52, 53, 54, 55, 56, 57]⟩ : ByteArray)).bind fun t162 => (some (t162 == 3421780262))) else (some false))) else (some false))) else (some false))) else (some false))) else (some false))) else (some false)))) else (none)) else (none)) = some r := H
                          have A30 := Aside0.mk A300
                          clear A300
                          by_cases c31 : 2 ≤ (t134.size : Int)
                          · rw [if_pos c31] at H
                            have c31b0 := eq_true c31
                            have c31b1 : decide (2 ≤ (t134.size : Int)) = true := decide_eq_true c31
                            clear c31
                            by_cases c32 : 2 + (t134.extract 2 t134.size).size ≤ 9223372036854775807
                            · rw [if_pos c32] at H
                              have c32b0 := eq_true c32
                              have c32b1 : decide (2 + (t134.extract 2 t134.size).size ≤ 9223372036854775807) = true := decide_eq_true c32
                              try have c32b2 : (9223372036854775807 < 2 + (t134.extract 2 t134.size).size) = False := eq_false (Nat.not_lt.2 c32)
                              try simp only [ByteArray.size_append] at c32b2
                              try have c32b3 : (9223372036854775807 < 2 + (t134.size - 2)) = False := by (have h_ := c32b2; rw [ByteArray.size_extract, Nat.min_self] at h_; exact h_)
                              replace H := Option.bind_eq_some_iff.mp H
                              obtain ⟨⟨t153, t154, t155⟩, A330, H⟩ := H
                              replace H : ((grafterlaw0_Num.f t133).bind fun t156 => (if t156 = 1600 then ((grafterlaw0_Num.f t143).bind fun t157 => (if t157 = 1600 then ((grafterlaw0_Num.f t146).bind fun t158 => (if t158 = 1600 then ((grafterlaw0_Num.f t149).bind fun t159 => (if t159 = 1600 then ((grafterlaw0_Num.f t152).bind fun t160 => (if t160 = 1600 then ((grafterlaw0_Num.f t155).bind fun t161 => (if t161 = 1600 then ((grafterref12_Sum.f kj9 (⟨#[49, 50, 51, 52, 53, 54, 55, 56, 57]⟩ : ByteArray)).bind fun t162 => (some (t162 == 3421780262))) else (some false))) else (some false))) else (some false))) else (some false))) else (some false))) else (some false))) = some r := H
                              have A33 := Aside0.mk A330
                              clear A330
                              replace H := Option.bind_eq_some_iff.mp H
                              obtain ⟨t156, A340, H⟩ := H
                              replace H : (if t156 = 1600 then ((grafterlaw0_Num.f t143).bind fun t157 => (if t157 = 1600 then ((grafterlaw0_Num.f t146).bind fun t158 => (if t158 = 1600 then ((grafterlaw0_Num.f t149).bind fun t159 => (if t159 = 1600 then ((grafterlaw0_Num.f t152).bind fun t160 => (if t160 = 1600 then ((grafterlaw0_Num.f t155).bind fun t161 => (if t161 = 1600 then ((grafterref12_Sum.f kj9 (⟨#[49, 50, 51, 52, 53, 54, 55, 56, 57]⟩ : ByteArray)).bind fun t162 => (some (t162 == 3421780262))) else (some false))) else (some false))) else (some false))) else (some false))) else (some false))) else (some false)) = some r := H
                              have A34 := Aside0.mk A340
                              clear A340
                              by_cases c35 : t156 = 1600
                              · rw [if_pos c35] at H
                                have c35b0 : (t156 == 1600) = true := beq_iff_eq.mpr c35
                                have c35b1 : (t156 != 1600) = false := bne_eq_false_iff_eq.mpr c35
                                clear c35
                                replace H := Option.bind_eq_some_iff.mp H
                                obtain ⟨t157, A360, H⟩ := H
                                replace H : (if t157 = 1600 then ((grafterlaw0_Num.f t146).bind fun t158 => (if t158 = 1600 then ((grafterlaw0_Num.f t149).bind fun t159 => (if t159 = 1600 then ((grafterlaw0_Num.f t152).bind fun t160 => (if t160 = 1600 then ((grafterlaw0_Num.f t155).bind fun t161 => (if t161 = 1600 then ((grafterref12_Sum.f kj9 (⟨#[49, 50, 51, 52, 53, 54, 55, 56, 57]⟩ : ByteArray)).bind fun t162 => (some (t162 == 3421780262))) else (some false))) else (some false))) else (some false))) else (some false))) else (some false)) = some r := H
                                have A36 := Aside0.mk A360
                                clear A360
                                by_cases c37 : t157 = 1600
                                · rw [if_pos c37] at H
                                  have c37b0 : (t157 == 1600) = true := beq_iff_eq.mpr c37
                                  have c37b1 : (t157 != 1600) = false := bne_eq_false_iff_eq.mpr c37
                                  clear c37
                                  replace H := Option.bind_eq_some_iff.mp H
                                  obtain ⟨t158, A380, H⟩ := H
                                  replace H : (if t158 = 1600 then ((grafterlaw0_Num.f t149).bind fun t159 => (if t159 = 1600 then ((grafterlaw0_Num.f t152).bind fun t160 => (if t160 = 1600 then ((grafterlaw0_Num.f t155).bind fun t161 => (if t161 = 1600 then ((grafterref12_Sum.f kj9 (⟨#[49, 50, 51, 52, 53, 54, 55, 56, 57]⟩ : ByteArray)).bind fun t162 => (some (t162 == 3421780262))) else (some false))) else (some false))) else (some false))) else (some false)) = some r := H
                                  have A38 := Aside0.mk A380
                                  clear A380
                                  by_cases c39 : t158 = 1600
                                  · rw [if_pos c39] at H
                                    have c39b0 : (t158 == 1600) = true := beq_iff_eq.mpr c39
                                    have c39b1 : (t158 != 1600) = false := bne_eq_false_iff_eq.mpr c39
                                    clear c39
                                    replace H := Option.bind_eq_some_iff.mp H
                                    obtain ⟨t159, A400, H⟩ := H
                                    replace H : (if t159 = 1600 then ((grafterlaw0_Num.f t152).bind fun t160 => (if t160 = 1600 then ((grafterlaw0_Num.f t155).bind fun t161 => (if t161 = 1600 then ((grafterref12_Sum.f kj9 (⟨#[49, 50, 51, 52, 53, 54, 55, 56, 57]⟩ : ByteArray)).bind fun t162 => (some (t162 == 3421780262))) else (some false))) else (some false))) else (some false)) = some r := H
                                    have A40 := Aside0.mk A400
                                    clear A400
                                    by_cases c41 : t159 = 1600
                                    · rw [if_pos c41] at H
                                      have c41b0 : (t159 == 1600) = true := beq_iff_eq.mpr c41
                                      have c41b1 : (t159 != 1600) = false := bne_eq_false_iff_eq.mpr c41
                                      clear c41
                                      replace H := Option.bind_eq_some_iff.mp H
                                      obtain ⟨t160, A420, H⟩ := H
                                      replace H : (if t160 = 1600 then ((grafterlaw0_Num.f t155).bind fun t161 => (if t161 = 1600 then ((grafterref12_Sum.f kj9 (⟨#[49, 50, 51, 52, 53, 54, 55, 56, 57]⟩ : ByteArray)).bind fun t162 => (some (t162 == 3421780262))) else (some false))) else (some false)) = some r := H
                                      have A42 := Aside0.mk A420
                                      clear A420
                                      by_cases c43 : t160 = 1600
                                      · rw [if_pos c43] at H
                                        have c43b0 : (t160 == 1600) = true := beq_iff_eq.mpr c43
                                        have c43b1 : (t160 != 1600) = false := bne_eq_false_iff_eq.mpr c43
                                        clear c43
                                        replace H := Option.bind_eq_some_iff.mp H
                                        obtain ⟨t161, A440, H⟩ := H
                                        replace H : (if t161 = 1600 then ((grafterref12_Sum.f kj9 (⟨#[49, 50, 51, 52, 53, 54, 55, 56, 57]⟩ : ByteArray)).bind fun t162 => (some (t162 == 3421780262))) else (some false)) = some r := H
                                        have A44 := Aside0.mk A440
                                        clear A440
                                        by_cases c45 : t161 = 1600
                                        · rw [if_pos c45] at H
                                          have c45b0 : (t161 == 1600) = true := beq_iff_eq.mpr c45
                                          have c45b1 : (t161 != 1600) = false := bne_eq_false_iff_eq.mpr c45
                                          clear c45
                                          replace H := Option.bind_eq_some_iff.mp H
                                          obtain ⟨t162, A460, H⟩ := H
                                          replace H : (some (t162 == 3421780262)) = some r := H
                                          have A46 := Aside0.mk A460
                                          clear A460
                                          obtain rfl := Option.some.inj H
                                          go_wp2_with (first | ((with_reducible refine gate_dst (N := 56) rfl ?_); (try (refine gate_guard (by rfl) ?_; dsimp only)); refine Kd.R_lit (Kd.int .i64) _ 3 ?hg (N := 56) ?hd (xs := ([wrap64 (-(wrap64 (1 + (Go.bits .and .i64 a1 1023)))), wrap64 (9 + (wrap64 (1 + (Go.bits .and .i64 a1 1023))))] : List Int)) (inner := [.int .i64 (wrap64 (-(wrap64 (1 + (Go.bits .and .i64 a1 1023))))), .int .i64 (wrap64 (9 + (wrap64 (1 + (Go.bits .and .i64 a1 1023)))))]) (ok := fun _ => True) (okp := fun _ => True) ?hr ?hp (fun _ hk => hk) trivial (Below.refl _ _) (Nat.le_refl _) (by simp) ?_; (case hd => rfl); (case hg => rfl); (case hr => first | (go_simp; done) | (go_simp; rfl)); (case hp => exact (Reps.one (show Kd.M (Kd.int .i64) _ _ _ (wrap64 (-(wrap64 (1 + (Go.bits .and .i64 a1 1023))))) [.int .i64 (wrap64 (-(wrap64 (1 + (Go.bits .and .i64 a1 1023)))))] from rfl) (Reps.one (show Kd.M (Kd.int .i64) _ _ _ (wrap64 (9 + (wrap64 (1 + (Go.bits .and .i64 a1 1023))))) [.int .i64 (wrap64 (9 + (wrap64 (1 + (Go.bits .and .i64 a1 1023)))))] from rfl) (Reps.none _ _)))); intro v138 w47 ho48 hb hg_ hnew_; clear hg_ hnew_; (first | rw [← Ny137.out] at ho48 | (simp only [Int.reduceToNat] at ho48; rw [← Ny137.out] at ho48)); have n0_ := Aside0.mk (Kd.R_lower ho48 (below_size (by repeat (first | (with_reducible first | exact HB.out | apply below_alloc | apply pw_below_drewN | apply below_drew1) | exact HB.out)))); have n1_ := Aside0.mk (below_step (by repeat (first | (with_reducible first | exact HB.out | apply below_alloc | apply pw_below_drewN | apply below_drew1) | exact HB.out)) hb); clear HB; have HO139 := n0_; have HB := n1_; clear n0_ n1_; clear hb ho48; obtain ⟨Ao49, co49, eo49⟩ := Kd.R_slice HO139.out; subst eo49; have p140 : 0 ≤ ((Go.bits .and .i64 a0 1) : Int) := of_decide_eq_true (by first | (with_reducible assumption) | assumption); have q140 : (Go.bits .and .i64 a0 1) < (y137.length : Int) := of_decide_eq_true (by first | (with_reducible assumption) | assumption); obtain ⟨ad140, e140, hx140_0⟩ := Kd.at_int (Kd.R_reads' HO139.out).2.2 (Go.bits .and .i64 a0 1) p140 q140; cases e140; replace p140 := eq_true p140; replace q140 := eq_true q140) | ((with_reducible refine gate_callee (f := 24) rfl ?_); refine goesL_ (some 61) rfl rfl Try.func24 (by kernel_rfl) rfl #[.string t134, .int .i64 (rd y137 (Go.bits .and .i64 a0 1))] rfl (by (try simp only [List.map_toArray, List.map_cons, List.map_nil]); first | done | rfl | (simp only [List.length_drop, List.length_take]; rfl)) ?_; (with_reducible refine (frame_Get.calls kj9 t134 (rd y137 (Go.bits .and .i64 a0 1)) t141 t142 t143 _ A22.out).mono ?_); rintro e w50 ⟨rfl, hb⟩; refine ⟨_, rfl, ?_⟩; have n0_ := Aside0.mk (Kd.R_below (by (with_reducible repeat (first | apply Kd.R_alloc | apply Kd.R_drewN | apply Kd.R_drew)); exact HO139.out) hb); have n1_ := Aside0.mk (below_step (by repeat (first | (with_reducible first | exact HB.out | apply below_alloc | apply pw_below_drewN | apply below_drew1) | exact HB.out)) hb); clear HO139; clear HB; have HO139 := n0_; have HB := n1_; clear n0_ n1_; (try clear hb); (try clear hb2); (try clear hk); (try clear hi); (try clear A22)) | ((with_reducible refine gate_callee (f := 24) rfl ?_); refine goesL_ (some 72) rfl rfl Try.func24 (by kernel_rfl) rfl #[.string (t134.extract 0 ((ji23) : Int).toNat), .int .i64 0] rfl (by (try simp only [List.map_toArray, List.map_cons, List.map_nil]); first | done | (simp only [hji23]; rfl) | rfl | (simp only [List.length_drop, List.length_take]; rfl)) ?_; (with_reducible refine (frame_Get.calls kj9 (t134.extract 0 ((ji23) : Int).toNat) 0 t144 t145 t146 _ A26.out).mono ?_); rintro e w51 ⟨rfl, hb⟩; refine ⟨_, rfl, ?_⟩; have n0_ := Aside0.mk (Kd.R_below (by (with_reducible repeat (first | apply Kd.R_alloc | apply Kd.R_drewN | apply Kd.R_drew)); exact HO139.out) hb); have n1_ := Aside0.mk (below_step (by repeat (first | (with_reducible first | exact HB.out | apply below_alloc | apply pw_below_drewN | apply below_drew1) | exact HB.out)) hb); clear HO139; clear HB; have HO139 := n0_; have HB := n1_; clear n0_ n1_; (try clear hb); (try clear hb2); (try clear hk); (try clear hi); (try clear A26)) | ((with_reducible refine gate_callee (f := 24) rfl ?_); refine goesL_ (some 78) rfl rfl Try.func24 (by kernel_rfl) rfl #[.string t134, .int .i64 9] rfl (by (try simp only [List.map_toArray, List.map_cons, List.map_nil]); first | done | rfl | (simp only [List.length_drop, List.length_take]; rfl)) ?_; (with_reducible refine (frame_Get.calls kj9 t134 9 t147 t148 t149 _ A27.out).mono ?_); rintro e w52 ⟨rfl, hb⟩; refine ⟨_, rfl, ?_⟩; have n0_ := Aside0.mk (Kd.R_below (by (with_reducible repeat (first | apply Kd.R_alloc | apply Kd.R_drewN | apply Kd.R_drew)); exact HO139.out) hb); have n1_ := Aside0.mk (below_step (by repeat (first | (with_reducible first | exact HB.out | apply below_alloc | apply pw_below_drewN | apply below_drew1) | exact HB.out)) hb); clear HO139; clear HB; have HO139 := n0_; have HB := n1_; clear n0_ n1_; (try clear hb); (try clear hb2); (try clear hk); (try clear hi); (try clear A27)) | ((with_reducible refine gate_callee (f := 24) rfl ?_); refine goesL_ (some 86) rfl rfl Try.func24 (by kernel_rfl) rfl #[.string ((⟨#[2]⟩ : ByteArray) ++ (t134.extract 1 t134.size)), .int .i64 0] rfl (by (try simp only [List.map_toArray, List.map_cons, List.map_nil]); first | done | rfl | (simp only [List.length_drop, List.length_take]; rfl)) ?_; (with_reducible refine (frame_Get.calls kj9 ((⟨#[2]⟩ : ByteArray) ++ (t134.extract 1 t134.size)) 0 t150 t151 t152 _ A30.out).mono ?_); rintro e w53 ⟨rfl, hb⟩; refine ⟨_, rfl, ?_⟩; have n0_ := Aside0.mk (Kd.R_below (by (with_reducible repeat (first | apply Kd.R_alloc | apply Kd.R_drewN | apply Kd.R_drew)); exact HO139.out) hb); have n1_ := Aside0.mk (below_step (by repeat (first | (with_reducible first | exact HB.out | apply below_alloc | apply pw_below_drewN | apply below_drew1) | exact HB.out)) hb); clear HO139; clear HB; have HO139 := n0_; have HB := n1_; clear n0_ n1_; (try clear hb); (try clear hb2); (try clear hk); (try clear hi); (try clear A30)) | ((with_reducible refine gate_callee (f := 24) rfl ?_); refine goesL_ (some 94) rfl rfl Try.func24 (by kernel_rfl) rfl #[.string ((⟨#[255, 255]⟩ : ByteArray) ++ (t134.extract 2 t134.size)), .int .i64 0] rfl (by (try simp only [List.map_toArray, List.map_cons, List.map_nil]); first | done | rfl | (simp only [List.length_drop, List.length_take]; rfl)) ?_; (with_reducible refine (frame_Get.calls kj9 ((⟨#[255, 255]⟩ : ByteArray) ++ (t134.extract 2 t134.size)) 0 t153 t154 t155 _ A33.out).mono ?_); rintro e w54 ⟨rfl, hb⟩; refine ⟨_, rfl, ?_⟩; have n0_ := Aside0.mk (Kd.R_below (by (with_reducible repeat (first | apply Kd.R_alloc | apply Kd.R_drewN | apply Kd.R_drew)); exact HO139.out) hb); have n1_ := Aside0.mk (below_step (by repeat (first | (with_reducible first | exact HB.out | apply below_alloc | apply pw_below_drewN | apply below_drew1) | exact HB.out)) hb); clear HO139; clear HB; have HO139 := n0_; have HB := n1_; clear n0_ n1_; (try clear hb); (try clear hb2); (try clear hk); (try clear hi); (try clear A33)) | ((with_reducible refine gate_callee (f := 26) rfl ?_); refine goesL_ (some 99) rfl rfl Try.func26 (by kernel_rfl) rfl #[.int .i64 t133] rfl (by (try simp only [List.map_toArray, List.map_cons, List.map_nil]); first | done | rfl | (simp only [List.length_drop, List.length_take]; rfl)) ?_; (with_reducible refine (grafterlaw0_Num.calls t133 t156 _ A34.out).mono ?_); rintro e w' ⟨rfl, ⟨nd, rfl⟩⟩; refine ⟨_, rfl, ?_⟩; (try clear A34)) | (go_at_call 26; (with_reducible refine (grafterlaw0_Num.calls t143 t157 _ A36.out).mono ?_); rintro e w' ⟨rfl, ⟨nd, rfl⟩⟩; (try clear A36)) | (go_at_call 26; (with_reducible refine (grafterlaw0_Num.calls t146 t158 _ A38.out).mono ?_); rintro e w' ⟨rfl, ⟨nd, rfl⟩⟩; (try clear A38)) | (go_at_call 26; (with_reducible refine (grafterlaw0_Num.calls t149 t159 _ A40.out).mono ?_); rintro e w' ⟨rfl, ⟨nd, rfl⟩⟩; (try clear A40)) | (go_at_call 26; (with_reducible refine (grafterlaw0_Num.calls t152 t160 _ A42.out).mono ?_); rintro e w' ⟨rfl, ⟨nd, rfl⟩⟩; (try clear A42)) | (go_at_call 26; (with_reducible refine (grafterlaw0_Num.calls t155 t161 _ A44.out).mono ?_); rintro e w' ⟨rfl, ⟨nd, rfl⟩⟩; (try clear A44)) | (go_at_call 28; (with_reducible refine (grafterref12_Sum.calls kj9 (⟨#[49, 50, 51, 52, 53, 54, 55, 56, 57]⟩ : ByteArray) t162 _ A46.out).mono ?_); rintro e w' ⟨rfl, ⟨nd, rfl⟩⟩))
                                          go_ret
                                          exact ⟨by first | rfl | (simp [errW_none, errW_some] <;> rfl) | (simp only [← hji5, ← hji23]; first | rfl | (simp [errW_none, errW_some] <;> rfl)) | (simp [*, errW_none, errW_some] <;> rfl), by repeat (first | (with_reducible first | exact HB.out | apply below_alloc | apply pw_below_drewN | apply below_drew1) | exact HB.out)⟩
                                        · rw [if_neg c45] at H
                                          have c45b0 : (t161 == 1600) = false := beq_eq_false_iff_ne.mpr c45
                                          have c45b1 : (t161 != 1600) = true := bne_iff_ne.mpr c45
                                          exact absurd ((Option.some.inj H).trans HRT.out) Bool.false_ne_true
                                      · rw [if_neg c43] at H
                                        have c43b0 : (t160 == 1600) = false := beq_eq_false_iff_ne.mpr c43
                                        have c43b1 : (t160 != 1600) = true := bne_iff_ne.mpr c43
                                        exact absurd ((Option.some.inj H).trans HRT.out) Bool.false_ne_true
                                    · rw [if_neg c41] at H
                                      have c41b0 : (t159 == 1600) = false := beq_eq_false_iff_ne.mpr c41
                                      have c41b1 : (t159 != 1600) = true := bne_iff_ne.mpr c41
                                      exact absurd ((Option.some.inj H).trans HRT.out) Bool.false_ne_true
                                  · rw [if_neg c39] at H
                                    have c39b0 : (t158 == 1600) = false := beq_eq_false_iff_ne.mpr c39
                                    have c39b1 : (t158 != 1600) = true := bne_iff_ne.mpr c39
                                    exact absurd ((Option.some.inj H).trans HRT.out) Bool.false_ne_true
                                · rw [if_neg c37] at H
                                  have c37b0 : (t157 == 1600) = false := beq_eq_false_iff_ne.mpr c37
                                  have c37b1 : (t157 != 1600) = true := bne_iff_ne.mpr c37
                                  exact absurd ((Option.some.inj H).trans HRT.out) Bool.false_ne_true
                              · rw [if_neg c35] at H
                                have c35b0 : (t156 == 1600) = false := beq_eq_false_iff_ne.mpr c35
                                have c35b1 : (t156 != 1600) = true := bne_iff_ne.mpr c35
                                exact absurd ((Option.some.inj H).trans HRT.out) Bool.false_ne_true
                            · rw [if_neg c32] at H
                              exact absurd H (by simp)
                          · rw [if_neg c31] at H
                            exact absurd H (by simp)
                        · rw [if_neg c29] at H
                          exact absurd H (by simp)
                      · rw [if_neg c28] at H
                        exact absurd H (by simp)
                    · rw [if_neg c25] at H
                      exact absurd H (by simp)
                  · rw [if_neg c24] at H
                    exact absurd H (by simp)
                · rw [if_neg c21] at H
                  exact absurd H (by simp)
              · rw [if_neg c20] at H
                exact absurd H (by simp)
      · rw [if_neg c7] at H
        exact absurd H (by simp)
    · rw [if_neg c6] at H
      exact absurd H (by simp)
  · replace c4 := Bool.eq_false_iff.mpr c4
    subst c4
    have H1 : (some false) = some r := by rw [if_neg (show ¬ (false = true) by decide)] at H; exact H
    clear H
    have H := H1
    clear H1
    exact absurd ((Option.some.inj H).trans HRT.out) Bool.false_ne_true

/-- THE ONE PURE STATEMENT of grafterlaw16_FrameForms: yours. -/
def grafterlaw16_FrameForms.Pure : Prop := ∀ (a0 : Int) (a1 : Int), (Lit.int .i64 a0).wf = true → (Lit.int .i64 a1).wf = true → ∃ k, grafterlaw16_FrameForms.f k a0 a1 = some true
theorem grafterlaw16_FrameForms.walk (P : grafterlaw16_FrameForms.Pure) (a0 : Int) (a1 : Int) (w : World) (w0 : (Lit.int .i64 a0).wf = true) (w1 : (Lit.int .i64 a1).wf = true) :
    Calls Try.prog 5 #[.int .i64 a0, .int .i64 a1] w fun e w' => e = .returned (.bool true) ∧ Below w.heap.size w w' := by
  obtain ⟨k, h⟩ := P a0 a1 w0 w1
  refine (grafterlaw16_FrameForms.calls k a0 a1 true w rfl h).mono ?_
  rintro e w' ⟨rfl, hd⟩
  exact ⟨rfl, hd⟩

end Go.Proofs.Ytbhkmgidokonkaa.PFrameForms
