-- Written by a program of this session (pprint.py) out of the translation, with hand-proved walks pasted in.
import Derived.Test.YtbhkmgidokonkaaPFrameUnlikex0
import Derived.Test.YtbhkmgidokonkaaPFrameUnlikex1
namespace Go.Proofs.Ytbhkmgidokonkaa.PFrameUnlike
open Go.RowKit Go.Proofs.YtbhkmgidokonkaaW.PrintWords Go.Proofs.YtbhkmgidokonkaaW.PrintLast Go.Proofs.YtbhkmgidokonkaaW.PrintMore
attribute [local go_sem] max2_int min2_int max_two min_two max_three min_three max_four min_four   -- for this text's walks alone
set_option linter.unusedVariables false
set_option linter.unusedSimpArgs false

/-! ### frame_Get: function 24 -/
def frame_Get.j0 : Nat → ByteArray → Int → Bool → Option (ByteArray × Int × Int)
  | 0, _, _, _ => none
  | k + 1, x0, x1, x26 => if x26 = true then (some ((⟨#[]⟩ : ByteArray), 0, 1600)) else (if 0 ≤ x1 then (if x1 ≤ (x0.size : Int) then (if 0 < ((x0.extract (x1 : Int).toNat x0.size).size : Int) then (if 1 < ((x0.extract (x1 : Int).toNat x0.size).size : Int) then (if (Go.bits .or .i64 (wrap64 (bt (x0.extract (x1 : Int).toNat x0.size) 0)) (wrap64 ((wrap64 (bt (x0.extract (x1 : Int).toNat x0.size) 1)) * 256))) > (wrap64 ((wrap64 (((x0.extract (x1 : Int).toNat x0.size).size : Int) - 2)) - 4)) then (some ((⟨#[]⟩ : ByteArray), 0, 1600)) else (if 2 ≤ (wrap64 (2 + (Go.bits .or .i64 (wrap64 (bt (x0.extract (x1 : Int).toNat x0.size) 0)) (wrap64 ((wrap64 (bt (x0.extract (x1 : Int).toNat x0.size) 1)) * 256))))) then (if (wrap64 (2 + (Go.bits .or .i64 (wrap64 (bt (x0.extract (x1 : Int).toNat x0.size) 0)) (wrap64 ((wrap64 (bt (x0.extract (x1 : Int).toNat x0.size) 1)) * 256))))) ≤ ((x0.extract (x1 : Int).toNat x0.size).size : Int) then ((frame_Put.f k ((x0.extract (x1 : Int).toNat x0.size).extract 2 ((wrap64 (2 + (Go.bits .or .i64 (wrap64 (bt (x0.extract (x1 : Int).toNat x0.size) 0)) (wrap64 ((wrap64 (bt (x0.extract (x1 : Int).toNat x0.size) 1)) * 256))))) : Int).toNat)).bind fun bt118 => (if bt118.2 = 0 then (if 0 ≤ (bt118.1.size : Int) then (if (bt118.1.size : Int) ≤ ((x0.extract (x1 : Int).toNat x0.size).size : Int) then (if bt118.1.toList = ((x0.extract (x1 : Int).toNat x0.size).extract 0 ((bt118.1.size : Int) : Int).toNat).toList then (some ((x0.extract (x1 : Int).toNat x0.size).extract 2 ((wrap64 (2 + (Go.bits .or .i64 (wrap64 (bt (x0.extract (x1 : Int).toNat x0.size) 0)) (wrap64 ((wrap64 (bt (x0.extract (x1 : Int).toNat x0.size) 1)) * 256))))) : Int).toNat, wrap64 ((wrap64 ((wrap64 (x1 + 2)) + (Go.bits .or .i64 (wrap64 (bt (x0.extract (x1 : Int).toNat x0.size) 0)) (wrap64 ((wrap64 (bt (x0.extract (x1 : Int).toNat x0.size) 1)) * 256))))) + 4), 0)) else (some ((⟨#[]⟩ : ByteArray), 0, 1600))) else (none)) else (none)) else (some ((⟨#[]⟩ : ByteArray), 0, 1600)))) else (none)) else (none))) else (none)) else (none)) else (none)) else (none))
def frame_Get.f (k : Nat) (a0 : ByteArray) (a1 : Int) : Option (ByteArray × Int × Int) := if a1 < 0 then (frame_Get.j0 k a0 a1 true) else (if a1 > (a0.size : Int) then (frame_Get.j0 k a0 a1 true) else (frame_Get.j0 k a0 a1 (decide ((wrap64 ((a0.size : Int) - a1)) < 6))))
theorem frame_Get.mono_l : ∀ k, (∀ y0 y1 y2, LeO (frame_Get.j0 k y0 y1 y2) (frame_Get.j0 (k + 1) y0 y1 y2))
  | 0 => fun _ _ _ r h => by simp [frame_Get.j0] at h
  | k + 1 => by
    have ih0 := frame_Get.mono_l k
    · intro y0 y1 y2
      unfold frame_Get.j0
      repeat' first
      | (with_reducible exact ih0 _ _ _)
      | (with_reducible exact frame_Put.mono _ _)
      | (with_reducible exact LeO.refl _)
      | (with_reducible exact LeO.none _)
      | (with_reducible refine LeO.ite ?_ ?_)
      | (with_reducible refine LeO.bind ?_ (fun _ => ?_))
      | exact ih0 _ _ _
      | exact frame_Put.mono _ _
      | exact LeO.none _
      | refine LeO.ite ?_ ?_
      | refine LeO.bind ?_ (fun _ => ?_)
theorem frame_Get.mono : ∀ a0 a1 k, LeO (frame_Get.f k a0 a1) (frame_Get.f (k + 1) a0 a1) := by
  intro a0 a1 k
  have ih0 := frame_Get.mono_l k
  unfold frame_Get.f
  repeat' first
      | (with_reducible exact ih0 _ _ _)
      | (with_reducible exact frame_Put.mono _ _)
      | (with_reducible exact LeO.refl _)
      | (with_reducible exact LeO.none _)
      | (with_reducible refine LeO.ite ?_ ?_)
      | (with_reducible refine LeO.bind ?_ (fun _ => ?_))
      | exact ih0 _ _ _
      | exact frame_Put.mono _ _
      | exact LeO.none _
      | refine LeO.ite ?_ ?_
      | refine LeO.bind ?_ (fun _ => ?_)
set_option maxHeartbeats 8000000 in
set_option maxRecDepth 100000 in
theorem frame_Get.calls (k : Nat) (a0 : ByteArray) (a1 : Int) (r1 : ByteArray) (r2 : Int) (r3 : Int) (w : World) (h : frame_Get.f k a0 a1 = some (r1, r2, r3)) :
    Calls Try.prog 24 #[.string a0, .int .i64 a1] w fun e w' => e = .returned (.tuple #[.string r1, .int .i64 r2, .int .i64 r3]) ∧ Below w.heap.size w w' := by
  have HB := Aside0.mk (Below.refl w.heap.size w)
  have H : (if a1 < 0 then (frame_Get.j0 k a0 a1 true) else (if a1 > (a0.size : Int) then (frame_Get.j0 k a0 a1 true) else (frame_Get.j0 k a0 a1 (decide ((wrap64 ((a0.size : Int) - a1)) < 6))))) = some (r1, r2, r3) := h
  clear h
  have HC3 := Aside0.mk H
  clear H
  go_enter Try.func24, Try.ntmps24
  go_upto_region 1 with (fail)
  repeat (go_quiet (fail); go_upto_region 1 with (fail))
  go_cut [26] (fun v26 wc => ∃ (kq : Nat) (x26_2 : Bool), v26 = .bool x26_2 ∧ Aside0 (frame_Get.j0 kq a0 a1 x26_2 = some (r1, r2, r3)) ∧ Aside0 (kq ≤ k) ∧ Aside0 (Below w.heap.size w wc))
  case first =>
    have H := HC3.out
    clear HC3
    by_cases c4 : a1 < 0
    · rw [if_pos c4] at H
      have c4b0 : decide (a1 < 0) = true := decide_eq_true c4
      clear c4
      (first | rw [c4b0] | (simp only [i64_w, i32_w]; rw [c4b0]) | skip)
      have H' := Aside0.mk H
      clear H
      go_wp2
      repeat (go_quiet (fail); try go_wp2)
      go_meet
      case rel => exact ⟨_, (true), (by first | rfl | (simp; done) | (simp [*]; done)), H', ⟨by first | omega | exact Nat.le_refl _⟩, ⟨by repeat (first | (with_reducible first | exact HB.out | apply below_alloc | apply pw_below_drewN | apply below_drew1) | exact HB.out)⟩⟩
    · rw [if_neg c4] at H
      have c4b0 : decide (a1 < 0) = false := decide_eq_false c4
      clear c4
      (first | rw [c4b0] | (simp only [i64_w, i32_w]; rw [c4b0]) | skip)
      by_cases c5 : a1 > (a0.size : Int)
      · rw [if_pos c5] at H
        have c5b0 : decide ((a0.size : Int) < a1) = true := decide_eq_true c5
        clear c5
        have H' := Aside0.mk H
        clear H
        go_wp2
        repeat (go_quiet (fail); try go_wp2)
        go_meet
        case rel => exact ⟨_, (true), (by first | rfl | (simp; done) | (simp [*]; done)), H', ⟨by first | omega | exact Nat.le_refl _⟩, ⟨by repeat (first | (with_reducible first | exact HB.out | apply below_alloc | apply pw_below_drewN | apply below_drew1) | exact HB.out)⟩⟩
      · rw [if_neg c5] at H
        have c5b0 : decide ((a0.size : Int) < a1) = false := decide_eq_false c5
        clear c5
        have H' := Aside0.mk H
        clear H
        go_wp2
        repeat (go_quiet (fail); try go_wp2)
        go_meet
        case rel => exact ⟨_, (decide ((wrap64 ((a0.size : Int) - a1)) < 6)), (by first | rfl | (simp; done) | (simp [*]; done)), H', ⟨by first | omega | exact Nat.le_refl _⟩, ⟨by repeat (first | (with_reducible first | exact HB.out | apply below_alloc | apply pw_below_drewN | apply below_drew1) | exact HB.out)⟩⟩
  case rest =>
    clear HC3
    try clear c2
    try clear p2
    try clear c4
    try clear c4b0
    try clear c5
    try clear c5b0
    obtain ⟨kq, x26_2, rfl, HA, HJ2, HB⟩ := hcut
    cases kq with
    | zero => exact absurd HA.out (by simp [frame_Get.j0])
    | succ kj2 =>
      have H := HA.out
      clear HA
      simp only [frame_Get.j0] at H
      by_cases c6 : x26_2 = true
      · subst c6
        have H1 : (some ((⟨#[]⟩ : ByteArray), 0, 1600)) = some (r1, r2, r3) := by rw [if_pos rfl] at H; exact H
        clear H
        have H := H1
        clear H1
        simp only [Option.some.injEq, Prod.mk.injEq] at H
        obtain ⟨rfl, rfl, rfl⟩ := H
        go_wp2
        repeat (go_quiet (fail); try go_wp2)
        go_ret3
        exact ⟨by first | rfl | (simp [errW_none, errW_some] <;> rfl) | (simp [*, errW_none, errW_some] <;> rfl), by repeat (first | (with_reducible first | exact HB.out | apply below_alloc | apply pw_below_drewN | apply below_drew1) | exact HB.out)⟩
      · replace c6 := Bool.eq_false_iff.mpr c6
        subst c6
        have H1 : (if 0 ≤ a1 then (if a1 ≤ (a0.size : Int) then (if 0 < ((a0.extract (a1 : Int).toNat a0.size).size : Int) then (if 1 < ((a0.extract (a1 : Int).toNat a0.size).size : Int) then (if (Go.bits .or .i64 (wrap64 (bt (a0.extract (a1 : Int).toNat a0.size) 0)) (wrap64 ((wrap64 (bt (a0.extract (a1 : Int).toNat a0.size) 1)) * 256))) > (wrap64 ((wrap64 (((a0.extract (a1 : Int).toNat a0.size).size : Int) - 2)) - 4)) then (some ((⟨#[]⟩ : ByteArray), 0, 1600)) else (if 2 ≤ (wrap64 (2 + (Go.bits .or .i64 (wrap64 (bt (a0.extract (a1 : Int).toNat a0.size) 0)) (wrap64 ((wrap64 (bt (a0.extract (a1 : Int).toNat a0.size) 1)) * 256))))) then (if (wrap64 (2 + (Go.bits .or .i64 (wrap64 (bt (a0.extract (a1 : Int).toNat a0.size) 0)) (wrap64 ((wrap64 (bt (a0.extract (a1 : Int).toNat a0.size) 1)) * 256))))) ≤ ((a0.extract (a1 : Int).toNat a0.size).size : Int) then ((frame_Put.f kj2 ((a0.extract (a1 : Int).toNat a0.size).extract 2 ((wrap64 (2 + (Go.bits .or .i64 (wrap64 (bt (a0.extract (a1 : Int).toNat a0.size) 0)) (wrap64 ((wrap64 (bt (a0.extract (a1 : Int).toNat a0.size) 1)) * 256))))) : Int).toNat)).bind fun bt118 => (if bt118.2 = 0 then (if 0 ≤ (bt118.1.size : Int) then (if (bt118.1.size : Int) ≤ ((a0.extract (a1 : Int).toNat a0.size).size : Int) then (if bt118.1.toList = ((a0.extract (a1 : Int).toNat a0.size).extract 0 ((bt118.1.size : Int) : Int).toNat).toList then (some ((a0.extract (a1 : Int).toNat a0.size).extract 2 ((wrap64 (2 + (Go.bits .or .i64 (wrap64 (bt (a0.extract (a1 : Int).toNat a0.size) 0)) (wrap64 ((wrap64 (bt (a0.extract (a1 : Int).toNat a0.size) 1)) * 256))))) : Int).toNat, wrap64 ((wrap64 ((wrap64 (a1 + 2)) + (Go.bits .or .i64 (wrap64 (bt (a0.extract (a1 : Int).toNat a0.size) 0)) (wrap64 ((wrap64 (bt (a0.extract (a1 : Int).toNat a0.size) 1)) * 256))))) + 4), 0)) else (some ((⟨#[]⟩ : ByteArray), 0, 1600))) else (none)) else (none)) else (some ((⟨#[]⟩ : ByteArray), 0, 1600)))) else (none)) else (none))) else (none)) else (none)) else (none)) else (none)) = some (r1, r2, r3) := by rw [if_neg (show ¬ (false = true) by decide)] at H; exact H
        clear H
        have H := H1
        clear H1
        by_cases c7 : 0 ≤ a1
        · rw [if_pos c7] at H
          have c7b0 := eq_true c7
          have c7b1 : decide (0 ≤ a1) = true := decide_eq_true c7
          clear c7
          by_cases c8 : a1 ≤ (a0.size : Int)
          · rw [if_pos c8] at H
            have c8b0 := eq_true c8
            have c8b1 : decide (a1 ≤ (a0.size : Int)) = true := decide_eq_true c8
            clear c8
            obtain ⟨rst, hrst⟩ : ∃ z, a0.extract (a1 : Int).toNat a0.size = z := ⟨_, rfl⟩
            simp only [hrst] at H
            by_cases c9 : 0 < (rst.size : Int)
            · rw [if_pos c9] at H
              have c9b0 : decide (0 < (rst.size : Int)) = true := decide_eq_true c9
              have c9b1 : decide (0 < rst.size) = true := decide_eq_true (by omega)
              clear c9
              by_cases c11 : 1 < (rst.size : Int)
              · rw [if_pos c11] at H
                have c11b0 : decide (1 < (rst.size : Int)) = true := decide_eq_true c11
                have c11b1 : decide (1 < rst.size) = true := decide_eq_true (by omega)
                clear c11
                by_cases c13 : (Go.bits .or .i64 (wrap64 (bt rst 0)) (wrap64 ((wrap64 (bt rst 1)) * 256))) > (wrap64 ((wrap64 ((rst.size : Int) - 2)) - 4))
                · rw [if_pos c13] at H
                  have c13b0 : decide ((wrap64 ((wrap64 ((rst.size : Int) - 2)) - 4)) < (Go.bits .or .i64 (wrap64 (bt rst 0)) (wrap64 ((wrap64 (bt rst 1)) * 256)))) = true := decide_eq_true c13
                  clear c13
                  simp only [Option.some.injEq, Prod.mk.injEq] at H
                  obtain ⟨rfl, rfl, rfl⟩ := H
                  have p10 : 0 ≤ (0 : Int) := (by omega)
                  have q10 : 0 < rst.size := (by have : (0 : Int) < (rst.size : Int) := of_decide_eq_true (by first | (with_reducible assumption) | assumption); omega)
                  have hx10 : ∀ h : 0 < rst.size, ((rst[0]'h).toNat : Int) = bt rst 0 := bt_at rst 0
                  clear p10
                  have qi10 : (0 < (rst.size : Int)) = True := eq_true (of_decide_eq_true (by first | (with_reducible assumption) | assumption))
                  replace q10 := eq_true q10
                  have p12 : 0 ≤ (1 : Int) := (by omega)
                  have q12 : 1 < rst.size := (by have : (1 : Int) < (rst.size : Int) := of_decide_eq_true (by first | (with_reducible assumption) | assumption); omega)
                  have hx12 : ∀ h : 1 < rst.size, ((rst[1]'h).toNat : Int) = bt rst 1 := bt_at rst 1
                  clear p12
                  have qi12 : (1 < (rst.size : Int)) = True := eq_true (of_decide_eq_true (by first | (with_reducible assumption) | assumption))
                  replace q12 := eq_true q12
                  go_wp2
                  repeat (go_quiet (fail); try go_wp2)
                  go_ret3
                  exact ⟨by first | rfl | (simp [errW_none, errW_some] <;> rfl) | (simp [*, errW_none, errW_some] <;> rfl), by repeat (first | (with_reducible first | exact HB.out | apply below_alloc | apply pw_below_drewN | apply below_drew1) | exact HB.out)⟩
                · rw [if_neg c13] at H
                  have c13b0 : decide ((wrap64 ((wrap64 ((rst.size : Int) - 2)) - 4)) < (Go.bits .or .i64 (wrap64 (bt rst 0)) (wrap64 ((wrap64 (bt rst 1)) * 256)))) = false := decide_eq_false c13
                  clear c13
                  by_cases c14 : 2 ≤ (wrap64 (2 + (Go.bits .or .i64 (wrap64 (bt rst 0)) (wrap64 ((wrap64 (bt rst 1)) * 256)))))
                  · rw [if_pos c14] at H
                    have c14b0 := eq_true c14
                    have c14b1 : decide (2 ≤ (wrap64 (2 + (Go.bits .or .i64 (wrap64 (bt rst 0)) (wrap64 ((wrap64 (bt rst 1)) * 256)))))) = true := decide_eq_true c14
                    by_cases c15 : (wrap64 (2 + (Go.bits .or .i64 (wrap64 (bt rst 0)) (wrap64 ((wrap64 (bt rst 1)) * 256))))) ≤ (rst.size : Int)
                    · rw [if_pos c15] at H
                      have c15b0 := eq_true c15
                      have c15b1 : decide ((wrap64 (2 + (Go.bits .or .i64 (wrap64 (bt rst 0)) (wrap64 ((wrap64 (bt rst 1)) * 256))))) ≤ (rst.size : Int)) = true := decide_eq_true c15
                      replace H := Option.bind_eq_some_iff.mp H
                      obtain ⟨⟨t118, t119⟩, A160, H⟩ := H
                      replace H : (if t119 = 0 then (if 0 ≤ (t118.size : Int) then (if (t118.size : Int) ≤ (rst.size : Int) then (if t118.toList = (rst.extract 0 ((t118.size : Int) : Int).toNat).toList then (some (rst.extract 2 ((wrap64 (2 + (Go.bits .or .i64 (wrap64 (bt rst 0)) (wrap64 ((wrap64 (bt rst 1)) * 256))))) : Int).toNat, wrap64 ((wrap64 ((wrap64 (a1 + 2)) + (Go.bits .or .i64 (wrap64 (bt rst 0)) (wrap64 ((wrap64 (bt rst 1)) * 256))))) + 4), 0)) else (some ((⟨#[]⟩ : ByteArray), 0, 1600))) else (none)) else (none)) else (some ((⟨#[]⟩ : ByteArray), 0, 1600))) = some (r1, r2, r3) := H
                      have A16 := Aside0.mk A160
                      clear A160
                      by_cases c17 : t119 = 0
                      · rw [if_pos c17] at H
                        have c17b0 : (t119 == 0) = true := beq_iff_eq.mpr c17
                        have c17b1 : (t119 != 0) = false := bne_eq_false_iff_eq.mpr c17
                        clear c17
                        by_cases c18 : 0 ≤ (t118.size : Int)
                        · rw [if_pos c18] at H
                          have c18b0 := eq_true c18
                          have c18b1 : decide (0 ≤ (t118.size : Int)) = true := decide_eq_true c18
                          clear c18
                          by_cases c19 : (t118.size : Int) ≤ (rst.size : Int)
                          · rw [if_pos c19] at H
                            have c19b0 := eq_true c19
                            have c19b1 : decide ((t118.size : Int) ≤ (rst.size : Int)) = true := decide_eq_true c19
                            clear c19
                            by_cases c20 : t118.toList = (rst.extract 0 ((t118.size : Int) : Int).toNat).toList
                            · rw [if_pos c20] at H
                              have c20b0 : (t118.toList == (rst.extract 0 ((t118.size : Int) : Int).toNat).toList) = true := beq_iff_eq.mpr c20
                              (try simp only [Int.toNat_natCast] at c20b0)
                              have c20b1 : (t118.toList != (rst.extract 0 ((t118.size : Int) : Int).toNat).toList) = false := bne_eq_false_iff_eq.mpr c20
                              (try simp only [Int.toNat_natCast] at c20b1)
                              clear c20
                              simp only [Option.some.injEq, Prod.mk.injEq] at H
                              obtain ⟨rfl, rfl, rfl⟩ := H
                              have p10 : 0 ≤ (0 : Int) := (by omega)
                              have q10 : 0 < rst.size := (by have : (0 : Int) < (rst.size : Int) := of_decide_eq_true (by first | (with_reducible assumption) | assumption); omega)
                              have hx10 : ∀ h : 0 < rst.size, ((rst[0]'h).toNat : Int) = bt rst 0 := bt_at rst 0
                              clear p10
                              have qi10 : (0 < (rst.size : Int)) = True := eq_true (of_decide_eq_true (by first | (with_reducible assumption) | assumption))
                              replace q10 := eq_true q10
                              have p12 : 0 ≤ (1 : Int) := (by omega)
                              have q12 : 1 < rst.size := (by have : (1 : Int) < (rst.size : Int) := of_decide_eq_true (by first | (with_reducible assumption) | assumption); omega)
                              have hx12 : ∀ h : 1 < rst.size, ((rst[1]'h).toNat : Int) = bt rst 1 := bt_at rst 1
                              clear p12
                              have qi12 : (1 < (rst.size : Int)) = True := eq_true (of_decide_eq_true (by first | (with_reducible assumption) | assumption))
                              replace q12 := eq_true q12
                              go_wp2_with (first | (go_at_call 22; (with_reducible refine (frame_Put.calls kj2 (rst.extract 2 ((wrap64 (2 + (Go.bits .or .i64 (wrap64 (bt rst 0)) (wrap64 ((wrap64 (bt rst 1)) * 256))))) : Int).toNat) t118 t119 _ A16.out).mono ?_); rintro e w21 ⟨rfl, hb⟩; have n0_ := Aside0.mk (below_step (by repeat (first | (with_reducible first | exact HB.out | apply below_alloc | apply pw_below_drewN | apply below_drew1) | exact HB.out)) hb); clear HB; have HB := n0_; clear n0_; (try clear hb); (try clear hb2); (try clear hk); (try clear hi)))
                              repeat (go_quiet (first | (go_at_call 22; (with_reducible refine (frame_Put.calls kj2 (rst.extract 2 ((wrap64 (2 + (Go.bits .or .i64 (wrap64 (bt rst 0)) (wrap64 ((wrap64 (bt rst 1)) * 256))))) : Int).toNat) t118 t119 _ A16.out).mono ?_); rintro e w21 ⟨rfl, hb⟩; have n0_ := Aside0.mk (below_step (by repeat (first | (with_reducible first | exact HB.out | apply below_alloc | apply pw_below_drewN | apply below_drew1) | exact HB.out)) hb); clear HB; have HB := n0_; clear n0_; (try clear hb); (try clear hb2); (try clear hk); (try clear hi))); try go_wp2_with (first | (go_at_call 22; (with_reducible refine (frame_Put.calls kj2 (rst.extract 2 ((wrap64 (2 + (Go.bits .or .i64 (wrap64 (bt rst 0)) (wrap64 ((wrap64 (bt rst 1)) * 256))))) : Int).toNat) t118 t119 _ A16.out).mono ?_); rintro e w21 ⟨rfl, hb⟩; have n0_ := Aside0.mk (below_step (by repeat (first | (with_reducible first | exact HB.out | apply below_alloc | apply pw_below_drewN | apply below_drew1) | exact HB.out)) hb); clear HB; have HB := n0_; clear n0_; (try clear hb); (try clear hb2); (try clear hk); (try clear hi))))
                              go_ret3
                              exact ⟨by first | rfl | (simp [errW_none, errW_some] <;> rfl) | (simp [*, errW_none, errW_some] <;> rfl), by repeat (first | (with_reducible first | exact HB.out | apply below_alloc | apply pw_below_drewN | apply below_drew1) | exact HB.out)⟩
                            · rw [if_neg c20] at H
                              have c20b0 : (t118.toList == (rst.extract 0 ((t118.size : Int) : Int).toNat).toList) = false := beq_eq_false_iff_ne.mpr c20
                              (try simp only [Int.toNat_natCast] at c20b0)
                              have c20b1 : (t118.toList != (rst.extract 0 ((t118.size : Int) : Int).toNat).toList) = true := bne_iff_ne.mpr c20
                              (try simp only [Int.toNat_natCast] at c20b1)
                              simp only [Option.some.injEq, Prod.mk.injEq] at H
                              obtain ⟨rfl, rfl, rfl⟩ := H
                              have p10 : 0 ≤ (0 : Int) := (by omega)
                              have q10 : 0 < rst.size := (by have : (0 : Int) < (rst.size : Int) := of_decide_eq_true (by first | (with_reducible assumption) | assumption); omega)
                              have hx10 : ∀ h : 0 < rst.size, ((rst[0]'h).toNat : Int) = bt rst 0 := bt_at rst 0
                              clear p10
                              have qi10 : (0 < (rst.size : Int)) = True := eq_true (of_decide_eq_true (by first | (with_reducible assumption) | assumption))
                              replace q10 := eq_true q10
                              have p12 : 0 ≤ (1 : Int) := (by omega)
                              have q12 : 1 < rst.size := (by have : (1 : Int) < (rst.size : Int) := of_decide_eq_true (by first | (with_reducible assumption) | assumption); omega)
                              have hx12 : ∀ h : 1 < rst.size, ((rst[1]'h).toNat : Int) = bt rst 1 := bt_at rst 1
                              clear p12
                              have qi12 : (1 < (rst.size : Int)) = True := eq_true (of_decide_eq_true (by first | (with_reducible assumption) | assumption))
                              replace q12 := eq_true q12
                              go_wp2_with (first | (go_at_call 22; (with_reducible refine (frame_Put.calls kj2 (rst.extract 2 ((wrap64 (2 + (Go.bits .or .i64 (wrap64 (bt rst 0)) (wrap64 ((wrap64 (bt rst 1)) * 256))))) : Int).toNat) t118 t119 _ A16.out).mono ?_); rintro e w22 ⟨rfl, hb⟩; have n0_ := Aside0.mk (below_step (by repeat (first | (with_reducible first | exact HB.out | apply below_alloc | apply pw_below_drewN | apply below_drew1) | exact HB.out)) hb); clear HB; have HB := n0_; clear n0_; (try clear hb); (try clear hb2); (try clear hk); (try clear hi)))
                              repeat (go_quiet (first | (go_at_call 22; (with_reducible refine (frame_Put.calls kj2 (rst.extract 2 ((wrap64 (2 + (Go.bits .or .i64 (wrap64 (bt rst 0)) (wrap64 ((wrap64 (bt rst 1)) * 256))))) : Int).toNat) t118 t119 _ A16.out).mono ?_); rintro e w22 ⟨rfl, hb⟩; have n0_ := Aside0.mk (below_step (by repeat (first | (with_reducible first | exact HB.out | apply below_alloc | apply pw_below_drewN | apply below_drew1) | exact HB.out)) hb); clear HB; have HB := n0_; clear n0_; (try clear hb); (try clear hb2); (try clear hk); (try clear hi))); try go_wp2_with (first | (go_at_call 22; (with_reducible refine (frame_Put.calls kj2 (rst.extract 2 ((wrap64 (2 + (Go.bits .or .i64 (wrap64 (bt rst 0)) (wrap64 ((wrap64 (bt rst 1)) * 256))))) : Int).toNat) t118 t119 _ A16.out).mono ?_); rintro e w22 ⟨rfl, hb⟩; have n0_ := Aside0.mk (below_step (by repeat (first | (with_reducible first | exact HB.out | apply below_alloc | apply pw_below_drewN | apply below_drew1) | exact HB.out)) hb); clear HB; have HB := n0_; clear n0_; (try clear hb); (try clear hb2); (try clear hk); (try clear hi))))
                              go_ret3
                              exact ⟨by first | rfl | (simp [errW_none, errW_some] <;> rfl) | (simp [*, errW_none, errW_some] <;> rfl), by repeat (first | (with_reducible first | exact HB.out | apply below_alloc | apply pw_below_drewN | apply below_drew1) | exact HB.out)⟩
                          · rw [if_neg c19] at H
                            exact absurd H (by simp)
                        · rw [if_neg c18] at H
                          exact absurd H (by simp)
                      · rw [if_neg c17] at H
                        have c17b0 : (t119 == 0) = false := beq_eq_false_iff_ne.mpr c17
                        have c17b1 : (t119 != 0) = true := bne_iff_ne.mpr c17
                        simp only [Option.some.injEq, Prod.mk.injEq] at H
                        obtain ⟨rfl, rfl, rfl⟩ := H
                        have p10 : 0 ≤ (0 : Int) := (by omega)
                        have q10 : 0 < rst.size := (by have : (0 : Int) < (rst.size : Int) := of_decide_eq_true (by first | (with_reducible assumption) | assumption); omega)
                        have hx10 : ∀ h : 0 < rst.size, ((rst[0]'h).toNat : Int) = bt rst 0 := bt_at rst 0
                        clear p10
                        have qi10 : (0 < (rst.size : Int)) = True := eq_true (of_decide_eq_true (by first | (with_reducible assumption) | assumption))
                        replace q10 := eq_true q10
                        have p12 : 0 ≤ (1 : Int) := (by omega)
                        have q12 : 1 < rst.size := (by have : (1 : Int) < (rst.size : Int) := of_decide_eq_true (by first | (with_reducible assumption) | assumption); omega)
                        have hx12 : ∀ h : 1 < rst.size, ((rst[1]'h).toNat : Int) = bt rst 1 := bt_at rst 1
                        clear p12
                        have qi12 : (1 < (rst.size : Int)) = True := eq_true (of_decide_eq_true (by first | (with_reducible assumption) | assumption))
                        replace q12 := eq_true q12
                        go_wp2_with (first | (go_at_call 22; (with_reducible refine (frame_Put.calls kj2 (rst.extract 2 ((wrap64 (2 + (Go.bits .or .i64 (wrap64 (bt rst 0)) (wrap64 ((wrap64 (bt rst 1)) * 256))))) : Int).toNat) t118 t119 _ A16.out).mono ?_); rintro e w23 ⟨rfl, hb⟩; have n0_ := Aside0.mk (below_step (by repeat (first | (with_reducible first | exact HB.out | apply below_alloc | apply pw_below_drewN | apply below_drew1) | exact HB.out)) hb); clear HB; have HB := n0_; clear n0_; (try clear hb); (try clear hb2); (try clear hk); (try clear hi)))
                        repeat (go_quiet (first | (go_at_call 22; (with_reducible refine (frame_Put.calls kj2 (rst.extract 2 ((wrap64 (2 + (Go.bits .or .i64 (wrap64 (bt rst 0)) (wrap64 ((wrap64 (bt rst 1)) * 256))))) : Int).toNat) t118 t119 _ A16.out).mono ?_); rintro e w23 ⟨rfl, hb⟩; have n0_ := Aside0.mk (below_step (by repeat (first | (with_reducible first | exact HB.out | apply below_alloc | apply pw_below_drewN | apply below_drew1) | exact HB.out)) hb); clear HB; have HB := n0_; clear n0_; (try clear hb); (try clear hb2); (try clear hk); (try clear hi))); try go_wp2_with (first | (go_at_call 22; (with_reducible refine (frame_Put.calls kj2 (rst.extract 2 ((wrap64 (2 + (Go.bits .or .i64 (wrap64 (bt rst 0)) (wrap64 ((wrap64 (bt rst 1)) * 256))))) : Int).toNat) t118 t119 _ A16.out).mono ?_); rintro e w23 ⟨rfl, hb⟩; have n0_ := Aside0.mk (below_step (by repeat (first | (with_reducible first | exact HB.out | apply below_alloc | apply pw_below_drewN | apply below_drew1) | exact HB.out)) hb); clear HB; have HB := n0_; clear n0_; (try clear hb); (try clear hb2); (try clear hk); (try clear hi))))
                        go_ret3
                        exact ⟨by first | rfl | (simp [errW_none, errW_some] <;> rfl) | (simp [*, errW_none, errW_some] <;> rfl), by repeat (first | (with_reducible first | exact HB.out | apply below_alloc | apply pw_below_drewN | apply below_drew1) | exact HB.out)⟩
                    · rw [if_neg c15] at H
                      exact absurd H (by simp)
                  · rw [if_neg c14] at H
                    exact absurd H (by simp)
              · rw [if_neg c11] at H
                exact absurd H (by simp)
            · rw [if_neg c9] at H
              exact absurd H (by simp)
          · rw [if_neg c8] at H
            exact absurd H (by simp)
        · rw [if_neg c7] at H
          exact absurd H (by simp)

/-! ### grafterlaw16_awake: function 27 -/
def grafterlaw16_awake.f (k : Nat)  : Option (Bool) := (frame_Put.f k (⟨#[49]⟩ : ByteArray)).bind fun bt120 => (if 1 + bt120.1.size ≤ 9223372036854775807 then (if ((⟨#[63]⟩ : ByteArray) ++ bt120.1).size + 1 ≤ 9223372036854775807 then ((frame_Get.f k (((⟨#[63]⟩ : ByteArray) ++ bt120.1) ++ (⟨#[63]⟩ : ByteArray)) 1).bind fun bt122 => ((frame_Get.f k bt120.1 1).bind fun bt125 => ((frame_Get.f k bt120.1 (-1)).bind fun bt128 => (if (bt120.1.size : Int) = 7 then ((grafterlaw0_Num.f bt120.2).bind fun t131 => (if t131 = 0 then (if bt122.1.toList = ([49] : List UInt8) then (if bt122.2.1 = 8 then ((grafterlaw0_Num.f bt122.2.2).bind fun t132 => (if t132 = 0 then ((grafterlaw0_Num.f bt125.2.2).bind fun t133 => (if t133 = 1600 then ((grafterlaw0_Num.f bt128.2.2).bind fun t134 => (some (t134 == 1600))) else (some false))) else (some false))) else (some false)) else (some false)) else (some false))) else (some false))))) else (none)) else (none))
theorem grafterlaw16_awake.mono : ∀ k, LeO (grafterlaw16_awake.f k ) (grafterlaw16_awake.f (k + 1) ) := by
  intro  k
  unfold grafterlaw16_awake.f
  repeat' first
      | (with_reducible exact frame_Get.mono _ _ _)
      | (with_reducible exact frame_Put.mono _ _)
      | (with_reducible exact LeO.refl _)
      | (with_reducible exact LeO.none _)
      | (with_reducible refine LeO.ite ?_ ?_)
      | (with_reducible refine LeO.bind ?_ (fun _ => ?_))
      | exact frame_Get.mono _ _ _
      | exact frame_Put.mono _ _
      | exact LeO.none _
      | refine LeO.ite ?_ ?_
      | refine LeO.bind ?_ (fun _ => ?_)
set_option maxHeartbeats 8000000 in
set_option maxRecDepth 100000 in
theorem grafterlaw16_awake.calls (k : Nat)  (r : Bool) (w : World) (hrt : r = true) (h : grafterlaw16_awake.f k  = some r) :
    Calls Try.prog 27 #[] w fun e w' => e = .returned (.bool r) ∧ Below w.heap.size w w' := by
  have HRT := Aside0.mk hrt
  clear hrt
  have HB := Aside0.mk (Below.refl w.heap.size w)
  have H : ((frame_Put.f k (⟨#[49]⟩ : ByteArray)).bind fun bt120 => (if 1 + bt120.1.size ≤ 9223372036854775807 then (if ((⟨#[63]⟩ : ByteArray) ++ bt120.1).size + 1 ≤ 9223372036854775807 then ((frame_Get.f k (((⟨#[63]⟩ : ByteArray) ++ bt120.1) ++ (⟨#[63]⟩ : ByteArray)) 1).bind fun bt122 => ((frame_Get.f k bt120.1 1).bind fun bt125 => ((frame_Get.f k bt120.1 (-1)).bind fun bt128 => (if (bt120.1.size : Int) = 7 then ((grafterlaw0_Num.f bt120.2).bind fun t131 => (if t131 = 0 then (if bt122.1.toList = ([49] : List UInt8) then (if bt122.2.1 = 8 then ((grafterlaw0_Num.f bt122.2.2).bind fun t132 => (if t132 = 0 then ((grafterlaw0_Num.f bt125.2.2).bind fun t133 => (if t133 = 1600 then ((grafterlaw0_Num.f bt128.2.2).bind fun t134 => (some (t134 == 1600))) else (some false))) else (some false))) else (some false)) else (some false)) else (some false))) else (some false))))) else (none)) else (none))) = some r := h
  clear h
  replace H := Option.bind_eq_some_iff.mp H
  obtain ⟨⟨t120, t121⟩, A10, H⟩ := H
  replace H : (if 1 + t120.size ≤ 9223372036854775807 then (if ((⟨#[63]⟩ : ByteArray) ++ t120).size + 1 ≤ 9223372036854775807 then ((frame_Get.f k (((⟨#[63]⟩ : ByteArray) ++ t120) ++ (⟨#[63]⟩ : ByteArray)) 1).bind fun bt122 => ((frame_Get.f k t120 1).bind fun bt125 => ((frame_Get.f k t120 (-1)).bind fun bt128 => (if (t120.size : Int) = 7 then ((grafterlaw0_Num.f t121).bind fun t131 => (if t131 = 0 then (if bt122.1.toList = ([49] : List UInt8) then (if bt122.2.1 = 8 then ((grafterlaw0_Num.f bt122.2.2).bind fun t132 => (if t132 = 0 then ((grafterlaw0_Num.f bt125.2.2).bind fun t133 => (if t133 = 1600 then ((grafterlaw0_Num.f bt128.2.2).bind fun t134 => (some (t134 == 1600))) else (some false))) else (some false))) else (some false)) else (some false)) else (some false))) else (some false))))) else (none)) else (none)) = some r := H
  have A1 := Aside0.mk A10
  clear A10
  by_cases c2 : 1 + t120.size ≤ 9223372036854775807
  · rw [if_pos c2] at H
    have c2b0 := eq_true c2
    have c2b1 : decide (1 + t120.size ≤ 9223372036854775807) = true := decide_eq_true c2
    try have c2b2 : (9223372036854775807 < 1 + t120.size) = False := eq_false (Nat.not_lt.2 c2)
    try simp only [ByteArray.size_append] at c2b2
    by_cases c3 : ((⟨#[63]⟩ : ByteArray) ++ t120).size + 1 ≤ 9223372036854775807
    · rw [if_pos c3] at H
      have c3b0 := eq_true c3
      have c3b1 : decide (((⟨#[63]⟩ : ByteArray) ++ t120).size + 1 ≤ 9223372036854775807) = true := decide_eq_true c3
      try have c3b2 : (9223372036854775807 < ((⟨#[63]⟩ : ByteArray) ++ t120).size + 1) = False := eq_false (Nat.not_lt.2 c3)
      try simp only [ByteArray.size_append] at c3b2
      try have c3b3 : (9223372036854775807 < 1 + t120.size + 1) = False := c3b2
      replace H := Option.bind_eq_some_iff.mp H
      obtain ⟨⟨t122, t123, t124⟩, A40, H⟩ := H
      replace H : ((frame_Get.f k t120 1).bind fun bt125 => ((frame_Get.f k t120 (-1)).bind fun bt128 => (if (t120.size : Int) = 7 then ((grafterlaw0_Num.f t121).bind fun t131 => (if t131 = 0 then (if t122.toList = ([49] : List UInt8) then (if t123 = 8 then ((grafterlaw0_Num.f t124).bind fun t132 => (if t132 = 0 then ((grafterlaw0_Num.f bt125.2.2).bind fun t133 => (if t133 = 1600 then ((grafterlaw0_Num.f bt128.2.2).bind fun t134 => (some (t134 == 1600))) else (some false))) else (some false))) else (some false)) else (some false)) else (some false))) else (some false)))) = some r := H
      have A4 := Aside0.mk A40
      clear A40
      replace H := Option.bind_eq_some_iff.mp H
      obtain ⟨⟨t125, t126, t127⟩, A50, H⟩ := H
      replace H : ((frame_Get.f k t120 (-1)).bind fun bt128 => (if (t120.size : Int) = 7 then ((grafterlaw0_Num.f t121).bind fun t131 => (if t131 = 0 then (if t122.toList = ([49] : List UInt8) then (if t123 = 8 then ((grafterlaw0_Num.f t124).bind fun t132 => (if t132 = 0 then ((grafterlaw0_Num.f t127).bind fun t133 => (if t133 = 1600 then ((grafterlaw0_Num.f bt128.2.2).bind fun t134 => (some (t134 == 1600))) else (some false))) else (some false))) else (some false)) else (some false)) else (some false))) else (some false))) = some r := H
      have A5 := Aside0.mk A50
      clear A50
      replace H := Option.bind_eq_some_iff.mp H
      obtain ⟨⟨t128, t129, t130⟩, A60, H⟩ := H
      replace H : (if (t120.size : Int) = 7 then ((grafterlaw0_Num.f t121).bind fun t131 => (if t131 = 0 then (if t122.toList = ([49] : List UInt8) then (if t123 = 8 then ((grafterlaw0_Num.f t124).bind fun t132 => (if t132 = 0 then ((grafterlaw0_Num.f t127).bind fun t133 => (if t133 = 1600 then ((grafterlaw0_Num.f t130).bind fun t134 => (some (t134 == 1600))) else (some false))) else (some false))) else (some false)) else (some false)) else (some false))) else (some false)) = some r := H
      have A6 := Aside0.mk A60
      clear A60
      by_cases c7 : (t120.size : Int) = 7
      · rw [if_pos c7] at H
        have c7b0 : ((t120.size : Int) == 7) = true := beq_iff_eq.mpr c7
        have c7b1 : ((t120.size : Int) != 7) = false := bne_eq_false_iff_eq.mpr c7
        clear c7
        replace H := Option.bind_eq_some_iff.mp H
        obtain ⟨t131, A80, H⟩ := H
        replace H : (if t131 = 0 then (if t122.toList = ([49] : List UInt8) then (if t123 = 8 then ((grafterlaw0_Num.f t124).bind fun t132 => (if t132 = 0 then ((grafterlaw0_Num.f t127).bind fun t133 => (if t133 = 1600 then ((grafterlaw0_Num.f t130).bind fun t134 => (some (t134 == 1600))) else (some false))) else (some false))) else (some false)) else (some false)) else (some false)) = some r := H
        have A8 := Aside0.mk A80
        clear A80
        by_cases c9 : t131 = 0
        · rw [if_pos c9] at H
          have c9b0 : (t131 == 0) = true := beq_iff_eq.mpr c9
          have c9b1 : (t131 != 0) = false := bne_eq_false_iff_eq.mpr c9
          clear c9
          by_cases c10 : t122.toList = ([49] : List UInt8)
          · rw [if_pos c10] at H
            have c10b0 : (t122.toList == ([49] : List UInt8)) = true := beq_iff_eq.mpr c10
            have c10b1 : (t122.toList != ([49] : List UInt8)) = false := bne_eq_false_iff_eq.mpr c10
            clear c10
            by_cases c11 : t123 = 8
            · rw [if_pos c11] at H
              have c11b0 : (t123 == 8) = true := beq_iff_eq.mpr c11
              have c11b1 : (t123 != 8) = false := bne_eq_false_iff_eq.mpr c11
              clear c11
              replace H := Option.bind_eq_some_iff.mp H
              obtain ⟨t132, A120, H⟩ := H
              replace H : (if t132 = 0 then ((grafterlaw0_Num.f t127).bind fun t133 => (if t133 = 1600 then ((grafterlaw0_Num.f t130).bind fun t134 => (some (t134 == 1600))) else (some false))) else (some false)) = some r := H
              have A12 := Aside0.mk A120
              clear A120
              by_cases c13 : t132 = 0
              · rw [if_pos c13] at H
                have c13b0 : (t132 == 0) = true := beq_iff_eq.mpr c13
                have c13b1 : (t132 != 0) = false := bne_eq_false_iff_eq.mpr c13
                clear c13
                replace H := Option.bind_eq_some_iff.mp H
                obtain ⟨t133, A140, H⟩ := H
                replace H : (if t133 = 1600 then ((grafterlaw0_Num.f t130).bind fun t134 => (some (t134 == 1600))) else (some false)) = some r := H
                have A14 := Aside0.mk A140
                clear A140
                by_cases c15 : t133 = 1600
                · rw [if_pos c15] at H
                  have c15b0 : (t133 == 1600) = true := beq_iff_eq.mpr c15
                  have c15b1 : (t133 != 1600) = false := bne_eq_false_iff_eq.mpr c15
                  clear c15
                  replace H := Option.bind_eq_some_iff.mp H
                  obtain ⟨t134, A160, H⟩ := H
                  replace H : (some (t134 == 1600)) = some r := H
                  have A16 := Aside0.mk A160
                  clear A160
                  obtain rfl := Option.some.inj H
                  go_enter Try.func27, Try.ntmps27
                  go_wp2_with (first | ((with_reducible refine gate_callee (f := 22) rfl ?_); refine goesL_ (some 13) rfl rfl Try.func22 (by kernel_rfl) rfl #[.string (⟨#[49]⟩ : ByteArray)] rfl (by (try simp only [List.map_toArray, List.map_cons, List.map_nil]); first | done | rfl | (simp only [List.length_drop, List.length_take]; rfl)) ?_; (with_reducible refine (frame_Put.calls k (⟨#[49]⟩ : ByteArray) t120 t121 _ A1.out).mono ?_); rintro e w17 ⟨rfl, hb⟩; refine ⟨_, rfl, ?_⟩; have n0_ := Aside0.mk (below_step (by repeat (first | (with_reducible first | exact HB.out | apply below_alloc | apply pw_below_drewN | apply below_drew1) | exact HB.out)) hb); clear HB; have HB := n0_; clear n0_; (try clear hb); (try clear hb2); (try clear hk); (try clear hi)) | ((with_reducible refine gate_callee (f := 24) rfl ?_); refine goesL_ (some 20) rfl rfl Try.func24 (by kernel_rfl) rfl #[.string (((⟨#[63]⟩ : ByteArray) ++ t120) ++ (⟨#[63]⟩ : ByteArray)), .int .i64 1] rfl (by (try simp only [List.map_toArray, List.map_cons, List.map_nil]); first | done | rfl | (simp only [List.length_drop, List.length_take]; rfl)) ?_; (with_reducible refine (frame_Get.calls k (((⟨#[63]⟩ : ByteArray) ++ t120) ++ (⟨#[63]⟩ : ByteArray)) 1 t122 t123 t124 _ A4.out).mono ?_); rintro e w18 ⟨rfl, hb⟩; refine ⟨_, rfl, ?_⟩; have n0_ := Aside0.mk (below_step (by repeat (first | (with_reducible first | exact HB.out | apply below_alloc | apply pw_below_drewN | apply below_drew1) | exact HB.out)) hb); clear HB; have HB := n0_; clear n0_; (try clear hb); (try clear hb2); (try clear hk); (try clear hi); (try clear A4)) | ((with_reducible refine gate_callee (f := 24) rfl ?_); refine goesL_ (some 26) rfl rfl Try.func24 (by kernel_rfl) rfl #[.string t120, .int .i64 1] rfl (by (try simp only [List.map_toArray, List.map_cons, List.map_nil]); first | done | rfl | (simp only [List.length_drop, List.length_take]; rfl)) ?_; (with_reducible refine (frame_Get.calls k t120 1 t125 t126 t127 _ A5.out).mono ?_); rintro e w19 ⟨rfl, hb⟩; refine ⟨_, rfl, ?_⟩; have n0_ := Aside0.mk (below_step (by repeat (first | (with_reducible first | exact HB.out | apply below_alloc | apply pw_below_drewN | apply below_drew1) | exact HB.out)) hb); clear HB; have HB := n0_; clear n0_; (try clear hb); (try clear hb2); (try clear hk); (try clear hi); (try clear A5)) | ((with_reducible refine gate_callee (f := 24) rfl ?_); refine goesL_ (some 32) rfl rfl Try.func24 (by kernel_rfl) rfl #[.string t120, .int .i64 (-1)] rfl (by (try simp only [List.map_toArray, List.map_cons, List.map_nil]); first | done | rfl | (simp only [List.length_drop, List.length_take]; rfl)) ?_; (with_reducible refine (frame_Get.calls k t120 (-1) t128 t129 t130 _ A6.out).mono ?_); rintro e w20 ⟨rfl, hb⟩; refine ⟨_, rfl, ?_⟩; have n0_ := Aside0.mk (below_step (by repeat (first | (with_reducible first | exact HB.out | apply below_alloc | apply pw_below_drewN | apply below_drew1) | exact HB.out)) hb); clear HB; have HB := n0_; clear n0_; (try clear hb); (try clear hb2); (try clear hk); (try clear hi); (try clear A6)) | (go_at_call 26; (with_reducible refine (grafterlaw0_Num.calls t121 t131 _ A8.out).mono ?_); rintro e w' ⟨rfl, ⟨nd, rfl⟩⟩; (try clear A8)) | (go_at_call 26; (with_reducible refine (grafterlaw0_Num.calls t124 t132 _ A12.out).mono ?_); rintro e w' ⟨rfl, ⟨nd, rfl⟩⟩; (try clear A12)) | (go_at_call 26; (with_reducible refine (grafterlaw0_Num.calls t127 t133 _ A14.out).mono ?_); rintro e w' ⟨rfl, ⟨nd, rfl⟩⟩; (try clear A14)) | (go_at_call 26; (with_reducible refine (grafterlaw0_Num.calls t130 t134 _ A16.out).mono ?_); rintro e w' ⟨rfl, ⟨nd, rfl⟩⟩; (try clear A16)))
                  go_ret
                  exact ⟨by first | rfl | (simp [errW_none, errW_some] <;> rfl) | (simp [*, errW_none, errW_some] <;> rfl), by repeat (first | (with_reducible first | exact HB.out | apply below_alloc | apply pw_below_drewN | apply below_drew1) | exact HB.out)⟩
                · rw [if_neg c15] at H
                  have c15b0 : (t133 == 1600) = false := beq_eq_false_iff_ne.mpr c15
                  have c15b1 : (t133 != 1600) = true := bne_iff_ne.mpr c15
                  exact absurd ((Option.some.inj H).trans HRT.out) Bool.false_ne_true
              · rw [if_neg c13] at H
                have c13b0 : (t132 == 0) = false := beq_eq_false_iff_ne.mpr c13
                have c13b1 : (t132 != 0) = true := bne_iff_ne.mpr c13
                exact absurd ((Option.some.inj H).trans HRT.out) Bool.false_ne_true
            · rw [if_neg c11] at H
              have c11b0 : (t123 == 8) = false := beq_eq_false_iff_ne.mpr c11
              have c11b1 : (t123 != 8) = true := bne_iff_ne.mpr c11
              exact absurd ((Option.some.inj H).trans HRT.out) Bool.false_ne_true
          · rw [if_neg c10] at H
            have c10b0 : (t122.toList == ([49] : List UInt8)) = false := beq_eq_false_iff_ne.mpr c10
            have c10b1 : (t122.toList != ([49] : List UInt8)) = true := bne_iff_ne.mpr c10
            exact absurd ((Option.some.inj H).trans HRT.out) Bool.false_ne_true
        · rw [if_neg c9] at H
          have c9b0 : (t131 == 0) = false := beq_eq_false_iff_ne.mpr c9
          have c9b1 : (t131 != 0) = true := bne_iff_ne.mpr c9
          exact absurd ((Option.some.inj H).trans HRT.out) Bool.false_ne_true
      · rw [if_neg c7] at H
        have c7b0 : ((t120.size : Int) == 7) = false := beq_eq_false_iff_ne.mpr c7
        have c7b1 : ((t120.size : Int) != 7) = true := bne_iff_ne.mpr c7
        exact absurd ((Option.some.inj H).trans HRT.out) Bool.false_ne_true
    · rw [if_neg c3] at H
      exact absurd H (by simp)
  · rw [if_neg c2] at H
    exact absurd H (by simp)

/-! ### grafterlaw16_FrameUnlike: function 7 -/
def grafterlaw16_FrameUnlike.j0 : Nat → ByteArray → ByteArray → ByteArray → Int → ByteArray → Int → Bool → Option (Bool)
  | 0, _, _, _, _, _, _, _ => none
  | k + 1, x0, x1, x5, x6, x7, x8, x31 => if x31 = true then ((grafterlaw0_Num.f x6).bind fun t142 => (if t142 = 0 then ((grafterlaw0_Num.f x8).bind fun t143 => (if t143 = 0 then (some true) else (some (x7.toList == ([] : List UInt8))))) else (if x5.toList = ([] : List UInt8) then ((grafterlaw0_Num.f x8).bind fun t144 => (if t144 = 0 then (some true) else (some (x7.toList == ([] : List UInt8))))) else (some false)))) else ((grafterref12_PutFrame.f k x0).bind fun bt145 => (if bt145.2 = 0 then (if 0 ≤ (mn (x5.size : Int) (x7.size : Int)) then (if (mn (x5.size : Int) (x7.size : Int)) ≤ (x5.size : Int) then (if (mn (x5.size : Int) (x7.size : Int)) ≤ (x7.size : Int) then (some (((x5.extract 0 ((mn (x5.size : Int) (x7.size : Int)) : Int).toNat).toList == (x7.extract 0 ((mn (x5.size : Int) (x7.size : Int)) : Int).toNat).toList) == (x0.toList == x1.toList))) else (none)) else (none)) else (none)) else (some false)))
def grafterlaw16_FrameUnlike.f (k : Nat) (a0 : ByteArray) (a1 : ByteArray) : Option (Bool) := (grafterlaw16_awake.f k).bind fun t135 => (if t135 = true then ((frame_Put.f k a0).bind fun bt136 => ((frame_Put.f k a1).bind fun bt138 => ((grafterlaw0_Num.f bt136.2).bind fun t140 => (if t140 = 0 then ((grafterlaw0_Num.f bt138.2).bind fun t141 => (grafterlaw16_FrameUnlike.j0 k a0 a1 bt136.1 bt136.2 bt138.1 bt138.2 (t141 != 0))) else (grafterlaw16_FrameUnlike.j0 k a0 a1 bt136.1 bt136.2 bt138.1 bt138.2 true))))) else (some false))
theorem grafterlaw16_FrameUnlike.mono_l : ∀ k, (∀ y0 y1 y2 y3 y4 y5 y6, LeO (grafterlaw16_FrameUnlike.j0 k y0 y1 y2 y3 y4 y5 y6) (grafterlaw16_FrameUnlike.j0 (k + 1) y0 y1 y2 y3 y4 y5 y6))
  | 0 => fun _ _ _ _ _ _ _ r h => by simp [grafterlaw16_FrameUnlike.j0] at h
  | k + 1 => by
    have ih0 := grafterlaw16_FrameUnlike.mono_l k
    · intro y0 y1 y2 y3 y4 y5 y6
      unfold grafterlaw16_FrameUnlike.j0
      repeat' first
      | (with_reducible exact ih0 _ _ _ _ _ _ _)
      | (with_reducible exact frame_Put.mono _ _)
      | (with_reducible exact grafterlaw16_awake.mono _)
      | (with_reducible exact grafterref12_PutFrame.mono _ _)
      | (with_reducible exact LeO.refl _)
      | (with_reducible exact LeO.none _)
      | (with_reducible refine LeO.ite ?_ ?_)
      | (with_reducible refine LeO.bind ?_ (fun _ => ?_))
      | exact ih0 _ _ _ _ _ _ _
      | exact frame_Put.mono _ _
      | exact grafterlaw16_awake.mono _
      | exact grafterref12_PutFrame.mono _ _
      | exact LeO.none _
      | refine LeO.ite ?_ ?_
      | refine LeO.bind ?_ (fun _ => ?_)
theorem grafterlaw16_FrameUnlike.mono : ∀ a0 a1 k, LeO (grafterlaw16_FrameUnlike.f k a0 a1) (grafterlaw16_FrameUnlike.f (k + 1) a0 a1) := by
  intro a0 a1 k
  have ih0 := grafterlaw16_FrameUnlike.mono_l k
  unfold grafterlaw16_FrameUnlike.f
  repeat' first
      | (with_reducible exact ih0 _ _ _ _ _ _ _)
      | (with_reducible exact frame_Put.mono _ _)
      | (with_reducible exact grafterlaw16_awake.mono _)
      | (with_reducible exact grafterref12_PutFrame.mono _ _)
      | (with_reducible exact LeO.refl _)
      | (with_reducible exact LeO.none _)
      | (with_reducible refine LeO.ite ?_ ?_)
      | (with_reducible refine LeO.bind ?_ (fun _ => ?_))
      | exact ih0 _ _ _ _ _ _ _
      | exact frame_Put.mono _ _
      | exact grafterlaw16_awake.mono _
      | exact grafterref12_PutFrame.mono _ _
      | exact LeO.none _
      | refine LeO.ite ?_ ?_
      | refine LeO.bind ?_ (fun _ => ?_)
set_option maxHeartbeats 8000000 in
set_option maxRecDepth 100000 in
theorem grafterlaw16_FrameUnlike.calls (k : Nat) (a0 : ByteArray) (a1 : ByteArray) (r : Bool) (w : World) (hrt : r = true) (h : grafterlaw16_FrameUnlike.f k a0 a1 = some r) :
    Calls Try.prog 7 #[.string a0, .string a1] w fun e w' => e = .returned (.bool r) ∧ Below w.heap.size w w' := by
  have HRT := Aside0.mk hrt
  clear hrt
  have HB := Aside0.mk (Below.refl w.heap.size w)
  have H : ((grafterlaw16_awake.f k).bind fun t135 => (if t135 = true then ((frame_Put.f k a0).bind fun bt136 => ((frame_Put.f k a1).bind fun bt138 => ((grafterlaw0_Num.f bt136.2).bind fun t140 => (if t140 = 0 then ((grafterlaw0_Num.f bt138.2).bind fun t141 => (grafterlaw16_FrameUnlike.j0 k a0 a1 bt136.1 bt136.2 bt138.1 bt138.2 (t141 != 0))) else (grafterlaw16_FrameUnlike.j0 k a0 a1 bt136.1 bt136.2 bt138.1 bt138.2 true))))) else (some false))) = some r := h
  clear h
  replace H := Option.bind_eq_some_iff.mp H
  obtain ⟨t135, A30, H⟩ := H
  replace H : (if t135 = true then ((frame_Put.f k a0).bind fun bt136 => ((frame_Put.f k a1).bind fun bt138 => ((grafterlaw0_Num.f bt136.2).bind fun t140 => (if t140 = 0 then ((grafterlaw0_Num.f bt138.2).bind fun t141 => (grafterlaw16_FrameUnlike.j0 k a0 a1 bt136.1 bt136.2 bt138.1 bt138.2 (t141 != 0))) else (grafterlaw16_FrameUnlike.j0 k a0 a1 bt136.1 bt136.2 bt138.1 bt138.2 true))))) else (some false)) = some r := H
  have A3 := Aside0.mk A30
  clear A30
  by_cases c4 : t135 = true
  · subst c4
    have H1 : ((frame_Put.f k a0).bind fun bt136 => ((frame_Put.f k a1).bind fun bt138 => ((grafterlaw0_Num.f bt136.2).bind fun t140 => (if t140 = 0 then ((grafterlaw0_Num.f bt138.2).bind fun t141 => (grafterlaw16_FrameUnlike.j0 k a0 a1 bt136.1 bt136.2 bt138.1 bt138.2 (t141 != 0))) else (grafterlaw16_FrameUnlike.j0 k a0 a1 bt136.1 bt136.2 bt138.1 bt138.2 true))))) = some r := by rw [if_pos rfl] at H; exact H
    clear H
    have H := H1
    clear H1
    replace H := Option.bind_eq_some_iff.mp H
    obtain ⟨⟨t136, t137⟩, A50, H⟩ := H
    replace H : ((frame_Put.f k a1).bind fun bt138 => ((grafterlaw0_Num.f t137).bind fun t140 => (if t140 = 0 then ((grafterlaw0_Num.f bt138.2).bind fun t141 => (grafterlaw16_FrameUnlike.j0 k a0 a1 t136 t137 bt138.1 bt138.2 (t141 != 0))) else (grafterlaw16_FrameUnlike.j0 k a0 a1 t136 t137 bt138.1 bt138.2 true)))) = some r := H
    have A5 := Aside0.mk A50
    clear A50
    replace H := Option.bind_eq_some_iff.mp H
    obtain ⟨⟨t138, t139⟩, A60, H⟩ := H
    replace H : ((grafterlaw0_Num.f t137).bind fun t140 => (if t140 = 0 then ((grafterlaw0_Num.f t139).bind fun t141 => (grafterlaw16_FrameUnlike.j0 k a0 a1 t136 t137 t138 t139 (t141 != 0))) else (grafterlaw16_FrameUnlike.j0 k a0 a1 t136 t137 t138 t139 true))) = some r := H
    have A6 := Aside0.mk A60
    clear A60
    have HC7 := Aside0.mk H
    clear H
    go_enter Try.func7, Try.ntmps7
    go_upto_region 5 with (first | (go_at_call 27; (with_reducible refine (grafterlaw16_awake.calls k  true _ rfl A3.out).mono ?_); rintro e w8 ⟨rfl, hb⟩; have n0_ := Aside0.mk (below_step (by repeat (first | (with_reducible first | exact HB.out | apply below_alloc | apply pw_below_drewN | apply below_drew1) | exact HB.out)) hb); clear HB; have HB := n0_; clear n0_; (try clear hb); (try clear hb2); (try clear hk); (try clear hi)) | (go_at_call 22; (with_reducible refine (frame_Put.calls k a0 t136 t137 _ A5.out).mono ?_); rintro e w9 ⟨rfl, hb⟩; have n0_ := Aside0.mk (below_step (by repeat (first | (with_reducible first | exact HB.out | apply below_alloc | apply pw_below_drewN | apply below_drew1) | exact HB.out)) hb); clear HB; have HB := n0_; clear n0_; (try clear hb); (try clear hb2); (try clear hk); (try clear hi)) | (go_at_call 22; (with_reducible refine (frame_Put.calls k a1 t138 t139 _ A6.out).mono ?_); rintro e w10 ⟨rfl, hb⟩; have n0_ := Aside0.mk (below_step (by repeat (first | (with_reducible first | exact HB.out | apply below_alloc | apply pw_below_drewN | apply below_drew1) | exact HB.out)) hb); clear HB; have HB := n0_; clear n0_; (try clear hb); (try clear hb2); (try clear hk); (try clear hi)))
    repeat (go_quiet (first | (go_at_call 27; (with_reducible refine (grafterlaw16_awake.calls k  true _ rfl A3.out).mono ?_); rintro e w8 ⟨rfl, hb⟩; have n0_ := Aside0.mk (below_step (by repeat (first | (with_reducible first | exact HB.out | apply below_alloc | apply pw_below_drewN | apply below_drew1) | exact HB.out)) hb); clear HB; have HB := n0_; clear n0_; (try clear hb); (try clear hb2); (try clear hk); (try clear hi)) | (go_at_call 22; (with_reducible refine (frame_Put.calls k a0 t136 t137 _ A5.out).mono ?_); rintro e w9 ⟨rfl, hb⟩; have n0_ := Aside0.mk (below_step (by repeat (first | (with_reducible first | exact HB.out | apply below_alloc | apply pw_below_drewN | apply below_drew1) | exact HB.out)) hb); clear HB; have HB := n0_; clear n0_; (try clear hb); (try clear hb2); (try clear hk); (try clear hi)) | (go_at_call 22; (with_reducible refine (frame_Put.calls k a1 t138 t139 _ A6.out).mono ?_); rintro e w10 ⟨rfl, hb⟩; have n0_ := Aside0.mk (below_step (by repeat (first | (with_reducible first | exact HB.out | apply below_alloc | apply pw_below_drewN | apply below_drew1) | exact HB.out)) hb); clear HB; have HB := n0_; clear n0_; (try clear hb); (try clear hb2); (try clear hk); (try clear hi))); go_upto_region 5 with (first | (go_at_call 27; (with_reducible refine (grafterlaw16_awake.calls k  true _ rfl A3.out).mono ?_); rintro e w8 ⟨rfl, hb⟩; have n0_ := Aside0.mk (below_step (by repeat (first | (with_reducible first | exact HB.out | apply below_alloc | apply pw_below_drewN | apply below_drew1) | exact HB.out)) hb); clear HB; have HB := n0_; clear n0_; (try clear hb); (try clear hb2); (try clear hk); (try clear hi)) | (go_at_call 22; (with_reducible refine (frame_Put.calls k a0 t136 t137 _ A5.out).mono ?_); rintro e w9 ⟨rfl, hb⟩; have n0_ := Aside0.mk (below_step (by repeat (first | (with_reducible first | exact HB.out | apply below_alloc | apply pw_below_drewN | apply below_drew1) | exact HB.out)) hb); clear HB; have HB := n0_; clear n0_; (try clear hb); (try clear hb2); (try clear hk); (try clear hi)) | (go_at_call 22; (with_reducible refine (frame_Put.calls k a1 t138 t139 _ A6.out).mono ?_); rintro e w10 ⟨rfl, hb⟩; have n0_ := Aside0.mk (below_step (by repeat (first | (with_reducible first | exact HB.out | apply below_alloc | apply pw_below_drewN | apply below_drew1) | exact HB.out)) hb); clear HB; have HB := n0_; clear n0_; (try clear hb); (try clear hb2); (try clear hk); (try clear hi))))
    (try simp only [Act.put, List.setIfInBounds_toArray, List.set_cons_zero, List.set_cons_succ])
    go_cut [31] (fun v31 wc => ∃ (kq : Nat) (x31_6 : Bool), v31 = .bool x31_6 ∧ Aside0 (grafterlaw16_FrameUnlike.j0 kq a0 a1 t136 t137 t138 t139 x31_6 = some r) ∧ Aside0 (kq ≤ k) ∧ Aside0 (Below w.heap.size w wc))
    case first =>
      have H := HC7.out
      clear HC7
      replace H := Option.bind_eq_some_iff.mp H
      obtain ⟨t140, A110, H⟩ := H
      replace H : (if t140 = 0 then ((grafterlaw0_Num.f t139).bind fun t141 => (grafterlaw16_FrameUnlike.j0 k a0 a1 t136 t137 t138 t139 (t141 != 0))) else (grafterlaw16_FrameUnlike.j0 k a0 a1 t136 t137 t138 t139 true)) = some r := H
      have A11 := Aside0.mk A110
      clear A110
      by_cases c12 : t140 = 0
      · rw [if_pos c12] at H
        have c12b0 : (t140 == 0) = true := beq_iff_eq.mpr c12
        have c12b1 : (t140 != 0) = false := bne_eq_false_iff_eq.mpr c12
        clear c12
        (first | rw [c12b0] | (simp only [i64_w, i32_w]; rw [c12b0]) | skip)
        replace H := Option.bind_eq_some_iff.mp H
        obtain ⟨t141, A130, H⟩ := H
        replace H : (grafterlaw16_FrameUnlike.j0 k a0 a1 t136 t137 t138 t139 (t141 != 0)) = some r := H
        have A13 := Aside0.mk A130
        clear A130
        have H' := Aside0.mk H
        clear H
        go_wp2_with (first | (go_at_call 26; (with_reducible refine (grafterlaw0_Num.calls t137 t140 _ A11.out).mono ?_); rintro e w' ⟨rfl, ⟨nd, rfl⟩⟩; (try first | exact ⟨rfl, _, World.drewN_drewN _ _ _⟩ | exact ⟨rfl, _, Eq.trans (World.drewN_drewN _ _ _) (congrArg (World.drewN _) (Nat.add_assoc _ _ _))⟩); (try clear A11)) | (go_at_call 26; (with_reducible refine (grafterlaw0_Num.calls t139 t141 _ A13.out).mono ?_); rintro e w' ⟨rfl, ⟨nd, rfl⟩⟩; (try first | exact ⟨rfl, _, World.drewN_drewN _ _ _⟩ | exact ⟨rfl, _, Eq.trans (World.drewN_drewN _ _ _) (congrArg (World.drewN _) (Nat.add_assoc _ _ _))⟩); (try clear A13)))
        repeat (go_quiet (first | (go_at_call 26; (with_reducible refine (grafterlaw0_Num.calls t137 t140 _ A11.out).mono ?_); rintro e w' ⟨rfl, ⟨nd, rfl⟩⟩; (try first | exact ⟨rfl, _, World.drewN_drewN _ _ _⟩ | exact ⟨rfl, _, Eq.trans (World.drewN_drewN _ _ _) (congrArg (World.drewN _) (Nat.add_assoc _ _ _))⟩)) | (go_at_call 26; (with_reducible refine (grafterlaw0_Num.calls t139 t141 _ A13.out).mono ?_); rintro e w' ⟨rfl, ⟨nd, rfl⟩⟩; (try first | exact ⟨rfl, _, World.drewN_drewN _ _ _⟩ | exact ⟨rfl, _, Eq.trans (World.drewN_drewN _ _ _) (congrArg (World.drewN _) (Nat.add_assoc _ _ _))⟩))); try go_wp2_with (first | (go_at_call 26; (with_reducible refine (grafterlaw0_Num.calls t137 t140 _ A11.out).mono ?_); rintro e w' ⟨rfl, ⟨nd, rfl⟩⟩; (try first | exact ⟨rfl, _, World.drewN_drewN _ _ _⟩ | exact ⟨rfl, _, Eq.trans (World.drewN_drewN _ _ _) (congrArg (World.drewN _) (Nat.add_assoc _ _ _))⟩); (try clear A11)) | (go_at_call 26; (with_reducible refine (grafterlaw0_Num.calls t139 t141 _ A13.out).mono ?_); rintro e w' ⟨rfl, ⟨nd, rfl⟩⟩; (try first | exact ⟨rfl, _, World.drewN_drewN _ _ _⟩ | exact ⟨rfl, _, Eq.trans (World.drewN_drewN _ _ _) (congrArg (World.drewN _) (Nat.add_assoc _ _ _))⟩); (try clear A13))))
        go_meet
        case rel => exact ⟨_, ((t141 != 0)), (by first | rfl | (simp; done) | (simp [*]; done)), H', ⟨by first | omega | exact Nat.le_refl _⟩, ⟨by repeat (first | (with_reducible first | exact HB.out | apply below_alloc | apply pw_below_drewN | apply below_drew1) | exact HB.out)⟩⟩
      · rw [if_neg c12] at H
        have c12b0 : (t140 == 0) = false := beq_eq_false_iff_ne.mpr c12
        have c12b1 : (t140 != 0) = true := bne_iff_ne.mpr c12
        (first | rw [c12b0] | (simp only [i64_w, i32_w]; rw [c12b0]) | skip)
        have H' := Aside0.mk H
        clear H
        go_wp2_with (first | (go_at_call 26; (with_reducible refine (grafterlaw0_Num.calls t137 t140 _ A11.out).mono ?_); rintro e w' ⟨rfl, ⟨nd, rfl⟩⟩; (try first | exact ⟨rfl, _, World.drewN_drewN _ _ _⟩ | exact ⟨rfl, _, Eq.trans (World.drewN_drewN _ _ _) (congrArg (World.drewN _) (Nat.add_assoc _ _ _))⟩)))
        repeat (go_quiet (first | (go_at_call 26; (with_reducible refine (grafterlaw0_Num.calls t137 t140 _ A11.out).mono ?_); rintro e w' ⟨rfl, ⟨nd, rfl⟩⟩; (try first | exact ⟨rfl, _, World.drewN_drewN _ _ _⟩ | exact ⟨rfl, _, Eq.trans (World.drewN_drewN _ _ _) (congrArg (World.drewN _) (Nat.add_assoc _ _ _))⟩))); try go_wp2_with (first | (go_at_call 26; (with_reducible refine (grafterlaw0_Num.calls t137 t140 _ A11.out).mono ?_); rintro e w' ⟨rfl, ⟨nd, rfl⟩⟩; (try first | exact ⟨rfl, _, World.drewN_drewN _ _ _⟩ | exact ⟨rfl, _, Eq.trans (World.drewN_drewN _ _ _) (congrArg (World.drewN _) (Nat.add_assoc _ _ _))⟩))))
        go_meet
        case rel => exact ⟨_, (true), (by first | rfl | (simp; done) | (simp [*]; done)), H', ⟨by first | omega | exact Nat.le_refl _⟩, ⟨by repeat (first | (with_reducible first | exact HB.out | apply below_alloc | apply pw_below_drewN | apply below_drew1) | exact HB.out)⟩⟩
    case rest =>
      clear HC7
      try clear c1
      try clear p2
      try clear c4
      try clear c7
      try clear c12
      try clear c12b0
      try clear c12b1
      obtain ⟨kq, x31_6, rfl, HA, HJ6, HB⟩ := hcut
      cases kq with
      | zero => exact absurd HA.out (by simp [grafterlaw16_FrameUnlike.j0])
      | succ kj6 =>
        have H := HA.out
        clear HA
        simp only [grafterlaw16_FrameUnlike.j0] at H
        by_cases c14 : x31_6 = true
        · subst c14
          have H1 : ((grafterlaw0_Num.f t137).bind fun t142 => (if t142 = 0 then ((grafterlaw0_Num.f t139).bind fun t143 => (if t143 = 0 then (some true) else (some (t138.toList == ([] : List UInt8))))) else (if t136.toList = ([] : List UInt8) then ((grafterlaw0_Num.f t139).bind fun t144 => (if t144 = 0 then (some true) else (some (t138.toList == ([] : List UInt8))))) else (some false)))) = some r := by rw [if_pos rfl] at H; exact H
          clear H
          have H := H1
          clear H1
          replace H := Option.bind_eq_some_iff.mp H
          obtain ⟨t142, A150, H⟩ := H
          replace H : (if t142 = 0 then ((grafterlaw0_Num.f t139).bind fun t143 => (if t143 = 0 then (some true) else (some (t138.toList == ([] : List UInt8))))) else (if t136.toList = ([] : List UInt8) then ((grafterlaw0_Num.f t139).bind fun t144 => (if t144 = 0 then (some true) else (some (t138.toList == ([] : List UInt8))))) else (some false))) = some r := H
          have A15 := Aside0.mk A150
          clear A150
          by_cases c16 : t142 = 0
          · rw [if_pos c16] at H
            have c16b0 : (t142 == 0) = true := beq_iff_eq.mpr c16
            have c16b1 : (t142 != 0) = false := bne_eq_false_iff_eq.mpr c16
            clear c16
            replace H := Option.bind_eq_some_iff.mp H
            obtain ⟨t143, A170, H⟩ := H
            replace H : (if t143 = 0 then (some true) else (some (t138.toList == ([] : List UInt8)))) = some r := H
            have A17 := Aside0.mk A170
            clear A170
            by_cases c18 : t143 = 0
            · rw [if_pos c18] at H
              have c18b0 : (t143 == 0) = true := beq_iff_eq.mpr c18
              have c18b1 : (t143 != 0) = false := bne_eq_false_iff_eq.mpr c18
              clear c18
              obtain rfl := Option.some.inj H
              go_wp2_with (first | (go_at_call 26; (with_reducible refine (grafterlaw0_Num.calls t137 t142 _ A15.out).mono ?_); rintro e w' ⟨rfl, ⟨nd, rfl⟩⟩; (try first | exact ⟨rfl, _, World.drewN_drewN _ _ _⟩ | exact ⟨rfl, _, Eq.trans (World.drewN_drewN _ _ _) (congrArg (World.drewN _) (Nat.add_assoc _ _ _))⟩); (try clear A15)) | (go_at_call 26; (with_reducible refine (grafterlaw0_Num.calls t139 t143 _ A17.out).mono ?_); rintro e w' ⟨rfl, ⟨nd, rfl⟩⟩; (try first | exact ⟨rfl, _, World.drewN_drewN _ _ _⟩ | exact ⟨rfl, _, Eq.trans (World.drewN_drewN _ _ _) (congrArg (World.drewN _) (Nat.add_assoc _ _ _))⟩); (try clear A17)))
              repeat (go_quiet (first | (go_at_call 26; (with_reducible refine (grafterlaw0_Num.calls t137 t142 _ A15.out).mono ?_); rintro e w' ⟨rfl, ⟨nd, rfl⟩⟩; (try first | exact ⟨rfl, _, World.drewN_drewN _ _ _⟩ | exact ⟨rfl, _, Eq.trans (World.drewN_drewN _ _ _) (congrArg (World.drewN _) (Nat.add_assoc _ _ _))⟩)) | (go_at_call 26; (with_reducible refine (grafterlaw0_Num.calls t139 t143 _ A17.out).mono ?_); rintro e w' ⟨rfl, ⟨nd, rfl⟩⟩; (try first | exact ⟨rfl, _, World.drewN_drewN _ _ _⟩ | exact ⟨rfl, _, Eq.trans (World.drewN_drewN _ _ _) (congrArg (World.drewN _) (Nat.add_assoc _ _ _))⟩))); try go_wp2_with (first | (go_at_call 26; (with_reducible refine (grafterlaw0_Num.calls t137 t142 _ A15.out).mono ?_); rintro e w' ⟨rfl, ⟨nd, rfl⟩⟩; (try first | exact ⟨rfl, _, World.drewN_drewN _ _ _⟩ | exact ⟨rfl, _, Eq.trans (World.drewN_drewN _ _ _) (congrArg (World.drewN _) (Nat.add_assoc _ _ _))⟩); (try clear A15)) | (go_at_call 26; (with_reducible refine (grafterlaw0_Num.calls t139 t143 _ A17.out).mono ?_); rintro e w' ⟨rfl, ⟨nd, rfl⟩⟩; (try first | exact ⟨rfl, _, World.drewN_drewN _ _ _⟩ | exact ⟨rfl, _, Eq.trans (World.drewN_drewN _ _ _) (congrArg (World.drewN _) (Nat.add_assoc _ _ _))⟩); (try clear A17))))
              go_ret
              exact ⟨by first | rfl | (simp [errW_none, errW_some] <;> rfl) | (simp [*, errW_none, errW_some] <;> rfl), by repeat (first | (with_reducible first | exact HB.out | apply below_alloc | apply pw_below_drewN | apply below_drew1) | exact HB.out)⟩
            · rw [if_neg c18] at H
              have c18b0 : (t143 == 0) = false := beq_eq_false_iff_ne.mpr c18
              have c18b1 : (t143 != 0) = true := bne_iff_ne.mpr c18
              obtain rfl := Option.some.inj H
              go_wp2_with (first | (go_at_call 26; (with_reducible refine (grafterlaw0_Num.calls t137 t142 _ A15.out).mono ?_); rintro e w' ⟨rfl, ⟨nd, rfl⟩⟩; (try first | exact ⟨rfl, _, World.drewN_drewN _ _ _⟩ | exact ⟨rfl, _, Eq.trans (World.drewN_drewN _ _ _) (congrArg (World.drewN _) (Nat.add_assoc _ _ _))⟩); (try clear A15)) | (go_at_call 26; (with_reducible refine (grafterlaw0_Num.calls t139 t143 _ A17.out).mono ?_); rintro e w' ⟨rfl, ⟨nd, rfl⟩⟩; (try first | exact ⟨rfl, _, World.drewN_drewN _ _ _⟩ | exact ⟨rfl, _, Eq.trans (World.drewN_drewN _ _ _) (congrArg (World.drewN _) (Nat.add_assoc _ _ _))⟩); (try clear A17)))
              repeat (go_quiet (first | (go_at_call 26; (with_reducible refine (grafterlaw0_Num.calls t137 t142 _ A15.out).mono ?_); rintro e w' ⟨rfl, ⟨nd, rfl⟩⟩; (try first | exact ⟨rfl, _, World.drewN_drewN _ _ _⟩ | exact ⟨rfl, _, Eq.trans (World.drewN_drewN _ _ _) (congrArg (World.drewN _) (Nat.add_assoc _ _ _))⟩)) | (go_at_call 26; (with_reducible refine (grafterlaw0_Num.calls t139 t143 _ A17.out).mono ?_); rintro e w' ⟨rfl, ⟨nd, rfl⟩⟩; (try first | exact ⟨rfl, _, World.drewN_drewN _ _ _⟩ | exact ⟨rfl, _, Eq.trans (World.drewN_drewN _ _ _) (congrArg (World.drewN _) (Nat.add_assoc _ _ _))⟩))); try go_wp2_with (first | (go_at_call 26; (with_reducible refine (grafterlaw0_Num.calls t137 t142 _ A15.out).mono ?_); rintro e w' ⟨rfl, ⟨nd, rfl⟩⟩; (try first | exact ⟨rfl, _, World.drewN_drewN _ _ _⟩ | exact ⟨rfl, _, Eq.trans (World.drewN_drewN _ _ _) (congrArg (World.drewN _) (Nat.add_assoc _ _ _))⟩); (try clear A15)) | (go_at_call 26; (with_reducible refine (grafterlaw0_Num.calls t139 t143 _ A17.out).mono ?_); rintro e w' ⟨rfl, ⟨nd, rfl⟩⟩; (try first | exact ⟨rfl, _, World.drewN_drewN _ _ _⟩ | exact ⟨rfl, _, Eq.trans (World.drewN_drewN _ _ _) (congrArg (World.drewN _) (Nat.add_assoc _ _ _))⟩); (try clear A17))))
              go_ret
              exact ⟨by first | rfl | (simp [errW_none, errW_some] <;> rfl) | (simp [*, errW_none, errW_some] <;> rfl), by repeat (first | (with_reducible first | exact HB.out | apply below_alloc | apply pw_below_drewN | apply below_drew1) | exact HB.out)⟩
          · rw [if_neg c16] at H
            have c16b0 : (t142 == 0) = false := beq_eq_false_iff_ne.mpr c16
            have c16b1 : (t142 != 0) = true := bne_iff_ne.mpr c16
            by_cases c19 : t136.toList = ([] : List UInt8)
            · rw [if_pos c19] at H
              have c19b0 : (t136.toList == ([] : List UInt8)) = true := beq_iff_eq.mpr c19
              have c19b1 : (t136.toList != ([] : List UInt8)) = false := bne_eq_false_iff_eq.mpr c19
              clear c19
              replace H := Option.bind_eq_some_iff.mp H
              obtain ⟨t144, A200, H⟩ := H
              replace H : (if t144 = 0 then (some true) else (some (t138.toList == ([] : List UInt8)))) = some r := H
              have A20 := Aside0.mk A200
              clear A200
              by_cases c21 : t144 = 0
              · rw [if_pos c21] at H
                have c21b0 : (t144 == 0) = true := beq_iff_eq.mpr c21
                have c21b1 : (t144 != 0) = false := bne_eq_false_iff_eq.mpr c21
                clear c21
                obtain rfl := Option.some.inj H
                go_wp2_with (first | (go_at_call 26; (with_reducible refine (grafterlaw0_Num.calls t137 t142 _ A15.out).mono ?_); rintro e w' ⟨rfl, ⟨nd, rfl⟩⟩; (try first | exact ⟨rfl, _, World.drewN_drewN _ _ _⟩ | exact ⟨rfl, _, Eq.trans (World.drewN_drewN _ _ _) (congrArg (World.drewN _) (Nat.add_assoc _ _ _))⟩); (try clear A15)) | (go_at_call 26; (with_reducible refine (grafterlaw0_Num.calls t139 t144 _ A20.out).mono ?_); rintro e w' ⟨rfl, ⟨nd, rfl⟩⟩; (try first | exact ⟨rfl, _, World.drewN_drewN _ _ _⟩ | exact ⟨rfl, _, Eq.trans (World.drewN_drewN _ _ _) (congrArg (World.drewN _) (Nat.add_assoc _ _ _))⟩); (try clear A20)))
                repeat (go_quiet (first | (go_at_call 26; (with_reducible refine (grafterlaw0_Num.calls t137 t142 _ A15.out).mono ?_); rintro e w' ⟨rfl, ⟨nd, rfl⟩⟩; (try first | exact ⟨rfl, _, World.drewN_drewN _ _ _⟩ | exact ⟨rfl, _, Eq.trans (World.drewN_drewN _ _ _) (congrArg (World.drewN _) (Nat.add_assoc _ _ _))⟩)) | (go_at_call 26; (with_reducible refine (grafterlaw0_Num.calls t139 t144 _ A20.out).mono ?_); rintro e w' ⟨rfl, ⟨nd, rfl⟩⟩; (try first | exact ⟨rfl, _, World.drewN_drewN _ _ _⟩ | exact ⟨rfl, _, Eq.trans (World.drewN_drewN _ _ _) (congrArg (World.drewN _) (Nat.add_assoc _ _ _))⟩))); try go_wp2_with (first | (go_at_call 26; (with_reducible refine (grafterlaw0_Num.calls t137 t142 _ A15.out).mono ?_); rintro e w' ⟨rfl, ⟨nd, rfl⟩⟩; (try first | exact ⟨rfl, _, World.drewN_drewN _ _ _⟩ | exact ⟨rfl, _, Eq.trans (World.drewN_drewN _ _ _) (congrArg (World.drewN _) (Nat.add_assoc _ _ _))⟩); (try clear A15)) | (go_at_call 26; (with_reducible refine (grafterlaw0_Num.calls t139 t144 _ A20.out).mono ?_); rintro e w' ⟨rfl, ⟨nd, rfl⟩⟩; (try first | exact ⟨rfl, _, World.drewN_drewN _ _ _⟩ | exact ⟨rfl, _, Eq.trans (World.drewN_drewN _ _ _) (congrArg (World.drewN _) (Nat.add_assoc _ _ _))⟩); (try clear A20))))
                go_ret
                exact ⟨by first | rfl | (simp [errW_none, errW_some] <;> rfl) | (simp [*, errW_none, errW_some] <;> rfl), by repeat (first | (with_reducible first | exact HB.out | apply below_alloc | apply pw_below_drewN | apply below_drew1) | exact HB.out)⟩
              · rw [if_neg c21] at H
                have c21b0 : (t144 == 0) = false := beq_eq_false_iff_ne.mpr c21
                have c21b1 : (t144 != 0) = true := bne_iff_ne.mpr c21
                obtain rfl := Option.some.inj H
                go_wp2_with (first | (go_at_call 26; (with_reducible refine (grafterlaw0_Num.calls t137 t142 _ A15.out).mono ?_); rintro e w' ⟨rfl, ⟨nd, rfl⟩⟩; (try first | exact ⟨rfl, _, World.drewN_drewN _ _ _⟩ | exact ⟨rfl, _, Eq.trans (World.drewN_drewN _ _ _) (congrArg (World.drewN _) (Nat.add_assoc _ _ _))⟩); (try clear A15)) | (go_at_call 26; (with_reducible refine (grafterlaw0_Num.calls t139 t144 _ A20.out).mono ?_); rintro e w' ⟨rfl, ⟨nd, rfl⟩⟩; (try first | exact ⟨rfl, _, World.drewN_drewN _ _ _⟩ | exact ⟨rfl, _, Eq.trans (World.drewN_drewN _ _ _) (congrArg (World.drewN _) (Nat.add_assoc _ _ _))⟩); (try clear A20)))
                repeat (go_quiet (first | (go_at_call 26; (with_reducible refine (grafterlaw0_Num.calls t137 t142 _ A15.out).mono ?_); rintro e w' ⟨rfl, ⟨nd, rfl⟩⟩; (try first | exact ⟨rfl, _, World.drewN_drewN _ _ _⟩ | exact ⟨rfl, _, Eq.trans (World.drewN_drewN _ _ _) (congrArg (World.drewN _) (Nat.add_assoc _ _ _))⟩)) | (go_at_call 26; (with_reducible refine (grafterlaw0_Num.calls t139 t144 _ A20.out).mono ?_); rintro e w' ⟨rfl, ⟨nd, rfl⟩⟩; (try first | exact ⟨rfl, _, World.drewN_drewN _ _ _⟩ | exact ⟨rfl, _, Eq.trans (World.drewN_drewN _ _ _) (congrArg (World.drewN _) (Nat.add_assoc _ _ _))⟩))); try go_wp2_with (first | (go_at_call 26; (with_reducible refine (grafterlaw0_Num.calls t137 t142 _ A15.out).mono ?_); rintro e w' ⟨rfl, ⟨nd, rfl⟩⟩; (try first | exact ⟨rfl, _, World.drewN_drewN _ _ _⟩ | exact ⟨rfl, _, Eq.trans (World.drewN_drewN _ _ _) (congrArg (World.drewN _) (Nat.add_assoc _ _ _))⟩); (try clear A15)) | (go_at_call 26; (with_reducible refine (grafterlaw0_Num.calls t139 t144 _ A20.out).mono ?_); rintro e w' ⟨rfl, ⟨nd, rfl⟩⟩; (try first | exact ⟨rfl, _, World.drewN_drewN _ _ _⟩ | exact ⟨rfl, _, Eq.trans (World.drewN_drewN _ _ _) (congrArg (World.drewN _) (Nat.add_assoc _ _ _))⟩); (try clear A20))))
                go_ret
                exact ⟨by first | rfl | (simp [errW_none, errW_some] <;> rfl) | (simp [*, errW_none, errW_some] <;> rfl), by repeat (first | (with_reducible first | exact HB.out | apply below_alloc | apply pw_below_drewN | apply below_drew1) | exact HB.out)⟩
            · rw [if_neg c19] at H
              have c19b0 : (t136.toList == ([] : List UInt8)) = false := beq_eq_false_iff_ne.mpr c19
              have c19b1 : (t136.toList != ([] : List UInt8)) = true := bne_iff_ne.mpr c19
              exact absurd ((Option.some.inj H).trans HRT.out) Bool.false_ne_true
        · replace c14 := Bool.eq_false_iff.mpr c14
          subst c14
          have H1 : ((grafterref12_PutFrame.f kj6 a0).bind fun bt145 => (if bt145.2 = 0 then (if 0 ≤ (mn (t136.size : Int) (t138.size : Int)) then (if (mn (t136.size : Int) (t138.size : Int)) ≤ (t136.size : Int) then (if (mn (t136.size : Int) (t138.size : Int)) ≤ (t138.size : Int) then (some (((t136.extract 0 ((mn (t136.size : Int) (t138.size : Int)) : Int).toNat).toList == (t138.extract 0 ((mn (t136.size : Int) (t138.size : Int)) : Int).toNat).toList) == (a0.toList == a1.toList))) else (none)) else (none)) else (none)) else (some false))) = some r := by rw [if_neg (show ¬ (false = true) by decide)] at H; exact H
          clear H
          have H := H1
          clear H1
          replace H := Option.bind_eq_some_iff.mp H
          obtain ⟨⟨t145, t146⟩, A220, H⟩ := H
          replace H : (if t146 = 0 then (if 0 ≤ (mn (t136.size : Int) (t138.size : Int)) then (if (mn (t136.size : Int) (t138.size : Int)) ≤ (t136.size : Int) then (if (mn (t136.size : Int) (t138.size : Int)) ≤ (t138.size : Int) then (some (((t136.extract 0 ((mn (t136.size : Int) (t138.size : Int)) : Int).toNat).toList == (t138.extract 0 ((mn (t136.size : Int) (t138.size : Int)) : Int).toNat).toList) == (a0.toList == a1.toList))) else (none)) else (none)) else (none)) else (some false)) = some r := H
          have A22 := Aside0.mk A220
          clear A220
          obtain ⟨ji23, hji23⟩ : ∃ j_ : Int, (mn (t136.size : Int) (t138.size : Int)) = j_ := ⟨_, rfl⟩
          replace H : (if t146 = 0 then (if 0 ≤ (ji23) then (if (ji23) ≤ (t136.size : Int) then (if (ji23) ≤ (t138.size : Int) then (some (((t136.extract 0 ((ji23) : Int).toNat).toList == (t138.extract 0 ((ji23) : Int).toNat).toList) == (a0.toList == a1.toList))) else (none)) else (none)) else (none)) else (some false)) = some r := by first | (rw [hji23] at H; exact H) | (simp only [hji23] at H ⊢; exact H)
          (try rw [hji23] at A22)
          have hji23_ : (if (t138.size : Int) < (t136.size : Int) then (t138.size : Int) else (t136.size : Int)) = ji23 := hji23
          by_cases c24 : t146 = 0
          · rw [if_pos c24] at H
            have c24b0 : (t146 == 0) = true := beq_iff_eq.mpr c24
            have c24b1 : (t146 != 0) = false := bne_eq_false_iff_eq.mpr c24
            clear c24
            by_cases c25 : 0 ≤ (ji23)
            · rw [if_pos c25] at H
              have c25b0 := eq_true c25
              have c25b1 : decide (0 ≤ (ji23)) = true := decide_eq_true c25
              clear c25
              by_cases c26 : (ji23) ≤ (t136.size : Int)
              · rw [if_pos c26] at H
                have c26b0 := eq_true c26
                have c26b1 : decide ((ji23) ≤ (t136.size : Int)) = true := decide_eq_true c26
                clear c26
                have c27b0 := eq_true (of_decide_eq_true (by first | (with_reducible assumption) | assumption) : 0 ≤ (ji23))
                by_cases c28 : (ji23) ≤ (t138.size : Int)
                · rw [if_pos c28] at H
                  have c28b0 := eq_true c28
                  have c28b1 : decide ((ji23) ≤ (t138.size : Int)) = true := decide_eq_true c28
                  clear c28
                  obtain rfl := Option.some.inj H
                  go_wp2_with (first | (go_at_call 23; (with_reducible refine (grafterref12_PutFrame.calls kj6 a0 t145 t146 _ A22.out).mono ?_); rintro e w29 ⟨rfl, hb⟩; have n0_ := Aside0.mk (below_step (by repeat (first | (with_reducible first | exact HB.out | apply below_alloc | apply pw_below_drewN | apply below_drew1) | exact HB.out)) hb); clear HB; have HB := n0_; clear n0_; (try clear hb); (try clear hb2); (try clear hk); (try clear hi)))
                  all_goals repeat (go_quiet (first | (go_at_call 23; (with_reducible refine (grafterref12_PutFrame.calls kj6 a0 t145 t146 _ A22.out).mono ?_); rintro e w29 ⟨rfl, hb⟩; have n0_ := Aside0.mk (below_step (by repeat (first | (with_reducible first | exact HB.out | apply below_alloc | apply pw_below_drewN | apply below_drew1) | exact HB.out)) hb); clear HB; have HB := n0_; clear n0_; (try clear hb); (try clear hb2); (try clear hk); (try clear hi))); try go_wp2_with (first | (go_at_call 23; (with_reducible refine (grafterref12_PutFrame.calls kj6 a0 t145 t146 _ A22.out).mono ?_); rintro e w29 ⟨rfl, hb⟩; have n0_ := Aside0.mk (below_step (by repeat (first | (with_reducible first | exact HB.out | apply below_alloc | apply pw_below_drewN | apply below_drew1) | exact HB.out)) hb); clear HB; have HB := n0_; clear n0_; (try clear hb); (try clear hb2); (try clear hk); (try clear hi))))
                  all_goals go_ret
                  all_goals exact ⟨by first | (simp only [← hji23_]; split <;> first | (exfalso; omega) | (simp [ByteArray.extract_zero_size]; done) | (simp [ByteArray.extract_zero_size, *]; done)) | rfl | (simp [errW_none, errW_some] <;> rfl) | (simp only [← hji23]; first | rfl | (simp [errW_none, errW_some] <;> rfl)) | (simp [*, errW_none, errW_some] <;> rfl), by repeat (first | (with_reducible first | exact HB.out | apply below_alloc | apply pw_below_drewN | apply below_drew1) | exact HB.out)⟩
                · rw [if_neg c28] at H
                  exact absurd H (by simp)
              · rw [if_neg c26] at H
                exact absurd H (by simp)
            · rw [if_neg c25] at H
              exact absurd H (by simp)
          · rw [if_neg c24] at H
            have c24b0 : (t146 == 0) = false := beq_eq_false_iff_ne.mpr c24
            have c24b1 : (t146 != 0) = true := bne_iff_ne.mpr c24
            exact absurd ((Option.some.inj H).trans HRT.out) Bool.false_ne_true
  · replace c4 := Bool.eq_false_iff.mpr c4
    subst c4
    have H1 : (some false) = some r := by rw [if_neg (show ¬ (false = true) by decide)] at H; exact H
    clear H
    have H := H1
    clear H1
    exact absurd ((Option.some.inj H).trans HRT.out) Bool.false_ne_true

/-- THE ONE PURE STATEMENT of grafterlaw16_FrameUnlike: yours. -/
def grafterlaw16_FrameUnlike.Pure : Prop := ∀ (a0 : ByteArray) (a1 : ByteArray), a0.size ≤ 140737488351232 → a1.size ≤ 140737488351232 → ∃ k, grafterlaw16_FrameUnlike.f k a0 a1 = some true
theorem grafterlaw16_FrameUnlike.walk (P : grafterlaw16_FrameUnlike.Pure) (a0 : ByteArray) (a1 : ByteArray) (w : World) (w0 : a0.size ≤ 140737488351232) (w1 : a1.size ≤ 140737488351232) :
    Calls Try.prog 7 #[.string a0, .string a1] w fun e w' => e = .returned (.bool true) ∧ Below w.heap.size w w' := by
  obtain ⟨k, h⟩ := P a0 a1 w0 w1
  refine (grafterlaw16_FrameUnlike.calls k a0 a1 true w rfl h).mono ?_
  rintro e w' ⟨rfl, hd⟩
  exact ⟨rfl, hd⟩

end Go.Proofs.Ytbhkmgidokonkaa.PFrameUnlike
