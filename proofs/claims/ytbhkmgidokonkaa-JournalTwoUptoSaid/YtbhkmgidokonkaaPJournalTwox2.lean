-- Written by a program of this session (pprint.py) out of the translation, with hand-proved walks pasted in.
import Derived.Test.YtbhkmgidokonkaaPJournalTwox0
import Derived.Test.YtbhkmgidokonkaaPJournalTwox1
namespace Go.Proofs.Ytbhkmgidokonkaa.PJournalTwo
open Go.RowKit Go.Proofs.YtbhkmgidokonkaaW.PrintWords Go.Proofs.YtbhkmgidokonkaaW.PrintLast Go.Proofs.YtbhkmgidokonkaaW.PrintMore
attribute [local go_sem] max2_int min2_int max_two min_two max_three min_three max_four min_four   -- for this text's walks alone
set_option linter.unusedVariables false
set_option linter.unusedSimpArgs false

/-! ### frame_Get: function 24 -/
def frame_Get.j0 : Nat → ByteArray → Int → Bool → Option (ByteArray × Int × Int)
  | 0, _, _, _ => none
  | k + 1, x0, x1, x26 => if x26 = true then (some ((⟨#[]⟩ : ByteArray), 0, 1600)) else (if 0 ≤ x1 then (if x1 ≤ (x0.size : Int) then (if 0 < ((x0.extract (x1 : Int).toNat x0.size).size : Int) then (if 1 < ((x0.extract (x1 : Int).toNat x0.size).size : Int) then (if (Go.bits .or .i64 (wrap64 (bt (x0.extract (x1 : Int).toNat x0.size) 0)) (wrap64 ((wrap64 (bt (x0.extract (x1 : Int).toNat x0.size) 1)) * 256))) > (wrap64 ((wrap64 (((x0.extract (x1 : Int).toNat x0.size).size : Int) - 2)) - 4)) then (some ((⟨#[]⟩ : ByteArray), 0, 1600)) else (if 2 ≤ (wrap64 (2 + (Go.bits .or .i64 (wrap64 (bt (x0.extract (x1 : Int).toNat x0.size) 0)) (wrap64 ((wrap64 (bt (x0.extract (x1 : Int).toNat x0.size) 1)) * 256))))) then (if (wrap64 (2 + (Go.bits .or .i64 (wrap64 (bt (x0.extract (x1 : Int).toNat x0.size) 0)) (wrap64 ((wrap64 (bt (x0.extract (x1 : Int).toNat x0.size) 1)) * 256))))) ≤ ((x0.extract (x1 : Int).toNat x0.size).size : Int) then ((frame_Put.f k ((x0.extract (x1 : Int).toNat x0.size).extract 2 ((wrap64 (2 + (Go.bits .or .i64 (wrap64 (bt (x0.extract (x1 : Int).toNat x0.size) 0)) (wrap64 ((wrap64 (bt (x0.extract (x1 : Int).toNat x0.size) 1)) * 256))))) : Int).toNat)).bind fun bt123 => (if bt123.2 = 0 then (if 0 ≤ (bt123.1.size : Int) then (if (bt123.1.size : Int) ≤ ((x0.extract (x1 : Int).toNat x0.size).size : Int) then (if bt123.1.toList = ((x0.extract (x1 : Int).toNat x0.size).extract 0 ((bt123.1.size : Int) : Int).toNat).toList then (some ((x0.extract (x1 : Int).toNat x0.size).extract 2 ((wrap64 (2 + (Go.bits .or .i64 (wrap64 (bt (x0.extract (x1 : Int).toNat x0.size) 0)) (wrap64 ((wrap64 (bt (x0.extract (x1 : Int).toNat x0.size) 1)) * 256))))) : Int).toNat, wrap64 ((wrap64 ((wrap64 (x1 + 2)) + (Go.bits .or .i64 (wrap64 (bt (x0.extract (x1 : Int).toNat x0.size) 0)) (wrap64 ((wrap64 (bt (x0.extract (x1 : Int).toNat x0.size) 1)) * 256))))) + 4), 0)) else (some ((⟨#[]⟩ : ByteArray), 0, 1600))) else (none)) else (none)) else (some ((⟨#[]⟩ : ByteArray), 0, 1600)))) else (none)) else (none))) else (none)) else (none)) else (none)) else (none))
def frame_Get.f (k : Nat) (a0 : ByteArray) (a1 : Int) : Option (ByteArray × Int × Int) := if a1 < 0 then (frame_Get.j0 k a0 a1 true) else (if a1 > (a0.size : Int) then (frame_Get.j0 k a0 a1 true) else (frame_Get.j0 k a0 a1 (decide ((wrap64 ((a0.size : Int) - a1)) < 6))))
theorem frame_Get.mono_l : ∀ k, (∀ y0 y1 y2, LeO (frame_Get.j0 k y0 y1 y2) (frame_Get.j0 (k + 1) y0 y1 y2))
  | 0 => fun _ _ _ r h => by simp [frame_Get.j0] at h
  | k + 1 => by
    have ih0 := frame_Get.mono_l k
    · intro y0 y1 y2
      unfold frame_Get.j0
      repeat' first
      | (with_reducible exact ih0 _ _ _)
      | (with_reducible exact frame_Put.mono _ _)
      | (with_reducible exact LeO.refl _)
      | (with_reducible exact LeO.none _)
      | (with_reducible refine LeO.ite ?_ ?_)
      | (with_reducible refine LeO.bind ?_ (fun _ => ?_))
      | exact ih0 _ _ _
      | exact frame_Put.mono _ _
      | exact LeO.none _
      | refine LeO.ite ?_ ?_
      | refine LeO.bind ?_ (fun _ => ?_)
theorem frame_Get.mono : ∀ a0 a1 k, LeO (frame_Get.f k a0 a1) (frame_Get.f (k + 1) a0 a1) := by
  intro a0 a1 k
  have ih0 := frame_Get.mono_l k
  unfold frame_Get.f
  repeat' first
      | (with_reducible exact ih0 _ _ _)
      | (with_reducible exact frame_Put.mono _ _)
      | (with_reducible exact LeO.refl _)
      | (with_reducible exact LeO.none _)
      | (with_reducible refine LeO.ite ?_ ?_)
      | (with_reducible refine LeO.bind ?_ (fun _ => ?_))
      | exact ih0 _ _ _
      | exact frame_Put.mono _ _
      | exact LeO.none _
      | refine LeO.ite ?_ ?_
      | refine LeO.bind ?_ (fun _ => ?_)
set_option maxHeartbeats 8000000 in
set_option maxRecDepth 100000 in
theorem frame_Get.calls (k : Nat) (a0 : ByteArray) (a1 : Int) (r1 : ByteArray) (r2 : Int) (r3 : Int) (w : World) (h : frame_Get.f k a0 a1 = some (r1, r2, r3)) :
    Calls Try.prog 24 #[.string a0, .int .i64 a1] w fun e w' => e = .returned (.tuple #[.string r1, .int .i64 r2, .int .i64 r3]) ∧ Below w.heap.size w w' := by
  have HB := Aside0.mk (Below.refl w.heap.size w)
  have H : (if a1 < 0 then (frame_Get.j0 k a0 a1 true) else (if a1 > (a0.size : Int) then (frame_Get.j0 k a0 a1 true) else (frame_Get.j0 k a0 a1 (decide ((wrap64 ((a0.size : Int) - a1)) < 6))))) = some (r1, r2, r3) := h
  clear h
  have HC3 := Aside0.mk H
  clear H
  go_enter Try.func24, Try.ntmps24
  go_upto_region 1 with (fail)
  repeat (go_quiet (fail); go_upto_region 1 with (fail))
  go_cut [26] (fun v26 wc => ∃ (kq : Nat) (x26_2 : Bool), v26 = .bool x26_2 ∧ Aside0 (frame_Get.j0 kq a0 a1 x26_2 = some (r1, r2, r3)) ∧ Aside0 (kq ≤ k) ∧ Aside0 (Below w.heap.size w wc))
  case first =>
    have H := HC3.out
    clear HC3
    by_cases c4 : a1 < 0
    · rw [if_pos c4] at H
      have c4b0 : decide (a1 < 0) = true := decide_eq_true c4
      clear c4
      (first | rw [c4b0] | (simp only [i64_w, i32_w]; rw [c4b0]) | skip)
      have H' := Aside0.mk H
      clear H
      go_wp2
      repeat (go_quiet (fail); try go_wp2)
      go_meet
      case rel => exact ⟨_, (true), (by first | rfl | (simp; done) | (simp [*]; done)), H', ⟨by first | omega | exact Nat.le_refl _⟩, ⟨by repeat (first | (with_reducible first | exact HB.out | apply below_alloc | apply pw_below_drewN | apply below_drew1) | exact HB.out)⟩⟩
    · rw [if_neg c4] at H
      have c4b0 : decide (a1 < 0) = false := decide_eq_false c4
      clear c4
      (first | rw [c4b0] | (simp only [i64_w, i32_w]; rw [c4b0]) | skip)
      by_cases c5 : a1 > (a0.size : Int)
      · rw [if_pos c5] at H
        have c5b0 : decide ((a0.size : Int) < a1) = true := decide_eq_true c5
        clear c5
        have H' := Aside0.mk H
        clear H
        go_wp2
        repeat (go_quiet (fail); try go_wp2)
        go_meet
        case rel => exact ⟨_, (true), (by first | rfl | (simp; done) | (simp [*]; done)), H', ⟨by first | omega | exact Nat.le_refl _⟩, ⟨by repeat (first | (with_reducible first | exact HB.out | apply below_alloc | apply pw_below_drewN | apply below_drew1) | exact HB.out)⟩⟩
      · rw [if_neg c5] at H
        have c5b0 : decide ((a0.size : Int) < a1) = false := decide_eq_false c5
        clear c5
        have H' := Aside0.mk H
        clear H
        go_wp2
        repeat (go_quiet (fail); try go_wp2)
        go_meet
        case rel => exact ⟨_, (decide ((wrap64 ((a0.size : Int) - a1)) < 6)), (by first | rfl | (simp; done) | (simp [*]; done)), H', ⟨by first | omega | exact Nat.le_refl _⟩, ⟨by repeat (first | (with_reducible first | exact HB.out | apply below_alloc | apply pw_below_drewN | apply below_drew1) | exact HB.out)⟩⟩
  case rest =>
    clear HC3
    try clear c2
    try clear p2
    try clear c4
    try clear c4b0
    try clear c5
    try clear c5b0
    obtain ⟨kq, x26_2, rfl, HA, HJ2, HB⟩ := hcut
    cases kq with
    | zero => exact absurd HA.out (by simp [frame_Get.j0])
    | succ kj2 =>
      have H := HA.out
      clear HA
      simp only [frame_Get.j0] at H
      by_cases c6 : x26_2 = true
      · subst c6
        have H1 : (some ((⟨#[]⟩ : ByteArray), 0, 1600)) = some (r1, r2, r3) := by rw [if_pos rfl] at H; exact H
        clear H
        have H := H1
        clear H1
        simp only [Option.some.injEq, Prod.mk.injEq] at H
        obtain ⟨rfl, rfl, rfl⟩ := H
        go_wp2
        repeat (go_quiet (fail); try go_wp2)
        go_ret3
        exact ⟨by first | rfl | (simp [errW_none, errW_some] <;> rfl) | (simp [*, errW_none, errW_some] <;> rfl), by repeat (first | (with_reducible first | exact HB.out | apply below_alloc | apply pw_below_drewN | apply below_drew1) | exact HB.out)⟩
      · replace c6 := Bool.eq_false_iff.mpr c6
        subst c6
        have H1 : (if 0 ≤ a1 then (if a1 ≤ (a0.size : Int) then (if 0 < ((a0.extract (a1 : Int).toNat a0.size).size : Int) then (if 1 < ((a0.extract (a1 : Int).toNat a0.size).size : Int) then (if (Go.bits .or .i64 (wrap64 (bt (a0.extract (a1 : Int).toNat a0.size) 0)) (wrap64 ((wrap64 (bt (a0.extract (a1 : Int).toNat a0.size) 1)) * 256))) > (wrap64 ((wrap64 (((a0.extract (a1 : Int).toNat a0.size).size : Int) - 2)) - 4)) then (some ((⟨#[]⟩ : ByteArray), 0, 1600)) else (if 2 ≤ (wrap64 (2 + (Go.bits .or .i64 (wrap64 (bt (a0.extract (a1 : Int).toNat a0.size) 0)) (wrap64 ((wrap64 (bt (a0.extract (a1 : Int).toNat a0.size) 1)) * 256))))) then (if (wrap64 (2 + (Go.bits .or .i64 (wrap64 (bt (a0.extract (a1 : Int).toNat a0.size) 0)) (wrap64 ((wrap64 (bt (a0.extract (a1 : Int).toNat a0.size) 1)) * 256))))) ≤ ((a0.extract (a1 : Int).toNat a0.size).size : Int) then ((frame_Put.f kj2 ((a0.extract (a1 : Int).toNat a0.size).extract 2 ((wrap64 (2 + (Go.bits .or .i64 (wrap64 (bt (a0.extract (a1 : Int).toNat a0.size) 0)) (wrap64 ((wrap64 (bt (a0.extract (a1 : Int).toNat a0.size) 1)) * 256))))) : Int).toNat)).bind fun bt123 => (if bt123.2 = 0 then (if 0 ≤ (bt123.1.size : Int) then (if (bt123.1.size : Int) ≤ ((a0.extract (a1 : Int).toNat a0.size).size : Int) then (if bt123.1.toList = ((a0.extract (a1 : Int).toNat a0.size).extract 0 ((bt123.1.size : Int) : Int).toNat).toList then (some ((a0.extract (a1 : Int).toNat a0.size).extract 2 ((wrap64 (2 + (Go.bits .or .i64 (wrap64 (bt (a0.extract (a1 : Int).toNat a0.size) 0)) (wrap64 ((wrap64 (bt (a0.extract (a1 : Int).toNat a0.size) 1)) * 256))))) : Int).toNat, wrap64 ((wrap64 ((wrap64 (a1 + 2)) + (Go.bits .or .i64 (wrap64 (bt (a0.extract (a1 : Int).toNat a0.size) 0)) (wrap64 ((wrap64 (bt (a0.extract (a1 : Int).toNat a0.size) 1)) * 256))))) + 4), 0)) else (some ((⟨#[]⟩ : ByteArray), 0, 1600))) else (none)) else (none)) else (some ((⟨#[]⟩ : ByteArray), 0, 1600)))) else (none)) else (none))) else (none)) else (none)) else (none)) else (none)) = some (r1, r2, r3) := by rw [if_neg (show ¬ (false = true) by decide)] at H; exact H
        clear H
        have H := H1
        clear H1
        by_cases c7 : 0 ≤ a1
        · rw [if_pos c7] at H
          have c7b0 := eq_true c7
          have c7b1 : decide (0 ≤ a1) = true := decide_eq_true c7
          clear c7
          by_cases c8 : a1 ≤ (a0.size : Int)
          · rw [if_pos c8] at H
            have c8b0 := eq_true c8
            have c8b1 : decide (a1 ≤ (a0.size : Int)) = true := decide_eq_true c8
            clear c8
            obtain ⟨rst, hrst⟩ : ∃ z, a0.extract (a1 : Int).toNat a0.size = z := ⟨_, rfl⟩
            simp only [hrst] at H
            by_cases c9 : 0 < (rst.size : Int)
            · rw [if_pos c9] at H
              have c9b0 : decide (0 < (rst.size : Int)) = true := decide_eq_true c9
              have c9b1 : decide (0 < rst.size) = true := decide_eq_true (by omega)
              clear c9
              by_cases c11 : 1 < (rst.size : Int)
              · rw [if_pos c11] at H
                have c11b0 : decide (1 < (rst.size : Int)) = true := decide_eq_true c11
                have c11b1 : decide (1 < rst.size) = true := decide_eq_true (by omega)
                clear c11
                by_cases c13 : (Go.bits .or .i64 (wrap64 (bt rst 0)) (wrap64 ((wrap64 (bt rst 1)) * 256))) > (wrap64 ((wrap64 ((rst.size : Int) - 2)) - 4))
                · rw [if_pos c13] at H
                  have c13b0 : decide ((wrap64 ((wrap64 ((rst.size : Int) - 2)) - 4)) < (Go.bits .or .i64 (wrap64 (bt rst 0)) (wrap64 ((wrap64 (bt rst 1)) * 256)))) = true := decide_eq_true c13
                  clear c13
                  simp only [Option.some.injEq, Prod.mk.injEq] at H
                  obtain ⟨rfl, rfl, rfl⟩ := H
                  have p10 : 0 ≤ (0 : Int) := (by omega)
                  have q10 : 0 < rst.size := (by have : (0 : Int) < (rst.size : Int) := of_decide_eq_true (by first | (with_reducible assumption) | assumption); omega)
                  have hx10 : ∀ h : 0 < rst.size, ((rst[0]'h).toNat : Int) = bt rst 0 := bt_at rst 0
                  clear p10
                  have qi10 : (0 < (rst.size : Int)) = True := eq_true (of_decide_eq_true (by first | (with_reducible assumption) | assumption))
                  replace q10 := eq_true q10
                  have p12 : 0 ≤ (1 : Int) := (by omega)
                  have q12 : 1 < rst.size := (by have : (1 : Int) < (rst.size : Int) := of_decide_eq_true (by first | (with_reducible assumption) | assumption); omega)
                  have hx12 : ∀ h : 1 < rst.size, ((rst[1]'h).toNat : Int) = bt rst 1 := bt_at rst 1
                  clear p12
                  have qi12 : (1 < (rst.size : Int)) = True := eq_true (of_decide_eq_true (by first | (with_reducible assumption) | assumption))
                  replace q12 := eq_true q12
                  go_wp2
                  repeat (go_quiet (fail); try go_wp2)
                  go_ret3
                  exact ⟨by first | rfl | (simp [errW_none, errW_some] <;> rfl) | (simp [*, errW_none, errW_some] <;> rfl), by repeat (first | (with_reducible first | exact HB.out | apply below_alloc | apply pw_below_drewN | apply below_drew1) | exact HB.out)⟩
                · rw [if_neg c13] at H
                  have c13b0 : decide ((wrap64 ((wrap64 ((rst.size : Int) - 2)) - 4)) < (Go.bits .or .i64 (wrap64 (bt rst 0)) (wrap64 ((wrap64 (bt rst 1)) * 256)))) = false := decide_eq_false c13
                  clear c13
                  by_cases c14 : 2 ≤ (wrap64 (2 + (Go.bits .or .i64 (wrap64 (bt rst 0)) (wrap64 ((wrap64 (bt rst 1)) * 256)))))
                  · rw [if_pos c14] at H
                    have c14b0 := eq_true c14
                    have c14b1 : decide (2 ≤ (wrap64 (2 + (Go.bits .or .i64 (wrap64 (bt rst 0)) (wrap64 ((wrap64 (bt rst 1)) * 256)))))) = true := decide_eq_true c14
                    by_cases c15 : (wrap64 (2 + (Go.bits .or .i64 (wrap64 (bt rst 0)) (wrap64 ((wrap64 (bt rst 1)) * 256))))) ≤ (rst.size : Int)
                    · rw [if_pos c15] at H
                      have c15b0 := eq_true c15
                      have c15b1 : decide ((wrap64 (2 + (Go.bits .or .i64 (wrap64 (bt rst 0)) (wrap64 ((wrap64 (bt rst 1)) * 256))))) ≤ (rst.size : Int)) = true := decide_eq_true c15
                      replace H := Option.bind_eq_some_iff.mp H
                      obtain ⟨⟨t123, t124⟩, A160, H⟩ := H
                      replace H : (if t124 = 0 then (if 0 ≤ (t123.size : Int) then (if (t123.size : Int) ≤ (rst.size : Int) then (if t123.toList = (rst.extract 0 ((t123.size : Int) : Int).toNat).toList then (some (rst.extract 2 ((wrap64 (2 + (Go.bits .or .i64 (wrap64 (bt rst 0)) (wrap64 ((wrap64 (bt rst 1)) * 256))))) : Int).toNat, wrap64 ((wrap64 ((wrap64 (a1 + 2)) + (Go.bits .or .i64 (wrap64 (bt rst 0)) (wrap64 ((wrap64 (bt rst 1)) * 256))))) + 4), 0)) else (some ((⟨#[]⟩ : ByteArray), 0, 1600))) else (none)) else (none)) else (some ((⟨#[]⟩ : ByteArray), 0, 1600))) = some (r1, r2, r3) := H
                      have A16 := Aside0.mk A160
                      clear A160
                      by_cases c17 : t124 = 0
                      · rw [if_pos c17] at H
                        have c17b0 : (t124 == 0) = true := beq_iff_eq.mpr c17
                        have c17b1 : (t124 != 0) = false := bne_eq_false_iff_eq.mpr c17
                        clear c17
                        by_cases c18 : 0 ≤ (t123.size : Int)
                        · rw [if_pos c18] at H
                          have c18b0 := eq_true c18
                          have c18b1 : decide (0 ≤ (t123.size : Int)) = true := decide_eq_true c18
                          clear c18
                          by_cases c19 : (t123.size : Int) ≤ (rst.size : Int)
                          · rw [if_pos c19] at H
                            have c19b0 := eq_true c19
                            have c19b1 : decide ((t123.size : Int) ≤ (rst.size : Int)) = true := decide_eq_true c19
                            clear c19
                            by_cases c20 : t123.toList = (rst.extract 0 ((t123.size : Int) : Int).toNat).toList
                            · rw [if_pos c20] at H
                              have c20b0 : (t123.toList == (rst.extract 0 ((t123.size : Int) : Int).toNat).toList) = true := beq_iff_eq.mpr c20
                              (try simp only [Int.toNat_natCast] at c20b0)
                              have c20b1 : (t123.toList != (rst.extract 0 ((t123.size : Int) : Int).toNat).toList) = false := bne_eq_false_iff_eq.mpr c20
                              (try simp only [Int.toNat_natCast] at c20b1)
                              clear c20
                              simp only [Option.some.injEq, Prod.mk.injEq] at H
                              obtain ⟨rfl, rfl, rfl⟩ := H
                              have p10 : 0 ≤ (0 : Int) := (by omega)
                              have q10 : 0 < rst.size := (by have : (0 : Int) < (rst.size : Int) := of_decide_eq_true (by first | (with_reducible assumption) | assumption); omega)
                              have hx10 : ∀ h : 0 < rst.size, ((rst[0]'h).toNat : Int) = bt rst 0 := bt_at rst 0
                              clear p10
                              have qi10 : (0 < (rst.size : Int)) = True := eq_true (of_decide_eq_true (by first | (with_reducible assumption) | assumption))
                              replace q10 := eq_true q10
                              have p12 : 0 ≤ (1 : Int) := (by omega)
                              have q12 : 1 < rst.size := (by have : (1 : Int) < (rst.size : Int) := of_decide_eq_true (by first | (with_reducible assumption) | assumption); omega)
                              have hx12 : ∀ h : 1 < rst.size, ((rst[1]'h).toNat : Int) = bt rst 1 := bt_at rst 1
                              clear p12
                              have qi12 : (1 < (rst.size : Int)) = True := eq_true (of_decide_eq_true (by first | (with_reducible assumption) | assumption))
                              replace q12 := eq_true q12
                              go_wp2_with (first | (go_at_call 22; (with_reducible refine (frame_Put.calls kj2 (rst.extract 2 ((wrap64 (2 + (Go.bits .or .i64 (wrap64 (bt rst 0)) (wrap64 ((wrap64 (bt rst 1)) * 256))))) : Int).toNat) t123 t124 _ A16.out).mono ?_); rintro e w21 ⟨rfl, hb⟩; have n0_ := Aside0.mk (below_step (by repeat (first | (with_reducible first | exact HB.out | apply below_alloc | apply pw_below_drewN | apply below_drew1) | exact HB.out)) hb); clear HB; have HB := n0_; clear n0_; (try clear hb); (try clear hb2); (try clear hk); (try clear hi)))
                              repeat (go_quiet (first | (go_at_call 22; (with_reducible refine (frame_Put.calls kj2 (rst.extract 2 ((wrap64 (2 + (Go.bits .or .i64 (wrap64 (bt rst 0)) (wrap64 ((wrap64 (bt rst 1)) * 256))))) : Int).toNat) t123 t124 _ A16.out).mono ?_); rintro e w21 ⟨rfl, hb⟩; have n0_ := Aside0.mk (below_step (by repeat (first | (with_reducible first | exact HB.out | apply below_alloc | apply pw_below_drewN | apply below_drew1) | exact HB.out)) hb); clear HB; have HB := n0_; clear n0_; (try clear hb); (try clear hb2); (try clear hk); (try clear hi))); try go_wp2_with (first | (go_at_call 22; (with_reducible refine (frame_Put.calls kj2 (rst.extract 2 ((wrap64 (2 + (Go.bits .or .i64 (wrap64 (bt rst 0)) (wrap64 ((wrap64 (bt rst 1)) * 256))))) : Int).toNat) t123 t124 _ A16.out).mono ?_); rintro e w21 ⟨rfl, hb⟩; have n0_ := Aside0.mk (below_step (by repeat (first | (with_reducible first | exact HB.out | apply below_alloc | apply pw_below_drewN | apply below_drew1) | exact HB.out)) hb); clear HB; have HB := n0_; clear n0_; (try clear hb); (try clear hb2); (try clear hk); (try clear hi))))
                              go_ret3
                              exact ⟨by first | rfl | (simp [errW_none, errW_some] <;> rfl) | (simp [*, errW_none, errW_some] <;> rfl), by repeat (first | (with_reducible first | exact HB.out | apply below_alloc | apply pw_below_drewN | apply below_drew1) | exact HB.out)⟩
                            · rw [if_neg c20] at H
                              have c20b0 : (t123.toList == (rst.extract 0 ((t123.size : Int) : Int).toNat).toList) = false := beq_eq_false_iff_ne.mpr c20
                              (try simp only [Int.toNat_natCast] at c20b0)
                              have c20b1 : (t123.toList != (rst.extract 0 ((t123.size : Int) : Int).toNat).toList) = true := bne_iff_ne.mpr c20
                              (try simp only [Int.toNat_natCast] at c20b1)
                              simp only [Option.some.injEq, Prod.mk.injEq] at H
                              obtain ⟨rfl, rfl, rfl⟩ := H
                              have p10 : 0 ≤ (0 : Int) := (by omega)
                              have q10 : 0 < rst.size := (by have : (0 : Int) < (rst.size : Int) := of_decide_eq_true (by first | (with_reducible assumption) | assumption); omega)
                              have hx10 : ∀ h : 0 < rst.size, ((rst[0]'h).toNat : Int) = bt rst 0 := bt_at rst 0
                              clear p10
                              have qi10 : (0 < (rst.size : Int)) = True := eq_true (of_decide_eq_true (by first | (with_reducible assumption) | assumption))
                              replace q10 := eq_true q10
                              have p12 : 0 ≤ (1 : Int) := (by omega)
                              have q12 : 1 < rst.size := (by have : (1 : Int) < (rst.size : Int) := of_decide_eq_true (by first | (with_reducible assumption) | assumption); omega)
                              have hx12 : ∀ h : 1 < rst.size, ((rst[1]'h).toNat : Int) = bt rst 1 := bt_at rst 1
                              clear p12
                              have qi12 : (1 < (rst.size : Int)) = True := eq_true (of_decide_eq_true (by first | (with_reducible assumption) | assumption))
                              replace q12 := eq_true q12
                              go_wp2_with (first | (go_at_call 22; (with_reducible refine (frame_Put.calls kj2 (rst.extract 2 ((wrap64 (2 + (Go.bits .or .i64 (wrap64 (bt rst 0)) (wrap64 ((wrap64 (bt rst 1)) * 256))))) : Int).toNat) t123 t124 _ A16.out).mono ?_); rintro e w22 ⟨rfl, hb⟩; have n0_ := Aside0.mk (below_step (by repeat (first | (with_reducible first | exact HB.out | apply below_alloc | apply pw_below_drewN | apply below_drew1) | exact HB.out)) hb); clear HB; have HB := n0_; clear n0_; (try clear hb); (try clear hb2); (try clear hk); (try clear hi)))
                              repeat (go_quiet (first | (go_at_call 22; (with_reducible refine (frame_Put.calls kj2 (rst.extract 2 ((wrap64 (2 + (Go.bits .or .i64 (wrap64 (bt rst 0)) (wrap64 ((wrap64 (bt rst 1)) * 256))))) : Int).toNat) t123 t124 _ A16.out).mono ?_); rintro e w22 ⟨rfl, hb⟩; have n0_ := Aside0.mk (below_step (by repeat (first | (with_reducible first | exact HB.out | apply below_alloc | apply pw_below_drewN | apply below_drew1) | exact HB.out)) hb); clear HB; have HB := n0_; clear n0_; (try clear hb); (try clear hb2); (try clear hk); (try clear hi))); try go_wp2_with (first | (go_at_call 22; (with_reducible refine (frame_Put.calls kj2 (rst.extract 2 ((wrap64 (2 + (Go.bits .or .i64 (wrap64 (bt rst 0)) (wrap64 ((wrap64 (bt rst 1)) * 256))))) : Int).toNat) t123 t124 _ A16.out).mono ?_); rintro e w22 ⟨rfl, hb⟩; have n0_ := Aside0.mk (below_step (by repeat (first | (with_reducible first | exact HB.out | apply below_alloc | apply pw_below_drewN | apply below_drew1) | exact HB.out)) hb); clear HB; have HB := n0_; clear n0_; (try clear hb); (try clear hb2); (try clear hk); (try clear hi))))
                              go_ret3
                              exact ⟨by first | rfl | (simp [errW_none, errW_some] <;> rfl) | (simp [*, errW_none, errW_some] <;> rfl), by repeat (first | (with_reducible first | exact HB.out | apply below_alloc | apply pw_below_drewN | apply below_drew1) | exact HB.out)⟩
                          · rw [if_neg c19] at H
                            exact absurd H (by simp)
                        · rw [if_neg c18] at H
                          exact absurd H (by simp)
                      · rw [if_neg c17] at H
                        have c17b0 : (t124 == 0) = false := beq_eq_false_iff_ne.mpr c17
                        have c17b1 : (t124 != 0) = true := bne_iff_ne.mpr c17
                        simp only [Option.some.injEq, Prod.mk.injEq] at H
                        obtain ⟨rfl, rfl, rfl⟩ := H
                        have p10 : 0 ≤ (0 : Int) := (by omega)
                        have q10 : 0 < rst.size := (by have : (0 : Int) < (rst.size : Int) := of_decide_eq_true (by first | (with_reducible assumption) | assumption); omega)
                        have hx10 : ∀ h : 0 < rst.size, ((rst[0]'h).toNat : Int) = bt rst 0 := bt_at rst 0
                        clear p10
                        have qi10 : (0 < (rst.size : Int)) = True := eq_true (of_decide_eq_true (by first | (with_reducible assumption) | assumption))
                        replace q10 := eq_true q10
                        have p12 : 0 ≤ (1 : Int) := (by omega)
                        have q12 : 1 < rst.size := (by have : (1 : Int) < (rst.size : Int) := of_decide_eq_true (by first | (with_reducible assumption) | assumption); omega)
                        have hx12 : ∀ h : 1 < rst.size, ((rst[1]'h).toNat : Int) = bt rst 1 := bt_at rst 1
                        clear p12
                        have qi12 : (1 < (rst.size : Int)) = True := eq_true (of_decide_eq_true (by first | (with_reducible assumption) | assumption))
                        replace q12 := eq_true q12
                        go_wp2_with (first | (go_at_call 22; (with_reducible refine (frame_Put.calls kj2 (rst.extract 2 ((wrap64 (2 + (Go.bits .or .i64 (wrap64 (bt rst 0)) (wrap64 ((wrap64 (bt rst 1)) * 256))))) : Int).toNat) t123 t124 _ A16.out).mono ?_); rintro e w23 ⟨rfl, hb⟩; have n0_ := Aside0.mk (below_step (by repeat (first | (with_reducible first | exact HB.out | apply below_alloc | apply pw_below_drewN | apply below_drew1) | exact HB.out)) hb); clear HB; have HB := n0_; clear n0_; (try clear hb); (try clear hb2); (try clear hk); (try clear hi)))
                        repeat (go_quiet (first | (go_at_call 22; (with_reducible refine (frame_Put.calls kj2 (rst.extract 2 ((wrap64 (2 + (Go.bits .or .i64 (wrap64 (bt rst 0)) (wrap64 ((wrap64 (bt rst 1)) * 256))))) : Int).toNat) t123 t124 _ A16.out).mono ?_); rintro e w23 ⟨rfl, hb⟩; have n0_ := Aside0.mk (below_step (by repeat (first | (with_reducible first | exact HB.out | apply below_alloc | apply pw_below_drewN | apply below_drew1) | exact HB.out)) hb); clear HB; have HB := n0_; clear n0_; (try clear hb); (try clear hb2); (try clear hk); (try clear hi))); try go_wp2_with (first | (go_at_call 22; (with_reducible refine (frame_Put.calls kj2 (rst.extract 2 ((wrap64 (2 + (Go.bits .or .i64 (wrap64 (bt rst 0)) (wrap64 ((wrap64 (bt rst 1)) * 256))))) : Int).toNat) t123 t124 _ A16.out).mono ?_); rintro e w23 ⟨rfl, hb⟩; have n0_ := Aside0.mk (below_step (by repeat (first | (with_reducible first | exact HB.out | apply below_alloc | apply pw_below_drewN | apply below_drew1) | exact HB.out)) hb); clear HB; have HB := n0_; clear n0_; (try clear hb); (try clear hb2); (try clear hk); (try clear hi))))
                        go_ret3
                        exact ⟨by first | rfl | (simp [errW_none, errW_some] <;> rfl) | (simp [*, errW_none, errW_some] <;> rfl), by repeat (first | (with_reducible first | exact HB.out | apply below_alloc | apply pw_below_drewN | apply below_drew1) | exact HB.out)⟩
                    · rw [if_neg c15] at H
                      exact absurd H (by simp)
                  · rw [if_neg c14] at H
                    exact absurd H (by simp)
              · rw [if_neg c11] at H
                exact absurd H (by simp)
            · rw [if_neg c9] at H
              exact absurd H (by simp)
          · rw [if_neg c8] at H
            exact absurd H (by simp)
        · rw [if_neg c7] at H
          exact absurd H (by simp)

/-! ### journal_Load: function 32 -/
def journal_Load.l0 : Nat → ByteArray → List ByteArray → Int → Option (List ByteArray × Int)
  | 0, _, _, _ => none
  | k + 1, x0, x4, x5 => (frame_Get.f k x0 x5).bind fun bt125 => (if bt125.2.2 = 0 then (if x4.length < 8796093022208 then (journal_Load.l0 k x0 (x4 ++ [bt125.1]) bt125.2.1) else (none)) else (some (x4, x5)))
def journal_Load.f (k : Nat) (a0 : ByteArray) : Option (List ByteArray × Int) := if 0 ≤ (mn (a0.size : Int) 65536) then (if (mn (a0.size : Int) 65536) ≤ (a0.size : Int) then (journal_Load.l0 k (a0.extract 0 ((mn (a0.size : Int) 65536) : Int).toNat) ([] : List ByteArray) 0) else (none)) else (none)
theorem journal_Load.mono_l : ∀ k, (∀ y0 y1 y2, LeO (journal_Load.l0 k y0 y1 y2) (journal_Load.l0 (k + 1) y0 y1 y2))
  | 0 => fun _ _ _ r h => by simp [journal_Load.l0] at h
  | k + 1 => by
    have ih0 := journal_Load.mono_l k
    · intro y0 y1 y2
      unfold journal_Load.l0
      repeat' first
      | (with_reducible exact ih0 _ _ _)
      | (with_reducible exact frame_Get.mono _ _ _)
      | (with_reducible exact LeO.refl _)
      | (with_reducible exact LeO.none _)
      | (with_reducible refine LeO.ite ?_ ?_)
      | (with_reducible refine LeO.bind ?_ (fun _ => ?_))
      | exact ih0 _ _ _
      | exact frame_Get.mono _ _ _
      | exact LeO.none _
      | refine LeO.ite ?_ ?_
      | refine LeO.bind ?_ (fun _ => ?_)
theorem journal_Load.mono : ∀ a0 k, LeO (journal_Load.f k a0) (journal_Load.f (k + 1) a0) := by
  intro a0 k
  have ih0 := journal_Load.mono_l k
  unfold journal_Load.f
  repeat' first
      | (with_reducible exact ih0 _ _ _)
      | (with_reducible exact frame_Get.mono _ _ _)
      | (with_reducible exact LeO.refl _)
      | (with_reducible exact LeO.none _)
      | (with_reducible refine LeO.ite ?_ ?_)
      | (with_reducible refine LeO.bind ?_ (fun _ => ?_))
      | exact ih0 _ _ _
      | exact frame_Get.mono _ _ _
      | exact LeO.none _
      | refine LeO.ite ?_ ?_
      | refine LeO.bind ?_ (fun _ => ?_)
set_option maxHeartbeats 8000000 in
set_option maxRecDepth 100000 in
theorem journal_Load.calls (k : Nat) (a0 : ByteArray) (r1 : List ByteArray) (r2 : Int) (w : World) (h : journal_Load.f k a0 = some (r1, r2)) :
    Calls Try.prog 32 #[.string a0] w fun e w' => ∃ v0_ : Value, e = .returned (.tuple #[v0_, .int .i64 r2]) ∧ Kd.R Kd.string 9 w' w.heap.size (fun _ => True) v0_ r1 ∧ Below w.heap.size w w' := by
  have HB := Aside0.mk (Below.refl w.heap.size w)
  have H : (if 0 ≤ (mn (a0.size : Int) 65536) then (if (mn (a0.size : Int) 65536) ≤ (a0.size : Int) then (journal_Load.l0 k (a0.extract 0 ((mn (a0.size : Int) 65536) : Int).toNat) ([] : List ByteArray) 0) else (none)) else (none)) = some (r1, r2) := h
  clear h
  obtain ⟨ji2, hji2⟩ : ∃ j_ : Int, (mn (a0.size : Int) 65536) = j_ := ⟨_, rfl⟩
  replace H : (if 0 ≤ (ji2) then (if (ji2) ≤ (a0.size : Int) then (journal_Load.l0 k (a0.extract 0 ((ji2) : Int).toNat) ([] : List ByteArray) 0) else (none)) else (none)) = some (r1, r2) := by first | (rw [hji2] at H; exact H) | (simp only [hji2] at H ⊢; exact H)
  (try (have hji2h : ji2 ≤ 65536 := by (rw [← hji2]; unfold mn; (repeat' split) <;> omega)))
  (try (have hji2g : ji2 ≤ 64 := by omega))
  (try (have hji2l : 0 ≤ ji2 := by (rw [← hji2]; unfold mn; (repeat' split) <;> omega)))
  (try (have hji2m : 0 ≤ ji2 := by omega))
  have hji2_ : (if 65536 < (a0.size : Int) then 65536 else (a0.size : Int)) = ji2 := hji2
  by_cases c3 : 0 ≤ (ji2)
  · rw [if_pos c3] at H
    have c3b0 := eq_true c3
    have c3b1 : decide (0 ≤ (ji2)) = true := decide_eq_true c3
    clear c3
    by_cases c4 : (ji2) ≤ (a0.size : Int)
    · rw [if_pos c4] at H
      have c4b0 := eq_true c4
      have c4b1 : decide ((ji2) ≤ (a0.size : Int)) = true := decide_eq_true c4
      clear c4
      have H' := Aside0.mk H
      clear H
      go_enter Try.func32, Try.ntmps32
      go_wp2
      go_loopg [4, 5] k (fun kq v4 v5 w' => ∃ (x4_1 : List ByteArray) (x5_1 : Int), v5 = .int .i64 x5_1 ∧ Aside0 (journal_Load.l0 kq (a0.extract 0 ((ji2) : Int).toNat) x4_1 x5_1 = some (r1, r2)) ∧ Aside0 (kq ≤ k) ∧ Aside0 (Kd.R Kd.string 9 w' w.heap.size (fun _ => True) v4 x4_1) ∧ Aside0 (Below w.heap.size w w'))
      case atStart => exact ⟨(([] : List ByteArray)), (0), (by first | rfl | (simp; done) | (simp [*]; done)), H', ⟨Nat.le_refl _⟩, ⟨by first | exact Kd.R_nil _ _ _ _ _ | exact Kd.N_nil _ _ _ _ _ | exact Kd.V_nil _ _ _ _ _ | exact Kd.Q_nil _ _ _ _ _ | exact Kd.S_nil _ _ _ _ _⟩, ⟨by repeat (first | (with_reducible first | exact HB.out | apply below_alloc | apply pw_below_drewN | apply below_drew1) | exact HB.out)⟩⟩
      case round =>
        clear H'
        try clear p2
        try clear c3
        try clear c3b0
        try clear c3b1
        try clear c4
        try clear c4b0
        try clear c4b1
        obtain ⟨x4_1, x5_1, rfl, HA, HK1, HO_4, HB⟩ := hrel
        cases gk with
        | zero => exact absurd HA.out (by simp [journal_Load.l0])
        | succ k1 =>
          have H := HA.out
          clear HA
          simp only [journal_Load.l0] at H
          replace H := Option.bind_eq_some_iff.mp H
          obtain ⟨⟨t125, t126, t127⟩, A50, H⟩ := H
          replace H : (if t127 = 0 then (if x4_1.length < 8796093022208 then (journal_Load.l0 k1 (a0.extract 0 ((ji2) : Int).toNat) (x4_1 ++ [t125]) t126) else (none)) else (some (x4_1, x5_1))) = some (r1, r2) := H
          have A5 := Aside0.mk A50
          clear A50
          by_cases c6 : t127 = 0
          · rw [if_pos c6] at H
            have c6b0 : (t127 == 0) = true := beq_iff_eq.mpr c6
            have c6b1 : (t127 != 0) = false := bne_eq_false_iff_eq.mpr c6
            clear c6
            by_cases c7 : x4_1.length < 8796093022208
            · rw [if_pos c7] at H
              have LMc7 := Aside0.mk c7
              clear c7
              obtain ⟨y128, hy128⟩ : ∃ y_ : List ByteArray, y_ = (x4_1 ++ [t125]) := ⟨_, rfl⟩
              replace H : (journal_Load.l0 k1 (a0.extract 0 ((ji2) : Int).toNat) y128 t126) = some (r1, r2) := by first | (rw [hy128]; with_reducible exact H) | (have H2_ := (Option.bind_some _ _).symm.trans H; rw [hy128]; with_reducible exact H2_) | (have H2_ := (Option.bind_some _ _).symm.trans H; with_reducible exact H2_) | with_reducible exact H | (rw [hy128]; exact H) | exact H
              have Ny128 := Aside0.mk hy128
              clear hy128
              have H' := Aside0.mk H
              clear H
              go_wp2_with (first | ((with_reducible refine gate_callee (f := 24) rfl ?_); refine goesL_ (some 17) rfl rfl Try.func24 (by kernel_rfl) rfl #[.string (a0.extract 0 ((ji2) : Int).toNat), .int .i64 x5_1] rfl (by (try simp only [List.map_toArray, List.map_cons, List.map_nil]); first | done | (simp only [hji2]; rfl) | rfl | (simp only [List.length_drop, List.length_take]; rfl)) ?_; (with_reducible refine (frame_Get.calls k1 (a0.extract 0 ((ji2) : Int).toNat) x5_1 t125 t126 t127 _ A5.out).mono ?_); rintro e w8 ⟨rfl, hb⟩; refine ⟨_, rfl, ?_⟩; have n0_ := Aside0.mk (Kd.R_below (by (with_reducible repeat (first | apply Kd.R_alloc | apply Kd.R_drewN | apply Kd.R_drew)); exact HO_4.out) hb); have n1_ := Aside0.mk (below_step (by repeat (first | (with_reducible first | exact HB.out | apply below_alloc | apply pw_below_drewN | apply below_drew1) | exact HB.out)) hb); clear HO_4; clear HB; have HO_4 := n0_; have HB := n1_; clear n0_ n1_; (try clear hb); (try clear hb2); (try clear hk); (try clear hi)) | ((with_reducible refine gate_builtin (b := .append) (xs := #[.tmp 25, .tmp 27]) rfl ?_); at_builtin; refine Kd.R_append Kd.string (w0 := w) w.heap.size rfl (.tmp 25) (.tmp 27) 42 9 (.string ⟨#[]⟩) 16 rfl Try.underlying42 info9 rfl (by decide) (by omega) u4 x4_1 t125 [.string t125] (fun _ => True) (fun _ => False) rfl rfl ?aP (fun _ hk => hk.elim) ?aF ?aO ?aB ?aS ?aL ?_; (case aP => exact rfl); (case aB => exact (by repeat (first | (with_reducible first | exact HB.out | apply below_alloc | apply pw_below_drewN | apply below_drew1) | exact HB.out))); (case aF => exact (fun _ _ => trivial)); (case aO => exact (by (with_reducible repeat (first | apply Kd.R_alloc | apply Kd.R_drewN | apply Kd.R_drew)); exact HO_4.out)); (case aS => exact (below_size (by repeat (first | (with_reducible first | exact HB.out | apply below_alloc | apply pw_below_drewN | apply below_drew1) | exact HB.out)))); (case aL => have := LMc7.out; omega); intro v129 w9 ho hb hg hat; rw [← Ny128.out] at ho; have n0_ := Aside0.mk (hb); have n1_ := Aside0.mk (ho); clear HB; clear HO_4; have HB := n0_; have HO130 := n1_; clear n0_ n1_; clear ho hb hg hat))
              go_roundg k1
              case measure => have := HK1.out; omega
              case rel => exact ⟨(y128), (t126), (by first | rfl | (simp; done) | (simp [*]; done)), H', ⟨by have := HK1.out; omega⟩, ⟨by (with_reducible repeat (first | apply Kd.R_alloc | apply Kd.R_drewN | apply Kd.R_drew)); exact HO130.out⟩, ⟨by repeat (first | (with_reducible first | exact HB.out | apply below_alloc | apply pw_below_drewN | apply below_drew1) | exact HB.out)⟩⟩
            · rw [if_neg c7] at H
              exact absurd H (by simp)
          · rw [if_neg c6] at H
            have c6b0 : (t127 == 0) = false := beq_eq_false_iff_ne.mpr c6
            have c6b1 : (t127 != 0) = true := bne_iff_ne.mpr c6
            simp only [Option.some.injEq, Prod.mk.injEq] at H
            obtain ⟨rfl, rfl⟩ := H
            go_wp2_with (first | ((with_reducible refine gate_callee (f := 24) rfl ?_); refine goesL_ (some 17) rfl rfl Try.func24 (by kernel_rfl) rfl #[.string (a0.extract 0 ((ji2) : Int).toNat), .int .i64 x5_1] rfl (by (try simp only [List.map_toArray, List.map_cons, List.map_nil]); first | done | (simp only [hji2]; rfl) | rfl | (simp only [List.length_drop, List.length_take]; rfl)) ?_; (with_reducible refine (frame_Get.calls k1 (a0.extract 0 ((ji2) : Int).toNat) x5_1 t125 t126 t127 _ A5.out).mono ?_); rintro e w10 ⟨rfl, hb⟩; refine ⟨_, rfl, ?_⟩; have n0_ := Aside0.mk (Kd.R_below (by (with_reducible repeat (first | apply Kd.R_alloc | apply Kd.R_drewN | apply Kd.R_drew)); exact HO_4.out) hb); have n1_ := Aside0.mk (below_step (by repeat (first | (with_reducible first | exact HB.out | apply below_alloc | apply pw_below_drewN | apply below_drew1) | exact HB.out)) hb); clear HO_4; clear HB; have HO_4 := n0_; have HB := n1_; clear n0_ n1_; (try clear hb); (try clear hb2); (try clear hk); (try clear hi)))
            go_ret2
            exact ⟨_, by first | rfl | (simp [errW_none, errW_some] <;> rfl) | (simp only [← hji2]; first | rfl | (simp [errW_none, errW_some] <;> rfl)) | (simp [*, errW_none, errW_some] <;> rfl), by (with_reducible repeat (first | apply Kd.R_alloc | apply Kd.R_drewN | apply Kd.R_drew)); exact HO_4.out, by repeat (first | (with_reducible first | exact HB.out | apply below_alloc | apply pw_below_drewN | apply below_drew1) | exact HB.out)⟩
    · rw [if_neg c4] at H
      exact absurd H (by simp)
  · rw [if_neg c3] at H
    exact absurd H (by simp)

/-! ### grafterlaw0_SameTexts: function 34 -/
def grafterlaw0_SameTexts.l0 : Nat → List ByteArray → List ByteArray → Int → Option (Bool)
  | 0, _, _, _ => none
  | k + 1, x0, x1, x5 => if x5 < (x0.length : Int) then (if 0 ≤ x5 then (if x5 < (x1.length : Int) then (if (rdOf ByteArray.empty x0 x5).toList = (rdOf ByteArray.empty x1 x5).toList then (grafterlaw0_SameTexts.l0 k x0 x1 (wrap64 (x5 + 1))) else (some false)) else (none)) else (none)) else (some true)
def grafterlaw0_SameTexts.f (k : Nat) (l0 : List ByteArray) (l1 : List ByteArray) : Option (Bool) := if (l0.length : Int) = (l1.length : Int) then (grafterlaw0_SameTexts.l0 k l0 l1 0) else (some false)
theorem grafterlaw0_SameTexts.mono_l : ∀ k, (∀ y0 y1 y2, LeO (grafterlaw0_SameTexts.l0 k y0 y1 y2) (grafterlaw0_SameTexts.l0 (k + 1) y0 y1 y2))
  | 0 => fun _ _ _ r h => by simp [grafterlaw0_SameTexts.l0] at h
  | k + 1 => by
    have ih0 := grafterlaw0_SameTexts.mono_l k
    · intro y0 y1 y2
      unfold grafterlaw0_SameTexts.l0
      repeat' first
      | (with_reducible exact ih0 _ _ _)
      | (with_reducible exact LeO.refl _)
      | (with_reducible exact LeO.none _)
      | (with_reducible refine LeO.ite ?_ ?_)
      | (with_reducible refine LeO.bind ?_ (fun _ => ?_))
      | exact ih0 _ _ _
      | exact LeO.none _
      | refine LeO.ite ?_ ?_
      | refine LeO.bind ?_ (fun _ => ?_)
theorem grafterlaw0_SameTexts.mono : ∀ a0 a1 k, LeO (grafterlaw0_SameTexts.f k a0 a1) (grafterlaw0_SameTexts.f (k + 1) a0 a1) := by
  intro a0 a1 k
  have ih0 := grafterlaw0_SameTexts.mono_l k
  unfold grafterlaw0_SameTexts.f
  repeat' first
      | (with_reducible exact ih0 _ _ _)
      | (with_reducible exact LeO.refl _)
      | (with_reducible exact LeO.none _)
      | (with_reducible refine LeO.ite ?_ ?_)
      | (with_reducible refine LeO.bind ?_ (fun _ => ?_))
      | exact ih0 _ _ _
      | exact LeO.none _
      | refine LeO.ite ?_ ?_
      | refine LeO.bind ?_ (fun _ => ?_)
set_option maxHeartbeats 8000000 in
set_option maxRecDepth 100000 in
theorem grafterlaw0_SameTexts.calls (k : Nat) (A0 : Option Addr) (c0 : Nat) (l0 : List ByteArray) (A1 : Option Addr) (c1 : Nat) (l1 : List ByteArray) (r : Bool) (w : World) (hr0 : Kd.C Kd.string w A0 l0.length l0) (hc0 : l0.length ≤ c0) (hr1 : Kd.C Kd.string w A1 l1.length l1) (hc1 : l1.length ≤ c1) (h : grafterlaw0_SameTexts.f k l0 l1 = some r) :
    Calls Try.prog 34 #[.slice A0 l0.length c0, .slice A1 l1.length c1] w fun e w' => e = .returned (.bool r) ∧ Drawn0 w w' := by
  have HR0 := Aside0.mk hr0
  have HC0 := Aside0.mk hc0
  clear hr0 hc0
  have HR1 := Aside0.mk hr1
  have HC1 := Aside0.mk hc1
  clear hr1 hc1
  have H : (if (l0.length : Int) = (l1.length : Int) then (grafterlaw0_SameTexts.l0 k l0 l1 0) else (some false)) = some r := h
  clear h
  by_cases c3 : (l0.length : Int) = (l1.length : Int)
  · rw [if_pos c3] at H
    have c3b0 : ((l0.length : Int) == (l1.length : Int)) = true := beq_iff_eq.mpr c3
    have c3b1 : ((l0.length : Int) != (l1.length : Int)) = false := bne_eq_false_iff_eq.mpr c3
    have c3b2 : (l0.length == l1.length) = true := by first | simpa using c3 | (simp at c3 ⊢; omega)
    clear c3
    have H' := Aside0.mk H
    clear H
    go_enter Try.func34, Try.ntmps34
    go_wp2
    repeat (go_quiet (fail); try go_wp2)
    go_loopg [5] k (fun kq v5 w' => ∃ (x5_1 : Int), v5 = .int .i64 x5_1 ∧ Aside0 (grafterlaw0_SameTexts.l0 kq l0 l1 x5_1 = some r) ∧ Aside0 (kq ≤ k) ∧ Drawn0 w w')
    case atStart => exact ⟨(0), (by first | rfl | (simp; done) | (simp [*]; done)), H', ⟨Nat.le_refl _⟩, by repeat (first | exact Drawn0.refl _ | apply Drawn0.step)⟩
    case round =>
      clear H'
      try clear c1
      try clear p2
      try clear c3
      try clear c3b0
      try clear c3b1
      try clear c3b2
      obtain ⟨x5_1, rfl, HA, HK1, ⟨m1, rfl⟩⟩ := hrel
      cases gk with
      | zero => exact absurd HA.out (by simp [grafterlaw0_SameTexts.l0])
      | succ k1 =>
        have H := HA.out
        clear HA
        simp only [grafterlaw0_SameTexts.l0] at H
        by_cases c4 : x5_1 < (l0.length : Int)
        · rw [if_pos c4] at H
          have c4b0 : decide (x5_1 < (l0.length : Int)) = true := decide_eq_true c4
          clear c4
          by_cases c5 : 0 ≤ x5_1
          · rw [if_pos c5] at H
            have c5b0 : decide (0 ≤ x5_1) = true := decide_eq_true c5
            clear c5
            by_cases c6 : x5_1 < (l1.length : Int)
            · rw [if_pos c6] at H
              have c6b0 : decide (x5_1 < (l1.length : Int)) = true := decide_eq_true c6
              clear c6
              by_cases c7 : (rdOf ByteArray.empty l0 x5_1).toList = (rdOf ByteArray.empty l1 x5_1).toList
              · rw [if_pos c7] at H
                have c7b0 : ((rdOf ByteArray.empty l0 x5_1).toList == (rdOf ByteArray.empty l1 x5_1).toList) = true := beq_iff_eq.mpr c7
                have c7b1 : ((rdOf ByteArray.empty l0 x5_1).toList != (rdOf ByteArray.empty l1 x5_1).toList) = false := bne_eq_false_iff_eq.mpr c7
                clear c7
                have H' := Aside0.mk H
                clear H
                have p131 : 0 ≤ (x5_1 : Int) := of_decide_eq_true (by first | (with_reducible assumption) | assumption)
                have q131 : x5_1 < (l0.length : Int) := of_decide_eq_true (by first | (with_reducible assumption) | assumption)
                obtain ⟨ad131, e131, hx131_0⟩ := Kd.at_string HR0.out x5_1 p131 q131
                cases e131
                replace p131 := eq_true p131
                replace q131 := eq_true q131
                have p132 : 0 ≤ (x5_1 : Int) := of_decide_eq_true (by first | (with_reducible assumption) | assumption)
                have q132 : x5_1 < (l1.length : Int) := of_decide_eq_true (by first | (with_reducible assumption) | assumption)
                obtain ⟨ad132, e132, hx132_0⟩ := Kd.at_string HR1.out x5_1 p132 q132
                cases e132
                replace p132 := eq_true p132
                replace q132 := eq_true q132
                go_wp2
                repeat (go_quiet (fail); try go_wp2)
                go_roundg k1
                case measure => have := HK1.out; omega
                case rel => exact ⟨(wrap64 (x5_1 + 1)), (by first | rfl | (simp; done) | (simp [*]; done)), H', ⟨by have := HK1.out; omega⟩, by repeat (first | exact Drawn0.refl _ | apply Drawn0.step)⟩
              · rw [if_neg c7] at H
                have c7b0 : ((rdOf ByteArray.empty l0 x5_1).toList == (rdOf ByteArray.empty l1 x5_1).toList) = false := beq_eq_false_iff_ne.mpr c7
                have c7b1 : ((rdOf ByteArray.empty l0 x5_1).toList != (rdOf ByteArray.empty l1 x5_1).toList) = true := bne_iff_ne.mpr c7
                obtain rfl := Option.some.inj H
                have p131 : 0 ≤ (x5_1 : Int) := of_decide_eq_true (by first | (with_reducible assumption) | assumption)
                have q131 : x5_1 < (l0.length : Int) := of_decide_eq_true (by first | (with_reducible assumption) | assumption)
                obtain ⟨ad131, e131, hx131_0⟩ := Kd.at_string HR0.out x5_1 p131 q131
                cases e131
                replace p131 := eq_true p131
                replace q131 := eq_true q131
                have p132 : 0 ≤ (x5_1 : Int) := of_decide_eq_true (by first | (with_reducible assumption) | assumption)
                have q132 : x5_1 < (l1.length : Int) := of_decide_eq_true (by first | (with_reducible assumption) | assumption)
                obtain ⟨ad132, e132, hx132_0⟩ := Kd.at_string HR1.out x5_1 p132 q132
                cases e132
                replace p132 := eq_true p132
                replace q132 := eq_true q132
                go_wp2
                repeat (go_quiet (fail); try go_wp2)
                go_ret
                exact ⟨by first | rfl | (simp; done) | (simp [*]; done), by repeat (first | exact Drawn0.refl _ | apply Drawn0.step)⟩
            · rw [if_neg c6] at H
              exact absurd H (by simp)
          · rw [if_neg c5] at H
            exact absurd H (by simp)
        · rw [if_neg c4] at H
          have c4b0 : decide (x5_1 < (l0.length : Int)) = false := decide_eq_false c4
          clear c4
          obtain rfl := Option.some.inj H
          go_wp2
          repeat (go_quiet (fail); try go_wp2)
          go_ret
          exact ⟨by first | rfl | (simp; done) | (simp [*]; done), by repeat (first | exact Drawn0.refl _ | apply Drawn0.step)⟩
  · rw [if_neg c3] at H
    have c3b0 : ((l0.length : Int) == (l1.length : Int)) = false := beq_eq_false_iff_ne.mpr c3
    have c3b1 : ((l0.length : Int) != (l1.length : Int)) = true := bne_iff_ne.mpr c3
    have c3b2 : (l0.length == l1.length) = false := by first | simpa using c3 | (simp at c3 ⊢; omega)
    obtain rfl := Option.some.inj H
    go_enter Try.func34, Try.ntmps34
    go_wp2
    repeat (go_quiet (fail); try go_wp2)
    go_ret
    exact ⟨by first | rfl | (simp; done) | (simp [*]; done), by repeat (first | exact Drawn0.refl _ | apply Drawn0.step)⟩

/-! ### grafterlaw17_awake: function 37 -/
def grafterlaw17_awake.f (k : Nat)  : Option (Bool) := (journal_Text.f k (([(⟨#[97]⟩ : ByteArray), (⟨#[]⟩ : ByteArray), (⟨#[98, 99]⟩ : ByteArray)] : List ByteArray))).bind fun bt136 => ((journal_Load.f k bt136.1).bind fun bt138 => (if bt136.1.size + 1 ≤ 9223372036854775807 then ((journal_Load.f k (bt136.1 ++ (⟨#[120]⟩ : ByteArray))).bind fun bt142 => (if (bt136.1.size : Int) < 3 then (some false) else (if 0 ≤ (wrap64 ((bt136.1.size : Int) - 1)) then (if (wrap64 ((bt136.1.size : Int) - 1)) ≤ (bt136.1.size : Int) then ((journal_Load.f k (bt136.1.extract 0 ((wrap64 ((bt136.1.size : Int) - 1)) : Int).toNat)).bind fun bt146 => (if 1025 ≤ 281474976710656 then ((journal_Text.f k (([strOfNums (List.replicate 1025 0)] : List ByteArray))).bind fun bt156 => (if (bt136.1.size : Int) = 21 then ((grafterlaw0_Num.f bt136.2).bind fun t158 => (if t158 = 0 then ((grafterlaw0_SameTexts.f k bt138.1 (([(⟨#[97]⟩ : ByteArray), (⟨#[]⟩ : ByteArray), (⟨#[98, 99]⟩ : ByteArray)] : List ByteArray))).bind fun t162 => (if t162 = true then (if bt138.2 = 21 then ((grafterlaw0_SameTexts.f k bt142.1 bt138.1).bind fun t163 => (if t163 = true then (if bt142.2 = 21 then ((grafterlaw0_SameTexts.f k bt146.1 (([(⟨#[97]⟩ : ByteArray), (⟨#[]⟩ : ByteArray)] : List ByteArray))).bind fun t167 => (if t167 = true then (if bt146.2 = 13 then ((grafterlaw0_Num.f bt156.2).bind fun t168 => (some (t168 == 1700))) else (some false)) else (some false))) else (some false)) else (some false))) else (some false)) else (some false))) else (some false))) else (some false))) else (none))) else (none)) else (none)))) else (none)))
theorem grafterlaw17_awake.mono : ∀ k, LeO (grafterlaw17_awake.f k ) (grafterlaw17_awake.f (k + 1) ) := by
  intro  k
  unfold grafterlaw17_awake.f
  repeat' first
      | (with_reducible exact grafterlaw0_SameTexts.mono _ _ _)
      | (with_reducible exact journal_Load.mono _ _)
      | (with_reducible exact journal_Text.mono _ _)
      | (with_reducible exact LeO.refl _)
      | (with_reducible exact LeO.none _)
      | (with_reducible refine LeO.ite ?_ ?_)
      | (with_reducible refine LeO.bind ?_ (fun _ => ?_))
      | exact grafterlaw0_SameTexts.mono _ _ _
      | exact journal_Load.mono _ _
      | exact journal_Text.mono _ _
      | exact LeO.none _
      | refine LeO.ite ?_ ?_
      | refine LeO.bind ?_ (fun _ => ?_)
set_option maxHeartbeats 8000000 in
set_option maxRecDepth 100000 in
theorem grafterlaw17_awake.calls (k : Nat)  (r : Bool) (w : World) (hrt : r = true) (h : grafterlaw17_awake.f k  = some r) :
    Calls Try.prog 37 #[] w fun e w' => e = .returned (.bool r) ∧ Below w.heap.size w w' := by
  have HRT := Aside0.mk hrt
  clear hrt
  have HB := Aside0.mk (Below.refl w.heap.size w)
  have H : ((journal_Text.f k (([(⟨#[97]⟩ : ByteArray), (⟨#[]⟩ : ByteArray), (⟨#[98, 99]⟩ : ByteArray)] : List ByteArray))).bind fun bt136 => ((journal_Load.f k bt136.1).bind fun bt138 => (if bt136.1.size + 1 ≤ 9223372036854775807 then ((journal_Load.f k (bt136.1 ++ (⟨#[120]⟩ : ByteArray))).bind fun bt142 => (if (bt136.1.size : Int) < 3 then (some false) else (if 0 ≤ (wrap64 ((bt136.1.size : Int) - 1)) then (if (wrap64 ((bt136.1.size : Int) - 1)) ≤ (bt136.1.size : Int) then ((journal_Load.f k (bt136.1.extract 0 ((wrap64 ((bt136.1.size : Int) - 1)) : Int).toNat)).bind fun bt146 => (if 1025 ≤ 281474976710656 then ((journal_Text.f k (([strOfNums (List.replicate 1025 0)] : List ByteArray))).bind fun bt156 => (if (bt136.1.size : Int) = 21 then ((grafterlaw0_Num.f bt136.2).bind fun t158 => (if t158 = 0 then ((grafterlaw0_SameTexts.f k bt138.1 (([(⟨#[97]⟩ : ByteArray), (⟨#[]⟩ : ByteArray), (⟨#[98, 99]⟩ : ByteArray)] : List ByteArray))).bind fun t162 => (if t162 = true then (if bt138.2 = 21 then ((grafterlaw0_SameTexts.f k bt142.1 bt138.1).bind fun t163 => (if t163 = true then (if bt142.2 = 21 then ((grafterlaw0_SameTexts.f k bt146.1 (([(⟨#[97]⟩ : ByteArray), (⟨#[]⟩ : ByteArray)] : List ByteArray))).bind fun t167 => (if t167 = true then (if bt146.2 = 13 then ((grafterlaw0_Num.f bt156.2).bind fun t168 => (some (t168 == 1700))) else (some false)) else (some false))) else (some false)) else (some false))) else (some false)) else (some false))) else (some false))) else (some false))) else (none))) else (none)) else (none)))) else (none)))) = some r := h
  clear h
  obtain ⟨y133, hy133⟩ : ∃ y_ : List ByteArray, y_ = (([(⟨#[97]⟩ : ByteArray), (⟨#[]⟩ : ByteArray), (⟨#[98, 99]⟩ : ByteArray)] : List ByteArray)) := ⟨_, rfl⟩
  replace H : ((journal_Text.f k y133).bind fun bt136 => ((journal_Load.f k bt136.1).bind fun bt138 => (if bt136.1.size + 1 ≤ 9223372036854775807 then ((journal_Load.f k (bt136.1 ++ (⟨#[120]⟩ : ByteArray))).bind fun bt142 => (if (bt136.1.size : Int) < 3 then (some false) else (if 0 ≤ (wrap64 ((bt136.1.size : Int) - 1)) then (if (wrap64 ((bt136.1.size : Int) - 1)) ≤ (bt136.1.size : Int) then ((journal_Load.f k (bt136.1.extract 0 ((wrap64 ((bt136.1.size : Int) - 1)) : Int).toNat)).bind fun bt146 => (if 1025 ≤ 281474976710656 then ((journal_Text.f k (([strOfNums (List.replicate 1025 0)] : List ByteArray))).bind fun bt156 => (if (bt136.1.size : Int) = 21 then ((grafterlaw0_Num.f bt136.2).bind fun t158 => (if t158 = 0 then ((grafterlaw0_SameTexts.f k bt138.1 (([(⟨#[97]⟩ : ByteArray), (⟨#[]⟩ : ByteArray), (⟨#[98, 99]⟩ : ByteArray)] : List ByteArray))).bind fun t162 => (if t162 = true then (if bt138.2 = 21 then ((grafterlaw0_SameTexts.f k bt142.1 bt138.1).bind fun t163 => (if t163 = true then (if bt142.2 = 21 then ((grafterlaw0_SameTexts.f k bt146.1 (([(⟨#[97]⟩ : ByteArray), (⟨#[]⟩ : ByteArray)] : List ByteArray))).bind fun t167 => (if t167 = true then (if bt146.2 = 13 then ((grafterlaw0_Num.f bt156.2).bind fun t168 => (some (t168 == 1700))) else (some false)) else (some false))) else (some false)) else (some false))) else (some false)) else (some false))) else (some false))) else (some false))) else (none))) else (none)) else (none)))) else (none)))) = some r := by first | (rw [hy133]; with_reducible exact H) | (have H2_ := (Option.bind_some _ _).symm.trans H; rw [hy133]; with_reducible exact H2_) | (have H2_ := (Option.bind_some _ _).symm.trans H; with_reducible exact H2_) | with_reducible exact H | (rw [hy133]; exact H) | exact H
  have Ny133 := Aside0.mk hy133
  clear hy133
  replace H := Option.bind_eq_some_iff.mp H
  obtain ⟨⟨t136, t137⟩, A10, H⟩ := H
  replace H : ((journal_Load.f k t136).bind fun bt138 => (if t136.size + 1 ≤ 9223372036854775807 then ((journal_Load.f k (t136 ++ (⟨#[120]⟩ : ByteArray))).bind fun bt142 => (if (t136.size : Int) < 3 then (some false) else (if 0 ≤ (wrap64 ((t136.size : Int) - 1)) then (if (wrap64 ((t136.size : Int) - 1)) ≤ (t136.size : Int) then ((journal_Load.f k (t136.extract 0 ((wrap64 ((t136.size : Int) - 1)) : Int).toNat)).bind fun bt146 => (if 1025 ≤ 281474976710656 then ((journal_Text.f k (([strOfNums (List.replicate 1025 0)] : List ByteArray))).bind fun bt156 => (if (t136.size : Int) = 21 then ((grafterlaw0_Num.f t137).bind fun t158 => (if t158 = 0 then ((grafterlaw0_SameTexts.f k bt138.1 (([(⟨#[97]⟩ : ByteArray), (⟨#[]⟩ : ByteArray), (⟨#[98, 99]⟩ : ByteArray)] : List ByteArray))).bind fun t162 => (if t162 = true then (if bt138.2 = 21 then ((grafterlaw0_SameTexts.f k bt142.1 bt138.1).bind fun t163 => (if t163 = true then (if bt142.2 = 21 then ((grafterlaw0_SameTexts.f k bt146.1 (([(⟨#[97]⟩ : ByteArray), (⟨#[]⟩ : ByteArray)] : List ByteArray))).bind fun t167 => (if t167 = true then (if bt146.2 = 13 then ((grafterlaw0_Num.f bt156.2).bind fun t168 => (some (t168 == 1700))) else (some false)) else (some false))) else (some false)) else (some false))) else (some false)) else (some false))) else (some false))) else (some false))) else (none))) else (none)) else (none)))) else (none))) = some r := H
  have A1 := Aside0.mk A10
  clear A10
  replace H := Option.bind_eq_some_iff.mp H
  obtain ⟨⟨t138, t139⟩, A20, H⟩ := H
  replace H : (if t136.size + 1 ≤ 9223372036854775807 then ((journal_Load.f k (t136 ++ (⟨#[120]⟩ : ByteArray))).bind fun bt142 => (if (t136.size : Int) < 3 then (some false) else (if 0 ≤ (wrap64 ((t136.size : Int) - 1)) then (if (wrap64 ((t136.size : Int) - 1)) ≤ (t136.size : Int) then ((journal_Load.f k (t136.extract 0 ((wrap64 ((t136.size : Int) - 1)) : Int).toNat)).bind fun bt146 => (if 1025 ≤ 281474976710656 then ((journal_Text.f k (([strOfNums (List.replicate 1025 0)] : List ByteArray))).bind fun bt156 => (if (t136.size : Int) = 21 then ((grafterlaw0_Num.f t137).bind fun t158 => (if t158 = 0 then ((grafterlaw0_SameTexts.f k t138 (([(⟨#[97]⟩ : ByteArray), (⟨#[]⟩ : ByteArray), (⟨#[98, 99]⟩ : ByteArray)] : List ByteArray))).bind fun t162 => (if t162 = true then (if t139 = 21 then ((grafterlaw0_SameTexts.f k bt142.1 t138).bind fun t163 => (if t163 = true then (if bt142.2 = 21 then ((grafterlaw0_SameTexts.f k bt146.1 (([(⟨#[97]⟩ : ByteArray), (⟨#[]⟩ : ByteArray)] : List ByteArray))).bind fun t167 => (if t167 = true then (if bt146.2 = 13 then ((grafterlaw0_Num.f bt156.2).bind fun t168 => (some (t168 == 1700))) else (some false)) else (some false))) else (some false)) else (some false))) else (some false)) else (some false))) else (some false))) else (some false))) else (none))) else (none)) else (none)))) else (none)) = some r := H
  have A2 := Aside0.mk A20
  clear A20
  by_cases c3 : t136.size + 1 ≤ 9223372036854775807
  · rw [if_pos c3] at H
    have c3b0 := eq_true c3
    have c3b1 : decide (t136.size + 1 ≤ 9223372036854775807) = true := decide_eq_true c3
    try have c3b2 : (9223372036854775807 < t136.size + 1) = False := eq_false (Nat.not_lt.2 c3)
    try simp only [ByteArray.size_append] at c3b2
    replace H := Option.bind_eq_some_iff.mp H
    obtain ⟨⟨t142, t143⟩, A40, H⟩ := H
    replace H : (if (t136.size : Int) < 3 then (some false) else (if 0 ≤ (wrap64 ((t136.size : Int) - 1)) then (if (wrap64 ((t136.size : Int) - 1)) ≤ (t136.size : Int) then ((journal_Load.f k (t136.extract 0 ((wrap64 ((t136.size : Int) - 1)) : Int).toNat)).bind fun bt146 => (if 1025 ≤ 281474976710656 then ((journal_Text.f k (([strOfNums (List.replicate 1025 0)] : List ByteArray))).bind fun bt156 => (if (t136.size : Int) = 21 then ((grafterlaw0_Num.f t137).bind fun t158 => (if t158 = 0 then ((grafterlaw0_SameTexts.f k t138 (([(⟨#[97]⟩ : ByteArray), (⟨#[]⟩ : ByteArray), (⟨#[98, 99]⟩ : ByteArray)] : List ByteArray))).bind fun t162 => (if t162 = true then (if t139 = 21 then ((grafterlaw0_SameTexts.f k t142 t138).bind fun t163 => (if t163 = true then (if t143 = 21 then ((grafterlaw0_SameTexts.f k bt146.1 (([(⟨#[97]⟩ : ByteArray), (⟨#[]⟩ : ByteArray)] : List ByteArray))).bind fun t167 => (if t167 = true then (if bt146.2 = 13 then ((grafterlaw0_Num.f bt156.2).bind fun t168 => (some (t168 == 1700))) else (some false)) else (some false))) else (some false)) else (some false))) else (some false)) else (some false))) else (some false))) else (some false))) else (none))) else (none)) else (none))) = some r := H
    have A4 := Aside0.mk A40
    clear A40
    by_cases c5 : (t136.size : Int) < 3
    · rw [if_pos c5] at H
      have c5b0 : decide ((t136.size : Int) < 3) = true := decide_eq_true c5
      have c5b1 : decide (t136.size < 3) = true := decide_eq_true (by omega)
      clear c5
      exact absurd ((Option.some.inj H).trans HRT.out) Bool.false_ne_true
    · rw [if_neg c5] at H
      have c5b0 : decide ((t136.size : Int) < 3) = false := decide_eq_false c5
      have c5b1 : decide (t136.size < 3) = false := decide_eq_false (by omega)
      clear c5
      obtain ⟨ji12, hji12⟩ : ∃ j_ : Int, (wrap64 ((t136.size : Int) - 1)) = j_ := ⟨_, rfl⟩
      replace H : (if 0 ≤ (ji12) then (if (ji12) ≤ (t136.size : Int) then ((journal_Load.f k (t136.extract 0 ((ji12) : Int).toNat)).bind fun bt146 => (if 1025 ≤ 281474976710656 then ((journal_Text.f k (([strOfNums (List.replicate 1025 0)] : List ByteArray))).bind fun bt156 => (if (t136.size : Int) = 21 then ((grafterlaw0_Num.f t137).bind fun t158 => (if t158 = 0 then ((grafterlaw0_SameTexts.f k t138 (([(⟨#[97]⟩ : ByteArray), (⟨#[]⟩ : ByteArray), (⟨#[98, 99]⟩ : ByteArray)] : List ByteArray))).bind fun t162 => (if t162 = true then (if t139 = 21 then ((grafterlaw0_SameTexts.f k t142 t138).bind fun t163 => (if t163 = true then (if t143 = 21 then ((grafterlaw0_SameTexts.f k bt146.1 (([(⟨#[97]⟩ : ByteArray), (⟨#[]⟩ : ByteArray)] : List ByteArray))).bind fun t167 => (if t167 = true then (if bt146.2 = 13 then ((grafterlaw0_Num.f bt156.2).bind fun t168 => (some (t168 == 1700))) else (some false)) else (some false))) else (some false)) else (some false))) else (some false)) else (some false))) else (some false))) else (some false))) else (none))) else (none)) else (none)) = some r := by first | (rw [hji12] at H; exact H) | (simp only [hji12] at H ⊢; exact H)
      (try rw [hji12] at A1)
      (try rw [hji12] at A2)
      (try rw [hji12] at A4)
      have hji12w : (IntKind.i64.wrap ((t136.size : Int) - 1)) = ji12 := (i64_w _).trans hji12
      by_cases c13 : 0 ≤ (ji12)
      · rw [if_pos c13] at H
        have c13b0 := eq_true c13
        have c13b1 : decide (0 ≤ (ji12)) = true := decide_eq_true c13
        clear c13
        by_cases c14 : (ji12) ≤ (t136.size : Int)
        · rw [if_pos c14] at H
          have c14b0 := eq_true c14
          have c14b1 : decide ((ji12) ≤ (t136.size : Int)) = true := decide_eq_true c14
          clear c14
          replace H := Option.bind_eq_some_iff.mp H
          obtain ⟨⟨t146, t147⟩, A150, H⟩ := H
          replace H : (if 1025 ≤ 281474976710656 then ((journal_Text.f k (([strOfNums (List.replicate 1025 0)] : List ByteArray))).bind fun bt156 => (if (t136.size : Int) = 21 then ((grafterlaw0_Num.f t137).bind fun t158 => (if t158 = 0 then ((grafterlaw0_SameTexts.f k t138 (([(⟨#[97]⟩ : ByteArray), (⟨#[]⟩ : ByteArray), (⟨#[98, 99]⟩ : ByteArray)] : List ByteArray))).bind fun t162 => (if t162 = true then (if t139 = 21 then ((grafterlaw0_SameTexts.f k t142 t138).bind fun t163 => (if t163 = true then (if t143 = 21 then ((grafterlaw0_SameTexts.f k t146 (([(⟨#[97]⟩ : ByteArray), (⟨#[]⟩ : ByteArray)] : List ByteArray))).bind fun t167 => (if t167 = true then (if t147 = 13 then ((grafterlaw0_Num.f bt156.2).bind fun t168 => (some (t168 == 1700))) else (some false)) else (some false))) else (some false)) else (some false))) else (some false)) else (some false))) else (some false))) else (some false))) else (none)) = some r := H
          have A15 := Aside0.mk A150
          clear A150
          by_cases c16 : 1025 ≤ 281474976710656
          · rw [if_pos c16] at H
            have c16b0 := eq_true c16
            have c16b1 : decide (1025 ≤ 281474976710656) = true := decide_eq_true c16
            clear c16
            obtain ⟨y150, hy150⟩ : ∃ y_ : List Int, y_ = (List.replicate 1025 0) := ⟨_, rfl⟩
            replace H : ((journal_Text.f k (([strOfNums y150] : List ByteArray))).bind fun bt156 => (if (t136.size : Int) = 21 then ((grafterlaw0_Num.f t137).bind fun t158 => (if t158 = 0 then ((grafterlaw0_SameTexts.f k t138 (([(⟨#[97]⟩ : ByteArray), (⟨#[]⟩ : ByteArray), (⟨#[98, 99]⟩ : ByteArray)] : List ByteArray))).bind fun t162 => (if t162 = true then (if t139 = 21 then ((grafterlaw0_SameTexts.f k t142 t138).bind fun t163 => (if t163 = true then (if t143 = 21 then ((grafterlaw0_SameTexts.f k t146 (([(⟨#[97]⟩ : ByteArray), (⟨#[]⟩ : ByteArray)] : List ByteArray))).bind fun t167 => (if t167 = true then (if t147 = 13 then ((grafterlaw0_Num.f bt156.2).bind fun t168 => (some (t168 == 1700))) else (some false)) else (some false))) else (some false)) else (some false))) else (some false)) else (some false))) else (some false))) else (some false))) = some r := by first | (rw [hy150]; with_reducible exact H) | (have H2_ := (Option.bind_some _ _).symm.trans H; rw [hy150]; with_reducible exact H2_) | (have H2_ := (Option.bind_some _ _).symm.trans H; with_reducible exact H2_) | with_reducible exact H | (rw [hy150]; exact H) | exact H
            have Ny150 := Aside0.mk hy150
            clear hy150
            obtain ⟨y153, hy153⟩ : ∃ y_ : List ByteArray, y_ = (([strOfNums y150] : List ByteArray)) := ⟨_, rfl⟩
            replace H : ((journal_Text.f k y153).bind fun bt156 => (if (t136.size : Int) = 21 then ((grafterlaw0_Num.f t137).bind fun t158 => (if t158 = 0 then ((grafterlaw0_SameTexts.f k t138 (([(⟨#[97]⟩ : ByteArray), (⟨#[]⟩ : ByteArray), (⟨#[98, 99]⟩ : ByteArray)] : List ByteArray))).bind fun t162 => (if t162 = true then (if t139 = 21 then ((grafterlaw0_SameTexts.f k t142 t138).bind fun t163 => (if t163 = true then (if t143 = 21 then ((grafterlaw0_SameTexts.f k t146 (([(⟨#[97]⟩ : ByteArray), (⟨#[]⟩ : ByteArray)] : List ByteArray))).bind fun t167 => (if t167 = true then (if t147 = 13 then ((grafterlaw0_Num.f bt156.2).bind fun t168 => (some (t168 == 1700))) else (some false)) else (some false))) else (some false)) else (some false))) else (some false)) else (some false))) else (some false))) else (some false))) = some r := by first | (rw [hy153]; with_reducible exact H) | (have H2_ := (Option.bind_some _ _).symm.trans H; rw [hy153]; with_reducible exact H2_) | (have H2_ := (Option.bind_some _ _).symm.trans H; with_reducible exact H2_) | with_reducible exact H | (rw [hy153]; exact H) | exact H
            have Ny153 := Aside0.mk hy153
            clear hy153
            replace H := Option.bind_eq_some_iff.mp H
            obtain ⟨⟨t156, t157⟩, A170, H⟩ := H
            replace H : (if (t136.size : Int) = 21 then ((grafterlaw0_Num.f t137).bind fun t158 => (if t158 = 0 then ((grafterlaw0_SameTexts.f k t138 (([(⟨#[97]⟩ : ByteArray), (⟨#[]⟩ : ByteArray), (⟨#[98, 99]⟩ : ByteArray)] : List ByteArray))).bind fun t162 => (if t162 = true then (if t139 = 21 then ((grafterlaw0_SameTexts.f k t142 t138).bind fun t163 => (if t163 = true then (if t143 = 21 then ((grafterlaw0_SameTexts.f k t146 (([(⟨#[97]⟩ : ByteArray), (⟨#[]⟩ : ByteArray)] : List ByteArray))).bind fun t167 => (if t167 = true then (if t147 = 13 then ((grafterlaw0_Num.f t157).bind fun t168 => (some (t168 == 1700))) else (some false)) else (some false))) else (some false)) else (some false))) else (some false)) else (some false))) else (some false))) else (some false)) = some r := H
            have A17 := Aside0.mk A170
            clear A170
            by_cases c18 : (t136.size : Int) = 21
            · rw [if_pos c18] at H
              have c18b0 : ((t136.size : Int) == 21) = true := beq_iff_eq.mpr c18
              have c18b1 : ((t136.size : Int) != 21) = false := bne_eq_false_iff_eq.mpr c18
              clear c18
              replace H := Option.bind_eq_some_iff.mp H
              obtain ⟨t158, A190, H⟩ := H
              replace H : (if t158 = 0 then ((grafterlaw0_SameTexts.f k t138 (([(⟨#[97]⟩ : ByteArray), (⟨#[]⟩ : ByteArray), (⟨#[98, 99]⟩ : ByteArray)] : List ByteArray))).bind fun t162 => (if t162 = true then (if t139 = 21 then ((grafterlaw0_SameTexts.f k t142 t138).bind fun t163 => (if t163 = true then (if t143 = 21 then ((grafterlaw0_SameTexts.f k t146 (([(⟨#[97]⟩ : ByteArray), (⟨#[]⟩ : ByteArray)] : List ByteArray))).bind fun t167 => (if t167 = true then (if t147 = 13 then ((grafterlaw0_Num.f t157).bind fun t168 => (some (t168 == 1700))) else (some false)) else (some false))) else (some false)) else (some false))) else (some false)) else (some false))) else (some false)) = some r := H
              have A19 := Aside0.mk A190
              clear A190
              by_cases c20 : t158 = 0
              · rw [if_pos c20] at H
                have c20b0 : (t158 == 0) = true := beq_iff_eq.mpr c20
                have c20b1 : (t158 != 0) = false := bne_eq_false_iff_eq.mpr c20
                clear c20
                obtain ⟨y159, hy159⟩ : ∃ y_ : List ByteArray, y_ = (([(⟨#[97]⟩ : ByteArray), (⟨#[]⟩ : ByteArray), (⟨#[98, 99]⟩ : ByteArray)] : List ByteArray)) := ⟨_, rfl⟩
                replace H : ((grafterlaw0_SameTexts.f k t138 y159).bind fun t162 => (if t162 = true then (if t139 = 21 then ((grafterlaw0_SameTexts.f k t142 t138).bind fun t163 => (if t163 = true then (if t143 = 21 then ((grafterlaw0_SameTexts.f k t146 (([(⟨#[97]⟩ : ByteArray), (⟨#[]⟩ : ByteArray)] : List ByteArray))).bind fun t167 => (if t167 = true then (if t147 = 13 then ((grafterlaw0_Num.f t157).bind fun t168 => (some (t168 == 1700))) else (some false)) else (some false))) else (some false)) else (some false))) else (some false)) else (some false))) = some r := by first | (rw [hy159]; with_reducible exact H) | (have H2_ := (Option.bind_some _ _).symm.trans H; rw [hy159]; with_reducible exact H2_) | (have H2_ := (Option.bind_some _ _).symm.trans H; with_reducible exact H2_) | with_reducible exact H | (rw [hy159]; exact H) | exact H
                have Ny159 := Aside0.mk hy159
                clear hy159
                replace H := Option.bind_eq_some_iff.mp H
                obtain ⟨t162, A210, H⟩ := H
                replace H : (if t162 = true then (if t139 = 21 then ((grafterlaw0_SameTexts.f k t142 t138).bind fun t163 => (if t163 = true then (if t143 = 21 then ((grafterlaw0_SameTexts.f k t146 (([(⟨#[97]⟩ : ByteArray), (⟨#[]⟩ : ByteArray)] : List ByteArray))).bind fun t167 => (if t167 = true then (if t147 = 13 then ((grafterlaw0_Num.f t157).bind fun t168 => (some (t168 == 1700))) else (some false)) else (some false))) else (some false)) else (some false))) else (some false)) else (some false)) = some r := H
                have A21 := Aside0.mk A210
                clear A210
                by_cases c22 : t162 = true
                · subst c22
                  have H1 : (if t139 = 21 then ((grafterlaw0_SameTexts.f k t142 t138).bind fun t163 => (if t163 = true then (if t143 = 21 then ((grafterlaw0_SameTexts.f k t146 (([(⟨#[97]⟩ : ByteArray), (⟨#[]⟩ : ByteArray)] : List ByteArray))).bind fun t167 => (if t167 = true then (if t147 = 13 then ((grafterlaw0_Num.f t157).bind fun t168 => (some (t168 == 1700))) else (some false)) else (some false))) else (some false)) else (some false))) else (some false)) = some r := by rw [if_pos rfl] at H; exact H
                  clear H
                  have H := H1
                  clear H1
                  by_cases c23 : t139 = 21
                  · rw [if_pos c23] at H
                    have c23b0 : (t139 == 21) = true := beq_iff_eq.mpr c23
                    have c23b1 : (t139 != 21) = false := bne_eq_false_iff_eq.mpr c23
                    clear c23
                    replace H := Option.bind_eq_some_iff.mp H
                    obtain ⟨t163, A240, H⟩ := H
                    replace H : (if t163 = true then (if t143 = 21 then ((grafterlaw0_SameTexts.f k t146 (([(⟨#[97]⟩ : ByteArray), (⟨#[]⟩ : ByteArray)] : List ByteArray))).bind fun t167 => (if t167 = true then (if t147 = 13 then ((grafterlaw0_Num.f t157).bind fun t168 => (some (t168 == 1700))) else (some false)) else (some false))) else (some false)) else (some false)) = some r := H
                    have A24 := Aside0.mk A240
                    clear A240
                    by_cases c25 : t163 = true
                    · subst c25
                      have H1 : (if t143 = 21 then ((grafterlaw0_SameTexts.f k t146 (([(⟨#[97]⟩ : ByteArray), (⟨#[]⟩ : ByteArray)] : List ByteArray))).bind fun t167 => (if t167 = true then (if t147 = 13 then ((grafterlaw0_Num.f t157).bind fun t168 => (some (t168 == 1700))) else (some false)) else (some false))) else (some false)) = some r := by rw [if_pos rfl] at H; exact H
                      clear H
                      have H := H1
                      clear H1
                      by_cases c26 : t143 = 21
                      · rw [if_pos c26] at H
                        have c26b0 : (t143 == 21) = true := beq_iff_eq.mpr c26
                        have c26b1 : (t143 != 21) = false := bne_eq_false_iff_eq.mpr c26
                        clear c26
                        obtain ⟨y164, hy164⟩ : ∃ y_ : List ByteArray, y_ = (([(⟨#[97]⟩ : ByteArray), (⟨#[]⟩ : ByteArray)] : List ByteArray)) := ⟨_, rfl⟩
                        replace H : ((grafterlaw0_SameTexts.f k t146 y164).bind fun t167 => (if t167 = true then (if t147 = 13 then ((grafterlaw0_Num.f t157).bind fun t168 => (some (t168 == 1700))) else (some false)) else (some false))) = some r := by first | (rw [hy164]; with_reducible exact H) | (have H2_ := (Option.bind_some _ _).symm.trans H; rw [hy164]; with_reducible exact H2_) | (have H2_ := (Option.bind_some _ _).symm.trans H; with_reducible exact H2_) | with_reducible exact H | (rw [hy164]; exact H) | exact H
                        have Ny164 := Aside0.mk hy164
                        clear hy164
                        replace H := Option.bind_eq_some_iff.mp H
                        obtain ⟨t167, A270, H⟩ := H
                        replace H : (if t167 = true then (if t147 = 13 then ((grafterlaw0_Num.f t157).bind fun t168 => (some (t168 == 1700))) else (some false)) else (some false)) = some r := H
                        have A27 := Aside0.mk A270
                        clear A270
                        by_cases c28 : t167 = true
                        · subst c28
                          have H1 : (if t147 = 13 then ((grafterlaw0_Num.f t157).bind fun t168 => (some (t168 == 1700))) else (some false)) = some r := by rw [if_pos rfl] at H; exact H
                          clear H
                          have H := H1
                          clear H1
                          by_cases c29 : t147 = 13
                          · rw [if_pos c29] at H
                            have c29b0 : (t147 == 13) = true := beq_iff_eq.mpr c29
                            have c29b1 : (t147 != 13) = false := bne_eq_false_iff_eq.mpr c29
                            clear c29
                            replace H := Option.bind_eq_some_iff.mp H
                            obtain ⟨t168, A300, H⟩ := H
                            replace H : (some (t168 == 1700)) = some r := H
                            have A30 := Aside0.mk A300
                            clear A300
                            obtain rfl := Option.some.inj H
                            go_enter Try.func37, Try.ntmps37
                            go_wp2_with (first | ((with_reducible refine gate_dst (N := 12) rfl ?_); (try (refine gate_guard (by rfl) ?_; dsimp only)); refine Kd.R_lit Kd.string _ 9 ?hg (N := 12) ?hd (xs := ([(⟨#[97]⟩ : ByteArray), (⟨#[]⟩ : ByteArray), (⟨#[98, 99]⟩ : ByteArray)] : List ByteArray)) (inner := [.string (⟨#[97]⟩ : ByteArray), .string (⟨#[]⟩ : ByteArray), .string (⟨#[98, 99]⟩ : ByteArray)]) (ok := fun _ => True) (okp := fun _ => True) ?hr ?hp (fun _ hk => hk) trivial (Below.refl _ _) (Nat.le_refl _) (by simp) ?_; (case hd => rfl); (case hg => rfl); (case hr => first | (go_simp; done) | (go_simp; rfl)); (case hp => exact (Reps.one (show Kd.M Kd.string _ _ _ (⟨#[97]⟩ : ByteArray) [.string (⟨#[97]⟩ : ByteArray)] from rfl) (Reps.one (show Kd.M Kd.string _ _ _ (⟨#[]⟩ : ByteArray) [.string (⟨#[]⟩ : ByteArray)] from rfl) (Reps.one (show Kd.M Kd.string _ _ _ (⟨#[98, 99]⟩ : ByteArray) [.string (⟨#[98, 99]⟩ : ByteArray)] from rfl) (Reps.none _ _))))); intro v134 w31 ho32 hb hg_ hnew_; clear hg_ hnew_; (first | rw [← Ny133.out] at ho32 | (simp only [Int.reduceToNat] at ho32; rw [← Ny133.out] at ho32)); have n0_ := Aside0.mk (Kd.R_lower ho32 (below_size (by repeat (first | (with_reducible first | exact HB.out | apply below_alloc | apply pw_below_drewN | apply below_drew1) | exact HB.out)))); have n1_ := Aside0.mk (below_step (by repeat (first | (with_reducible first | exact HB.out | apply below_alloc | apply pw_below_drewN | apply below_drew1) | exact HB.out)) hb); clear HB; have HO135 := n0_; have HB := n1_; clear n0_ n1_; clear hb ho32; obtain ⟨Ao33, co33, eo33⟩ := Kd.R_slice HO135.out; subst eo33) | ((with_reducible refine gate_callee (f := 30) rfl ?_); refine goesL_ (some 13) rfl rfl Try.func30 (by kernel_rfl) rfl #[.slice Ao33 y133.length co33] rfl (by (try simp only [List.map_toArray, List.map_cons, List.map_nil]); first | done | rfl | (simp only [List.length_drop, List.length_take]; rfl)) ?_; (with_reducible refine (journal_Text.calls k _ _ y133 t136 t137 _ ?side1 ?side2 A1.out).mono ?_); (case side1 => repeat (first | exact (Kd.R_reads' HO135.out).2.2 | (with_reducible refine Kd.C_alloc ?_ _) | (with_reducible refine Kd.C_drewN ?_ _) | (with_reducible refine Kd.C_drew ?_))); (case side2 => exact (Kd.R_reads' HO135.out).2.1); rintro e w34 ⟨rfl, hb⟩; refine ⟨_, rfl, ?_⟩; have n0_ := Aside0.mk (Kd.R_below (by (with_reducible repeat (first | apply Kd.R_alloc | apply Kd.R_drewN | apply Kd.R_drew)); exact HO135.out) hb); have n1_ := Aside0.mk (below_step (by repeat (first | (with_reducible first | exact HB.out | apply below_alloc | apply pw_below_drewN | apply below_drew1) | exact HB.out)) hb); clear HO135; clear HB; have HO135 := n0_; have HB := n1_; clear n0_ n1_; (try clear hb); (try clear hb2); (try clear hk); (try clear hi); (try clear A1)) | ((with_reducible refine gate_callee (f := 32) rfl ?_); refine goesL_ (some 18) rfl rfl Try.func32 (by kernel_rfl) rfl #[.string t136] rfl (by (try simp only [List.map_toArray, List.map_cons, List.map_nil]); first | done | rfl | (simp only [List.length_drop, List.length_take]; rfl)) ?_; (with_reducible refine (journal_Load.calls k t136 t138 t139 _ A2.out).mono ?_); rintro e w35 ⟨v140, rfl, ho0, hb⟩; refine ⟨_, rfl, ?_⟩; have n0_ := Aside0.mk (Kd.R_elder' (by (with_reducible repeat (first | apply Kd.R_alloc | apply Kd.R_drewN | apply Kd.R_drew)); exact HO135.out) (Kd.R_base ho0) hb); have n1_ := Aside0.mk (Kd.R_lower (Kd.R_new' ho0 (Kd.R_lt (by (with_reducible repeat (first | apply Kd.R_alloc | apply Kd.R_drewN | apply Kd.R_drew)); exact HO135.out))) (below_size (by repeat (first | (with_reducible first | exact HB.out | apply below_alloc | apply pw_below_drewN | apply below_drew1) | exact HB.out)))); have n2_ := Aside0.mk (below_step (by repeat (first | (with_reducible first | exact HB.out | apply below_alloc | apply pw_below_drewN | apply below_drew1) | exact HB.out)) hb); clear HO135; clear HB; have HO135 := n0_; have HO141 := n1_; have HB := n2_; clear n0_ n1_ n2_; (try clear hb); (try clear hb2); (try clear hk); (try clear hi); (try clear ho0); (try clear A2)) | ((with_reducible refine gate_callee (f := 32) rfl ?_); refine goesL_ (some 24) rfl rfl Try.func32 (by kernel_rfl) rfl #[.string (t136 ++ (⟨#[120]⟩ : ByteArray))] rfl (by (try simp only [List.map_toArray, List.map_cons, List.map_nil]); first | done | rfl | (simp only [List.length_drop, List.length_take]; rfl)) ?_; (with_reducible refine (journal_Load.calls k (t136 ++ (⟨#[120]⟩ : ByteArray)) t142 t143 _ A4.out).mono ?_); rintro e w36 ⟨v144, rfl, ho0, hb⟩; refine ⟨_, rfl, ?_⟩; have n0_ := Aside0.mk (Kd.R_elder' (by (with_reducible repeat (first | apply Kd.R_alloc | apply Kd.R_drewN | apply Kd.R_drew)); exact HO135.out) (Kd.R_base ho0) hb); have n1_ := Aside0.mk (Kd.R_elder' (by (with_reducible repeat (first | apply Kd.R_alloc | apply Kd.R_drewN | apply Kd.R_drew)); exact HO141.out) (Kd.R_base ho0) hb); have n2_ := Aside0.mk (Kd.R_lower (Kd.R_new' (Kd.R_new' ho0 (Kd.R_lt (by (with_reducible repeat (first | apply Kd.R_alloc | apply Kd.R_drewN | apply Kd.R_drew)); exact HO135.out))) (Kd.R_lt (by (with_reducible repeat (first | apply Kd.R_alloc | apply Kd.R_drewN | apply Kd.R_drew)); exact HO141.out))) (below_size (by repeat (first | (with_reducible first | exact HB.out | apply below_alloc | apply pw_below_drewN | apply below_drew1) | exact HB.out)))); have n3_ := Aside0.mk (below_step (by repeat (first | (with_reducible first | exact HB.out | apply below_alloc | apply pw_below_drewN | apply below_drew1) | exact HB.out)) hb); clear HO135; clear HO141; clear HB; have HO135 := n0_; have HO141 := n1_; have HO145 := n2_; have HB := n3_; clear n0_ n1_ n2_ n3_; (try clear hb); (try clear hb2); (try clear hk); (try clear hi); (try clear ho0); (try clear A4)) | ((with_reducible refine gate_callee (f := 32) rfl ?_); refine goesL_ (some 36) rfl rfl Try.func32 (by kernel_rfl) rfl #[.string (t136.extract 0 ((ji12) : Int).toNat)] rfl (by (try simp only [List.map_toArray, List.map_cons, List.map_nil]); first | done | (simp only [hji12]; rfl) | rfl | (simp only [List.length_drop, List.length_take]; rfl)) ?_; (with_reducible refine (journal_Load.calls k (t136.extract 0 ((ji12) : Int).toNat) t146 t147 _ A15.out).mono ?_); rintro e w37 ⟨v148, rfl, ho0, hb⟩; refine ⟨_, rfl, ?_⟩; have n0_ := Aside0.mk (Kd.R_elder' (by (with_reducible repeat (first | apply Kd.R_alloc | apply Kd.R_drewN | apply Kd.R_drew)); exact HO135.out) (Kd.R_base ho0) hb); have n1_ := Aside0.mk (Kd.R_elder' (by (with_reducible repeat (first | apply Kd.R_alloc | apply Kd.R_drewN | apply Kd.R_drew)); exact HO141.out) (Kd.R_base ho0) hb); have n2_ := Aside0.mk (Kd.R_elder' (by (with_reducible repeat (first | apply Kd.R_alloc | apply Kd.R_drewN | apply Kd.R_drew)); exact HO145.out) (Kd.R_base ho0) hb); have n3_ := Aside0.mk (Kd.R_lower (Kd.R_new' (Kd.R_new' (Kd.R_new' ho0 (Kd.R_lt (by (with_reducible repeat (first | apply Kd.R_alloc | apply Kd.R_drewN | apply Kd.R_drew)); exact HO135.out))) (Kd.R_lt (by (with_reducible repeat (first | apply Kd.R_alloc | apply Kd.R_drewN | apply Kd.R_drew)); exact HO141.out))) (Kd.R_lt (by (with_reducible repeat (first | apply Kd.R_alloc | apply Kd.R_drewN | apply Kd.R_drew)); exact HO145.out))) (below_size (by repeat (first | (with_reducible first | exact HB.out | apply below_alloc | apply pw_below_drewN | apply below_drew1) | exact HB.out)))); have n4_ := Aside0.mk (below_step (by repeat (first | (with_reducible first | exact HB.out | apply below_alloc | apply pw_below_drewN | apply below_drew1) | exact HB.out)) hb); clear HO135; clear HO141; clear HO145; clear HB; have HO135 := n0_; have HO141 := n1_; have HO145 := n2_; have HO149 := n3_; have HB := n4_; clear n0_ n1_ n2_ n3_ n4_; (try clear hb); (try clear hb2); (try clear hk); (try clear hi); (try clear ho0); (try clear A15)) | ((with_reducible refine gate_dst (N := 40) rfl ?_); (try (refine gate_guard (by rfl) ?_; dsimp only)); refine Kd.R_make (Kd.int .u8) _ 5 rfl (N := 40) rfl 34 _ _ rfl 1025 rfl rfl Try.underlying34 (.int .u8 0) 1 info5 rfl (by decide) (by omega) 0 (ok := fun _ => True) (okp := fun _ => True) rfl (fun _ hk => hk) trivial (by omega) (by omega) (Below.refl _ _) (Nat.le_refl _) ?_; intro v151 w38 ho39 hb hg_ hnew_; clear hg_ hnew_; (first | rw [← Ny150.out] at ho39 | (simp only [Int.reduceToNat] at ho39; rw [← Ny150.out] at ho39)); have n0_ := Aside0.mk (Kd.R_below (by (with_reducible repeat (first | apply Kd.R_alloc | apply Kd.R_drewN | apply Kd.R_drew)); exact HO135.out) hb); have n1_ := Aside0.mk (Kd.R_below (by (with_reducible repeat (first | apply Kd.R_alloc | apply Kd.R_drewN | apply Kd.R_drew)); exact HO141.out) hb); have n2_ := Aside0.mk (Kd.R_below (by (with_reducible repeat (first | apply Kd.R_alloc | apply Kd.R_drewN | apply Kd.R_drew)); exact HO145.out) hb); have n3_ := Aside0.mk (Kd.R_below (by (with_reducible repeat (first | apply Kd.R_alloc | apply Kd.R_drewN | apply Kd.R_drew)); exact HO149.out) hb); have n4_ := Aside0.mk (Kd.R_lower ho39 (below_size (by repeat (first | (with_reducible first | exact HB.out | apply below_alloc | apply pw_below_drewN | apply below_drew1) | exact HB.out)))); have n5_ := Aside0.mk (below_step (by repeat (first | (with_reducible first | exact HB.out | apply below_alloc | apply pw_below_drewN | apply below_drew1) | exact HB.out)) hb); clear HO135; clear HO141; clear HO145; clear HO149; clear HB; have HO135 := n0_; have HO141 := n1_; have HO145 := n2_; have HO149 := n3_; have HO152 := n4_; have HB := n5_; clear n0_ n1_ n2_ n3_ n4_ n5_; clear hb ho39; have hcv40 := own_string (P := Try.prog) Try.underlying34 Try.underlying5 Try.underlying9 (Kd.own_of_R HO152.out)) | ((with_reducible refine gate_dst (N := 42) rfl ?_); (try (refine gate_guard (by rfl) ?_; dsimp only)); refine Kd.R_lit Kd.string _ 9 ?hg (N := 42) ?hd (xs := ([strOfNums y150] : List ByteArray)) (inner := [.string (strOfNums y150)]) (ok := fun _ => True) (okp := fun _ => True) ?hr ?hp (fun _ hk => hk) trivial (Below.refl _ _) (Nat.le_refl _) (by simp) ?_; (case hd => rfl); (case hg => rfl); (case hr => first | (go_simp; done) | (go_simp; rfl)); (case hp => exact (Reps.one (show Kd.M Kd.string _ _ _ (strOfNums y150) [.string (strOfNums y150)] from rfl) (Reps.none _ _))); intro v154 w41 ho42 hb hg_ hnew_; clear hg_ hnew_; (first | rw [← Ny153.out] at ho42 | (simp only [Int.reduceToNat] at ho42; rw [← Ny153.out] at ho42)); have n0_ := Aside0.mk (Kd.R_elder' (by (with_reducible repeat (first | apply Kd.R_alloc | apply Kd.R_drewN | apply Kd.R_drew)); exact HO135.out) (Kd.R_base ho42) hb); have n1_ := Aside0.mk (Kd.R_elder' (by (with_reducible repeat (first | apply Kd.R_alloc | apply Kd.R_drewN | apply Kd.R_drew)); exact HO141.out) (Kd.R_base ho42) hb); have n2_ := Aside0.mk (Kd.R_elder' (by (with_reducible repeat (first | apply Kd.R_alloc | apply Kd.R_drewN | apply Kd.R_drew)); exact HO145.out) (Kd.R_base ho42) hb); have n3_ := Aside0.mk (Kd.R_elder' (by (with_reducible repeat (first | apply Kd.R_alloc | apply Kd.R_drewN | apply Kd.R_drew)); exact HO149.out) (Kd.R_base ho42) hb); have n4_ := Aside0.mk (Kd.R_below (by (with_reducible repeat (first | apply Kd.R_alloc | apply Kd.R_drewN | apply Kd.R_drew)); exact HO152.out) hb); have n5_ := Aside0.mk (Kd.R_lower (Kd.R_new' (Kd.R_new' (Kd.R_new' (Kd.R_new' ho42 (Kd.R_lt (by (with_reducible repeat (first | apply Kd.R_alloc | apply Kd.R_drewN | apply Kd.R_drew)); exact HO135.out))) (Kd.R_lt (by (with_reducible repeat (first | apply Kd.R_alloc | apply Kd.R_drewN | apply Kd.R_drew)); exact HO141.out))) (Kd.R_lt (by (with_reducible repeat (first | apply Kd.R_alloc | apply Kd.R_drewN | apply Kd.R_drew)); exact HO145.out))) (Kd.R_lt (by (with_reducible repeat (first | apply Kd.R_alloc | apply Kd.R_drewN | apply Kd.R_drew)); exact HO149.out))) (below_size (by repeat (first | (with_reducible first | exact HB.out | apply below_alloc | apply pw_below_drewN | apply below_drew1) | exact HB.out)))); have n6_ := Aside0.mk (below_step (by repeat (first | (with_reducible first | exact HB.out | apply below_alloc | apply pw_below_drewN | apply below_drew1) | exact HB.out)) hb); clear HO135; clear HO141; clear HO145; clear HO149; clear HO152; clear HB; have HO135 := n0_; have HO141 := n1_; have HO145 := n2_; have HO149 := n3_; have HO152 := n4_; have HO155 := n5_; have HB := n6_; clear n0_ n1_ n2_ n3_ n4_ n5_ n6_; clear hb ho42; obtain ⟨Ao43, co43, eo43⟩ := Kd.R_slice HO155.out; subst eo43) | ((with_reducible refine gate_callee (f := 30) rfl ?_); refine goesL_ (some 43) rfl rfl Try.func30 (by kernel_rfl) rfl #[.slice Ao43 y153.length co43] rfl (by (try simp only [List.map_toArray, List.map_cons, List.map_nil]); first | done | rfl | (simp only [List.length_drop, List.length_take]; rfl)) ?_; (with_reducible refine (journal_Text.calls k _ _ y153 t156 t157 _ ?side1 ?side2 A17.out).mono ?_); (case side1 => repeat (first | exact (Kd.R_reads' HO155.out).2.2 | (with_reducible refine Kd.C_alloc ?_ _) | (with_reducible refine Kd.C_drewN ?_ _) | (with_reducible refine Kd.C_drew ?_))); (case side2 => exact (Kd.R_reads' HO155.out).2.1); rintro e w44 ⟨rfl, hb⟩; refine ⟨_, rfl, ?_⟩; have n0_ := Aside0.mk (Kd.R_below (by (with_reducible repeat (first | apply Kd.R_alloc | apply Kd.R_drewN | apply Kd.R_drew)); exact HO135.out) hb); have n1_ := Aside0.mk (Kd.R_below (by (with_reducible repeat (first | apply Kd.R_alloc | apply Kd.R_drewN | apply Kd.R_drew)); exact HO141.out) hb); have n2_ := Aside0.mk (Kd.R_below (by (with_reducible repeat (first | apply Kd.R_alloc | apply Kd.R_drewN | apply Kd.R_drew)); exact HO145.out) hb); have n3_ := Aside0.mk (Kd.R_below (by (with_reducible repeat (first | apply Kd.R_alloc | apply Kd.R_drewN | apply Kd.R_drew)); exact HO149.out) hb); have n4_ := Aside0.mk (Kd.R_below (by (with_reducible repeat (first | apply Kd.R_alloc | apply Kd.R_drewN | apply Kd.R_drew)); exact HO152.out) hb); have n5_ := Aside0.mk (Kd.R_below (by (with_reducible repeat (first | apply Kd.R_alloc | apply Kd.R_drewN | apply Kd.R_drew)); exact HO155.out) hb); have n6_ := Aside0.mk (below_step (by repeat (first | (with_reducible first | exact HB.out | apply below_alloc | apply pw_below_drewN | apply below_drew1) | exact HB.out)) hb); clear HO135; clear HO141; clear HO145; clear HO149; clear HO152; clear HO155; clear HB; have HO135 := n0_; have HO141 := n1_; have HO145 := n2_; have HO149 := n3_; have HO152 := n4_; have HO155 := n5_; have HB := n6_; clear n0_ n1_ n2_ n3_ n4_ n5_ n6_; (try clear hb); (try clear hb2); (try clear hk); (try clear hi); (try clear A17)) | (go_at_call 26; (with_reducible refine (grafterlaw0_Num.calls t137 t158 _ A19.out).mono ?_); rintro e w' ⟨rfl, ⟨nd, rfl⟩⟩; (try clear A19)) | ((with_reducible refine gate_dst (N := 56) rfl ?_); (try (refine gate_guard (by rfl) ?_; dsimp only)); refine Kd.R_lit Kd.string _ 9 ?hg (N := 56) ?hd (xs := ([(⟨#[97]⟩ : ByteArray), (⟨#[]⟩ : ByteArray), (⟨#[98, 99]⟩ : ByteArray)] : List ByteArray)) (inner := [.string (⟨#[97]⟩ : ByteArray), .string (⟨#[]⟩ : ByteArray), .string (⟨#[98, 99]⟩ : ByteArray)]) (ok := fun _ => True) (okp := fun _ => True) ?hr ?hp (fun _ hk => hk) trivial (Below.refl _ _) (Nat.le_refl _) (by simp) ?_; (case hd => rfl); (case hg => rfl); (case hr => first | (go_simp; done) | (go_simp; rfl)); (case hp => exact (Reps.one (show Kd.M Kd.string _ _ _ (⟨#[97]⟩ : ByteArray) [.string (⟨#[97]⟩ : ByteArray)] from rfl) (Reps.one (show Kd.M Kd.string _ _ _ (⟨#[]⟩ : ByteArray) [.string (⟨#[]⟩ : ByteArray)] from rfl) (Reps.one (show Kd.M Kd.string _ _ _ (⟨#[98, 99]⟩ : ByteArray) [.string (⟨#[98, 99]⟩ : ByteArray)] from rfl) (Reps.none _ _))))); intro v160 w45 ho46 hb hg_ hnew_; clear hg_ hnew_; (first | rw [← Ny159.out] at ho46 | (simp only [Int.reduceToNat] at ho46; rw [← Ny159.out] at ho46)); have n0_ := Aside0.mk (Kd.R_elder' (by (with_reducible repeat (first | apply Kd.R_alloc | apply Kd.R_drewN | apply Kd.R_drew)); exact HO135.out) (Kd.R_base ho46) hb); have n1_ := Aside0.mk (Kd.R_elder' (by (with_reducible repeat (first | apply Kd.R_alloc | apply Kd.R_drewN | apply Kd.R_drew)); exact HO141.out) (Kd.R_base ho46) hb); have n2_ := Aside0.mk (Kd.R_elder' (by (with_reducible repeat (first | apply Kd.R_alloc | apply Kd.R_drewN | apply Kd.R_drew)); exact HO145.out) (Kd.R_base ho46) hb); have n3_ := Aside0.mk (Kd.R_elder' (by (with_reducible repeat (first | apply Kd.R_alloc | apply Kd.R_drewN | apply Kd.R_drew)); exact HO149.out) (Kd.R_base ho46) hb); have n4_ := Aside0.mk (Kd.R_below (by (with_reducible repeat (first | apply Kd.R_alloc | apply Kd.R_drewN | apply Kd.R_drew)); exact HO152.out) hb); have n5_ := Aside0.mk (Kd.R_elder' (by (with_reducible repeat (first | apply Kd.R_alloc | apply Kd.R_drewN | apply Kd.R_drew)); exact HO155.out) (Kd.R_base ho46) hb); have n6_ := Aside0.mk (Kd.R_lower (Kd.R_new' (Kd.R_new' (Kd.R_new' (Kd.R_new' (Kd.R_new' ho46 (Kd.R_lt (by (with_reducible repeat (first | apply Kd.R_alloc | apply Kd.R_drewN | apply Kd.R_drew)); exact HO135.out))) (Kd.R_lt (by (with_reducible repeat (first | apply Kd.R_alloc | apply Kd.R_drewN | apply Kd.R_drew)); exact HO141.out))) (Kd.R_lt (by (with_reducible repeat (first | apply Kd.R_alloc | apply Kd.R_drewN | apply Kd.R_drew)); exact HO145.out))) (Kd.R_lt (by (with_reducible repeat (first | apply Kd.R_alloc | apply Kd.R_drewN | apply Kd.R_drew)); exact HO149.out))) (Kd.R_lt (by (with_reducible repeat (first | apply Kd.R_alloc | apply Kd.R_drewN | apply Kd.R_drew)); exact HO155.out))) (below_size (by repeat (first | (with_reducible first | exact HB.out | apply below_alloc | apply pw_below_drewN | apply below_drew1) | exact HB.out)))); have n7_ := Aside0.mk (below_step (by repeat (first | (with_reducible first | exact HB.out | apply below_alloc | apply pw_below_drewN | apply below_drew1) | exact HB.out)) hb); clear HO135; clear HO141; clear HO145; clear HO149; clear HO152; clear HO155; clear HB; have HO135 := n0_; have HO141 := n1_; have HO145 := n2_; have HO149 := n3_; have HO152 := n4_; have HO155 := n5_; have HO161 := n6_; have HB := n7_; clear n0_ n1_ n2_ n3_ n4_ n5_ n6_ n7_; clear hb ho46; obtain ⟨Ao47, co47, eo47⟩ := Kd.R_slice HO141.out; subst eo47; obtain ⟨Ao48, co48, eo48⟩ := Kd.R_slice HO161.out; subst eo48) | (go_at_call 34; (with_reducible refine (grafterlaw0_SameTexts.calls k _ _ t138 _ _ y159 true _ ?side1 ?side2 ?side3 ?side4 A21.out).mono ?_); (case side1 => repeat (first | exact (Kd.R_reads' HO141.out).2.2 | (with_reducible refine Kd.C_alloc ?_ _) | (with_reducible refine Kd.C_drewN ?_ _) | (with_reducible refine Kd.C_drew ?_))); (case side2 => exact (Kd.R_reads' HO141.out).2.1); (case side3 => repeat (first | exact (Kd.R_reads' HO161.out).2.2 | (with_reducible refine Kd.C_alloc ?_ _) | (with_reducible refine Kd.C_drewN ?_ _) | (with_reducible refine Kd.C_drew ?_))); (case side4 => exact (Kd.R_reads' HO161.out).2.1); rintro e w' ⟨rfl, ⟨nd, rfl⟩⟩; obtain ⟨Ao49, co49, eo49⟩ := Kd.R_slice HO145.out; subst eo49; (try clear A21)) | (go_at_call 34; (with_reducible refine (grafterlaw0_SameTexts.calls k _ _ t142 _ _ t138 true _ ?side1 ?side2 ?side3 ?side4 A24.out).mono ?_); (case side1 => repeat (first | exact (Kd.R_reads' HO145.out).2.2 | (with_reducible refine Kd.C_alloc ?_ _) | (with_reducible refine Kd.C_drewN ?_ _) | (with_reducible refine Kd.C_drew ?_))); (case side2 => exact (Kd.R_reads' HO145.out).2.1); (case side3 => repeat (first | exact (Kd.R_reads' HO141.out).2.2 | (with_reducible refine Kd.C_alloc ?_ _) | (with_reducible refine Kd.C_drewN ?_ _) | (with_reducible refine Kd.C_drew ?_))); (case side4 => exact (Kd.R_reads' HO141.out).2.1); rintro e w' ⟨rfl, ⟨nd, rfl⟩⟩; (try clear A24)) | ((with_reducible refine gate_dst (N := 74) rfl ?_); (try (refine gate_guard (by rfl) ?_; dsimp only)); refine Kd.R_lit Kd.string _ 9 ?hg (N := 74) ?hd (xs := ([(⟨#[97]⟩ : ByteArray), (⟨#[]⟩ : ByteArray)] : List ByteArray)) (inner := [.string (⟨#[97]⟩ : ByteArray), .string (⟨#[]⟩ : ByteArray)]) (ok := fun _ => True) (okp := fun _ => True) ?hr ?hp (fun _ hk => hk) trivial (Below.refl _ _) (Nat.le_refl _) (by simp) ?_; (case hd => rfl); (case hg => rfl); (case hr => first | (go_simp; done) | (go_simp; rfl)); (case hp => exact (Reps.one (show Kd.M Kd.string _ _ _ (⟨#[97]⟩ : ByteArray) [.string (⟨#[97]⟩ : ByteArray)] from rfl) (Reps.one (show Kd.M Kd.string _ _ _ (⟨#[]⟩ : ByteArray) [.string (⟨#[]⟩ : ByteArray)] from rfl) (Reps.none _ _)))); intro v165 w50 ho51 hb hg_ hnew_; clear hg_ hnew_; (first | rw [← Ny164.out] at ho51 | (simp only [Int.reduceToNat] at ho51; rw [← Ny164.out] at ho51)); have n0_ := Aside0.mk (Kd.R_elder' (by (with_reducible repeat (first | apply Kd.R_alloc | apply Kd.R_drewN | apply Kd.R_drew)); exact HO135.out) (Kd.R_base ho51) hb); have n1_ := Aside0.mk (Kd.R_elder' (by (with_reducible repeat (first | apply Kd.R_alloc | apply Kd.R_drewN | apply Kd.R_drew)); exact HO141.out) (Kd.R_base ho51) hb); have n2_ := Aside0.mk (Kd.R_elder' (by (with_reducible repeat (first | apply Kd.R_alloc | apply Kd.R_drewN | apply Kd.R_drew)); exact HO145.out) (Kd.R_base ho51) hb); have n3_ := Aside0.mk (Kd.R_elder' (by (with_reducible repeat (first | apply Kd.R_alloc | apply Kd.R_drewN | apply Kd.R_drew)); exact HO149.out) (Kd.R_base ho51) hb); have n4_ := Aside0.mk (Kd.R_below (by (with_reducible repeat (first | apply Kd.R_alloc | apply Kd.R_drewN | apply Kd.R_drew)); exact HO152.out) hb); have n5_ := Aside0.mk (Kd.R_elder' (by (with_reducible repeat (first | apply Kd.R_alloc | apply Kd.R_drewN | apply Kd.R_drew)); exact HO155.out) (Kd.R_base ho51) hb); have n6_ := Aside0.mk (Kd.R_elder' (by (with_reducible repeat (first | apply Kd.R_alloc | apply Kd.R_drewN | apply Kd.R_drew)); exact HO161.out) (Kd.R_base ho51) hb); have n7_ := Aside0.mk (Kd.R_lower (Kd.R_new' (Kd.R_new' (Kd.R_new' (Kd.R_new' (Kd.R_new' (Kd.R_new' ho51 (Kd.R_lt (by (with_reducible repeat (first | apply Kd.R_alloc | apply Kd.R_drewN | apply Kd.R_drew)); exact HO135.out))) (Kd.R_lt (by (with_reducible repeat (first | apply Kd.R_alloc | apply Kd.R_drewN | apply Kd.R_drew)); exact HO141.out))) (Kd.R_lt (by (with_reducible repeat (first | apply Kd.R_alloc | apply Kd.R_drewN | apply Kd.R_drew)); exact HO145.out))) (Kd.R_lt (by (with_reducible repeat (first | apply Kd.R_alloc | apply Kd.R_drewN | apply Kd.R_drew)); exact HO149.out))) (Kd.R_lt (by (with_reducible repeat (first | apply Kd.R_alloc | apply Kd.R_drewN | apply Kd.R_drew)); exact HO155.out))) (Kd.R_lt (by (with_reducible repeat (first | apply Kd.R_alloc | apply Kd.R_drewN | apply Kd.R_drew)); exact HO161.out))) (below_size (by repeat (first | (with_reducible first | exact HB.out | apply below_alloc | apply pw_below_drewN | apply below_drew1) | exact HB.out)))); have n8_ := Aside0.mk (below_step (by repeat (first | (with_reducible first | exact HB.out | apply below_alloc | apply pw_below_drewN | apply below_drew1) | exact HB.out)) hb); clear HO135; clear HO141; clear HO145; clear HO149; clear HO152; clear HO155; clear HO161; clear HB; have HO135 := n0_; have HO141 := n1_; have HO145 := n2_; have HO149 := n3_; have HO152 := n4_; have HO155 := n5_; have HO161 := n6_; have HO166 := n7_; have HB := n8_; clear n0_ n1_ n2_ n3_ n4_ n5_ n6_ n7_ n8_; clear hb ho51; obtain ⟨Ao52, co52, eo52⟩ := Kd.R_slice HO149.out; subst eo52; obtain ⟨Ao53, co53, eo53⟩ := Kd.R_slice HO166.out; subst eo53) | (go_at_call 34; (with_reducible refine (grafterlaw0_SameTexts.calls k _ _ t146 _ _ y164 true _ ?side1 ?side2 ?side3 ?side4 A27.out).mono ?_); (case side1 => repeat (first | exact (Kd.R_reads' HO149.out).2.2 | (with_reducible refine Kd.C_alloc ?_ _) | (with_reducible refine Kd.C_drewN ?_ _) | (with_reducible refine Kd.C_drew ?_))); (case side2 => exact (Kd.R_reads' HO149.out).2.1); (case side3 => repeat (first | exact (Kd.R_reads' HO166.out).2.2 | (with_reducible refine Kd.C_alloc ?_ _) | (with_reducible refine Kd.C_drewN ?_ _) | (with_reducible refine Kd.C_drew ?_))); (case side4 => exact (Kd.R_reads' HO166.out).2.1); rintro e w' ⟨rfl, ⟨nd, rfl⟩⟩; (try clear A27)) | (go_at_call 26; (with_reducible refine (grafterlaw0_Num.calls t157 t168 _ A30.out).mono ?_); rintro e w' ⟨rfl, ⟨nd, rfl⟩⟩; (try clear A30)))
                            all_goals go_ret
                            all_goals exact ⟨by first | (simp only [← hji12_]; split <;> first | (exfalso; omega) | (simp [ByteArray.extract_zero_size]; done) | (simp [ByteArray.extract_zero_size, *]; done)) | rfl | (simp [errW_none, errW_some] <;> rfl) | (simp only [← hji12]; first | rfl | (simp [errW_none, errW_some] <;> rfl)) | (simp [*, errW_none, errW_some] <;> rfl), by repeat (first | (with_reducible first | exact HB.out | apply below_alloc | apply pw_below_drewN | apply below_drew1) | exact HB.out)⟩
                          · rw [if_neg c29] at H
                            have c29b0 : (t147 == 13) = false := beq_eq_false_iff_ne.mpr c29
                            have c29b1 : (t147 != 13) = true := bne_iff_ne.mpr c29
                            exact absurd ((Option.some.inj H).trans HRT.out) Bool.false_ne_true
                        · replace c28 := Bool.eq_false_iff.mpr c28
                          subst c28
                          have H1 : (some false) = some r := by rw [if_neg (show ¬ (false = true) by decide)] at H; exact H
                          clear H
                          have H := H1
                          clear H1
                          exact absurd ((Option.some.inj H).trans HRT.out) Bool.false_ne_true
                      · rw [if_neg c26] at H
                        have c26b0 : (t143 == 21) = false := beq_eq_false_iff_ne.mpr c26
                        have c26b1 : (t143 != 21) = true := bne_iff_ne.mpr c26
                        exact absurd ((Option.some.inj H).trans HRT.out) Bool.false_ne_true
                    · replace c25 := Bool.eq_false_iff.mpr c25
                      subst c25
                      have H1 : (some false) = some r := by rw [if_neg (show ¬ (false = true) by decide)] at H; exact H
                      clear H
                      have H := H1
                      clear H1
                      exact absurd ((Option.some.inj H).trans HRT.out) Bool.false_ne_true
                  · rw [if_neg c23] at H
                    have c23b0 : (t139 == 21) = false := beq_eq_false_iff_ne.mpr c23
                    have c23b1 : (t139 != 21) = true := bne_iff_ne.mpr c23
                    exact absurd ((Option.some.inj H).trans HRT.out) Bool.false_ne_true
                · replace c22 := Bool.eq_false_iff.mpr c22
                  subst c22
                  have H1 : (some false) = some r := by rw [if_neg (show ¬ (false = true) by decide)] at H; exact H
                  clear H
                  have H := H1
                  clear H1
                  exact absurd ((Option.some.inj H).trans HRT.out) Bool.false_ne_true
              · rw [if_neg c20] at H
                have c20b0 : (t158 == 0) = false := beq_eq_false_iff_ne.mpr c20
                have c20b1 : (t158 != 0) = true := bne_iff_ne.mpr c20
                exact absurd ((Option.some.inj H).trans HRT.out) Bool.false_ne_true
            · rw [if_neg c18] at H
              have c18b0 : ((t136.size : Int) == 21) = false := beq_eq_false_iff_ne.mpr c18
              have c18b1 : ((t136.size : Int) != 21) = true := bne_iff_ne.mpr c18
              exact absurd ((Option.some.inj H).trans HRT.out) Bool.false_ne_true
          · rw [if_neg c16] at H
            exact absurd H (by simp)
        · rw [if_neg c14] at H
          exact absurd H (by simp)
      · rw [if_neg c13] at H
        exact absurd H (by simp)
  · rw [if_neg c3] at H
    exact absurd H (by simp)

end Go.Proofs.Ytbhkmgidokonkaa.PJournalTwo
