-- Written by a program of this session (pprint.py) out of the translation, with hand-proved walks pasted in.
import Derived.Test.YtbhkmgidokonkaaPJournalsx0
import Derived.Test.YtbhkmgidokonkaaPJournalsx1
namespace Go.Proofs.Ytbhkmgidokonkaa.PJournals
open Go.RowKit Go.Proofs.YtbhkmgidokonkaaW.PrintWords Go.Proofs.YtbhkmgidokonkaaW.PrintLast Go.Proofs.YtbhkmgidokonkaaW.PrintMore
attribute [local go_sem] max2_int min2_int max_two min_two max_three min_three max_four min_four   -- for this text's walks alone
set_option linter.unusedVariables false
set_option linter.unusedSimpArgs false

/-! ### frame_Get: function 24 -/
def frame_Get.j0 : Nat → ByteArray → Int → Bool → Option (ByteArray × Int × Int)
  | 0, _, _, _ => none
  | k + 1, x0, x1, x26 => if x26 = true then (some ((⟨#[]⟩ : ByteArray), 0, 1600)) else (if 0 ≤ x1 then (if x1 ≤ (x0.size : Int) then (if 0 < ((x0.extract (x1 : Int).toNat x0.size).size : Int) then (if 1 < ((x0.extract (x1 : Int).toNat x0.size).size : Int) then (if (Go.bits .or .i64 (wrap64 (bt (x0.extract (x1 : Int).toNat x0.size) 0)) (wrap64 ((wrap64 (bt (x0.extract (x1 : Int).toNat x0.size) 1)) * 256))) > (wrap64 ((wrap64 (((x0.extract (x1 : Int).toNat x0.size).size : Int) - 2)) - 4)) then (some ((⟨#[]⟩ : ByteArray), 0, 1600)) else (if 2 ≤ (wrap64 (2 + (Go.bits .or .i64 (wrap64 (bt (x0.extract (x1 : Int).toNat x0.size) 0)) (wrap64 ((wrap64 (bt (x0.extract (x1 : Int).toNat x0.size) 1)) * 256))))) then (if (wrap64 (2 + (Go.bits .or .i64 (wrap64 (bt (x0.extract (x1 : Int).toNat x0.size) 0)) (wrap64 ((wrap64 (bt (x0.extract (x1 : Int).toNat x0.size) 1)) * 256))))) ≤ ((x0.extract (x1 : Int).toNat x0.size).size : Int) then ((frame_Put.f k ((x0.extract (x1 : Int).toNat x0.size).extract 2 ((wrap64 (2 + (Go.bits .or .i64 (wrap64 (bt (x0.extract (x1 : Int).toNat x0.size) 0)) (wrap64 ((wrap64 (bt (x0.extract (x1 : Int).toNat x0.size) 1)) * 256))))) : Int).toNat)).bind fun bt138 => (if bt138.2 = 0 then (if 0 ≤ (bt138.1.size : Int) then (if (bt138.1.size : Int) ≤ ((x0.extract (x1 : Int).toNat x0.size).size : Int) then (if bt138.1.toList = ((x0.extract (x1 : Int).toNat x0.size).extract 0 ((bt138.1.size : Int) : Int).toNat).toList then (some ((x0.extract (x1 : Int).toNat x0.size).extract 2 ((wrap64 (2 + (Go.bits .or .i64 (wrap64 (bt (x0.extract (x1 : Int).toNat x0.size) 0)) (wrap64 ((wrap64 (bt (x0.extract (x1 : Int).toNat x0.size) 1)) * 256))))) : Int).toNat, wrap64 ((wrap64 ((wrap64 (x1 + 2)) + (Go.bits .or .i64 (wrap64 (bt (x0.extract (x1 : Int).toNat x0.size) 0)) (wrap64 ((wrap64 (bt (x0.extract (x1 : Int).toNat x0.size) 1)) * 256))))) + 4), 0)) else (some ((⟨#[]⟩ : ByteArray), 0, 1600))) else (none)) else (none)) else (some ((⟨#[]⟩ : ByteArray), 0, 1600)))) else (none)) else (none))) else (none)) else (none)) else (none)) else (none))
def frame_Get.f (k : Nat) (a0 : ByteArray) (a1 : Int) : Option (ByteArray × Int × Int) := if a1 < 0 then (frame_Get.j0 k a0 a1 true) else (if a1 > (a0.size : Int) then (frame_Get.j0 k a0 a1 true) else (frame_Get.j0 k a0 a1 (decide ((wrap64 ((a0.size : Int) - a1)) < 6))))
theorem frame_Get.mono_l : ∀ k, (∀ y0 y1 y2, LeO (frame_Get.j0 k y0 y1 y2) (frame_Get.j0 (k + 1) y0 y1 y2))
  | 0 => fun _ _ _ r h => by simp [frame_Get.j0] at h
  | k + 1 => by
    have ih0 := frame_Get.mono_l k
    · intro y0 y1 y2
      unfold frame_Get.j0
      repeat' first
      | (with_reducible exact ih0 _ _ _)
      | (with_reducible exact frame_Put.mono _ _)
      | (with_reducible exact LeO.refl _)
      | (with_reducible exact LeO.none _)
      | (with_reducible refine LeO.ite ?_ ?_)
      | (with_reducible refine LeO.bind ?_ (fun _ => ?_))
      | exact ih0 _ _ _
      | exact frame_Put.mono _ _
      | exact LeO.none _
      | refine LeO.ite ?_ ?_
      | refine LeO.bind ?_ (fun _ => ?_)
theorem frame_Get.mono : ∀ a0 a1 k, LeO (frame_Get.f k a0 a1) (frame_Get.f (k + 1) a0 a1) := by
  intro a0 a1 k
  have ih0 := frame_Get.mono_l k
  unfold frame_Get.f
  repeat' first
      | (with_reducible exact ih0 _ _ _)
      | (with_reducible exact frame_Put.mono _ _)
      | (with_reducible exact LeO.refl _)
      | (with_reducible exact LeO.none _)
      | (with_reducible refine LeO.ite ?_ ?_)
      | (with_reducible refine LeO.bind ?_ (fun _ => ?_))
      | exact ih0 _ _ _
      | exact frame_Put.mono _ _
      | exact LeO.none _
      | refine LeO.ite ?_ ?_
      | refine LeO.bind ?_ (fun _ => ?_)
set_option maxHeartbeats 8000000 in
set_option maxRecDepth 100000 in
theorem frame_Get.calls (k : Nat) (a0 : ByteArray) (a1 : Int) (r1 : ByteArray) (r2 : Int) (r3 : Int) (w : World) (h : frame_Get.f k a0 a1 = some (r1, r2, r3)) :
    Calls Try.prog 24 #[.string a0, .int .i64 a1] w fun e w' => e = .returned (.tuple #[.string r1, .int .i64 r2, .int .i64 r3]) ∧ Below w.heap.size w w' := by
  have HB := Aside0.mk (Below.refl w.heap.size w)
  have H : (if a1 < 0 then (frame_Get.j0 k a0 a1 true) else (if a1 > (a0.size : Int) then (frame_Get.j0 k a0 a1 true) else (frame_Get.j0 k a0 a1 (decide ((wrap64 ((a0.size : Int) - a1)) < 6))))) = some (r1, r2, r3) := h
  clear h
  have HC3 := Aside0.mk H
  clear H
  go_enter Try.func24, Try.ntmps24
  go_upto_region 1 with (fail)
  repeat (go_quiet (fail); go_upto_region 1 with (fail))
  go_cut [26] (fun v26 wc => ∃ (kq : Nat) (x26_2 : Bool), v26 = .bool x26_2 ∧ Aside0 (frame_Get.j0 kq a0 a1 x26_2 = some (r1, r2, r3)) ∧ Aside0 (kq ≤ k) ∧ Aside0 (Below w.heap.size w wc))
  case first =>
    have H := HC3.out
    clear HC3
    by_cases c4 : a1 < 0
    · rw [if_pos c4] at H
      have c4b0 : decide (a1 < 0) = true := decide_eq_true c4
      clear c4
      (first | rw [c4b0] | (simp only [i64_w, i32_w]; rw [c4b0]) | skip)
      have H' := Aside0.mk H
      clear H
      go_wp2
      repeat (go_quiet (fail); try go_wp2)
      go_meet
      case rel => exact ⟨_, (true), (by first | rfl | (simp; done) | (simp [*]; done)), H', ⟨by first | omega | exact Nat.le_refl _⟩, ⟨by repeat (first | (with_reducible first | exact HB.out | apply below_alloc | apply pw_below_drewN | apply below_drew1) | exact HB.out)⟩⟩
    · rw [if_neg c4] at H
      have c4b0 : decide (a1 < 0) = false := decide_eq_false c4
      clear c4
      (first | rw [c4b0] | (simp only [i64_w, i32_w]; rw [c4b0]) | skip)
      by_cases c5 : a1 > (a0.size : Int)
      · rw [if_pos c5] at H
        have c5b0 : decide ((a0.size : Int) < a1) = true := decide_eq_true c5
        clear c5
        have H' := Aside0.mk H
        clear H
        go_wp2
        repeat (go_quiet (fail); try go_wp2)
        go_meet
        case rel => exact ⟨_, (true), (by first | rfl | (simp; done) | (simp [*]; done)), H', ⟨by first | omega | exact Nat.le_refl _⟩, ⟨by repeat (first | (with_reducible first | exact HB.out | apply below_alloc | apply pw_below_drewN | apply below_drew1) | exact HB.out)⟩⟩
      · rw [if_neg c5] at H
        have c5b0 : decide ((a0.size : Int) < a1) = false := decide_eq_false c5
        clear c5
        have H' := Aside0.mk H
        clear H
        go_wp2
        repeat (go_quiet (fail); try go_wp2)
        go_meet
        case rel => exact ⟨_, (decide ((wrap64 ((a0.size : Int) - a1)) < 6)), (by first | rfl | (simp; done) | (simp [*]; done)), H', ⟨by first | omega | exact Nat.le_refl _⟩, ⟨by repeat (first | (with_reducible first | exact HB.out | apply below_alloc | apply pw_below_drewN | apply below_drew1) | exact HB.out)⟩⟩
  case rest =>
    clear HC3
    try clear c2
    try clear p2
    try clear c4
    try clear c4b0
    try clear c5
    try clear c5b0
    obtain ⟨kq, x26_2, rfl, HA, HJ2, HB⟩ := hcut
    cases kq with
    | zero => exact absurd HA.out (by simp [frame_Get.j0])
    | succ kj2 =>
      have H := HA.out
      clear HA
      simp only [frame_Get.j0] at H
      by_cases c6 : x26_2 = true
      · subst c6
        have H1 : (some ((⟨#[]⟩ : ByteArray), 0, 1600)) = some (r1, r2, r3) := by rw [if_pos rfl] at H; exact H
        clear H
        have H := H1
        clear H1
        simp only [Option.some.injEq, Prod.mk.injEq] at H
        obtain ⟨rfl, rfl, rfl⟩ := H
        go_wp2
        repeat (go_quiet (fail); try go_wp2)
        go_ret3
        exact ⟨by first | rfl | (simp [errW_none, errW_some] <;> rfl) | (simp [*, errW_none, errW_some] <;> rfl), by repeat (first | (with_reducible first | exact HB.out | apply below_alloc | apply pw_below_drewN | apply below_drew1) | exact HB.out)⟩
      · replace c6 := Bool.eq_false_iff.mpr c6
        subst c6
        have H1 : (if 0 ≤ a1 then (if a1 ≤ (a0.size : Int) then (if 0 < ((a0.extract (a1 : Int).toNat a0.size).size : Int) then (if 1 < ((a0.extract (a1 : Int).toNat a0.size).size : Int) then (if (Go.bits .or .i64 (wrap64 (bt (a0.extract (a1 : Int).toNat a0.size) 0)) (wrap64 ((wrap64 (bt (a0.extract (a1 : Int).toNat a0.size) 1)) * 256))) > (wrap64 ((wrap64 (((a0.extract (a1 : Int).toNat a0.size).size : Int) - 2)) - 4)) then (some ((⟨#[]⟩ : ByteArray), 0, 1600)) else (if 2 ≤ (wrap64 (2 + (Go.bits .or .i64 (wrap64 (bt (a0.extract (a1 : Int).toNat a0.size) 0)) (wrap64 ((wrap64 (bt (a0.extract (a1 : Int).toNat a0.size) 1)) * 256))))) then (if (wrap64 (2 + (Go.bits .or .i64 (wrap64 (bt (a0.extract (a1 : Int).toNat a0.size) 0)) (wrap64 ((wrap64 (bt (a0.extract (a1 : Int).toNat a0.size) 1)) * 256))))) ≤ ((a0.extract (a1 : Int).toNat a0.size).size : Int) then ((frame_Put.f kj2 ((a0.extract (a1 : Int).toNat a0.size).extract 2 ((wrap64 (2 + (Go.bits .or .i64 (wrap64 (bt (a0.extract (a1 : Int).toNat a0.size) 0)) (wrap64 ((wrap64 (bt (a0.extract (a1 : Int).toNat a0.size) 1)) * 256))))) : Int).toNat)).bind fun bt138 => (if bt138.2 = 0 then (if 0 ≤ (bt138.1.size : Int) then (if (bt138.1.size : Int) ≤ ((a0.extract (a1 : Int).toNat a0.size).size : Int) then (if bt138.1.toList = ((a0.extract (a1 : Int).toNat a0.size).extract 0 ((bt138.1.size : Int) : Int).toNat).toList then (some ((a0.extract (a1 : Int).toNat a0.size).extract 2 ((wrap64 (2 + (Go.bits .or .i64 (wrap64 (bt (a0.extract (a1 : Int).toNat a0.size) 0)) (wrap64 ((wrap64 (bt (a0.extract (a1 : Int).toNat a0.size) 1)) * 256))))) : Int).toNat, wrap64 ((wrap64 ((wrap64 (a1 + 2)) + (Go.bits .or .i64 (wrap64 (bt (a0.extract (a1 : Int).toNat a0.size) 0)) (wrap64 ((wrap64 (bt (a0.extract (a1 : Int).toNat a0.size) 1)) * 256))))) + 4), 0)) else (some ((⟨#[]⟩ : ByteArray), 0, 1600))) else (none)) else (none)) else (some ((⟨#[]⟩ : ByteArray), 0, 1600)))) else (none)) else (none))) else (none)) else (none)) else (none)) else (none)) = some (r1, r2, r3) := by rw [if_neg (show ¬ (false = true) by decide)] at H; exact H
        clear H
        have H := H1
        clear H1
        by_cases c7 : 0 ≤ a1
        · rw [if_pos c7] at H
          have c7b0 := eq_true c7
          have c7b1 : decide (0 ≤ a1) = true := decide_eq_true c7
          clear c7
          by_cases c8 : a1 ≤ (a0.size : Int)
          · rw [if_pos c8] at H
            have c8b0 := eq_true c8
            have c8b1 : decide (a1 ≤ (a0.size : Int)) = true := decide_eq_true c8
            clear c8
            obtain ⟨rst, hrst⟩ : ∃ z, a0.extract (a1 : Int).toNat a0.size = z := ⟨_, rfl⟩
            simp only [hrst] at H
            by_cases c9 : 0 < (rst.size : Int)
            · rw [if_pos c9] at H
              have c9b0 : decide (0 < (rst.size : Int)) = true := decide_eq_true c9
              have c9b1 : decide (0 < rst.size) = true := decide_eq_true (by omega)
              clear c9
              by_cases c11 : 1 < (rst.size : Int)
              · rw [if_pos c11] at H
                have c11b0 : decide (1 < (rst.size : Int)) = true := decide_eq_true c11
                have c11b1 : decide (1 < rst.size) = true := decide_eq_true (by omega)
                clear c11
                by_cases c13 : (Go.bits .or .i64 (wrap64 (bt rst 0)) (wrap64 ((wrap64 (bt rst 1)) * 256))) > (wrap64 ((wrap64 ((rst.size : Int) - 2)) - 4))
                · rw [if_pos c13] at H
                  have c13b0 : decide ((wrap64 ((wrap64 ((rst.size : Int) - 2)) - 4)) < (Go.bits .or .i64 (wrap64 (bt rst 0)) (wrap64 ((wrap64 (bt rst 1)) * 256)))) = true := decide_eq_true c13
                  clear c13
                  simp only [Option.some.injEq, Prod.mk.injEq] at H
                  obtain ⟨rfl, rfl, rfl⟩ := H
                  have p10 : 0 ≤ (0 : Int) := (by omega)
                  have q10 : 0 < rst.size := (by have : (0 : Int) < (rst.size : Int) := of_decide_eq_true (by first | (with_reducible assumption) | assumption); omega)
                  have hx10 : ∀ h : 0 < rst.size, ((rst[0]'h).toNat : Int) = bt rst 0 := bt_at rst 0
                  clear p10
                  have qi10 : (0 < (rst.size : Int)) = True := eq_true (of_decide_eq_true (by first | (with_reducible assumption) | assumption))
                  replace q10 := eq_true q10
                  have p12 : 0 ≤ (1 : Int) := (by omega)
                  have q12 : 1 < rst.size := (by have : (1 : Int) < (rst.size : Int) := of_decide_eq_true (by first | (with_reducible assumption) | assumption); omega)
                  have hx12 : ∀ h : 1 < rst.size, ((rst[1]'h).toNat : Int) = bt rst 1 := bt_at rst 1
                  clear p12
                  have qi12 : (1 < (rst.size : Int)) = True := eq_true (of_decide_eq_true (by first | (with_reducible assumption) | assumption))
                  replace q12 := eq_true q12
                  go_wp2
                  repeat (go_quiet (fail); try go_wp2)
                  go_ret3
                  exact ⟨by first | rfl | (simp [errW_none, errW_some] <;> rfl) | (simp [*, errW_none, errW_some] <;> rfl), by repeat (first | (with_reducible first | exact HB.out | apply below_alloc | apply pw_below_drewN | apply below_drew1) | exact HB.out)⟩
                · rw [if_neg c13] at H
                  have c13b0 : decide ((wrap64 ((wrap64 ((rst.size : Int) - 2)) - 4)) < (Go.bits .or .i64 (wrap64 (bt rst 0)) (wrap64 ((wrap64 (bt rst 1)) * 256)))) = false := decide_eq_false c13
                  clear c13
                  by_cases c14 : 2 ≤ (wrap64 (2 + (Go.bits .or .i64 (wrap64 (bt rst 0)) (wrap64 ((wrap64 (bt rst 1)) * 256)))))
                  · rw [if_pos c14] at H
                    have c14b0 := eq_true c14
                    have c14b1 : decide (2 ≤ (wrap64 (2 + (Go.bits .or .i64 (wrap64 (bt rst 0)) (wrap64 ((wrap64 (bt rst 1)) * 256)))))) = true := decide_eq_true c14
                    by_cases c15 : (wrap64 (2 + (Go.bits .or .i64 (wrap64 (bt rst 0)) (wrap64 ((wrap64 (bt rst 1)) * 256))))) ≤ (rst.size : Int)
                    · rw [if_pos c15] at H
                      have c15b0 := eq_true c15
                      have c15b1 : decide ((wrap64 (2 + (Go.bits .or .i64 (wrap64 (bt rst 0)) (wrap64 ((wrap64 (bt rst 1)) * 256))))) ≤ (rst.size : Int)) = true := decide_eq_true c15
                      replace H := Option.bind_eq_some_iff.mp H
                      obtain ⟨⟨t138, t139⟩, A160, H⟩ := H
                      replace H : (if t139 = 0 then (if 0 ≤ (t138.size : Int) then (if (t138.size : Int) ≤ (rst.size : Int) then (if t138.toList = (rst.extract 0 ((t138.size : Int) : Int).toNat).toList then (some (rst.extract 2 ((wrap64 (2 + (Go.bits .or .i64 (wrap64 (bt rst 0)) (wrap64 ((wrap64 (bt rst 1)) * 256))))) : Int).toNat, wrap64 ((wrap64 ((wrap64 (a1 + 2)) + (Go.bits .or .i64 (wrap64 (bt rst 0)) (wrap64 ((wrap64 (bt rst 1)) * 256))))) + 4), 0)) else (some ((⟨#[]⟩ : ByteArray), 0, 1600))) else (none)) else (none)) else (some ((⟨#[]⟩ : ByteArray), 0, 1600))) = some (r1, r2, r3) := H
                      have A16 := Aside0.mk A160
                      clear A160
                      by_cases c17 : t139 = 0
                      · rw [if_pos c17] at H
                        have c17b0 : (t139 == 0) = true := beq_iff_eq.mpr c17
                        have c17b1 : (t139 != 0) = false := bne_eq_false_iff_eq.mpr c17
                        clear c17
                        by_cases c18 : 0 ≤ (t138.size : Int)
                        · rw [if_pos c18] at H
                          have c18b0 := eq_true c18
                          have c18b1 : decide (0 ≤ (t138.size : Int)) = true := decide_eq_true c18
                          clear c18
                          by_cases c19 : (t138.size : Int) ≤ (rst.size : Int)
                          · rw [if_pos c19] at H
                            have c19b0 := eq_true c19
                            have c19b1 : decide ((t138.size : Int) ≤ (rst.size : Int)) = true := decide_eq_true c19
                            clear c19
                            by_cases c20 : t138.toList = (rst.extract 0 ((t138.size : Int) : Int).toNat).toList
                            · rw [if_pos c20] at H
                              have c20b0 : (t138.toList == (rst.extract 0 ((t138.size : Int) : Int).toNat).toList) = true := beq_iff_eq.mpr c20
                              (try simp only [Int.toNat_natCast] at c20b0)
                              have c20b1 : (t138.toList != (rst.extract 0 ((t138.size : Int) : Int).toNat).toList) = false := bne_eq_false_iff_eq.mpr c20
                              (try simp only [Int.toNat_natCast] at c20b1)
                              clear c20
                              simp only [Option.some.injEq, Prod.mk.injEq] at H
                              obtain ⟨rfl, rfl, rfl⟩ := H
                              have p10 : 0 ≤ (0 : Int) := (by omega)
                              have q10 : 0 < rst.size := (by have : (0 : Int) < (rst.size : Int) := of_decide_eq_true (by first | (with_reducible assumption) | assumption); omega)
                              have hx10 : ∀ h : 0 < rst.size, ((rst[0]'h).toNat : Int) = bt rst 0 := bt_at rst 0
                              clear p10
                              have qi10 : (0 < (rst.size : Int)) = True := eq_true (of_decide_eq_true (by first | (with_reducible assumption) | assumption))
                              replace q10 := eq_true q10
                              have p12 : 0 ≤ (1 : Int) := (by omega)
                              have q12 : 1 < rst.size := (by have : (1 : Int) < (rst.size : Int) := of_decide_eq_true (by first | (with_reducible assumption) | assumption); omega)
                              have hx12 : ∀ h : 1 < rst.size, ((rst[1]'h).toNat : Int) = bt rst 1 := bt_at rst 1
                              clear p12
                              have qi12 : (1 < (rst.size : Int)) = True := eq_true (of_decide_eq_true (by first | (with_reducible assumption) | assumption))
                              replace q12 := eq_true q12
                              go_wp2_with (first | (go_at_call 22; (with_reducible refine (frame_Put.calls kj2 (rst.extract 2 ((wrap64 (2 + (Go.bits .or .i64 (wrap64 (bt rst 0)) (wrap64 ((wrap64 (bt rst 1)) * 256))))) : Int).toNat) t138 t139 _ A16.out).mono ?_); rintro e w21 ⟨rfl, hb⟩; have n0_ := Aside0.mk (below_step (by repeat (first | (with_reducible first | exact HB.out | apply below_alloc | apply pw_below_drewN | apply below_drew1) | exact HB.out)) hb); clear HB; have HB := n0_; clear n0_; (try clear hb); (try clear hb2); (try clear hk); (try clear hi)))
                              repeat (go_quiet (first | (go_at_call 22; (with_reducible refine (frame_Put.calls kj2 (rst.extract 2 ((wrap64 (2 + (Go.bits .or .i64 (wrap64 (bt rst 0)) (wrap64 ((wrap64 (bt rst 1)) * 256))))) : Int).toNat) t138 t139 _ A16.out).mono ?_); rintro e w21 ⟨rfl, hb⟩; have n0_ := Aside0.mk (below_step (by repeat (first | (with_reducible first | exact HB.out | apply below_alloc | apply pw_below_drewN | apply below_drew1) | exact HB.out)) hb); clear HB; have HB := n0_; clear n0_; (try clear hb); (try clear hb2); (try clear hk); (try clear hi))); try go_wp2_with (first | (go_at_call 22; (with_reducible refine (frame_Put.calls kj2 (rst.extract 2 ((wrap64 (2 + (Go.bits .or .i64 (wrap64 (bt rst 0)) (wrap64 ((wrap64 (bt rst 1)) * 256))))) : Int).toNat) t138 t139 _ A16.out).mono ?_); rintro e w21 ⟨rfl, hb⟩; have n0_ := Aside0.mk (below_step (by repeat (first | (with_reducible first | exact HB.out | apply below_alloc | apply pw_below_drewN | apply below_drew1) | exact HB.out)) hb); clear HB; have HB := n0_; clear n0_; (try clear hb); (try clear hb2); (try clear hk); (try clear hi))))
                              go_ret3
                              exact ⟨by first | rfl | (simp [errW_none, errW_some] <;> rfl) | (simp [*, errW_none, errW_some] <;> rfl), by repeat (first | (with_reducible first | exact HB.out | apply below_alloc | apply pw_below_drewN | apply below_drew1) | exact HB.out)⟩
                            · rw [if_neg c20] at H
                              have c20b0 : (t138.toList == (rst.extract 0 ((t138.size : Int) : Int).toNat).toList) = false := beq_eq_false_iff_ne.mpr c20
                              (try simp only [Int.toNat_natCast] at c20b0)
                              have c20b1 : (t138.toList != (rst.extract 0 ((t138.size : Int) : Int).toNat).toList) = true := bne_iff_ne.mpr c20
                              (try simp only [Int.toNat_natCast] at c20b1)
                              simp only [Option.some.injEq, Prod.mk.injEq] at H
                              obtain ⟨rfl, rfl, rfl⟩ := H
                              have p10 : 0 ≤ (0 : Int) := (by omega)
                              have q10 : 0 < rst.size := (by have : (0 : Int) < (rst.size : Int) := of_decide_eq_true (by first | (with_reducible assumption) | assumption); omega)
                              have hx10 : ∀ h : 0 < rst.size, ((rst[0]'h).toNat : Int) = bt rst 0 := bt_at rst 0
                              clear p10
                              have qi10 : (0 < (rst.size : Int)) = True := eq_true (of_decide_eq_true (by first | (with_reducible assumption) | assumption))
                              replace q10 := eq_true q10
                              have p12 : 0 ≤ (1 : Int) := (by omega)
                              have q12 : 1 < rst.size := (by have : (1 : Int) < (rst.size : Int) := of_decide_eq_true (by first | (with_reducible assumption) | assumption); omega)
                              have hx12 : ∀ h : 1 < rst.size, ((rst[1]'h).toNat : Int) = bt rst 1 := bt_at rst 1
                              clear p12
                              have qi12 : (1 < (rst.size : Int)) = True := eq_true (of_decide_eq_true (by first | (with_reducible assumption) | assumption))
                              replace q12 := eq_true q12
                              go_wp2_with (first | (go_at_call 22; (with_reducible refine (frame_Put.calls kj2 (rst.extract 2 ((wrap64 (2 + (Go.bits .or .i64 (wrap64 (bt rst 0)) (wrap64 ((wrap64 (bt rst 1)) * 256))))) : Int).toNat) t138 t139 _ A16.out).mono ?_); rintro e w22 ⟨rfl, hb⟩; have n0_ := Aside0.mk (below_step (by repeat (first | (with_reducible first | exact HB.out | apply below_alloc | apply pw_below_drewN | apply below_drew1) | exact HB.out)) hb); clear HB; have HB := n0_; clear n0_; (try clear hb); (try clear hb2); (try clear hk); (try clear hi)))
                              repeat (go_quiet (first | (go_at_call 22; (with_reducible refine (frame_Put.calls kj2 (rst.extract 2 ((wrap64 (2 + (Go.bits .or .i64 (wrap64 (bt rst 0)) (wrap64 ((wrap64 (bt rst 1)) * 256))))) : Int).toNat) t138 t139 _ A16.out).mono ?_); rintro e w22 ⟨rfl, hb⟩; have n0_ := Aside0.mk (below_step (by repeat (first | (with_reducible first | exact HB.out | apply below_alloc | apply pw_below_drewN | apply below_drew1) | exact HB.out)) hb); clear HB; have HB := n0_; clear n0_; (try clear hb); (try clear hb2); (try clear hk); (try clear hi))); try go_wp2_with (first | (go_at_call 22; (with_reducible refine (frame_Put.calls kj2 (rst.extract 2 ((wrap64 (2 + (Go.bits .or .i64 (wrap64 (bt rst 0)) (wrap64 ((wrap64 (bt rst 1)) * 256))))) : Int).toNat) t138 t139 _ A16.out).mono ?_); rintro e w22 ⟨rfl, hb⟩; have n0_ := Aside0.mk (below_step (by repeat (first | (with_reducible first | exact HB.out | apply below_alloc | apply pw_below_drewN | apply below_drew1) | exact HB.out)) hb); clear HB; have HB := n0_; clear n0_; (try clear hb); (try clear hb2); (try clear hk); (try clear hi))))
                              go_ret3
                              exact ⟨by first | rfl | (simp [errW_none, errW_some] <;> rfl) | (simp [*, errW_none, errW_some] <;> rfl), by repeat (first | (with_reducible first | exact HB.out | apply below_alloc | apply pw_below_drewN | apply below_drew1) | exact HB.out)⟩
                          · rw [if_neg c19] at H
                            exact absurd H (by simp)
                        · rw [if_neg c18] at H
                          exact absurd H (by simp)
                      · rw [if_neg c17] at H
                        have c17b0 : (t139 == 0) = false := beq_eq_false_iff_ne.mpr c17
                        have c17b1 : (t139 != 0) = true := bne_iff_ne.mpr c17
                        simp only [Option.some.injEq, Prod.mk.injEq] at H
                        obtain ⟨rfl, rfl, rfl⟩ := H
                        have p10 : 0 ≤ (0 : Int) := (by omega)
                        have q10 : 0 < rst.size := (by have : (0 : Int) < (rst.size : Int) := of_decide_eq_true (by first | (with_reducible assumption) | assumption); omega)
                        have hx10 : ∀ h : 0 < rst.size, ((rst[0]'h).toNat : Int) = bt rst 0 := bt_at rst 0
                        clear p10
                        have qi10 : (0 < (rst.size : Int)) = True := eq_true (of_decide_eq_true (by first | (with_reducible assumption) | assumption))
                        replace q10 := eq_true q10
                        have p12 : 0 ≤ (1 : Int) := (by omega)
                        have q12 : 1 < rst.size := (by have : (1 : Int) < (rst.size : Int) := of_decide_eq_true (by first | (with_reducible assumption) | assumption); omega)
                        have hx12 : ∀ h : 1 < rst.size, ((rst[1]'h).toNat : Int) = bt rst 1 := bt_at rst 1
                        clear p12
                        have qi12 : (1 < (rst.size : Int)) = True := eq_true (of_decide_eq_true (by first | (with_reducible assumption) | assumption))
                        replace q12 := eq_true q12
                        go_wp2_with (first | (go_at_call 22; (with_reducible refine (frame_Put.calls kj2 (rst.extract 2 ((wrap64 (2 + (Go.bits .or .i64 (wrap64 (bt rst 0)) (wrap64 ((wrap64 (bt rst 1)) * 256))))) : Int).toNat) t138 t139 _ A16.out).mono ?_); rintro e w23 ⟨rfl, hb⟩; have n0_ := Aside0.mk (below_step (by repeat (first | (with_reducible first | exact HB.out | apply below_alloc | apply pw_below_drewN | apply below_drew1) | exact HB.out)) hb); clear HB; have HB := n0_; clear n0_; (try clear hb); (try clear hb2); (try clear hk); (try clear hi)))
                        repeat (go_quiet (first | (go_at_call 22; (with_reducible refine (frame_Put.calls kj2 (rst.extract 2 ((wrap64 (2 + (Go.bits .or .i64 (wrap64 (bt rst 0)) (wrap64 ((wrap64 (bt rst 1)) * 256))))) : Int).toNat) t138 t139 _ A16.out).mono ?_); rintro e w23 ⟨rfl, hb⟩; have n0_ := Aside0.mk (below_step (by repeat (first | (with_reducible first | exact HB.out | apply below_alloc | apply pw_below_drewN | apply below_drew1) | exact HB.out)) hb); clear HB; have HB := n0_; clear n0_; (try clear hb); (try clear hb2); (try clear hk); (try clear hi))); try go_wp2_with (first | (go_at_call 22; (with_reducible refine (frame_Put.calls kj2 (rst.extract 2 ((wrap64 (2 + (Go.bits .or .i64 (wrap64 (bt rst 0)) (wrap64 ((wrap64 (bt rst 1)) * 256))))) : Int).toNat) t138 t139 _ A16.out).mono ?_); rintro e w23 ⟨rfl, hb⟩; have n0_ := Aside0.mk (below_step (by repeat (first | (with_reducible first | exact HB.out | apply below_alloc | apply pw_below_drewN | apply below_drew1) | exact HB.out)) hb); clear HB; have HB := n0_; clear n0_; (try clear hb); (try clear hb2); (try clear hk); (try clear hi))))
                        go_ret3
                        exact ⟨by first | rfl | (simp [errW_none, errW_some] <;> rfl) | (simp [*, errW_none, errW_some] <;> rfl), by repeat (first | (with_reducible first | exact HB.out | apply below_alloc | apply pw_below_drewN | apply below_drew1) | exact HB.out)⟩
                    · rw [if_neg c15] at H
                      exact absurd H (by simp)
                  · rw [if_neg c14] at H
                    exact absurd H (by simp)
              · rw [if_neg c11] at H
                exact absurd H (by simp)
            · rw [if_neg c9] at H
              exact absurd H (by simp)
          · rw [if_neg c8] at H
            exact absurd H (by simp)
        · rw [if_neg c7] at H
          exact absurd H (by simp)

/-! ### journal_Load: function 32 -/
def journal_Load.l0 : Nat → ByteArray → List ByteArray → Int → Option (List ByteArray × Int)
  | 0, _, _, _ => none
  | k + 1, x0, x4, x5 => (frame_Get.f k x0 x5).bind fun bt140 => (if bt140.2.2 = 0 then (if x4.length < 8796093022208 then (journal_Load.l0 k x0 (x4 ++ [bt140.1]) bt140.2.1) else (none)) else (some (x4, x5)))
def journal_Load.f (k : Nat) (a0 : ByteArray) : Option (List ByteArray × Int) := if 0 ≤ (mn (a0.size : Int) 65536) then (if (mn (a0.size : Int) 65536) ≤ (a0.size : Int) then (journal_Load.l0 k (a0.extract 0 ((mn (a0.size : Int) 65536) : Int).toNat) ([] : List ByteArray) 0) else (none)) else (none)
theorem journal_Load.mono_l : ∀ k, (∀ y0 y1 y2, LeO (journal_Load.l0 k y0 y1 y2) (journal_Load.l0 (k + 1) y0 y1 y2))
  | 0 => fun _ _ _ r h => by simp [journal_Load.l0] at h
  | k + 1 => by
    have ih0 := journal_Load.mono_l k
    · intro y0 y1 y2
      unfold journal_Load.l0
      repeat' first
      | (with_reducible exact ih0 _ _ _)
      | (with_reducible exact frame_Get.mono _ _ _)
      | (with_reducible exact LeO.refl _)
      | (with_reducible exact LeO.none _)
      | (with_reducible refine LeO.ite ?_ ?_)
      | (with_reducible refine LeO.bind ?_ (fun _ => ?_))
      | exact ih0 _ _ _
      | exact frame_Get.mono _ _ _
      | exact LeO.none _
      | refine LeO.ite ?_ ?_
      | refine LeO.bind ?_ (fun _ => ?_)
theorem journal_Load.mono : ∀ a0 k, LeO (journal_Load.f k a0) (journal_Load.f (k + 1) a0) := by
  intro a0 k
  have ih0 := journal_Load.mono_l k
  unfold journal_Load.f
  repeat' first
      | (with_reducible exact ih0 _ _ _)
      | (with_reducible exact frame_Get.mono _ _ _)
      | (with_reducible exact LeO.refl _)
      | (with_reducible exact LeO.none _)
      | (with_reducible refine LeO.ite ?_ ?_)
      | (with_reducible refine LeO.bind ?_ (fun _ => ?_))
      | exact ih0 _ _ _
      | exact frame_Get.mono _ _ _
      | exact LeO.none _
      | refine LeO.ite ?_ ?_
      | refine LeO.bind ?_ (fun _ => ?_)
set_option maxHeartbeats 8000000 in
set_option maxRecDepth 100000 in
theorem journal_Load.calls (k : Nat) (a0 : ByteArray) (r1 : List ByteArray) (r2 : Int) (w : World) (h : journal_Load.f k a0 = some (r1, r2)) :
    Calls Try.prog 32 #[.string a0] w fun e w' => ∃ v0_ : Value, e = .returned (.tuple #[v0_, .int .i64 r2]) ∧ Kd.R Kd.string 9 w' w.heap.size (fun _ => True) v0_ r1 ∧ Below w.heap.size w w' := by
  have HB := Aside0.mk (Below.refl w.heap.size w)
  have H : (if 0 ≤ (mn (a0.size : Int) 65536) then (if (mn (a0.size : Int) 65536) ≤ (a0.size : Int) then (journal_Load.l0 k (a0.extract 0 ((mn (a0.size : Int) 65536) : Int).toNat) ([] : List ByteArray) 0) else (none)) else (none)) = some (r1, r2) := h
  clear h
  obtain ⟨ji2, hji2⟩ : ∃ j_ : Int, (mn (a0.size : Int) 65536) = j_ := ⟨_, rfl⟩
  replace H : (if 0 ≤ (ji2) then (if (ji2) ≤ (a0.size : Int) then (journal_Load.l0 k (a0.extract 0 ((ji2) : Int).toNat) ([] : List ByteArray) 0) else (none)) else (none)) = some (r1, r2) := by first | (rw [hji2] at H; exact H) | (simp only [hji2] at H ⊢; exact H)
  (try (have hji2h : ji2 ≤ 65536 := by (rw [← hji2]; unfold mn; (repeat' split) <;> omega)))
  (try (have hji2g : ji2 ≤ 64 := by omega))
  (try (have hji2l : 0 ≤ ji2 := by (rw [← hji2]; unfold mn; (repeat' split) <;> omega)))
  (try (have hji2m : 0 ≤ ji2 := by omega))
  have hji2_ : (if 65536 < (a0.size : Int) then 65536 else (a0.size : Int)) = ji2 := hji2
  by_cases c3 : 0 ≤ (ji2)
  · rw [if_pos c3] at H
    have c3b0 := eq_true c3
    have c3b1 : decide (0 ≤ (ji2)) = true := decide_eq_true c3
    clear c3
    by_cases c4 : (ji2) ≤ (a0.size : Int)
    · rw [if_pos c4] at H
      have c4b0 := eq_true c4
      have c4b1 : decide ((ji2) ≤ (a0.size : Int)) = true := decide_eq_true c4
      clear c4
      have H' := Aside0.mk H
      clear H
      go_enter Try.func32, Try.ntmps32
      go_wp2
      go_loopg [4, 5] k (fun kq v4 v5 w' => ∃ (x4_1 : List ByteArray) (x5_1 : Int), v5 = .int .i64 x5_1 ∧ Aside0 (journal_Load.l0 kq (a0.extract 0 ((ji2) : Int).toNat) x4_1 x5_1 = some (r1, r2)) ∧ Aside0 (kq ≤ k) ∧ Aside0 (Kd.R Kd.string 9 w' w.heap.size (fun _ => True) v4 x4_1) ∧ Aside0 (Below w.heap.size w w'))
      case atStart => exact ⟨(([] : List ByteArray)), (0), (by first | rfl | (simp; done) | (simp [*]; done)), H', ⟨Nat.le_refl _⟩, ⟨by first | exact Kd.R_nil _ _ _ _ _ | exact Kd.N_nil _ _ _ _ _ | exact Kd.V_nil _ _ _ _ _ | exact Kd.Q_nil _ _ _ _ _ | exact Kd.S_nil _ _ _ _ _⟩, ⟨by repeat (first | (with_reducible first | exact HB.out | apply below_alloc | apply pw_below_drewN | apply below_drew1) | exact HB.out)⟩⟩
      case round =>
        clear H'
        try clear p2
        try clear c3
        try clear c3b0
        try clear c3b1
        try clear c4
        try clear c4b0
        try clear c4b1
        obtain ⟨x4_1, x5_1, rfl, HA, HK1, HO_4, HB⟩ := hrel
        cases gk with
        | zero => exact absurd HA.out (by simp [journal_Load.l0])
        | succ k1 =>
          have H := HA.out
          clear HA
          simp only [journal_Load.l0] at H
          replace H := Option.bind_eq_some_iff.mp H
          obtain ⟨⟨t140, t141, t142⟩, A50, H⟩ := H
          replace H : (if t142 = 0 then (if x4_1.length < 8796093022208 then (journal_Load.l0 k1 (a0.extract 0 ((ji2) : Int).toNat) (x4_1 ++ [t140]) t141) else (none)) else (some (x4_1, x5_1))) = some (r1, r2) := H
          have A5 := Aside0.mk A50
          clear A50
          by_cases c6 : t142 = 0
          · rw [if_pos c6] at H
            have c6b0 : (t142 == 0) = true := beq_iff_eq.mpr c6
            have c6b1 : (t142 != 0) = false := bne_eq_false_iff_eq.mpr c6
            clear c6
            by_cases c7 : x4_1.length < 8796093022208
            · rw [if_pos c7] at H
              have LMc7 := Aside0.mk c7
              clear c7
              obtain ⟨y143, hy143⟩ : ∃ y_ : List ByteArray, y_ = (x4_1 ++ [t140]) := ⟨_, rfl⟩
              replace H : (journal_Load.l0 k1 (a0.extract 0 ((ji2) : Int).toNat) y143 t141) = some (r1, r2) := by first | (rw [hy143]; with_reducible exact H) | (have H2_ := (Option.bind_some _ _).symm.trans H; rw [hy143]; with_reducible exact H2_) | (have H2_ := (Option.bind_some _ _).symm.trans H; with_reducible exact H2_) | with_reducible exact H | (rw [hy143]; exact H) | exact H
              have Ny143 := Aside0.mk hy143
              clear hy143
              have H' := Aside0.mk H
              clear H
              go_wp2_with (first | ((with_reducible refine gate_callee (f := 24) rfl ?_); refine goesL_ (some 17) rfl rfl Try.func24 (by kernel_rfl) rfl #[.string (a0.extract 0 ((ji2) : Int).toNat), .int .i64 x5_1] rfl (by (try simp only [List.map_toArray, List.map_cons, List.map_nil]); first | done | (simp only [hji2]; rfl) | rfl | (simp only [List.length_drop, List.length_take]; rfl)) ?_; (with_reducible refine (frame_Get.calls k1 (a0.extract 0 ((ji2) : Int).toNat) x5_1 t140 t141 t142 _ A5.out).mono ?_); rintro e w8 ⟨rfl, hb⟩; refine ⟨_, rfl, ?_⟩; have n0_ := Aside0.mk (Kd.R_below (by (with_reducible repeat (first | apply Kd.R_alloc | apply Kd.R_drewN | apply Kd.R_drew)); exact HO_4.out) hb); have n1_ := Aside0.mk (below_step (by repeat (first | (with_reducible first | exact HB.out | apply below_alloc | apply pw_below_drewN | apply below_drew1) | exact HB.out)) hb); clear HO_4; clear HB; have HO_4 := n0_; have HB := n1_; clear n0_ n1_; (try clear hb); (try clear hb2); (try clear hk); (try clear hi)) | ((with_reducible refine gate_builtin (b := .append) (xs := #[.tmp 25, .tmp 27]) rfl ?_); at_builtin; refine Kd.R_append Kd.string (w0 := w) w.heap.size rfl (.tmp 25) (.tmp 27) 42 9 (.string ⟨#[]⟩) 16 rfl Try.underlying42 info9 rfl (by decide) (by omega) u4 x4_1 t140 [.string t140] (fun _ => True) (fun _ => False) rfl rfl ?aP (fun _ hk => hk.elim) ?aF ?aO ?aB ?aS ?aL ?_; (case aP => exact rfl); (case aB => exact (by repeat (first | (with_reducible first | exact HB.out | apply below_alloc | apply pw_below_drewN | apply below_drew1) | exact HB.out))); (case aF => exact (fun _ _ => trivial)); (case aO => exact (by (with_reducible repeat (first | apply Kd.R_alloc | apply Kd.R_drewN | apply Kd.R_drew)); exact HO_4.out)); (case aS => exact (below_size (by repeat (first | (with_reducible first | exact HB.out | apply below_alloc | apply pw_below_drewN | apply below_drew1) | exact HB.out)))); (case aL => have := LMc7.out; omega); intro v144 w9 ho hb hg hat; rw [← Ny143.out] at ho; have n0_ := Aside0.mk (hb); have n1_ := Aside0.mk (ho); clear HB; clear HO_4; have HB := n0_; have HO145 := n1_; clear n0_ n1_; clear ho hb hg hat))
              go_roundg k1
              case measure => have := HK1.out; omega
              case rel => exact ⟨(y143), (t141), (by first | rfl | (simp; done) | (simp [*]; done)), H', ⟨by have := HK1.out; omega⟩, ⟨by (with_reducible repeat (first | apply Kd.R_alloc | apply Kd.R_drewN | apply Kd.R_drew)); exact HO145.out⟩, ⟨by repeat (first | (with_reducible first | exact HB.out | apply below_alloc | apply pw_below_drewN | apply below_drew1) | exact HB.out)⟩⟩
            · rw [if_neg c7] at H
              exact absurd H (by simp)
          · rw [if_neg c6] at H
            have c6b0 : (t142 == 0) = false := beq_eq_false_iff_ne.mpr c6
            have c6b1 : (t142 != 0) = true := bne_iff_ne.mpr c6
            simp only [Option.some.injEq, Prod.mk.injEq] at H
            obtain ⟨rfl, rfl⟩ := H
            go_wp2_with (first | ((with_reducible refine gate_callee (f := 24) rfl ?_); refine goesL_ (some 17) rfl rfl Try.func24 (by kernel_rfl) rfl #[.string (a0.extract 0 ((ji2) : Int).toNat), .int .i64 x5_1] rfl (by (try simp only [List.map_toArray, List.map_cons, List.map_nil]); first | done | (simp only [hji2]; rfl) | rfl | (simp only [List.length_drop, List.length_take]; rfl)) ?_; (with_reducible refine (frame_Get.calls k1 (a0.extract 0 ((ji2) : Int).toNat) x5_1 t140 t141 t142 _ A5.out).mono ?_); rintro e w10 ⟨rfl, hb⟩; refine ⟨_, rfl, ?_⟩; have n0_ := Aside0.mk (Kd.R_below (by (with_reducible repeat (first | apply Kd.R_alloc | apply Kd.R_drewN | apply Kd.R_drew)); exact HO_4.out) hb); have n1_ := Aside0.mk (below_step (by repeat (first | (with_reducible first | exact HB.out | apply below_alloc | apply pw_below_drewN | apply below_drew1) | exact HB.out)) hb); clear HO_4; clear HB; have HO_4 := n0_; have HB := n1_; clear n0_ n1_; (try clear hb); (try clear hb2); (try clear hk); (try clear hi)))
            go_ret2
            exact ⟨_, by first | rfl | (simp [errW_none, errW_some] <;> rfl) | (simp only [← hji2]; first | rfl | (simp [errW_none, errW_some] <;> rfl)) | (simp [*, errW_none, errW_some] <;> rfl), by (with_reducible repeat (first | apply Kd.R_alloc | apply Kd.R_drewN | apply Kd.R_drew)); exact HO_4.out, by repeat (first | (with_reducible first | exact HB.out | apply below_alloc | apply pw_below_drewN | apply below_drew1) | exact HB.out)⟩
    · rw [if_neg c4] at H
      exact absurd H (by simp)
  · rw [if_neg c3] at H
    exact absurd H (by simp)

/-! ### grafterref12_num: function 70 -/
def grafterref12_num.l0 : Nat → ByteArray → Int → Int → Option (Int)
  | 0, _, _, _ => none
  | k + 1, x0, x3, x4 => if x4 ≥ 0 then (if 0 ≤ x4 then (if x4 < (x0.size : Int) then (grafterref12_num.l0 k x0 (Go.bits .or .i64 (wrap64 (x3 * 256)) (wrap64 (bt x0 x4))) (wrap64 (x4 - 1))) else (none)) else (none)) else (some x3)
def grafterref12_num.f (k : Nat) (a0 : ByteArray) : Option (Int) := grafterref12_num.l0 k a0 0 (wrap64 ((a0.size : Int) - 1))
theorem grafterref12_num.mono_l : ∀ k, (∀ y0 y1 y2, LeO (grafterref12_num.l0 k y0 y1 y2) (grafterref12_num.l0 (k + 1) y0 y1 y2))
  | 0 => fun _ _ _ r h => by simp [grafterref12_num.l0] at h
  | k + 1 => by
    have ih0 := grafterref12_num.mono_l k
    · intro y0 y1 y2
      unfold grafterref12_num.l0
      repeat' first
      | (with_reducible exact ih0 _ _ _)
      | (with_reducible exact LeO.refl _)
      | (with_reducible exact LeO.none _)
      | (with_reducible refine LeO.ite ?_ ?_)
      | (with_reducible refine LeO.bind ?_ (fun _ => ?_))
      | exact ih0 _ _ _
      | exact LeO.none _
      | refine LeO.ite ?_ ?_
      | refine LeO.bind ?_ (fun _ => ?_)
theorem grafterref12_num.mono : ∀ a0 k, LeO (grafterref12_num.f k a0) (grafterref12_num.f (k + 1) a0) := by
  intro a0 k
  have ih0 := grafterref12_num.mono_l k
  unfold grafterref12_num.f
  repeat' first
      | (with_reducible exact ih0 _ _ _)
      | (with_reducible exact LeO.refl _)
      | (with_reducible exact LeO.none _)
      | (with_reducible refine LeO.ite ?_ ?_)
      | (with_reducible refine LeO.bind ?_ (fun _ => ?_))
      | exact ih0 _ _ _
      | exact LeO.none _
      | refine LeO.ite ?_ ?_
      | refine LeO.bind ?_ (fun _ => ?_)
set_option maxHeartbeats 8000000 in
set_option maxRecDepth 100000 in
theorem grafterref12_num.calls (k : Nat) (a0 : ByteArray) (r : Int) (w : World) (h : grafterref12_num.f k a0 = some r) :
    Calls Try.prog 70 #[.string a0] w fun e w' => e = .returned (.int .i64 r) ∧ Drawn0 w w' := by
  have H : (grafterref12_num.l0 k a0 0 (wrap64 ((a0.size : Int) - 1))) = some r := h
  clear h
  have H' := Aside0.mk H
  clear H
  go_enter Try.func70, Try.ntmps70
  go_wp2
  go_loopg [3, 4] k (fun kq v3 v4 w' => ∃ (x3_1 : Int) (x4_1 : Int), v3 = .int .i64 x3_1 ∧ v4 = .int .i64 x4_1 ∧ Aside0 (grafterref12_num.l0 kq a0 x3_1 x4_1 = some r) ∧ Aside0 (kq ≤ k) ∧ Drawn0 w w')
  case atStart => exact ⟨(0), (wrap64 ((a0.size : Int) - 1)), (by first | rfl | (simp; done) | (simp [*]; done)), (by first | rfl | (simp; done) | (simp [*]; done)), H', ⟨Nat.le_refl _⟩, by repeat (first | exact Drawn0.refl _ | apply Drawn0.step)⟩
  case round =>
    clear H'
    obtain ⟨x3_1, x4_1, rfl, rfl, HA, HK1, ⟨m1, rfl⟩⟩ := hrel
    cases gk with
    | zero => exact absurd HA.out (by simp [grafterref12_num.l0])
    | succ k1 =>
      have H := HA.out
      clear HA
      simp only [grafterref12_num.l0] at H
      by_cases c2 : x4_1 ≥ 0
      · rw [if_pos c2] at H
        have c2b0 : decide (0 ≤ x4_1) = true := decide_eq_true c2
        clear c2
        by_cases c3 : 0 ≤ x4_1
        · rw [if_pos c3] at H
          have c3b0 : decide (0 ≤ x4_1) = true := decide_eq_true c3
          clear c3
          by_cases c4 : x4_1 < (a0.size : Int)
          · rw [if_pos c4] at H
            have c4b0 : decide (x4_1 < (a0.size : Int)) = true := decide_eq_true c4
            clear c4
            have H' := Aside0.mk H
            clear H
            have p5 : 0 ≤ (x4_1 : Int) := of_decide_eq_true (by first | (with_reducible assumption) | assumption)
            have q5 : x4_1 < (a0.size : Int) := of_decide_eq_true (by first | (with_reducible assumption) | assumption)
            have hx5 := bt_at a0 x4_1
            replace p5 := eq_true p5
            replace q5 := eq_true q5
            go_wp2
            go_roundg k1
            case measure => have := HK1.out; omega
            case rel => exact ⟨(Go.bits .or .i64 (wrap64 (x3_1 * 256)) (wrap64 (bt a0 x4_1))), (wrap64 (x4_1 - 1)), (by first | rfl | (simp; done) | (simp [*]; done)), (by first | rfl | (simp; done) | (simp [*]; done)), H', ⟨by have := HK1.out; omega⟩, by repeat (first | exact Drawn0.refl _ | apply Drawn0.step)⟩
          · rw [if_neg c4] at H
            exact absurd H (by simp)
        · rw [if_neg c3] at H
          exact absurd H (by simp)
      · rw [if_neg c2] at H
        have c2b0 : decide (0 ≤ x4_1) = false := decide_eq_false c2
        clear c2
        obtain rfl := Option.some.inj H
        go_wp2
        go_ret
        exact ⟨by first | rfl | (simp; done) | (simp [*]; done), by repeat (first | exact Drawn0.refl _ | apply Drawn0.step)⟩

/-! ### grafterref12_GetFrame: function 25 -/
mutual
def grafterref12_GetFrame.j0 : Nat → ByteArray → Int → Bool → Option (ByteArray × Int × Int)
  | 0, _, _, _ => none
  | k + 1, x0, x1, x25 => if x25 = true then (some ((⟨#[]⟩ : ByteArray), 0, 1600)) else (if 0 ≤ x1 then (if x1 ≤ (wrap64 (x1 + 2)) then (if (wrap64 (x1 + 2)) ≤ (x0.size : Int) then ((grafterref12_num.f k (x0.extract (x1 : Int).toNat ((wrap64 (x1 + 2)) : Int).toNat)).bind fun t146 => (if t146 > 1024 then (grafterref12_GetFrame.j1 k x0 x1 t146 true) else (grafterref12_GetFrame.j1 k x0 x1 t146 (decide ((wrap64 ((x0.size : Int) - x1)) < (wrap64 (6 + t146))))))) else (none)) else (none)) else (none))
def grafterref12_GetFrame.j1 : Nat → ByteArray → Int → Int → Bool → Option (ByteArray × Int × Int)
  | 0, _, _, _, _ => none
  | k + 1, x0, x1, x7, x42 => if x42 = true then (some ((⟨#[]⟩ : ByteArray), 0, 1600)) else (if 0 ≤ (wrap64 (x1 + 2)) then (if (wrap64 (x1 + 2)) ≤ (wrap64 ((wrap64 (x1 + 2)) + x7)) then (if (wrap64 ((wrap64 (x1 + 2)) + x7)) ≤ (x0.size : Int) then ((grafterref12_PutFrame.f k (x0.extract ((wrap64 (x1 + 2)) : Int).toNat ((wrap64 ((wrap64 (x1 + 2)) + x7)) : Int).toNat)).bind fun bt147 => (if 0 ≤ x1 then (if x1 ≤ (wrap64 ((wrap64 (x1 + 6)) + x7)) then (if (wrap64 ((wrap64 (x1 + 6)) + x7)) ≤ (x0.size : Int) then (if bt147.1.toList = (x0.extract (x1 : Int).toNat ((wrap64 ((wrap64 (x1 + 6)) + x7)) : Int).toNat).toList then (some (x0.extract ((wrap64 (x1 + 2)) : Int).toNat ((wrap64 ((wrap64 (x1 + 2)) + x7)) : Int).toNat, wrap64 ((wrap64 (x1 + 6)) + x7), 0)) else (some ((⟨#[]⟩ : ByteArray), 0, 1600))) else (none)) else (none)) else (none))) else (none)) else (none)) else (none))
end
def grafterref12_GetFrame.f (k : Nat) (a0 : ByteArray) (a1 : Int) : Option (ByteArray × Int × Int) := if a1 < 0 then (grafterref12_GetFrame.j0 k a0 a1 true) else (if a1 > (a0.size : Int) then (grafterref12_GetFrame.j0 k a0 a1 true) else (grafterref12_GetFrame.j0 k a0 a1 (decide ((wrap64 ((a0.size : Int) - a1)) < 6))))
theorem grafterref12_GetFrame.mono_l : ∀ k, (∀ y0 y1 y2, LeO (grafterref12_GetFrame.j0 k y0 y1 y2) (grafterref12_GetFrame.j0 (k + 1) y0 y1 y2)) ∧ (∀ y0 y1 y2 y3, LeO (grafterref12_GetFrame.j1 k y0 y1 y2 y3) (grafterref12_GetFrame.j1 (k + 1) y0 y1 y2 y3))
  | 0 => ⟨fun _ _ _ r h => by simp [grafterref12_GetFrame.j0] at h, fun _ _ _ _ r h => by simp [grafterref12_GetFrame.j1] at h⟩
  | k + 1 => by
    obtain ⟨ih0, ih1⟩ := grafterref12_GetFrame.mono_l k
    refine ⟨?_, ?_⟩
    · intro y0 y1 y2
      unfold grafterref12_GetFrame.j0
      repeat' first
      | (with_reducible exact ih0 _ _ _)
      | (with_reducible exact ih1 _ _ _ _)
      | (with_reducible exact grafterref12_PutFrame.mono _ _)
      | (with_reducible exact grafterref12_num.mono _ _)
      | (with_reducible exact LeO.refl _)
      | (with_reducible exact LeO.none _)
      | (with_reducible refine LeO.ite ?_ ?_)
      | (with_reducible refine LeO.bind ?_ (fun _ => ?_))
      | exact ih0 _ _ _
      | exact ih1 _ _ _ _
      | exact grafterref12_PutFrame.mono _ _
      | exact grafterref12_num.mono _ _
      | exact LeO.none _
      | refine LeO.ite ?_ ?_
      | refine LeO.bind ?_ (fun _ => ?_)
    · intro y0 y1 y2 y3
      unfold grafterref12_GetFrame.j1
      repeat' first
      | (with_reducible exact ih0 _ _ _)
      | (with_reducible exact ih1 _ _ _ _)
      | (with_reducible exact grafterref12_PutFrame.mono _ _)
      | (with_reducible exact grafterref12_num.mono _ _)
      | (with_reducible exact LeO.refl _)
      | (with_reducible exact LeO.none _)
      | (with_reducible refine LeO.ite ?_ ?_)
      | (with_reducible refine LeO.bind ?_ (fun _ => ?_))
      | exact ih0 _ _ _
      | exact ih1 _ _ _ _
      | exact grafterref12_PutFrame.mono _ _
      | exact grafterref12_num.mono _ _
      | exact LeO.none _
      | refine LeO.ite ?_ ?_
      | refine LeO.bind ?_ (fun _ => ?_)
theorem grafterref12_GetFrame.mono : ∀ a0 a1 k, LeO (grafterref12_GetFrame.f k a0 a1) (grafterref12_GetFrame.f (k + 1) a0 a1) := by
  intro a0 a1 k
  obtain ⟨ih0, ih1⟩ := grafterref12_GetFrame.mono_l k
  unfold grafterref12_GetFrame.f
  repeat' first
      | (with_reducible exact ih0 _ _ _)
      | (with_reducible exact ih1 _ _ _ _)
      | (with_reducible exact grafterref12_PutFrame.mono _ _)
      | (with_reducible exact grafterref12_num.mono _ _)
      | (with_reducible exact LeO.refl _)
      | (with_reducible exact LeO.none _)
      | (with_reducible refine LeO.ite ?_ ?_)
      | (with_reducible refine LeO.bind ?_ (fun _ => ?_))
      | exact ih0 _ _ _
      | exact ih1 _ _ _ _
      | exact grafterref12_PutFrame.mono _ _
      | exact grafterref12_num.mono _ _
      | exact LeO.none _
      | refine LeO.ite ?_ ?_
      | refine LeO.bind ?_ (fun _ => ?_)
set_option maxHeartbeats 8000000 in
set_option maxRecDepth 100000 in
theorem grafterref12_GetFrame.calls (k : Nat) (a0 : ByteArray) (a1 : Int) (r1 : ByteArray) (r2 : Int) (r3 : Int) (w : World) (h : grafterref12_GetFrame.f k a0 a1 = some (r1, r2, r3)) :
    Calls Try.prog 25 #[.string a0, .int .i64 a1] w fun e w' => e = .returned (.tuple #[.string r1, .int .i64 r2, .int .i64 r3]) ∧ Below w.heap.size w w' := by
  have HB := Aside0.mk (Below.refl w.heap.size w)
  have H : (if a1 < 0 then (grafterref12_GetFrame.j0 k a0 a1 true) else (if a1 > (a0.size : Int) then (grafterref12_GetFrame.j0 k a0 a1 true) else (grafterref12_GetFrame.j0 k a0 a1 (decide ((wrap64 ((a0.size : Int) - a1)) < 6))))) = some (r1, r2, r3) := h
  clear h
  have HC3 := Aside0.mk H
  clear H
  go_enter Try.func25, Try.ntmps25
  go_upto_region 1 with (fail)
  go_cut [25] (fun v25 wc => ∃ (kq : Nat) (x25_2 : Bool), v25 = .bool x25_2 ∧ Aside0 (grafterref12_GetFrame.j0 kq a0 a1 x25_2 = some (r1, r2, r3)) ∧ Aside0 (kq ≤ k) ∧ Aside0 (Below w.heap.size w wc))
  case first =>
    have H := HC3.out
    clear HC3
    by_cases c4 : a1 < 0
    · rw [if_pos c4] at H
      have c4b0 : decide (a1 < 0) = true := decide_eq_true c4
      clear c4
      (first | rw [c4b0] | (simp only [i64_w, i32_w]; rw [c4b0]) | skip)
      have H' := Aside0.mk H
      clear H
      go_wp2
      go_meet
      case rel => exact ⟨_, (true), (by first | rfl | (simp; done) | (simp [*]; done)), H', ⟨by first | omega | exact Nat.le_refl _⟩, ⟨by repeat (first | (with_reducible first | exact HB.out | apply below_alloc | apply pw_below_drewN | apply below_drew1) | exact HB.out)⟩⟩
    · rw [if_neg c4] at H
      have c4b0 : decide (a1 < 0) = false := decide_eq_false c4
      clear c4
      (first | rw [c4b0] | (simp only [i64_w, i32_w]; rw [c4b0]) | skip)
      by_cases c5 : a1 > (a0.size : Int)
      · rw [if_pos c5] at H
        have c5b0 : decide ((a0.size : Int) < a1) = true := decide_eq_true c5
        clear c5
        have H' := Aside0.mk H
        clear H
        go_wp2
        go_meet
        case rel => exact ⟨_, (true), (by first | rfl | (simp; done) | (simp [*]; done)), H', ⟨by first | omega | exact Nat.le_refl _⟩, ⟨by repeat (first | (with_reducible first | exact HB.out | apply below_alloc | apply pw_below_drewN | apply below_drew1) | exact HB.out)⟩⟩
      · rw [if_neg c5] at H
        have c5b0 : decide ((a0.size : Int) < a1) = false := decide_eq_false c5
        clear c5
        have H' := Aside0.mk H
        clear H
        go_wp2
        go_meet
        case rel => exact ⟨_, (decide ((wrap64 ((a0.size : Int) - a1)) < 6)), (by first | rfl | (simp; done) | (simp [*]; done)), H', ⟨by first | omega | exact Nat.le_refl _⟩, ⟨by repeat (first | (with_reducible first | exact HB.out | apply below_alloc | apply pw_below_drewN | apply below_drew1) | exact HB.out)⟩⟩
  case rest =>
    clear HC3
    try clear c2
    try clear p2
    try clear c4
    try clear c4b0
    try clear c5
    try clear c5b0
    obtain ⟨kq, x25_2, rfl, HA, HJ2, HB⟩ := hcut
    cases kq with
    | zero => exact absurd HA.out (by simp [grafterref12_GetFrame.j0])
    | succ kj2 =>
      have H := HA.out
      clear HA
      simp only [grafterref12_GetFrame.j0] at H
      by_cases c6 : x25_2 = true
      · subst c6
        have H1 : (some ((⟨#[]⟩ : ByteArray), 0, 1600)) = some (r1, r2, r3) := by rw [if_pos rfl] at H; exact H
        clear H
        have H := H1
        clear H1
        simp only [Option.some.injEq, Prod.mk.injEq] at H
        obtain ⟨rfl, rfl, rfl⟩ := H
        go_wp2
        go_ret3
        exact ⟨by first | rfl | (simp [errW_none, errW_some] <;> rfl) | (simp [*, errW_none, errW_some] <;> rfl), by repeat (first | (with_reducible first | exact HB.out | apply below_alloc | apply pw_below_drewN | apply below_drew1) | exact HB.out)⟩
      · replace c6 := Bool.eq_false_iff.mpr c6
        subst c6
        have H1 : (if 0 ≤ a1 then (if a1 ≤ (wrap64 (a1 + 2)) then (if (wrap64 (a1 + 2)) ≤ (a0.size : Int) then ((grafterref12_num.f kj2 (a0.extract (a1 : Int).toNat ((wrap64 (a1 + 2)) : Int).toNat)).bind fun t146 => (if t146 > 1024 then (grafterref12_GetFrame.j1 kj2 a0 a1 t146 true) else (grafterref12_GetFrame.j1 kj2 a0 a1 t146 (decide ((wrap64 ((a0.size : Int) - a1)) < (wrap64 (6 + t146))))))) else (none)) else (none)) else (none)) = some (r1, r2, r3) := by rw [if_neg (show ¬ (false = true) by decide)] at H; exact H
        clear H
        have H := H1
        clear H1
        by_cases c7 : 0 ≤ a1
        · rw [if_pos c7] at H
          have c7b0 := eq_true c7
          have c7b1 : decide (0 ≤ a1) = true := decide_eq_true c7
          clear c7
          by_cases c8 : a1 ≤ (wrap64 (a1 + 2))
          · rw [if_pos c8] at H
            have c8b0 := eq_true c8
            have c8b1 : decide (a1 ≤ (wrap64 (a1 + 2))) = true := decide_eq_true c8
            by_cases c9 : (wrap64 (a1 + 2)) ≤ (a0.size : Int)
            · rw [if_pos c9] at H
              have c9b0 := eq_true c9
              have c9b1 : decide ((wrap64 (a1 + 2)) ≤ (a0.size : Int)) = true := decide_eq_true c9
              replace H := Option.bind_eq_some_iff.mp H
              obtain ⟨t146, A100, H⟩ := H
              replace H : (if t146 > 1024 then (grafterref12_GetFrame.j1 kj2 a0 a1 t146 true) else (grafterref12_GetFrame.j1 kj2 a0 a1 t146 (decide ((wrap64 ((a0.size : Int) - a1)) < (wrap64 (6 + t146)))))) = some (r1, r2, r3) := H
              have A10 := Aside0.mk A100
              clear A100
              have HC11 := Aside0.mk H
              clear H
              go_upto_region 4 with (first | ((with_reducible refine gate_callee (f := 70) rfl ?_); refine goesL_ (some 31) rfl rfl Try.func70 (by kernel_rfl) rfl #[.string (a0.extract (a1 : Int).toNat ((wrap64 (a1 + 2)) : Int).toNat)] rfl (by (try simp only [List.map_toArray, List.map_cons, List.map_nil]); first | done | rfl | (simp only [List.length_drop, List.length_take]; rfl)) ?_; (with_reducible refine (grafterref12_num.calls kj2 (a0.extract (a1 : Int).toNat ((wrap64 (a1 + 2)) : Int).toNat) t146 _ A10.out).mono ?_); rintro e w' ⟨rfl, ⟨nd, rfl⟩⟩; refine ⟨_, rfl, ?_⟩))
              (try simp only [Act.put, List.setIfInBounds_toArray, List.set_cons_zero, List.set_cons_succ])
              go_cut [42] (fun v42 wc => ∃ (kq : Nat) (x42_10 : Bool), v42 = .bool x42_10 ∧ Aside0 (grafterref12_GetFrame.j1 kq a0 a1 t146 x42_10 = some (r1, r2, r3)) ∧ Aside0 (kq ≤ kj2) ∧ Aside0 (Below w.heap.size w wc))
              case first =>
                have H := HC11.out
                clear HC11
                by_cases c12 : t146 > 1024
                · rw [if_pos c12] at H
                  have c12b0 : decide (1024 < t146) = true := decide_eq_true c12
                  clear c12
                  (first | rw [c12b0] | (simp only [i64_w, i32_w]; rw [c12b0]) | skip)
                  have H' := Aside0.mk H
                  clear H
                  go_wp2
                  go_meet
                  case rel => exact ⟨_, (true), (by first | rfl | (simp; done) | (simp [*]; done)), H', ⟨by have := HJ2.out; first | omega | exact Nat.le_refl _⟩, ⟨by repeat (first | (with_reducible first | exact HB.out | apply below_alloc | apply pw_below_drewN | apply below_drew1) | exact HB.out)⟩⟩
                · rw [if_neg c12] at H
                  have c12b0 : decide (1024 < t146) = false := decide_eq_false c12
                  clear c12
                  (first | rw [c12b0] | (simp only [i64_w, i32_w]; rw [c12b0]) | skip)
                  have H' := Aside0.mk H
                  clear H
                  go_wp2
                  go_meet
                  case rel => exact ⟨_, (decide ((wrap64 ((a0.size : Int) - a1)) < (wrap64 (6 + t146)))), (by first | rfl | (simp; done) | (simp [*]; done)), H', ⟨by have := HJ2.out; first | omega | exact Nat.le_refl _⟩, ⟨by repeat (first | (with_reducible first | exact HB.out | apply below_alloc | apply pw_below_drewN | apply below_drew1) | exact HB.out)⟩⟩
              case rest =>
                clear HC11
                try clear c1
                try clear c2
                try clear p2
                try clear c4
                try clear c4b0
                try clear c5
                try clear c5b0
                try clear c6
                try clear p6
                try clear c7
                try clear c7b0
                try clear c7b1
                try clear c8
                try clear c8b0
                try clear c8b1
                try clear c9
                try clear c9b0
                try clear c9b1
                try clear c12
                try clear c12b0
                try clear p2
                obtain ⟨kq, x42_10, rfl, HA, HJ10, HB⟩ := hcut
                cases kq with
                | zero => exact absurd HA.out (by simp [grafterref12_GetFrame.j1])
                | succ kj10 =>
                  have H := HA.out
                  clear HA
                  simp only [grafterref12_GetFrame.j1] at H
                  by_cases c13 : x42_10 = true
                  · subst c13
                    have H1 : (some ((⟨#[]⟩ : ByteArray), 0, 1600)) = some (r1, r2, r3) := by rw [if_pos rfl] at H; exact H
                    clear H
                    have H := H1
                    clear H1
                    simp only [Option.some.injEq, Prod.mk.injEq] at H
                    obtain ⟨rfl, rfl, rfl⟩ := H
                    go_wp2
                    go_ret3
                    exact ⟨by first | rfl | (simp [errW_none, errW_some] <;> rfl) | (simp [*, errW_none, errW_some] <;> rfl), by repeat (first | (with_reducible first | exact HB.out | apply below_alloc | apply pw_below_drewN | apply below_drew1) | exact HB.out)⟩
                  · replace c13 := Bool.eq_false_iff.mpr c13
                    subst c13
                    have H1 : (if 0 ≤ (wrap64 (a1 + 2)) then (if (wrap64 (a1 + 2)) ≤ (wrap64 ((wrap64 (a1 + 2)) + t146)) then (if (wrap64 ((wrap64 (a1 + 2)) + t146)) ≤ (a0.size : Int) then ((grafterref12_PutFrame.f kj10 (a0.extract ((wrap64 (a1 + 2)) : Int).toNat ((wrap64 ((wrap64 (a1 + 2)) + t146)) : Int).toNat)).bind fun bt147 => (if 0 ≤ a1 then (if a1 ≤ (wrap64 ((wrap64 (a1 + 6)) + t146)) then (if (wrap64 ((wrap64 (a1 + 6)) + t146)) ≤ (a0.size : Int) then (if bt147.1.toList = (a0.extract (a1 : Int).toNat ((wrap64 ((wrap64 (a1 + 6)) + t146)) : Int).toNat).toList then (some (a0.extract ((wrap64 (a1 + 2)) : Int).toNat ((wrap64 ((wrap64 (a1 + 2)) + t146)) : Int).toNat, wrap64 ((wrap64 (a1 + 6)) + t146), 0)) else (some ((⟨#[]⟩ : ByteArray), 0, 1600))) else (none)) else (none)) else (none))) else (none)) else (none)) else (none)) = some (r1, r2, r3) := by rw [if_neg (show ¬ (false = true) by decide)] at H; exact H
                    clear H
                    have H := H1
                    clear H1
                    obtain ⟨ji14, hji14⟩ : ∃ j_ : Int, (wrap64 (a1 + 2)) = j_ := ⟨_, rfl⟩
                    replace H : (if 0 ≤ (ji14) then (if (ji14) ≤ (wrap64 ((ji14) + t146)) then (if (wrap64 ((ji14) + t146)) ≤ (a0.size : Int) then ((grafterref12_PutFrame.f kj10 (a0.extract ((ji14) : Int).toNat ((wrap64 ((ji14) + t146)) : Int).toNat)).bind fun bt147 => (if 0 ≤ a1 then (if a1 ≤ (wrap64 ((wrap64 (a1 + 6)) + t146)) then (if (wrap64 ((wrap64 (a1 + 6)) + t146)) ≤ (a0.size : Int) then (if bt147.1.toList = (a0.extract (a1 : Int).toNat ((wrap64 ((wrap64 (a1 + 6)) + t146)) : Int).toNat).toList then (some (a0.extract ((ji14) : Int).toNat ((wrap64 ((ji14) + t146)) : Int).toNat, wrap64 ((wrap64 (a1 + 6)) + t146), 0)) else (some ((⟨#[]⟩ : ByteArray), 0, 1600))) else (none)) else (none)) else (none))) else (none)) else (none)) else (none)) = some (r1, r2, r3) := by first | (rw [hji14] at H; exact H) | (simp only [hji14] at H ⊢; exact H)
                    (try rw [hji14] at c8b0)
                    (try rw [hji14] at c8b1)
                    (try rw [hji14] at c8)
                    (try rw [hji14] at c9b0)
                    (try rw [hji14] at c9b1)
                    (try rw [hji14] at c9)
                    have hji14w : (IntKind.i64.wrap (a1 + 2)) = ji14 := (i64_w _).trans hji14
                    by_cases c15 : 0 ≤ (ji14)
                    · rw [if_pos c15] at H
                      have c15b0 := eq_true c15
                      have c15b1 : decide (0 ≤ (ji14)) = true := decide_eq_true c15
                      clear c15
                      by_cases c16 : (ji14) ≤ (wrap64 ((ji14) + t146))
                      · rw [if_pos c16] at H
                        have c16b0 := eq_true c16
                        have c16b1 : decide ((ji14) ≤ (wrap64 ((ji14) + t146))) = true := decide_eq_true c16
                        by_cases c17 : (wrap64 ((ji14) + t146)) ≤ (a0.size : Int)
                        · rw [if_pos c17] at H
                          have c17b0 := eq_true c17
                          have c17b1 : decide ((wrap64 ((ji14) + t146)) ≤ (a0.size : Int)) = true := decide_eq_true c17
                          replace H := Option.bind_eq_some_iff.mp H
                          obtain ⟨⟨t147, t148⟩, A180, H⟩ := H
                          replace H : (if 0 ≤ a1 then (if a1 ≤ (wrap64 ((wrap64 (a1 + 6)) + t146)) then (if (wrap64 ((wrap64 (a1 + 6)) + t146)) ≤ (a0.size : Int) then (if t147.toList = (a0.extract (a1 : Int).toNat ((wrap64 ((wrap64 (a1 + 6)) + t146)) : Int).toNat).toList then (some (a0.extract ((ji14) : Int).toNat ((wrap64 ((ji14) + t146)) : Int).toNat, wrap64 ((wrap64 (a1 + 6)) + t146), 0)) else (some ((⟨#[]⟩ : ByteArray), 0, 1600))) else (none)) else (none)) else (none)) = some (r1, r2, r3) := H
                          have A18 := Aside0.mk A180
                          clear A180
                          by_cases c19 : 0 ≤ a1
                          · rw [if_pos c19] at H
                            have c19b0 := eq_true c19
                            have c19b1 : decide (0 ≤ a1) = true := decide_eq_true c19
                            clear c19
                            by_cases c20 : a1 ≤ (wrap64 ((wrap64 (a1 + 6)) + t146))
                            · rw [if_pos c20] at H
                              have c20b0 := eq_true c20
                              have c20b1 : decide (a1 ≤ (wrap64 ((wrap64 (a1 + 6)) + t146))) = true := decide_eq_true c20
                              by_cases c21 : (wrap64 ((wrap64 (a1 + 6)) + t146)) ≤ (a0.size : Int)
                              · rw [if_pos c21] at H
                                have c21b0 := eq_true c21
                                have c21b1 : decide ((wrap64 ((wrap64 (a1 + 6)) + t146)) ≤ (a0.size : Int)) = true := decide_eq_true c21
                                by_cases c22 : t147.toList = (a0.extract (a1 : Int).toNat ((wrap64 ((wrap64 (a1 + 6)) + t146)) : Int).toNat).toList
                                · rw [if_pos c22] at H
                                  have c22b0 : (t147.toList == (a0.extract (a1 : Int).toNat ((wrap64 ((wrap64 (a1 + 6)) + t146)) : Int).toNat).toList) = true := beq_iff_eq.mpr c22
                                  have c22b1 : (t147.toList != (a0.extract (a1 : Int).toNat ((wrap64 ((wrap64 (a1 + 6)) + t146)) : Int).toNat).toList) = false := bne_eq_false_iff_eq.mpr c22
                                  clear c22
                                  simp only [Option.some.injEq, Prod.mk.injEq] at H
                                  obtain ⟨rfl, rfl, rfl⟩ := H
                                  go_wp2_with (first | ((with_reducible refine gate_callee (f := 23) rfl ?_); refine goesL_ (some 53) rfl rfl Try.func23 (by kernel_rfl) rfl #[.string (a0.extract ((ji14) : Int).toNat ((wrap64 ((ji14) + t146)) : Int).toNat)] rfl (by (try simp only [List.map_toArray, List.map_cons, List.map_nil]); first | done | (simp only [hji14]; rfl) | rfl | (simp only [List.length_drop, List.length_take]; rfl)) ?_; (with_reducible refine (grafterref12_PutFrame.calls kj10 (a0.extract ((ji14) : Int).toNat ((wrap64 ((ji14) + t146)) : Int).toNat) t147 t148 _ A18.out).mono ?_); rintro e w23 ⟨rfl, hb⟩; refine ⟨_, rfl, ?_⟩; have n0_ := Aside0.mk (below_step (by repeat (first | (with_reducible first | exact HB.out | apply below_alloc | apply pw_below_drewN | apply below_drew1) | exact HB.out)) hb); clear HB; have HB := n0_; clear n0_; (try clear hb); (try clear hb2); (try clear hk); (try clear hi)))
                                  all_goals go_ret3
                                  all_goals exact ⟨by first | (simp only [← hji14_]; split <;> first | (exfalso; omega) | (simp [ByteArray.extract_zero_size]; done) | (simp [ByteArray.extract_zero_size, *]; done)) | rfl | (simp [errW_none, errW_some] <;> rfl) | (simp only [← hji14]; first | rfl | (simp [errW_none, errW_some] <;> rfl)) | (simp [*, errW_none, errW_some] <;> rfl), by repeat (first | (with_reducible first | exact HB.out | apply below_alloc | apply pw_below_drewN | apply below_drew1) | exact HB.out)⟩
                                · rw [if_neg c22] at H
                                  have c22b0 : (t147.toList == (a0.extract (a1 : Int).toNat ((wrap64 ((wrap64 (a1 + 6)) + t146)) : Int).toNat).toList) = false := beq_eq_false_iff_ne.mpr c22
                                  have c22b1 : (t147.toList != (a0.extract (a1 : Int).toNat ((wrap64 ((wrap64 (a1 + 6)) + t146)) : Int).toNat).toList) = true := bne_iff_ne.mpr c22
                                  simp only [Option.some.injEq, Prod.mk.injEq] at H
                                  obtain ⟨rfl, rfl, rfl⟩ := H
                                  go_wp2_with (first | ((with_reducible refine gate_callee (f := 23) rfl ?_); refine goesL_ (some 53) rfl rfl Try.func23 (by kernel_rfl) rfl #[.string (a0.extract ((ji14) : Int).toNat ((wrap64 ((ji14) + t146)) : Int).toNat)] rfl (by (try simp only [List.map_toArray, List.map_cons, List.map_nil]); first | done | (simp only [hji14]; rfl) | rfl | (simp only [List.length_drop, List.length_take]; rfl)) ?_; (with_reducible refine (grafterref12_PutFrame.calls kj10 (a0.extract ((ji14) : Int).toNat ((wrap64 ((ji14) + t146)) : Int).toNat) t147 t148 _ A18.out).mono ?_); rintro e w24 ⟨rfl, hb⟩; refine ⟨_, rfl, ?_⟩; have n0_ := Aside0.mk (below_step (by repeat (first | (with_reducible first | exact HB.out | apply below_alloc | apply pw_below_drewN | apply below_drew1) | exact HB.out)) hb); clear HB; have HB := n0_; clear n0_; (try clear hb); (try clear hb2); (try clear hk); (try clear hi)))
                                  all_goals go_ret3
                                  all_goals exact ⟨by first | (simp only [← hji14_]; split <;> first | (exfalso; omega) | (simp [ByteArray.extract_zero_size]; done) | (simp [ByteArray.extract_zero_size, *]; done)) | rfl | (simp [errW_none, errW_some] <;> rfl) | (simp only [← hji14]; first | rfl | (simp [errW_none, errW_some] <;> rfl)) | (simp [*, errW_none, errW_some] <;> rfl), by repeat (first | (with_reducible first | exact HB.out | apply below_alloc | apply pw_below_drewN | apply below_drew1) | exact HB.out)⟩
                              · rw [if_neg c21] at H
                                exact absurd H (by simp)
                            · rw [if_neg c20] at H
                              exact absurd H (by simp)
                          · rw [if_neg c19] at H
                            exact absurd H (by simp)
                        · rw [if_neg c17] at H
                          exact absurd H (by simp)
                      · rw [if_neg c16] at H
                        exact absurd H (by simp)
                    · rw [if_neg c15] at H
                      exact absurd H (by simp)
            · rw [if_neg c9] at H
              exact absurd H (by simp)
          · rw [if_neg c8] at H
            exact absurd H (by simp)
        · rw [if_neg c7] at H
          exact absurd H (by simp)

end Go.Proofs.Ytbhkmgidokonkaa.PJournals
