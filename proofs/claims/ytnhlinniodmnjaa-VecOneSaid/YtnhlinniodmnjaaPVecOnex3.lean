-- Written by a program of this session (pprint.py) out of the translation, with hand-proved walks pasted in.
import Derived.Test.YtnhlinniodmnjaaPVecOnex0
import Derived.Test.YtnhlinniodmnjaaPVecOnex1
import Derived.Test.YtnhlinniodmnjaaPVecOnex2
namespace Go.Proofs.Ytnhlinniodmnjaa.PVecOne
open Go.RowKit Go.Proofs.YtnhlinniodmnjaaW.PrintWords Go.Proofs.YtnhlinniodmnjaaW.PrintLast Go.Proofs.YtnhlinniodmnjaaW.PrintMore
attribute [local go_sem] max2_int min2_int max_two min_two max_three min_three max_four min_four   -- for this text's walks alone
set_option linter.unusedVariables false
set_option linter.unusedSimpArgs false

/-! ### grafterlaw4_VecOne: function 15 -/
def grafterlaw4_VecOne.j0 : Nat → List Int → Int → Bool → Option (Bool)
  | 0, _, _, _ => none
  | k + 1, x0, x1, x22 => if x22 = true then ((vec_May.f k x0).bind fun t186 => ((grafterref1_VecMay.f k x0).bind fun t187 => (some (t186 == t187)))) else (if (IntKind.u64.wrap ((x0.length : Int))) = 0 then (none) else (if 0 ≤ (x0.length : Int) then (if ((x0.length : Int) : Int).toNat ≤ 35184372088832 then ((some (List.replicate ((x0.length : Int) : Int).toNat 0 : List Int)).bind fun y188 => (if 0 ≤ (wrap64 (Int.tmod (IntKind.u64.wrap (x1)) (IntKind.u64.wrap ((x0.length : Int))))) then (if (wrap64 (Int.tmod (IntKind.u64.wrap (x1)) (IntKind.u64.wrap ((x0.length : Int))))) < (y188.length : Int) then ((some (y188.set ((wrap64 (Int.tmod (IntKind.u64.wrap (x1)) (IntKind.u64.wrap ((x0.length : Int))))) : Int).toNat 65536 : List Int)).bind fun y191 => ((vec_Dot.f k x0 y191).bind fun bt192 => ((vec_Scaled.f k x0 y191 0).bind fun bt194 => ((vec_Scaled.f k (List.replicate ((x0.length : Int) : Int).toNat 0) x0 65536).bind fun bt201 => ((grafterlaw0_Num.f bt192.2).bind fun t205 => (if t205 = 0 then (if (wrap64 (Int.tmod (IntKind.u64.wrap (x1)) (IntKind.u64.wrap ((x0.length : Int))))) < (x0.length : Int) then (if bt192.1 = (rd x0 (wrap64 (Int.tmod (IntKind.u64.wrap (x1)) (IntKind.u64.wrap ((x0.length : Int)))))) then ((grafterlaw0_Num.f bt194.2).bind fun t207 => (if t207 = 0 then ((grafterlaw0_SameInts.f k bt194.1 x0).bind fun t208 => (if t208 = true then ((grafterlaw0_Num.f bt201.2).bind fun t209 => (if t209 = 0 then ((grafterlaw0_SameInts.f k bt201.1 x0).bind fun t210 => (some t210)) else (some false))) else (some false))) else (some false))) else (some false)) else (none)) else (some false))))))) else (none)) else (none))) else (none)) else (none)))
def grafterlaw4_VecOne.f (k : Nat) (l0 : List Int) (a1 : Int) : Option (Bool) := (grafterlaw4_awake.f k).bind fun t184 => (if t184 = true then (if (l0.length : Int) = 0 then (grafterlaw4_VecOne.j0 k l0 a1 true) else ((grafterref1_VecMay.f k l0).bind fun t185 => (grafterlaw4_VecOne.j0 k l0 a1 (!t185)))) else (some false))
theorem grafterlaw4_VecOne.mono_l : ∀ k, (∀ y0 y1 y2, LeO (grafterlaw4_VecOne.j0 k y0 y1 y2) (grafterlaw4_VecOne.j0 (k + 1) y0 y1 y2))
  | 0 => fun _ _ _ r h => by simp [grafterlaw4_VecOne.j0] at h
  | k + 1 => by
    have ih0 := grafterlaw4_VecOne.mono_l k
    · intro y0 y1 y2
      unfold grafterlaw4_VecOne.j0
      repeat' first
      | (with_reducible exact ih0 _ _ _)
      | (with_reducible exact grafterlaw0_SameInts.mono _ _ _)
      | (with_reducible exact grafterlaw4_awake.mono _)
      | (with_reducible exact grafterref1_VecMay.mono _ _)
      | (with_reducible exact vec_Dot.mono _ _ _)
      | (with_reducible exact vec_May.mono _ _)
      | (with_reducible exact vec_Scaled.mono _ _ _ _)
      | (with_reducible exact LeO.refl _)
      | (with_reducible exact LeO.none _)
      | (with_reducible refine LeO.ite ?_ ?_)
      | (with_reducible refine LeO.bind ?_ (fun _ => ?_))
      | exact ih0 _ _ _
      | exact grafterlaw0_SameInts.mono _ _ _
      | exact grafterlaw4_awake.mono _
      | exact grafterref1_VecMay.mono _ _
      | exact vec_Dot.mono _ _ _
      | exact vec_May.mono _ _
      | exact vec_Scaled.mono _ _ _ _
      | exact LeO.none _
      | refine LeO.ite ?_ ?_
      | refine LeO.bind ?_ (fun _ => ?_)
theorem grafterlaw4_VecOne.mono : ∀ a0 a1 k, LeO (grafterlaw4_VecOne.f k a0 a1) (grafterlaw4_VecOne.f (k + 1) a0 a1) := by
  intro a0 a1 k
  have ih0 := grafterlaw4_VecOne.mono_l k
  unfold grafterlaw4_VecOne.f
  repeat' first
      | (with_reducible exact ih0 _ _ _)
      | (with_reducible exact grafterlaw0_SameInts.mono _ _ _)
      | (with_reducible exact grafterlaw4_awake.mono _)
      | (with_reducible exact grafterref1_VecMay.mono _ _)
      | (with_reducible exact vec_Dot.mono _ _ _)
      | (with_reducible exact vec_May.mono _ _)
      | (with_reducible exact vec_Scaled.mono _ _ _ _)
      | (with_reducible exact LeO.refl _)
      | (with_reducible exact LeO.none _)
      | (with_reducible refine LeO.ite ?_ ?_)
      | (with_reducible refine LeO.bind ?_ (fun _ => ?_))
      | exact ih0 _ _ _
      | exact grafterlaw0_SameInts.mono _ _ _
      | exact grafterlaw4_awake.mono _
      | exact grafterref1_VecMay.mono _ _
      | exact vec_Dot.mono _ _ _
      | exact vec_May.mono _ _
      | exact vec_Scaled.mono _ _ _ _
      | exact LeO.none _
      | refine LeO.ite ?_ ?_
      | refine LeO.bind ?_ (fun _ => ?_)
set_option maxHeartbeats 8000000 in
set_option maxRecDepth 100000 in
theorem grafterlaw4_VecOne.calls (k : Nat) (A0 : Option Addr) (c0 : Nat) (l0 : List Int) (a1 : Int) (r : Bool) (w : World) (hrt : r = true) (hr0 : Kd.C (Kd.int .i64) w A0 l0.length l0) (hc0 : l0.length ≤ c0) (h : grafterlaw4_VecOne.f k l0 a1 = some r) :
    Calls Try.prog 15 #[.slice A0 l0.length c0, .int .i64 a1] w fun e w' => e = .returned (.bool r) ∧ Below w.heap.size w w' := by
  have HRT := Aside0.mk hrt
  clear hrt
  have HR0 := Aside0.mk hr0
  have HC0 := Aside0.mk hc0
  clear hr0 hc0
  have HB := Aside0.mk (Below.refl w.heap.size w)
  have H : ((grafterlaw4_awake.f k).bind fun t184 => (if t184 = true then (if (l0.length : Int) = 0 then (grafterlaw4_VecOne.j0 k l0 a1 true) else ((grafterref1_VecMay.f k l0).bind fun t185 => (grafterlaw4_VecOne.j0 k l0 a1 (!t185)))) else (some false))) = some r := h
  clear h
  replace H := Option.bind_eq_some_iff.mp H
  obtain ⟨t184, A30, H⟩ := H
  replace H : (if t184 = true then (if (l0.length : Int) = 0 then (grafterlaw4_VecOne.j0 k l0 a1 true) else ((grafterref1_VecMay.f k l0).bind fun t185 => (grafterlaw4_VecOne.j0 k l0 a1 (!t185)))) else (some false)) = some r := H
  have A3 := Aside0.mk A30
  clear A30
  by_cases c4 : t184 = true
  · subst c4
    have H1 : (if (l0.length : Int) = 0 then (grafterlaw4_VecOne.j0 k l0 a1 true) else ((grafterref1_VecMay.f k l0).bind fun t185 => (grafterlaw4_VecOne.j0 k l0 a1 (!t185)))) = some r := by rw [if_pos rfl] at H; exact H
    clear H
    have H := H1
    clear H1
    have HC5 := Aside0.mk H
    clear H
    go_enter Try.func15, Try.ntmps15
    go_upto_region 3 with (first | ((with_reducible refine gate_callee (f := 41) rfl ?_); refine goesL_ (some 13) rfl rfl Try.func41 (by kernel_rfl) rfl #[] rfl (by (try simp only [List.map_toArray, List.map_cons, List.map_nil]); first | done | rfl | (simp only [List.length_drop, List.length_take]; rfl)) ?_; (with_reducible refine (grafterlaw4_awake.calls k  true _ rfl A3.out).mono ?_); rintro e w6 ⟨rfl, hb⟩; refine ⟨_, rfl, ?_⟩; have n0_ := Aside0.mk (below_step (by repeat (first | (with_reducible first | exact HB.out | apply below_alloc | apply pw_below_drewN | apply below_drew1) | exact HB.out)) hb); clear HB; have HB := n0_; clear n0_; (try clear hb); (try clear hb2); (try clear hk); (try clear hi)))
    (try simp only [Act.put, List.setIfInBounds_toArray, List.set_cons_zero, List.set_cons_succ])
    go_cut [22] (fun v22 wc => ∃ (kq : Nat) (x22_4 : Bool), v22 = .bool x22_4 ∧ Aside0 (grafterlaw4_VecOne.j0 kq l0 a1 x22_4 = some r) ∧ Aside0 (kq ≤ k) ∧ Aside0 (Below w.heap.size w wc))
    case first =>
      have H := HC5.out
      clear HC5
      by_cases c7 : (l0.length : Int) = 0
      · rw [if_pos c7] at H
        have c7b0 : ((l0.length : Int) == 0) = true := beq_iff_eq.mpr c7
        have c7b1 : ((l0.length : Int) != 0) = false := bne_eq_false_iff_eq.mpr c7
        clear c7
        (first | rw [c7b0] | (simp only [i64_w, i32_w]; rw [c7b0]) | skip)
        have H' := Aside0.mk H
        clear H
        go_wp2
        go_meet
        case rel => exact ⟨_, (true), (by first | rfl | (simp; done) | (simp [*]; done)), H', ⟨by first | omega | exact Nat.le_refl _⟩, ⟨by repeat (first | (with_reducible first | exact HB.out | apply below_alloc | apply pw_below_drewN | apply below_drew1) | exact HB.out)⟩⟩
      · rw [if_neg c7] at H
        have c7b0 : ((l0.length : Int) == 0) = false := beq_eq_false_iff_ne.mpr c7
        have c7b1 : ((l0.length : Int) != 0) = true := bne_iff_ne.mpr c7
        have c7b2 : ¬ (l0 = []) := fun h_ => c7 (by rw [h_]; rfl)
        (first | rw [c7b0] | (simp only [i64_w, i32_w]; rw [c7b0]) | skip)
        replace H := Option.bind_eq_some_iff.mp H
        obtain ⟨t185, A80, H⟩ := H
        replace H : (grafterlaw4_VecOne.j0 k l0 a1 (!t185)) = some r := H
        have A8 := Aside0.mk A80
        clear A80
        have H' := Aside0.mk H
        clear H
        go_wp2_with (first | (go_at_call 40; (with_reducible refine (grafterref1_VecMay.calls k _ _ l0 t185 _ ?side1 ?side2 A8.out).mono ?_); (case side1 => repeat (first | exact (Kd.C_below HR0.out HB.out) | (with_reducible refine Kd.C_alloc ?_ _) | (with_reducible refine Kd.C_drewN ?_ _) | (with_reducible refine Kd.C_drew ?_))); (case side2 => exact HC0.out); rintro e w' ⟨rfl, ⟨nd, rfl⟩⟩))
        go_meet
        case rel => exact ⟨_, (!t185), (by first | rfl | (simp; done) | (simp [*]; done)), H', ⟨by first | omega | exact Nat.le_refl _⟩, ⟨by repeat (first | (with_reducible first | exact HB.out | apply below_alloc | apply pw_below_drewN | apply below_drew1) | exact HB.out)⟩⟩
    case rest =>
      clear HC5
      try clear c1
      try clear p2
      try clear c4
      try clear c7
      try clear c7b0
      try clear c7b1
      try clear c7b2
      obtain ⟨kq, x22_4, rfl, HA, HJ4, HB⟩ := hcut
      cases kq with
      | zero => exact absurd HA.out (by simp [grafterlaw4_VecOne.j0])
      | succ kj4 =>
        have H := HA.out
        clear HA
        simp only [grafterlaw4_VecOne.j0] at H
        by_cases c9 : x22_4 = true
        · subst c9
          have H1 : ((vec_May.f kj4 l0).bind fun t186 => ((grafterref1_VecMay.f kj4 l0).bind fun t187 => (some (t186 == t187)))) = some r := by rw [if_pos rfl] at H; exact H
          clear H
          have H := H1
          clear H1
          replace H := Option.bind_eq_some_iff.mp H
          obtain ⟨t186, A100, H⟩ := H
          replace H : ((grafterref1_VecMay.f kj4 l0).bind fun t187 => (some (t186 == t187))) = some r := H
          have A10 := Aside0.mk A100
          clear A100
          replace H := Option.bind_eq_some_iff.mp H
          obtain ⟨t187, A110, H⟩ := H
          replace H : (some (t186 == t187)) = some r := H
          have A11 := Aside0.mk A110
          clear A110
          obtain rfl := Option.some.inj H
          go_wp2_with (first | ((with_reducible refine gate_callee (f := 39) rfl ?_); refine goesL_ (some 24) rfl rfl Try.func39 (by kernel_rfl) rfl #[.slice A0 l0.length c0] rfl (by (try simp only [List.map_toArray, List.map_cons, List.map_nil]); first | done | rfl | (simp only [List.length_drop, List.length_take]; rfl)) ?_; (with_reducible refine (vec_May.calls kj4 _ _ l0 t186 _ ?side1 ?side2 A10.out).mono ?_); (case side1 => repeat (first | exact (Kd.C_below HR0.out HB.out) | (with_reducible refine Kd.C_alloc ?_ _) | (with_reducible refine Kd.C_drewN ?_ _) | (with_reducible refine Kd.C_drew ?_))); (case side2 => exact HC0.out); rintro e w' ⟨rfl, ⟨nd, rfl⟩⟩; refine ⟨_, rfl, ?_⟩) | ((with_reducible refine gate_callee (f := 40) rfl ?_); refine goesL_ (some 26) rfl rfl Try.func40 (by kernel_rfl) rfl #[.slice A0 l0.length c0] rfl (by (try simp only [List.map_toArray, List.map_cons, List.map_nil]); first | done | rfl | (simp only [List.length_drop, List.length_take]; rfl)) ?_; (with_reducible refine (grafterref1_VecMay.calls kj4 _ _ l0 t187 _ ?side1 ?side2 A11.out).mono ?_); (case side1 => repeat (first | exact (Kd.C_below HR0.out (by repeat (first | (with_reducible first | exact HB.out | apply below_alloc | apply pw_below_drewN | apply below_drew1) | exact HB.out))) | (with_reducible refine Kd.C_alloc ?_ _) | (with_reducible refine Kd.C_drewN ?_ _) | (with_reducible refine Kd.C_drew ?_))); (case side2 => exact HC0.out); rintro e w' ⟨rfl, ⟨nd, rfl⟩⟩; refine ⟨_, rfl, ?_⟩))
          go_ret
          exact ⟨by first | rfl | (simp [errW_none, errW_some] <;> rfl) | (simp [*, errW_none, errW_some] <;> rfl), by repeat (first | (with_reducible first | exact HB.out | apply below_alloc | apply pw_below_drewN | apply below_drew1) | exact HB.out)⟩
        · replace c9 := Bool.eq_false_iff.mpr c9
          subst c9
          have H1 : (if (IntKind.u64.wrap ((l0.length : Int))) = 0 then (none) else (if 0 ≤ (l0.length : Int) then (if ((l0.length : Int) : Int).toNat ≤ 35184372088832 then ((some (List.replicate ((l0.length : Int) : Int).toNat 0 : List Int)).bind fun y188 => (if 0 ≤ (wrap64 (Int.tmod (IntKind.u64.wrap (a1)) (IntKind.u64.wrap ((l0.length : Int))))) then (if (wrap64 (Int.tmod (IntKind.u64.wrap (a1)) (IntKind.u64.wrap ((l0.length : Int))))) < (y188.length : Int) then ((some (y188.set ((wrap64 (Int.tmod (IntKind.u64.wrap (a1)) (IntKind.u64.wrap ((l0.length : Int))))) : Int).toNat 65536 : List Int)).bind fun y191 => ((vec_Dot.f kj4 l0 y191).bind fun bt192 => ((vec_Scaled.f kj4 l0 y191 0).bind fun bt194 => ((vec_Scaled.f kj4 (List.replicate ((l0.length : Int) : Int).toNat 0) l0 65536).bind fun bt201 => ((grafterlaw0_Num.f bt192.2).bind fun t205 => (if t205 = 0 then (if (wrap64 (Int.tmod (IntKind.u64.wrap (a1)) (IntKind.u64.wrap ((l0.length : Int))))) < (l0.length : Int) then (if bt192.1 = (rd l0 (wrap64 (Int.tmod (IntKind.u64.wrap (a1)) (IntKind.u64.wrap ((l0.length : Int)))))) then ((grafterlaw0_Num.f bt194.2).bind fun t207 => (if t207 = 0 then ((grafterlaw0_SameInts.f kj4 bt194.1 l0).bind fun t208 => (if t208 = true then ((grafterlaw0_Num.f bt201.2).bind fun t209 => (if t209 = 0 then ((grafterlaw0_SameInts.f kj4 bt201.1 l0).bind fun t210 => (some t210)) else (some false))) else (some false))) else (some false))) else (some false)) else (none)) else (some false))))))) else (none)) else (none))) else (none)) else (none))) = some r := by rw [if_neg (show ¬ (false = true) by decide)] at H; exact H
          clear H
          have H := H1
          clear H1
          by_cases c12 : (IntKind.u64.wrap ((l0.length : Int))) = 0
          · rw [if_pos c12] at H
            exact absurd H (by simp)
          · rw [if_neg c12] at H
            have c12b0 : ((IntKind.u64.wrap ((l0.length : Int))) == 0) = false := beq_eq_false_iff_ne.mpr c12
            have c12b1 : ((IntKind.u64.wrap ((l0.length : Int))) != 0) = true := bne_iff_ne.mpr c12
            by_cases c13 : 0 ≤ (l0.length : Int)
            · rw [if_pos c13] at H
              have c13b0 := eq_true c13
              have c13b1 : decide (0 ≤ (l0.length : Int)) = true := decide_eq_true c13
              clear c13
              by_cases c14 : ((l0.length : Int) : Int).toNat ≤ 35184372088832
              · rw [if_pos c14] at H
                have c14b0 := eq_true c14
                have c14b1 : decide (((l0.length : Int) : Int).toNat ≤ 35184372088832) = true := decide_eq_true c14
                clear c14
                obtain ⟨y188, hy188⟩ : ∃ y_ : List Int, y_ = (List.replicate ((l0.length : Int) : Int).toNat 0) := ⟨_, rfl⟩
                replace H : (if 0 ≤ (wrap64 (Int.tmod (IntKind.u64.wrap (a1)) (IntKind.u64.wrap ((l0.length : Int))))) then (if (wrap64 (Int.tmod (IntKind.u64.wrap (a1)) (IntKind.u64.wrap ((l0.length : Int))))) < (y188.length : Int) then ((some (y188.set ((wrap64 (Int.tmod (IntKind.u64.wrap (a1)) (IntKind.u64.wrap ((l0.length : Int))))) : Int).toNat 65536 : List Int)).bind fun y191 => ((vec_Dot.f kj4 l0 y191).bind fun bt192 => ((vec_Scaled.f kj4 l0 y191 0).bind fun bt194 => ((vec_Scaled.f kj4 (List.replicate ((l0.length : Int) : Int).toNat 0) l0 65536).bind fun bt201 => ((grafterlaw0_Num.f bt192.2).bind fun t205 => (if t205 = 0 then (if (wrap64 (Int.tmod (IntKind.u64.wrap (a1)) (IntKind.u64.wrap ((l0.length : Int))))) < (l0.length : Int) then (if bt192.1 = (rd l0 (wrap64 (Int.tmod (IntKind.u64.wrap (a1)) (IntKind.u64.wrap ((l0.length : Int)))))) then ((grafterlaw0_Num.f bt194.2).bind fun t207 => (if t207 = 0 then ((grafterlaw0_SameInts.f kj4 bt194.1 l0).bind fun t208 => (if t208 = true then ((grafterlaw0_Num.f bt201.2).bind fun t209 => (if t209 = 0 then ((grafterlaw0_SameInts.f kj4 bt201.1 l0).bind fun t210 => (some t210)) else (some false))) else (some false))) else (some false))) else (some false)) else (none)) else (some false))))))) else (none)) else (none)) = some r := by first | (rw [hy188]; with_reducible exact H) | (have H2_ := (Option.bind_some _ _).symm.trans H; rw [hy188]; with_reducible exact H2_) | (have H2_ := (Option.bind_some _ _).symm.trans H; with_reducible exact H2_) | with_reducible exact H | (rw [hy188]; exact H) | exact H
                have Ny188 := Aside0.mk hy188
                clear hy188
                obtain ⟨ji15, hji15⟩ : ∃ j_ : Int, (wrap64 (Int.tmod (IntKind.u64.wrap (a1)) (IntKind.u64.wrap ((l0.length : Int))))) = j_ := ⟨_, rfl⟩
                replace H : (if 0 ≤ (ji15) then (if (ji15) < (y188.length : Int) then ((some (y188.set ((ji15) : Int).toNat 65536 : List Int)).bind fun y191 => ((vec_Dot.f kj4 l0 y191).bind fun bt192 => ((vec_Scaled.f kj4 l0 y191 0).bind fun bt194 => ((vec_Scaled.f kj4 (List.replicate ((l0.length : Int) : Int).toNat 0) l0 65536).bind fun bt201 => ((grafterlaw0_Num.f bt192.2).bind fun t205 => (if t205 = 0 then (if (ji15) < (l0.length : Int) then (if bt192.1 = (rd l0 (ji15)) then ((grafterlaw0_Num.f bt194.2).bind fun t207 => (if t207 = 0 then ((grafterlaw0_SameInts.f kj4 bt194.1 l0).bind fun t208 => (if t208 = true then ((grafterlaw0_Num.f bt201.2).bind fun t209 => (if t209 = 0 then ((grafterlaw0_SameInts.f kj4 bt201.1 l0).bind fun t210 => (some t210)) else (some false))) else (some false))) else (some false))) else (some false)) else (none)) else (some false))))))) else (none)) else (none)) = some r := by first | (rw [hji15] at H; exact H) | (simp only [hji15] at H ⊢; exact H)
                have hji15w : (IntKind.i64.wrap (Int.tmod (IntKind.u64.wrap (a1)) (IntKind.u64.wrap ((l0.length : Int))))) = ji15 := (i64_w _).trans hji15
                by_cases c16 : 0 ≤ (ji15)
                · rw [if_pos c16] at H
                  have c16b0 : decide (0 ≤ (ji15)) = true := decide_eq_true c16
                  clear c16
                  by_cases c17 : (ji15) < (y188.length : Int)
                  · rw [if_pos c17] at H
                    have c17b0 : decide ((ji15) < (y188.length : Int)) = true := decide_eq_true c17
                    clear c17
                    obtain ⟨y191, hy191⟩ : ∃ y_ : List Int, y_ = (y188.set ((ji15) : Int).toNat 65536) := ⟨_, rfl⟩
                    replace H : ((vec_Dot.f kj4 l0 y191).bind fun bt192 => ((vec_Scaled.f kj4 l0 y191 0).bind fun bt194 => ((vec_Scaled.f kj4 (List.replicate ((l0.length : Int) : Int).toNat 0) l0 65536).bind fun bt201 => ((grafterlaw0_Num.f bt192.2).bind fun t205 => (if t205 = 0 then (if (ji15) < (l0.length : Int) then (if bt192.1 = (rd l0 (ji15)) then ((grafterlaw0_Num.f bt194.2).bind fun t207 => (if t207 = 0 then ((grafterlaw0_SameInts.f kj4 bt194.1 l0).bind fun t208 => (if t208 = true then ((grafterlaw0_Num.f bt201.2).bind fun t209 => (if t209 = 0 then ((grafterlaw0_SameInts.f kj4 bt201.1 l0).bind fun t210 => (some t210)) else (some false))) else (some false))) else (some false))) else (some false)) else (none)) else (some false)))))) = some r := by first | (rw [hy191]; with_reducible exact H) | (have H2_ := (Option.bind_some _ _).symm.trans H; rw [hy191]; with_reducible exact H2_) | (have H2_ := (Option.bind_some _ _).symm.trans H; with_reducible exact H2_) | with_reducible exact H | (rw [hy191]; exact H) | exact H
                    have Ny191 := Aside0.mk hy191
                    clear hy191
                    replace H := Option.bind_eq_some_iff.mp H
                    obtain ⟨⟨t192, t193⟩, A190, H⟩ := H
                    replace H : ((vec_Scaled.f kj4 l0 y191 0).bind fun bt194 => ((vec_Scaled.f kj4 (List.replicate ((l0.length : Int) : Int).toNat 0) l0 65536).bind fun bt201 => ((grafterlaw0_Num.f t193).bind fun t205 => (if t205 = 0 then (if (ji15) < (l0.length : Int) then (if t192 = (rd l0 (ji15)) then ((grafterlaw0_Num.f bt194.2).bind fun t207 => (if t207 = 0 then ((grafterlaw0_SameInts.f kj4 bt194.1 l0).bind fun t208 => (if t208 = true then ((grafterlaw0_Num.f bt201.2).bind fun t209 => (if t209 = 0 then ((grafterlaw0_SameInts.f kj4 bt201.1 l0).bind fun t210 => (some t210)) else (some false))) else (some false))) else (some false))) else (some false)) else (none)) else (some false))))) = some r := H
                    have A19 := Aside0.mk A190
                    clear A190
                    replace H := Option.bind_eq_some_iff.mp H
                    obtain ⟨⟨t194, t197⟩, A200, H⟩ := H
                    replace H : ((vec_Scaled.f kj4 (List.replicate ((l0.length : Int) : Int).toNat 0) l0 65536).bind fun bt201 => ((grafterlaw0_Num.f t193).bind fun t205 => (if t205 = 0 then (if (ji15) < (l0.length : Int) then (if t192 = (rd l0 (ji15)) then ((grafterlaw0_Num.f t197).bind fun t207 => (if t207 = 0 then ((grafterlaw0_SameInts.f kj4 t194 l0).bind fun t208 => (if t208 = true then ((grafterlaw0_Num.f bt201.2).bind fun t209 => (if t209 = 0 then ((grafterlaw0_SameInts.f kj4 bt201.1 l0).bind fun t210 => (some t210)) else (some false))) else (some false))) else (some false))) else (some false)) else (none)) else (some false)))) = some r := H
                    have A20 := Aside0.mk A200
                    clear A200
                    obtain ⟨y198, hy198⟩ : ∃ y_ : List Int, y_ = (List.replicate ((l0.length : Int) : Int).toNat 0) := ⟨_, rfl⟩
                    replace H : ((vec_Scaled.f kj4 y198 l0 65536).bind fun bt201 => ((grafterlaw0_Num.f t193).bind fun t205 => (if t205 = 0 then (if (ji15) < (l0.length : Int) then (if t192 = (rd l0 (ji15)) then ((grafterlaw0_Num.f t197).bind fun t207 => (if t207 = 0 then ((grafterlaw0_SameInts.f kj4 t194 l0).bind fun t208 => (if t208 = true then ((grafterlaw0_Num.f bt201.2).bind fun t209 => (if t209 = 0 then ((grafterlaw0_SameInts.f kj4 bt201.1 l0).bind fun t210 => (some t210)) else (some false))) else (some false))) else (some false))) else (some false)) else (none)) else (some false)))) = some r := by first | (rw [hy198]; with_reducible exact H) | (have H2_ := (Option.bind_some _ _).symm.trans H; rw [hy198]; with_reducible exact H2_) | (have H2_ := (Option.bind_some _ _).symm.trans H; with_reducible exact H2_) | with_reducible exact H | (rw [hy198]; exact H) | exact H
                    have Ny198 := Aside0.mk hy198
                    clear hy198
                    replace H := Option.bind_eq_some_iff.mp H
                    obtain ⟨⟨t201, t204⟩, A210, H⟩ := H
                    replace H : ((grafterlaw0_Num.f t193).bind fun t205 => (if t205 = 0 then (if (ji15) < (l0.length : Int) then (if t192 = (rd l0 (ji15)) then ((grafterlaw0_Num.f t197).bind fun t207 => (if t207 = 0 then ((grafterlaw0_SameInts.f kj4 t194 l0).bind fun t208 => (if t208 = true then ((grafterlaw0_Num.f t204).bind fun t209 => (if t209 = 0 then ((grafterlaw0_SameInts.f kj4 t201 l0).bind fun t210 => (some t210)) else (some false))) else (some false))) else (some false))) else (some false)) else (none)) else (some false))) = some r := H
                    have A21 := Aside0.mk A210
                    clear A210
                    replace H := Option.bind_eq_some_iff.mp H
                    obtain ⟨t205, A220, H⟩ := H
                    replace H : (if t205 = 0 then (if (ji15) < (l0.length : Int) then (if t192 = (rd l0 (ji15)) then ((grafterlaw0_Num.f t197).bind fun t207 => (if t207 = 0 then ((grafterlaw0_SameInts.f kj4 t194 l0).bind fun t208 => (if t208 = true then ((grafterlaw0_Num.f t204).bind fun t209 => (if t209 = 0 then ((grafterlaw0_SameInts.f kj4 t201 l0).bind fun t210 => (some t210)) else (some false))) else (some false))) else (some false))) else (some false)) else (none)) else (some false)) = some r := H
                    have A22 := Aside0.mk A220
                    clear A220
                    by_cases c23 : t205 = 0
                    · rw [if_pos c23] at H
                      have c23b0 : (t205 == 0) = true := beq_iff_eq.mpr c23
                      have c23b1 : (t205 != 0) = false := bne_eq_false_iff_eq.mpr c23
                      clear c23
                      by_cases c24 : (ji15) < (l0.length : Int)
                      · rw [if_pos c24] at H
                        have c24b0 : decide ((ji15) < (l0.length : Int)) = true := decide_eq_true c24
                        clear c24
                        by_cases c25 : t192 = (rd l0 (ji15))
                        · rw [if_pos c25] at H
                          have c25b0 : (t192 == (rd l0 (ji15))) = true := beq_iff_eq.mpr c25
                          have c25b1 : (t192 != (rd l0 (ji15))) = false := bne_eq_false_iff_eq.mpr c25
                          clear c25
                          replace H := Option.bind_eq_some_iff.mp H
                          obtain ⟨t207, A260, H⟩ := H
                          replace H : (if t207 = 0 then ((grafterlaw0_SameInts.f kj4 t194 l0).bind fun t208 => (if t208 = true then ((grafterlaw0_Num.f t204).bind fun t209 => (if t209 = 0 then ((grafterlaw0_SameInts.f kj4 t201 l0).bind fun t210 => (some t210)) else (some false))) else (some false))) else (some false)) = some r := H
                          have A26 := Aside0.mk A260
                          clear A260
                          by_cases c27 : t207 = 0
                          · rw [if_pos c27] at H
                            have c27b0 : (t207 == 0) = true := beq_iff_eq.mpr c27
                            have c27b1 : (t207 != 0) = false := bne_eq_false_iff_eq.mpr c27
                            clear c27
                            replace H := Option.bind_eq_some_iff.mp H
                            obtain ⟨t208, A280, H⟩ := H
                            replace H : (if t208 = true then ((grafterlaw0_Num.f t204).bind fun t209 => (if t209 = 0 then ((grafterlaw0_SameInts.f kj4 t201 l0).bind fun t210 => (some t210)) else (some false))) else (some false)) = some r := H
                            have A28 := Aside0.mk A280
                            clear A280
                            by_cases c29 : t208 = true
                            · subst c29
                              have H1 : ((grafterlaw0_Num.f t204).bind fun t209 => (if t209 = 0 then ((grafterlaw0_SameInts.f kj4 t201 l0).bind fun t210 => (some t210)) else (some false))) = some r := by rw [if_pos rfl] at H; exact H
                              clear H
                              have H := H1
                              clear H1
                              replace H := Option.bind_eq_some_iff.mp H
                              obtain ⟨t209, A300, H⟩ := H
                              replace H : (if t209 = 0 then ((grafterlaw0_SameInts.f kj4 t201 l0).bind fun t210 => (some t210)) else (some false)) = some r := H
                              have A30 := Aside0.mk A300
                              clear A300
                              by_cases c31 : t209 = 0
                              · rw [if_pos c31] at H
                                have c31b0 : (t209 == 0) = true := beq_iff_eq.mpr c31
                                have c31b1 : (t209 != 0) = false := bne_eq_false_iff_eq.mpr c31
                                clear c31
                                replace H := Option.bind_eq_some_iff.mp H
                                obtain ⟨t210, A320, H⟩ := H
                                replace H : (some t210) = some r := H
                                have A32 := Aside0.mk A320
                                clear A320
                                obtain rfl := Option.some.inj H
                                go_wp2_with (first | ((with_reducible refine gate_dst (N := 37) rfl ?_); refine Kd.R_make (Kd.int .i64) _ 3 rfl (N := 37) rfl 29 _ _ rfl (l0.length : Int) rfl rfl Try.underlying29 (.int .i64 0) 8 info3 rfl (by decide) (by omega) 0 (ok := fun _ => True) (okp := fun _ => True) rfl (fun _ hk => hk) trivial (of_decide_eq_true (by first | (with_reducible assumption) | assumption)) (Nat.le_trans (Nat.mul_le_mul_right _ (of_decide_eq_true (by first | (with_reducible assumption) | assumption) : (l0.length : Int).toNat ≤ 35184372088832)) (by omega)) (Below.refl _ _) (Nat.le_refl _) ?_; intro v189 w33 ho34 hb hg_ hnew_; clear hg_ hnew_; (first | rw [← Ny188.out] at ho34 | (simp only [Int.reduceToNat] at ho34; rw [← Ny188.out] at ho34)); have n0_ := Aside0.mk (Kd.R_lower ho34 (below_size (by repeat (first | (with_reducible first | exact HB.out | apply below_alloc | apply pw_below_drewN | apply below_drew1) | exact HB.out)))); have n1_ := Aside0.mk (below_step (by repeat (first | (with_reducible first | exact HB.out | apply below_alloc | apply pw_below_drewN | apply below_drew1) | exact HB.out)) hb); clear HB; have HO190 := n0_; have HB := n1_; clear n0_ n1_; clear hb ho34; have p18 : 0 ≤ ((ji15) : Int) := of_decide_eq_true (by first | (with_reducible assumption) | assumption); have q18 : ((ji15) : Int) < ((y188.length : Int) : Int) := of_decide_eq_true (by first | (with_reducible assumption) | assumption); obtain ⟨go18, co18, eo18, gb18, gl18, cl18, HG18⟩ := Kd.R_form HO190.out (by omega); (first | cases eo18 | (injection eo18 with ea_ en_ ec_; (first | subst ea_ | (injection ea_ with ea_; subst ea_)); subst ec_; clear en_)); have GB18 := Aside0.mk gb18; have GG18 := Aside0.mk HG18; clear gb18 gl18 HG18; obtain ⟨hx18_0, hf18_0⟩ := Kd.R_celln 0 HO190.out ((ji15) : Int) p18 q18; replace p18 := eq_true p18; replace q18 := eq_true q18; obtain ⟨hy35_, hz35_⟩ := Kd.R_celln 0 HO190.out ((ji15) : Int) (of_decide_eq_true (by first | (with_reducible assumption) | assumption)) (of_decide_eq_true (by first | (with_reducible assumption) | assumption)); have HP35 := Kd.R_putg HO190.out ((ji15) : Int) 65536) | ((with_reducible refine gate_store (t := 3) (p := 40) rfl ?_); refine store_event (t := 3) (p := 40) (v := ?vo_w36) (w1 := (w33.setCell ⟨go18, ((ji15) : Int).toNat, none⟩ (.int .i64 65536))) ?hg ?ho ?hn ?hr ?_; (case ho => rfl); (case hg => rfl); (case hn => rfl); (case hr => first | (go_simp; done) | (go_simp; rfl)); intro w36 hw; have hg : w33.grownBy w36 (some go18) := (by rw [hw]; exact HP35.2); have hp_ : Kd.R (Kd.int .i64) 3 w36 w.heap.size (fun _ => True) (.slice (some ⟨go18, 0, none⟩) y188.length co18) y191 := (by rw [hw, Ny191.out]; exact HP35.1); clear HP35; have n0_ := Aside0.mk (hp_); have n1_ := Aside0.mk ((by rw [hw]; exact below_set (HB.out) GB18.out : Below w.heap.size w w36)); clear HO190; clear HB; have HO190 := n0_; have HB := n1_; clear n0_ n1_; clear hg hw hp_) | ((with_reducible refine gate_callee (f := 35) rfl ?_); refine goesL_ (some 44) rfl rfl Try.func35 (by kernel_rfl) rfl #[.slice A0 l0.length c0, .slice (some ⟨go18, 0, none⟩) y191.length co18] rfl (by (try simp only [List.map_toArray, List.map_cons, List.map_nil]); first | done | (rw [show y191.length = y188.length from (Kd.R_reads' HO190.out).1.symm] <;> rfl) | rfl | (simp only [List.length_drop, List.length_take]; rfl)) ?_; (with_reducible refine (vec_Dot.calls kj4 (fun k_ => k_ < w.heap.size) _ _ l0 (fun k_ => some k_ = (.slice (some ⟨go18, 0, none⟩) y188.length co18 : Value).ownBlock) _ _ y191 t192 t193 _ ?side1 ?side2 A19.out).mono ?_); (case side1 => exact Kd.V_mk HC0.out (Kd.F_below (Kd.C_F (Kd.heap_int .i64) HR0.out) (by repeat (first | (with_reducible first | exact HB.out | apply below_alloc | apply pw_below_drewN | apply below_drew1) | exact HB.out)))); (case side2 => rw [show y191.length = y188.length from (Kd.R_reads' HO190.out).1.symm]; exact Kd.R_V (Kd.R_tight rfl (HO190.out))); rintro e w37 ⟨rfl, hb⟩; refine ⟨_, rfl, ?_⟩; have n0_ := Aside0.mk (Kd.R_below (by (with_reducible repeat (first | apply Kd.R_alloc | apply Kd.R_drewN | apply Kd.R_drew)); exact HO190.out) hb); have n1_ := Aside0.mk (below_step (by repeat (first | (with_reducible first | exact HB.out | apply below_alloc | apply pw_below_drewN | apply below_drew1) | exact HB.out)) hb); clear HO190; clear HB; have HO190 := n0_; have HB := n1_; clear n0_ n1_; (try clear hb); (try clear hb2); (try clear hk); (try clear hi)) | ((with_reducible refine gate_callee (f := 37) rfl ?_); refine goesL_ (some 50) rfl rfl Try.func37 (by kernel_rfl) rfl #[.slice A0 l0.length c0, .slice (some ⟨go18, 0, none⟩) y191.length co18, .int .i64 0] rfl (by (try simp only [List.map_toArray, List.map_cons, List.map_nil]); first | done | (rw [show y191.length = y188.length from (Kd.R_reads' HO190.out).1.symm] <;> rfl) | rfl | (simp only [List.length_drop, List.length_take]; rfl)) ?_; (with_reducible refine (vec_Scaled.calls kj4 (fun k_ => k_ < w.heap.size) _ _ l0 (fun k_ => some k_ = (.slice (some ⟨go18, 0, none⟩) y188.length co18 : Value).ownBlock) _ _ y191 0 t194 t197 _ ?side1 ?side2 A20.out).mono ?_); (case side1 => exact Kd.V_mk HC0.out (Kd.F_below (Kd.C_F (Kd.heap_int .i64) HR0.out) (by repeat (first | (with_reducible first | exact HB.out | apply below_alloc | apply pw_below_drewN | apply below_drew1) | exact HB.out)))); (case side2 => rw [show y191.length = y188.length from (Kd.R_reads' HO190.out).1.symm]; exact Kd.R_V (Kd.R_tight rfl (HO190.out))); rintro e w38 ⟨v195, rfl, ho0, hb⟩; refine ⟨_, rfl, ?_⟩; have n0_ := Aside0.mk (Kd.R_elder' (by (with_reducible repeat (first | apply Kd.R_alloc | apply Kd.R_drewN | apply Kd.R_drew)); exact HO190.out) (Kd.R_base ho0) hb); have n1_ := Aside0.mk (Kd.R_lower (Kd.R_new' (Kd.R_mono (ok' := fun k_ => True) ho0 (fun _ hk_ => trivial)) (Kd.R_lt (by (with_reducible repeat (first | apply Kd.R_alloc | apply Kd.R_drewN | apply Kd.R_drew)); exact HO190.out))) (below_size (by repeat (first | (with_reducible first | exact HB.out | apply below_alloc | apply pw_below_drewN | apply below_drew1) | exact HB.out)))); have n2_ := Aside0.mk (below_step (by repeat (first | (with_reducible first | exact HB.out | apply below_alloc | apply pw_below_drewN | apply below_drew1) | exact HB.out)) hb); clear HO190; clear HB; have HO190 := n0_; have HO196 := n1_; have HB := n2_; clear n0_ n1_ n2_; (try clear hb); (try clear hb2); (try clear hk); (try clear hi); (try clear ho0)) | ((with_reducible refine gate_dst (N := 56) rfl ?_); refine Kd.R_make (Kd.int .i64) _ 3 rfl (N := 56) rfl 29 _ _ rfl (l0.length : Int) rfl rfl Try.underlying29 (.int .i64 0) 8 info3 rfl (by decide) (by omega) 0 (ok := fun _ => True) (okp := fun _ => True) rfl (fun _ hk => hk) trivial (of_decide_eq_true (by first | (with_reducible assumption) | assumption)) (Nat.le_trans (Nat.mul_le_mul_right _ (of_decide_eq_true (by first | (with_reducible assumption) | assumption) : (l0.length : Int).toNat ≤ 35184372088832)) (by omega)) (Below.refl _ _) (Nat.le_refl _) ?_; intro v199 w39 ho40 hb hg_ hnew_; clear hg_ hnew_; (first | rw [← Ny198.out] at ho40 | (simp only [Int.reduceToNat] at ho40; rw [← Ny198.out] at ho40)); have n0_ := Aside0.mk (Kd.R_elder' (by (with_reducible repeat (first | apply Kd.R_alloc | apply Kd.R_drewN | apply Kd.R_drew)); exact HO190.out) (Kd.R_base ho40) hb); have n1_ := Aside0.mk (Kd.R_elder' (by (with_reducible repeat (first | apply Kd.R_alloc | apply Kd.R_drewN | apply Kd.R_drew)); exact HO196.out) (Kd.R_base ho40) hb); have n2_ := Aside0.mk (Kd.R_lower (Kd.R_new' (Kd.R_new' ho40 (Kd.R_lt (by (with_reducible repeat (first | apply Kd.R_alloc | apply Kd.R_drewN | apply Kd.R_drew)); exact HO190.out))) (Kd.R_lt (by (with_reducible repeat (first | apply Kd.R_alloc | apply Kd.R_drewN | apply Kd.R_drew)); exact HO196.out))) (below_size (by repeat (first | (with_reducible first | exact HB.out | apply below_alloc | apply pw_below_drewN | apply below_drew1) | exact HB.out)))); have n3_ := Aside0.mk (below_step (by repeat (first | (with_reducible first | exact HB.out | apply below_alloc | apply pw_below_drewN | apply below_drew1) | exact HB.out)) hb); clear HO190; clear HO196; clear HB; have HO190 := n0_; have HO196 := n1_; have HO200 := n2_; have HB := n3_; clear n0_ n1_ n2_ n3_; clear hb ho40; obtain ⟨Ao41, co41, eo41⟩ := Kd.R_slice HO200.out; subst eo41) | ((with_reducible refine gate_callee (f := 37) rfl ?_); refine goesL_ (some 58) rfl rfl Try.func37 (by kernel_rfl) rfl #[.slice Ao41 y198.length co41, .slice A0 l0.length c0, .int .i64 65536] rfl (by (try simp only [List.map_toArray, List.map_cons, List.map_nil]); first | done | rfl | (simp only [List.length_drop, List.length_take]; rfl)) ?_; (with_reducible refine (vec_Scaled.calls kj4 (fun k_ => some k_ = (.slice Ao41 y198.length co41 : Value).ownBlock) _ _ y198 (fun k_ => k_ < w.heap.size) _ _ l0 65536 t201 t204 _ ?side1 ?side2 A21.out).mono ?_); (case side1 => exact Kd.R_V (Kd.R_tight rfl (HO200.out))); (case side2 => exact Kd.V_mk HC0.out (Kd.F_below (Kd.C_F (Kd.heap_int .i64) HR0.out) (by repeat (first | (with_reducible first | exact HB.out | apply below_alloc | apply pw_below_drewN | apply below_drew1) | exact HB.out)))); rintro e w42 ⟨v202, rfl, ho0, hb⟩; refine ⟨_, rfl, ?_⟩; have n0_ := Aside0.mk (Kd.R_elder' (by (with_reducible repeat (first | apply Kd.R_alloc | apply Kd.R_drewN | apply Kd.R_drew)); exact HO190.out) (Kd.R_base ho0) hb); have n1_ := Aside0.mk (Kd.R_elder' (by (with_reducible repeat (first | apply Kd.R_alloc | apply Kd.R_drewN | apply Kd.R_drew)); exact HO196.out) (Kd.R_base ho0) hb); have n2_ := Aside0.mk (Kd.R_elder' (by (with_reducible repeat (first | apply Kd.R_alloc | apply Kd.R_drewN | apply Kd.R_drew)); exact HO200.out) (Kd.R_base ho0) hb); have n3_ := Aside0.mk (Kd.R_lower (Kd.R_new' (Kd.R_new' (Kd.R_new' (Kd.R_mono (ok' := fun k_ => True) ho0 (fun _ hk_ => trivial)) (Kd.R_lt (by (with_reducible repeat (first | apply Kd.R_alloc | apply Kd.R_drewN | apply Kd.R_drew)); exact HO190.out))) (Kd.R_lt (by (with_reducible repeat (first | apply Kd.R_alloc | apply Kd.R_drewN | apply Kd.R_drew)); exact HO196.out))) (Kd.R_lt (by (with_reducible repeat (first | apply Kd.R_alloc | apply Kd.R_drewN | apply Kd.R_drew)); exact HO200.out))) (below_size (by repeat (first | (with_reducible first | exact HB.out | apply below_alloc | apply pw_below_drewN | apply below_drew1) | exact HB.out)))); have n4_ := Aside0.mk (below_step (by repeat (first | (with_reducible first | exact HB.out | apply below_alloc | apply pw_below_drewN | apply below_drew1) | exact HB.out)) hb); clear HO190; clear HO196; clear HO200; clear HB; have HO190 := n0_; have HO196 := n1_; have HO200 := n2_; have HO203 := n3_; have HB := n4_; clear n0_ n1_ n2_ n3_ n4_; (try clear hb); (try clear hb2); (try clear hk); (try clear hi); (try clear ho0)) | ((with_reducible refine gate_callee (f := 22) rfl ?_); refine goesL_ (some 62) rfl rfl Try.func22 (by kernel_rfl) rfl #[.int .i64 t193] rfl (by (try simp only [List.map_toArray, List.map_cons, List.map_nil]); first | done | rfl | (simp only [List.length_drop, List.length_take]; rfl)) ?_; (with_reducible refine (grafterlaw0_Num.calls t193 t205 _ A22.out).mono ?_); rintro e w' ⟨rfl, ⟨nd, rfl⟩⟩; refine ⟨_, rfl, ?_⟩; have p206 : 0 ≤ ((ji15) : Int) := of_decide_eq_true (by first | (with_reducible assumption) | assumption); have q206 : (ji15) < (l0.length : Int) := of_decide_eq_true (by first | (with_reducible assumption) | assumption); obtain ⟨ad206, e206, hx206_0⟩ := Kd.at_int HR0.out (ji15) p206 q206; cases e206; replace hx206_0 := (HB.out.cell (World.block_lt_of_cell? w _ hx206_0)).trans hx206_0; replace p206 := eq_true p206; replace q206 := eq_true q206) | (go_at_call 22; (with_reducible refine (grafterlaw0_Num.calls t197 t207 _ A26.out).mono ?_); rintro e w' ⟨rfl, ⟨nd, rfl⟩⟩; obtain ⟨Ao43, co43, eo43⟩ := Kd.R_slice HO196.out; subst eo43) | (go_at_call 23; (with_reducible refine (grafterlaw0_SameInts.calls kj4 _ _ t194 _ _ l0 true _ ?side1 ?side2 ?side3 ?side4 A28.out).mono ?_); (case side1 => repeat (first | exact (Kd.R_reads' HO196.out).2.2 | (with_reducible refine Kd.C_alloc ?_ _) | (with_reducible refine Kd.C_drewN ?_ _) | (with_reducible refine Kd.C_drew ?_))); (case side2 => exact (Kd.R_reads' HO196.out).2.1); (case side3 => repeat (first | exact (Kd.C_below HR0.out (by repeat (first | (with_reducible first | exact HB.out | apply below_alloc | apply pw_below_drewN | apply below_drew1) | exact HB.out))) | (with_reducible refine Kd.C_alloc ?_ _) | (with_reducible refine Kd.C_drewN ?_ _) | (with_reducible refine Kd.C_drew ?_))); (case side4 => exact HC0.out); rintro e w' ⟨rfl, ⟨nd, rfl⟩⟩) | (go_at_call 22; (with_reducible refine (grafterlaw0_Num.calls t204 t209 _ A30.out).mono ?_); rintro e w' ⟨rfl, ⟨nd, rfl⟩⟩; obtain ⟨Ao44, co44, eo44⟩ := Kd.R_slice HO203.out; subst eo44) | (go_at_call 23; (with_reducible refine (grafterlaw0_SameInts.calls kj4 _ _ t201 _ _ l0 t210 _ ?side1 ?side2 ?side3 ?side4 A32.out).mono ?_); (case side1 => repeat (first | exact (Kd.R_reads' HO203.out).2.2 | (with_reducible refine Kd.C_alloc ?_ _) | (with_reducible refine Kd.C_drewN ?_ _) | (with_reducible refine Kd.C_drew ?_))); (case side2 => exact (Kd.R_reads' HO203.out).2.1); (case side3 => repeat (first | exact (Kd.C_below HR0.out (by repeat (first | (with_reducible first | exact HB.out | apply below_alloc | apply pw_below_drewN | apply below_drew1) | exact HB.out))) | (with_reducible refine Kd.C_alloc ?_ _) | (with_reducible refine Kd.C_drewN ?_ _) | (with_reducible refine Kd.C_drew ?_))); (case side4 => exact HC0.out); rintro e w' ⟨rfl, ⟨nd, rfl⟩⟩))
                                go_ret
                                exact ⟨by first | rfl | (simp [errW_none, errW_some] <;> rfl) | (simp only [← hji15]; first | rfl | (simp [errW_none, errW_some] <;> rfl)) | (simp [*, errW_none, errW_some] <;> rfl), by repeat (first | (with_reducible first | exact HB.out | apply below_alloc | apply pw_below_drewN | apply below_drew1) | exact HB.out)⟩
                              · rw [if_neg c31] at H
                                have c31b0 : (t209 == 0) = false := beq_eq_false_iff_ne.mpr c31
                                have c31b1 : (t209 != 0) = true := bne_iff_ne.mpr c31
                                exact absurd ((Option.some.inj H).trans HRT.out) Bool.false_ne_true
                            · replace c29 := Bool.eq_false_iff.mpr c29
                              subst c29
                              have H1 : (some false) = some r := by rw [if_neg (show ¬ (false = true) by decide)] at H; exact H
                              clear H
                              have H := H1
                              clear H1
                              exact absurd ((Option.some.inj H).trans HRT.out) Bool.false_ne_true
                          · rw [if_neg c27] at H
                            have c27b0 : (t207 == 0) = false := beq_eq_false_iff_ne.mpr c27
                            have c27b1 : (t207 != 0) = true := bne_iff_ne.mpr c27
                            exact absurd ((Option.some.inj H).trans HRT.out) Bool.false_ne_true
                        · rw [if_neg c25] at H
                          have c25b0 : (t192 == (rd l0 (ji15))) = false := beq_eq_false_iff_ne.mpr c25
                          have c25b1 : (t192 != (rd l0 (ji15))) = true := bne_iff_ne.mpr c25
                          exact absurd ((Option.some.inj H).trans HRT.out) Bool.false_ne_true
                      · rw [if_neg c24] at H
                        exact absurd H (by simp)
                    · rw [if_neg c23] at H
                      have c23b0 : (t205 == 0) = false := beq_eq_false_iff_ne.mpr c23
                      have c23b1 : (t205 != 0) = true := bne_iff_ne.mpr c23
                      exact absurd ((Option.some.inj H).trans HRT.out) Bool.false_ne_true
                  · rw [if_neg c17] at H
                    exact absurd H (by simp)
                · rw [if_neg c16] at H
                  exact absurd H (by simp)
              · rw [if_neg c14] at H
                exact absurd H (by simp)
            · rw [if_neg c13] at H
              exact absurd H (by simp)
  · replace c4 := Bool.eq_false_iff.mpr c4
    subst c4
    have H1 : (some false) = some r := by rw [if_neg (show ¬ (false = true) by decide)] at H; exact H
    clear H
    have H := H1
    clear H1
    exact absurd ((Option.some.inj H).trans HRT.out) Bool.false_ne_true

/-- THE ONE PURE STATEMENT of grafterlaw4_VecOne: yours. -/
def grafterlaw4_VecOne.Pure : Prop := ∀ (l0 : List Int) (a1 : Int), l0.length ≤ maxLen → l0.length * 8 ≤ 140737488351232 → (∀ x ∈ l0, (Lit.int .i64 x).wf = true) → (Lit.int .i64 a1).wf = true → ∃ k, grafterlaw4_VecOne.f k l0 a1 = some true
theorem grafterlaw4_VecOne.walk (P : grafterlaw4_VecOne.Pure) (a0 : Option Addr) (len0 cap0 : Nat) (z0 : List Int) (a1 : Int) (w : World) (w0 : (a0 = none ∧ len0 = 0 ∧ cap0 = 0 ∧ z0 = []) ∨ ∃ x, a0 = some x ∧ len0 ≤ cap0 ∧ cap0 ≤ maxLen ∧ z0.length = cap0 ∧ (∀ i, i < z0.length → w.cell? (x.add i) = some (.int .i64 (z0.getD i 0))) ∧ ∀ n ∈ z0, (Lit.int .i64 n).wf = true) (y0 : len0 * 8 ≤ 140737488351232) (w1 : (Lit.int .i64 a1).wf = true) :
    Calls Try.prog 15 #[.slice a0 len0 cap0, .int .i64 a1] w fun e w' => e = .returned (.bool true) ∧ Below w.heap.size w w' := by
  obtain ⟨l0, rfl, hr0, hm0, hw0, hc0⟩ := ReadsInt.ofRowC w0
  obtain ⟨k, h⟩ := P l0 a1 hm0 y0 hw0 w1
  refine (grafterlaw4_VecOne.calls k _ _ l0 a1 true w rfl (Kd.C_of_reads (d := (0 : Int)) (h1 := fun _ => rfl) hr0) hc0 h).mono ?_
  rintro e w' ⟨rfl, hd⟩
  exact ⟨rfl, hd⟩

end Go.Proofs.Ytnhlinniodmnjaa.PVecOne
