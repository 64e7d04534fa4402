-- Written by a program of this session (pprint.py) out of the translation, with hand-proved walks pasted in.
import Derived.Test.YtdgbfgnmeoihiaaPLossRightx0
import Derived.Test.YtdgbfgnmeoihiaaPLossRightx1
import Derived.Test.YtdgbfgnmeoihiaaPLossRightx3
namespace Go.Proofs.Ytdgbfgnmeoihiaa.PLossRight
open Go.RowKit Go.Proofs.YtdgbfgnmeoihiaaW.PrintWords Go.Proofs.YtdgbfgnmeoihiaaW.PrintLast Go.Proofs.YtdgbfgnmeoihiaaW.PrintMore
attribute [local go_sem] max2_int min2_int max_two min_two max_three min_three max_four min_four   -- for this text's walks alone
set_option linter.unusedVariables false
set_option linter.unusedSimpArgs false

/-! ### grafterlaw10_awake: function 31 -/
def grafterlaw10_awake.f (k : Nat)  : Option (Bool) := (grafterlaw10_given.f).bind fun bt166 => ((some (([(⟨(([1000, 400] : List Int)), (-130365)⟩ : S35), (⟨(([1000, 400] : List Int)), 66243⟩ : S35)] : List (S35)) : List (S35))).bind fun y178 => ((loss_Of.f k bt166.1 bt166.2.1 bt166.2.2 y178).bind fun bt181 => ((loss_Of.f k bt166.1 bt166.2.1 bt166.2.2 ([] : List (S35))).bind fun bt183 => (if 1 ≤ (bt166.2.2.length : Int) then ((loss_Of.f k bt166.1 bt166.2.1 (bt166.2.2.drop 1) y178).bind fun bt190 => (if bt181.1 = 327680 then ((grafterlaw0_Num.f bt181.2).bind fun t192 => (if t192 = 0 then ((grafterlaw0_Num.f bt183.2).bind fun t193 => (if t193 = 1000 then ((grafterlaw0_Num.f bt190.2).bind fun t194 => (if t194 = 1000 then ((loss_May.f k bt166.1 bt166.2.1 y178).bind fun t195 => (if t195 = true then ((loss_May.f k bt166.1 bt166.2.1 ([] : List (S35))).bind fun t196 => (some (!t196))) else (some false))) else (some false))) else (some false))) else (some false))) else (some false))) else (none)))))
theorem grafterlaw10_awake.mono : ∀ k, LeO (grafterlaw10_awake.f k ) (grafterlaw10_awake.f (k + 1) ) := by
  intro  k
  unfold grafterlaw10_awake.f
  repeat' first
      | (with_reducible exact loss_May.mono _ _ _ _)
      | (with_reducible exact loss_Of.mono _ _ _ _ _)
      | (with_reducible exact LeO.refl _)
      | (with_reducible exact LeO.none _)
      | (with_reducible refine LeO.ite ?_ ?_)
      | (with_reducible refine LeO.bind ?_ (fun _ => ?_))
      | exact loss_May.mono _ _ _ _
      | exact loss_Of.mono _ _ _ _ _
      | exact LeO.none _
      | refine LeO.ite ?_ ?_
      | refine LeO.bind ?_ (fun _ => ?_)
def grafterlaw10_awake.T5 : Bool × List (List Nat × List Nat) := (true, [([], []), ([], []), ([1], [1]), ([], []), ([0, 2, 3], [0, 2, 3]), ([4], [4]), ([5], [5]), ([5], [5]), ([6, 4, 0, 1, 2, 3, 4, 5, 6], [6]), ([7, 8, 0, 1, 2, 3, 4, 5, 6, 7, 8], [7])])
def grafterlaw10_awake.B5 : List Nat := [0, 0, 2, 0, 15, 31, 63, 63, 127, 511]
theorem grafterlaw10_awake.tab5 : rtab .any (opsOf Try.f31 5) = grafterlaw10_awake.T5 := by kernel_rfl
theorem grafterlaw10_awake.bits5 : waitsOk grafterlaw10_awake.T5.2 grafterlaw10_awake.B5 = true := by kernel_rfl
set_option maxHeartbeats 8000000 in
set_option maxRecDepth 100000 in
theorem grafterlaw10_awake.calls (k : Nat)  (r : Bool) (w : World) (hrt : r = true) (h : grafterlaw10_awake.f k  = some r) :
    Calls Try.prog 31 #[] w fun e w' => e = .returned (.bool r) ∧ Below w.heap.size w w' := by
  have HRT := Aside0.mk hrt
  clear hrt
  have hu23 := Try.underlying23
  have hu35 := Try.underlying35
  have HB := Aside0.mk (Below.refl w.heap.size w)
  have H : ((grafterlaw10_given.f).bind fun bt166 => ((some (([(⟨(([1000, 400] : List Int)), (-130365)⟩ : S35), (⟨(([1000, 400] : List Int)), 66243⟩ : S35)] : List (S35)) : List (S35))).bind fun y178 => ((loss_Of.f k bt166.1 bt166.2.1 bt166.2.2 y178).bind fun bt181 => ((loss_Of.f k bt166.1 bt166.2.1 bt166.2.2 ([] : List (S35))).bind fun bt183 => (if 1 ≤ (bt166.2.2.length : Int) then ((loss_Of.f k bt166.1 bt166.2.1 (bt166.2.2.drop 1) y178).bind fun bt190 => (if bt181.1 = 327680 then ((grafterlaw0_Num.f bt181.2).bind fun t192 => (if t192 = 0 then ((grafterlaw0_Num.f bt183.2).bind fun t193 => (if t193 = 1000 then ((grafterlaw0_Num.f bt190.2).bind fun t194 => (if t194 = 1000 then ((loss_May.f k bt166.1 bt166.2.1 y178).bind fun t195 => (if t195 = true then ((loss_May.f k bt166.1 bt166.2.1 ([] : List (S35))).bind fun t196 => (some (!t196))) else (some false))) else (some false))) else (some false))) else (some false))) else (some false))) else (none)))))) = some r := h
  clear h
  replace H := Option.bind_eq_some_iff.mp H
  obtain ⟨⟨t166, t167, t168⟩, A10, H⟩ := H
  replace H : ((some (([(⟨(([1000, 400] : List Int)), (-130365)⟩ : S35), (⟨(([1000, 400] : List Int)), 66243⟩ : S35)] : List (S35)) : List (S35))).bind fun y178 => ((loss_Of.f k t166 t167 t168 y178).bind fun bt181 => ((loss_Of.f k t166 t167 t168 ([] : List (S35))).bind fun bt183 => (if 1 ≤ (t168.length : Int) then ((loss_Of.f k t166 t167 (t168.drop 1) y178).bind fun bt190 => (if bt181.1 = 327680 then ((grafterlaw0_Num.f bt181.2).bind fun t192 => (if t192 = 0 then ((grafterlaw0_Num.f bt183.2).bind fun t193 => (if t193 = 1000 then ((grafterlaw0_Num.f bt190.2).bind fun t194 => (if t194 = 1000 then ((loss_May.f k t166 t167 y178).bind fun t195 => (if t195 = true then ((loss_May.f k t166 t167 ([] : List (S35))).bind fun t196 => (some (!t196))) else (some false))) else (some false))) else (some false))) else (some false))) else (some false))) else (none))))) = some r := H
  have A1 := Aside0.mk A10
  clear A10
  obtain ⟨y172, hy172⟩ : ∃ y_ : List Int, y_ = (([1000, 400] : List Int)) := ⟨_, rfl⟩
  replace H : ((some (([(⟨y172, (-130365)⟩ : S35), (⟨(([1000, 400] : List Int)), 66243⟩ : S35)] : List (S35)) : List (S35))).bind fun y178 => ((loss_Of.f k t166 t167 t168 y178).bind fun bt181 => ((loss_Of.f k t166 t167 t168 ([] : List (S35))).bind fun bt183 => (if 1 ≤ (t168.length : Int) then ((loss_Of.f k t166 t167 (t168.drop 1) y178).bind fun bt190 => (if bt181.1 = 327680 then ((grafterlaw0_Num.f bt181.2).bind fun t192 => (if t192 = 0 then ((grafterlaw0_Num.f bt183.2).bind fun t193 => (if t193 = 1000 then ((grafterlaw0_Num.f bt190.2).bind fun t194 => (if t194 = 1000 then ((loss_May.f k t166 t167 y178).bind fun t195 => (if t195 = true then ((loss_May.f k t166 t167 ([] : List (S35))).bind fun t196 => (some (!t196))) else (some false))) else (some false))) else (some false))) else (some false))) else (some false))) else (none))))) = some r := by first | (rw [hy172]; with_reducible exact H) | (have H2_ := (Option.bind_some _ _).symm.trans H; rw [hy172]; with_reducible exact H2_) | (have H2_ := (Option.bind_some _ _).symm.trans H; with_reducible exact H2_) | with_reducible exact H | (rw [hy172]; exact H) | exact H
  have Ny172 := Aside0.mk hy172
  clear hy172
  obtain ⟨y175, hy175⟩ : ∃ y_ : List Int, y_ = (([1000, 400] : List Int)) := ⟨_, rfl⟩
  replace H : ((some (([(⟨y172, (-130365)⟩ : S35), (⟨y175, 66243⟩ : S35)] : List (S35)) : List (S35))).bind fun y178 => ((loss_Of.f k t166 t167 t168 y178).bind fun bt181 => ((loss_Of.f k t166 t167 t168 ([] : List (S35))).bind fun bt183 => (if 1 ≤ (t168.length : Int) then ((loss_Of.f k t166 t167 (t168.drop 1) y178).bind fun bt190 => (if bt181.1 = 327680 then ((grafterlaw0_Num.f bt181.2).bind fun t192 => (if t192 = 0 then ((grafterlaw0_Num.f bt183.2).bind fun t193 => (if t193 = 1000 then ((grafterlaw0_Num.f bt190.2).bind fun t194 => (if t194 = 1000 then ((loss_May.f k t166 t167 y178).bind fun t195 => (if t195 = true then ((loss_May.f k t166 t167 ([] : List (S35))).bind fun t196 => (some (!t196))) else (some false))) else (some false))) else (some false))) else (some false))) else (some false))) else (none))))) = some r := by first | (rw [hy175]; with_reducible exact H) | (have H2_ := (Option.bind_some _ _).symm.trans H; rw [hy175]; with_reducible exact H2_) | (have H2_ := (Option.bind_some _ _).symm.trans H; with_reducible exact H2_) | with_reducible exact H | (rw [hy175]; exact H) | exact H
  have Ny175 := Aside0.mk hy175
  clear hy175
  obtain ⟨y178, hy178⟩ : ∃ y_ : List (S35), y_ = (([(⟨y172, (-130365)⟩ : S35), (⟨y175, 66243⟩ : S35)] : List (S35))) := ⟨_, rfl⟩
  replace H : ((loss_Of.f k t166 t167 t168 y178).bind fun bt181 => ((loss_Of.f k t166 t167 t168 ([] : List (S35))).bind fun bt183 => (if 1 ≤ (t168.length : Int) then ((loss_Of.f k t166 t167 (t168.drop 1) y178).bind fun bt190 => (if bt181.1 = 327680 then ((grafterlaw0_Num.f bt181.2).bind fun t192 => (if t192 = 0 then ((grafterlaw0_Num.f bt183.2).bind fun t193 => (if t193 = 1000 then ((grafterlaw0_Num.f bt190.2).bind fun t194 => (if t194 = 1000 then ((loss_May.f k t166 t167 y178).bind fun t195 => (if t195 = true then ((loss_May.f k t166 t167 ([] : List (S35))).bind fun t196 => (some (!t196))) else (some false))) else (some false))) else (some false))) else (some false))) else (some false))) else (none)))) = some r := by first | (rw [hy178]; with_reducible exact H) | (have H2_ := (Option.bind_some _ _).symm.trans H; rw [hy178]; with_reducible exact H2_) | (have H2_ := (Option.bind_some _ _).symm.trans H; with_reducible exact H2_) | with_reducible exact H | (rw [hy178]; exact H) | exact H
  have Ny178 := Aside0.mk hy178
  clear hy178
  replace H := Option.bind_eq_some_iff.mp H
  obtain ⟨⟨t181, t182⟩, A20, H⟩ := H
  replace H : ((loss_Of.f k t166 t167 t168 ([] : List (S35))).bind fun bt183 => (if 1 ≤ (t168.length : Int) then ((loss_Of.f k t166 t167 (t168.drop 1) y178).bind fun bt190 => (if t181 = 327680 then ((grafterlaw0_Num.f t182).bind fun t192 => (if t192 = 0 then ((grafterlaw0_Num.f bt183.2).bind fun t193 => (if t193 = 1000 then ((grafterlaw0_Num.f bt190.2).bind fun t194 => (if t194 = 1000 then ((loss_May.f k t166 t167 y178).bind fun t195 => (if t195 = true then ((loss_May.f k t166 t167 ([] : List (S35))).bind fun t196 => (some (!t196))) else (some false))) else (some false))) else (some false))) else (some false))) else (some false))) else (none))) = some r := H
  have A2 := Aside0.mk A20
  clear A20
  replace H := Option.bind_eq_some_iff.mp H
  obtain ⟨⟨t183, t184⟩, A30, H⟩ := H
  replace H : (if 1 ≤ (t168.length : Int) then ((loss_Of.f k t166 t167 (t168.drop 1) y178).bind fun bt190 => (if t181 = 327680 then ((grafterlaw0_Num.f t182).bind fun t192 => (if t192 = 0 then ((grafterlaw0_Num.f t184).bind fun t193 => (if t193 = 1000 then ((grafterlaw0_Num.f bt190.2).bind fun t194 => (if t194 = 1000 then ((loss_May.f k t166 t167 y178).bind fun t195 => (if t195 = true then ((loss_May.f k t166 t167 ([] : List (S35))).bind fun t196 => (some (!t196))) else (some false))) else (some false))) else (some false))) else (some false))) else (some false))) else (none)) = some r := H
  have A3 := Aside0.mk A30
  clear A30
  by_cases c4 : 1 ≤ (t168.length : Int)
  · rw [if_pos c4] at H
    have c4b0 := eq_true c4
    have c4b1 : decide (1 ≤ (t168.length : Int)) = true := decide_eq_true c4
    clear c4
    obtain ⟨y185, hy185⟩ : ∃ y_ : List Int, y_ = (t168.drop 1) := ⟨_, rfl⟩
    replace H : ((loss_Of.f k t166 t167 y185 y178).bind fun bt190 => (if t181 = 327680 then ((grafterlaw0_Num.f t182).bind fun t192 => (if t192 = 0 then ((grafterlaw0_Num.f t184).bind fun t193 => (if t193 = 1000 then ((grafterlaw0_Num.f bt190.2).bind fun t194 => (if t194 = 1000 then ((loss_May.f k t166 t167 y178).bind fun t195 => (if t195 = true then ((loss_May.f k t166 t167 ([] : List (S35))).bind fun t196 => (some (!t196))) else (some false))) else (some false))) else (some false))) else (some false))) else (some false))) = some r := by first | (rw [hy185]; with_reducible exact H) | (have H2_ := (Option.bind_some _ _).symm.trans H; rw [hy185]; with_reducible exact H2_) | (have H2_ := (Option.bind_some _ _).symm.trans H; with_reducible exact H2_) | with_reducible exact H | (rw [hy185]; exact H) | exact H
    have Ny185 := Aside0.mk hy185
    clear hy185
    replace H := Option.bind_eq_some_iff.mp H
    obtain ⟨⟨t190, t191⟩, A50, H⟩ := H
    replace H : (if t181 = 327680 then ((grafterlaw0_Num.f t182).bind fun t192 => (if t192 = 0 then ((grafterlaw0_Num.f t184).bind fun t193 => (if t193 = 1000 then ((grafterlaw0_Num.f t191).bind fun t194 => (if t194 = 1000 then ((loss_May.f k t166 t167 y178).bind fun t195 => (if t195 = true then ((loss_May.f k t166 t167 ([] : List (S35))).bind fun t196 => (some (!t196))) else (some false))) else (some false))) else (some false))) else (some false))) else (some false)) = some r := H
    have A5 := Aside0.mk A50
    clear A50
    by_cases c6 : t181 = 327680
    · rw [if_pos c6] at H
      have c6b0 : (t181 == 327680) = true := beq_iff_eq.mpr c6
      have c6b1 : (t181 != 327680) = false := bne_eq_false_iff_eq.mpr c6
      clear c6
      replace H := Option.bind_eq_some_iff.mp H
      obtain ⟨t192, A70, H⟩ := H
      replace H : (if t192 = 0 then ((grafterlaw0_Num.f t184).bind fun t193 => (if t193 = 1000 then ((grafterlaw0_Num.f t191).bind fun t194 => (if t194 = 1000 then ((loss_May.f k t166 t167 y178).bind fun t195 => (if t195 = true then ((loss_May.f k t166 t167 ([] : List (S35))).bind fun t196 => (some (!t196))) else (some false))) else (some false))) else (some false))) else (some false)) = some r := H
      have A7 := Aside0.mk A70
      clear A70
      by_cases c8 : t192 = 0
      · rw [if_pos c8] at H
        have c8b0 : (t192 == 0) = true := beq_iff_eq.mpr c8
        have c8b1 : (t192 != 0) = false := bne_eq_false_iff_eq.mpr c8
        clear c8
        replace H := Option.bind_eq_some_iff.mp H
        obtain ⟨t193, A90, H⟩ := H
        replace H : (if t193 = 1000 then ((grafterlaw0_Num.f t191).bind fun t194 => (if t194 = 1000 then ((loss_May.f k t166 t167 y178).bind fun t195 => (if t195 = true then ((loss_May.f k t166 t167 ([] : List (S35))).bind fun t196 => (some (!t196))) else (some false))) else (some false))) else (some false)) = some r := H
        have A9 := Aside0.mk A90
        clear A90
        by_cases c10 : t193 = 1000
        · rw [if_pos c10] at H
          have c10b0 : (t193 == 1000) = true := beq_iff_eq.mpr c10
          have c10b1 : (t193 != 1000) = false := bne_eq_false_iff_eq.mpr c10
          clear c10
          replace H := Option.bind_eq_some_iff.mp H
          obtain ⟨t194, A110, H⟩ := H
          replace H : (if t194 = 1000 then ((loss_May.f k t166 t167 y178).bind fun t195 => (if t195 = true then ((loss_May.f k t166 t167 ([] : List (S35))).bind fun t196 => (some (!t196))) else (some false))) else (some false)) = some r := H
          have A11 := Aside0.mk A110
          clear A110
          by_cases c12 : t194 = 1000
          · rw [if_pos c12] at H
            have c12b0 : (t194 == 1000) = true := beq_iff_eq.mpr c12
            have c12b1 : (t194 != 1000) = false := bne_eq_false_iff_eq.mpr c12
            clear c12
            replace H := Option.bind_eq_some_iff.mp H
            obtain ⟨t195, A130, H⟩ := H
            replace H : (if t195 = true then ((loss_May.f k t166 t167 ([] : List (S35))).bind fun t196 => (some (!t196))) else (some false)) = some r := H
            have A13 := Aside0.mk A130
            clear A130
            by_cases c14 : t195 = true
            · subst c14
              have H1 : ((loss_May.f k t166 t167 ([] : List (S35))).bind fun t196 => (some (!t196))) = some r := by rw [if_pos rfl] at H; exact H
              clear H
              have H := H1
              clear H1
              replace H := Option.bind_eq_some_iff.mp H
              obtain ⟨t196, A150, H⟩ := H
              replace H : (some (!t196)) = some r := H
              have A15 := Aside0.mk A150
              clear A150
              obtain rfl := Option.some.inj H
              go_enter Try.func31, Try.ntmps31
              try go_wp2_with (first | ((with_reducible refine gate_callee (f := 32) rfl ?_); refine goesL_ (some 11) rfl rfl Try.func32 (by kernel_rfl) rfl #[] rfl (by (try simp only [List.map_toArray, List.map_cons, List.map_nil]); first | done | rfl | (simp only [List.length_drop, List.length_take]; rfl)) ?_; (with_reducible refine (grafterlaw10_given.calls  t166 t167 t168 _ A1.out).mono ?_); rintro e w16 ⟨v169, rfl, ho0, hb⟩; refine ⟨_, rfl, ?_⟩; have n0_ := Aside0.mk (Kd.R_lower ho0 (below_size (by repeat (first | (with_reducible first | exact HB.out | apply below_alloc | apply pw_below_drewN | apply below_drew1) | exact HB.out)))); have n1_ := Aside0.mk (below_step (by repeat (first | (with_reducible first | exact HB.out | apply below_alloc | apply pw_below_drewN | apply below_drew1) | exact HB.out)) hb); clear HB; have HO170 := n0_; have HB := n1_; clear n0_ n1_; (try clear hb); (try clear hb2); (try clear hk); (try clear hi); (try clear ho0)) | ((with_reducible refine gate_dst (N := 1) rfl ?_); refine box_event ?hg (N := 1) ?hd (cs := #[.int .i64 0, .int .i64 0]) (t := 23) ?hr ?_; (case hd => rfl); (case hg => rfl); (case hr => first | (go_simp; done) | (go_simp; rfl)); intro gb171 hg w17 hbox hb; have n0_ := Aside0.mk (Kd.R_below (by (with_reducible repeat (first | apply Kd.R_alloc | apply Kd.R_drewN | apply Kd.R_drew)); exact HO170.out) hb); have n1_ := Aside0.mk (below_step (by repeat (first | (with_reducible first | exact HB.out | apply below_alloc | apply pw_below_drewN | apply below_drew1) | exact HB.out)) hb); have n2_ := Aside0.mk (hbox); have n3_ := Aside0.mk ((by rw [hg]; exact (below_size (by repeat (first | (with_reducible first | exact HB.out | apply below_alloc | apply pw_below_drewN | apply below_drew1) | exact HB.out))) : w.heap.size ≤ gb171)); have n4_ := Aside0.mk ((by rw [hg]; exact (below_size (by repeat (first | (with_reducible first | exact HB.out | apply below_alloc | apply pw_below_drewN | apply below_drew1) | exact HB.out))) : w.heap.size ≤ gb171)); clear HO170; clear HB; have HO170 := n0_; have HB := n1_; have BK171 := n2_; have GW171 := n3_; have GE171 := n4_; clear n0_ n1_ n2_ n3_ n4_; clear hb hbox hg; have hcz18_0 : w17.cell? ⟨gb171, 0, none⟩ = some (.int .i64 0) := (blk_cell BK171.out 0).trans rfl; have hcz18_1 : w17.cell? ⟨gb171, 1, none⟩ = some (.int .i64 0) := (blk_cell BK171.out 1).trans rfl; have hfz18_0 := blk_frozen BK171.out 0; have hfz18_1 := blk_frozen BK171.out 1) | ((with_reducible refine gate_dst (N := 14) rfl ?_); refine Kd.R_lit (Kd.int .i64) _ 3 ?hg (N := 14) ?hd (xs := ([1000, 400] : List Int)) (inner := [.int .i64 1000, .int .i64 400]) (ok := fun _ => True) (okp := fun _ => True) ?hr ?hp (fun _ hk => hk) trivial (Below.refl _ _) (Nat.le_refl _) (by simp) ?_; (case hd => rfl); (case hg => rfl); (case hr => first | (go_simp; done) | (go_simp; rfl)); (case hp => exact (Reps.one (show Kd.M (Kd.int .i64) _ _ _ 1000 [.int .i64 1000] from rfl) (Reps.one (show Kd.M (Kd.int .i64) _ _ _ 400 [.int .i64 400] from rfl) (Reps.none _ _)))); intro v173 w19 ho20 hb hg_ hnew_; clear hg_ hnew_; (first | rw [← Ny172.out] at ho20 | (simp only [Int.reduceToNat] at ho20; rw [← Ny172.out] at ho20)); have n0_ := Aside0.mk (Kd.R_elder' (by (with_reducible repeat (first | apply Kd.R_alloc | apply Kd.R_drewN | apply Kd.R_drew)); exact (Kd.R_mono (Kd.R_far (p := ⟨gb171, 1, none⟩) (Kd.R_far (p := ⟨gb171, 0, none⟩) (Kd.R_types HO170.out BK171.out (by decide)) (fun _ hk => hk.2) (.int .i64 t166)) (fun _ hk => hk.2) (.int .i64 t167)) (fun _ h_ => h_.1))) (Kd.R_base ho20) hb); have n1_ := Aside0.mk (Kd.R_lower (Kd.R_new' ho20 (Kd.R_lt (by (with_reducible repeat (first | apply Kd.R_alloc | apply Kd.R_drewN | apply Kd.R_drew)); exact (Kd.R_mono (Kd.R_far (p := ⟨gb171, 1, none⟩) (Kd.R_far (p := ⟨gb171, 0, none⟩) (Kd.R_types HO170.out BK171.out (by decide)) (fun _ hk => hk.2) (.int .i64 t166)) (fun _ hk => hk.2) (.int .i64 t167)) (fun _ h_ => h_.1))))) (below_size (by repeat (first | (with_reducible first | exact HB.out | apply below_alloc | apply pw_below_drewN | apply below_drew1 | refine below_set ?_ GE171.out) | exact HB.out)))); have n2_ := Aside0.mk (blk_below (g := gb171) (o := .cells #[.int .i64 t166, .int .i64 t167] 23 (0, 0)) (by (with_reducible repeat (first | refine blk_drewN ?_ _ | refine blk_drew ?_ | refine blk_alloc ?_ _)); refine blk_put (cs := #[.int .i64 t166, .int .i64 0]) ?_ 1 _ rfl; (with_reducible repeat (first | refine blk_drewN ?_ _ | refine blk_drew ?_ | refine blk_alloc ?_ _)); refine blk_put (cs := #[.int .i64 0, .int .i64 0]) ?_ 0 _ rfl; (with_reducible repeat (first | refine blk_drewN ?_ _ | refine blk_drew ?_ | refine blk_alloc ?_ _)); exact BK171.out) hb); have n3_ := Aside0.mk (below_step (by repeat (first | (with_reducible first | exact HB.out | apply below_alloc | apply pw_below_drewN | apply below_drew1 | refine below_set ?_ GE171.out) | exact HB.out)) hb); clear HO170; clear BK171; clear HB; have HO170 := n0_; have HO174 := n1_; have BK171 := n2_; have HB := n3_; clear n0_ n1_ n2_ n3_; clear hb ho20; obtain ⟨Ao21, co21, eo21⟩ := Kd.R_slice HO174.out; subst eo21) | ((with_reducible refine gate_dst (N := 16) rfl ?_); refine Kd.R_lit (Kd.int .i64) _ 3 ?hg (N := 16) ?hd (xs := ([1000, 400] : List Int)) (inner := [.int .i64 1000, .int .i64 400]) (ok := fun _ => True) (okp := fun _ => True) ?hr ?hp (fun _ hk => hk) trivial (Below.refl _ _) (Nat.le_refl _) (by simp) ?_; (case hd => rfl); (case hg => rfl); (case hr => first | (go_simp; done) | (go_simp; rfl)); (case hp => exact (Reps.one (show Kd.M (Kd.int .i64) _ _ _ 1000 [.int .i64 1000] from rfl) (Reps.one (show Kd.M (Kd.int .i64) _ _ _ 400 [.int .i64 400] from rfl) (Reps.none _ _)))); intro v176 w22 ho23 hb hg_ hnew_; clear hg_ hnew_; (first | rw [← Ny175.out] at ho23 | (simp only [Int.reduceToNat] at ho23; rw [← Ny175.out] at ho23)); have n0_ := Aside0.mk (Kd.R_elder' (by (with_reducible repeat (first | apply Kd.R_alloc | apply Kd.R_drewN | apply Kd.R_drew)); exact HO170.out) (Kd.R_base ho23) hb); have n1_ := Aside0.mk (Kd.R_elder' (by (with_reducible repeat (first | apply Kd.R_alloc | apply Kd.R_drewN | apply Kd.R_drew)); exact HO174.out) (Kd.R_base ho23) hb); have n2_ := Aside0.mk (Kd.R_lower (Kd.R_new' (Kd.R_new' ho23 (Kd.R_lt (by (with_reducible repeat (first | apply Kd.R_alloc | apply Kd.R_drewN | apply Kd.R_drew)); exact HO170.out))) (Kd.R_lt (by (with_reducible repeat (first | apply Kd.R_alloc | apply Kd.R_drewN | apply Kd.R_drew)); exact HO174.out))) (below_size (by repeat (first | (with_reducible first | exact HB.out | apply below_alloc | apply pw_below_drewN | apply below_drew1 | refine below_set ?_ GE171.out) | exact HB.out)))); have n3_ := Aside0.mk (blk_below (g := gb171) (o := .cells #[.int .i64 t166, .int .i64 t167] 23 (0, 0)) (by (with_reducible repeat (first | refine blk_drewN ?_ _ | refine blk_drew ?_ | refine blk_alloc ?_ _)); exact BK171.out) hb); have n4_ := Aside0.mk (below_step (by repeat (first | (with_reducible first | exact HB.out | apply below_alloc | apply pw_below_drewN | apply below_drew1 | refine below_set ?_ GE171.out) | exact HB.out)) hb); clear HO170; clear HO174; clear BK171; clear HB; have HO170 := n0_; have HO174 := n1_; have HO177 := n2_; have BK171 := n3_; have HB := n4_; clear n0_ n1_ n2_ n3_ n4_; clear hb ho23; obtain ⟨Ao24, co24, eo24⟩ := Kd.R_slice HO177.out; subst eo24) | ((with_reducible refine gate_dst (N := 18) rfl ?_); refine Kd.N_lit k35 _ 35 ?hg (N' := 18) ?hd (xs := ([(⟨y172, (-130365)⟩ : S35), (⟨y175, 66243⟩ : S35)] : List (S35))) (inner := [.slice Ao21 y172.length co21, .int .i64 (-130365), .slice Ao24 y175.length co24, .int .i64 66243]) (ok := (fun k_ => some k_ ≠ (v169 : Value).ownBlock ∧ k_ ≠ gb171)) (okp := (fun k_ => some k_ ≠ (v169 : Value).ownBlock ∧ k_ ≠ gb171)) ?hr ?hp (fun _ hk => hk) ((show ∀ k_, w22.heap.size ≤ k_ → (fun k_ => some k_ ≠ (v169 : Value).ownBlock ∧ k_ ≠ gb171) k_ from fun k_ hk => ⟨Kd.fresh' (Kd.R_lt (by (with_reducible repeat (first | apply Kd.R_alloc | apply Kd.R_drewN | apply Kd.R_drew)); exact HO170.out)) k_ hk, Kd.freshB (g := gb171) (o := .cells #[.int .i64 t166, .int .i64 t167] 23 (0, 0)) (by (with_reducible repeat (first | refine blk_drewN ?_ _ | refine blk_drew ?_ | refine blk_alloc ?_ _)); exact BK171.out) k_ hk⟩) _ (Nat.le_refl _)) (Below.refl _ _) (Nat.le_refl _) (by simp) ?_; (case hd => rfl); (case hg => rfl); (case hr => first | (go_simp; done) | (go_simp; rfl)); (case hp => exact (Reps.c2 (show Kd.FK k35 _ _ (⟨y172, (-130365)⟩ : S35) [.slice Ao21 y172.length co21, .int .i64 (-130365)] from (k35_mkF _ _ (⟨y172, (-130365)⟩ : S35) (Kd.R_reads' (Kd.R_mono (ok' := (fun k_ => some k_ ≠ (v169 : Value).ownBlock ∧ k_ ≠ gb171)) (Kd.R_types (HO174.out) BK171.out (by decide)) (fun k_ hk => ⟨hk.1.1.2, hk.2⟩))).2.1 (Kd.R_F (Kd.R_mono (ok' := (fun k_ => some k_ ≠ (v169 : Value).ownBlock ∧ k_ ≠ gb171)) (Kd.R_types (HO174.out) BK171.out (by decide)) (fun k_ hk => ⟨hk.1.1.2, hk.2⟩))))) (Reps.c2 (show Kd.FK k35 _ _ (⟨y175, 66243⟩ : S35) [.slice Ao24 y175.length co24, .int .i64 66243] from (k35_mkF _ _ (⟨y175, 66243⟩ : S35) (Kd.R_reads' (Kd.R_mono (ok' := (fun k_ => some k_ ≠ (v169 : Value).ownBlock ∧ k_ ≠ gb171)) (Kd.R_types (HO177.out) BK171.out (by decide)) (fun k_ hk => ⟨hk.1.1.2, hk.2⟩))).2.1 (Kd.R_F (Kd.R_mono (ok' := (fun k_ => some k_ ≠ (v169 : Value).ownBlock ∧ k_ ≠ gb171)) (Kd.R_types (HO177.out) BK171.out (by decide)) (fun k_ hk => ⟨hk.1.1.2, hk.2⟩))))) (Reps.none _ _)))); intro v179 w25 ho26 hb hg_ hnew_; clear hg_ hnew_; (first | rw [← Ny178.out] at ho26 | (simp only [Int.reduceToNat] at ho26; rw [← Ny178.out] at ho26)); have n0_ := Aside0.mk (Kd.R_below (by (with_reducible repeat (first | apply Kd.R_alloc | apply Kd.R_drewN | apply Kd.R_drew)); exact HO170.out) hb); have n1_ := Aside0.mk (Kd.N_lower ho26 (below_size (by repeat (first | (with_reducible first | exact HB.out | apply below_alloc | apply pw_below_drewN | apply below_drew1 | refine below_set ?_ GE171.out) | exact HB.out)))); have n2_ := Aside0.mk (blk_below (g := gb171) (o := .cells #[.int .i64 t166, .int .i64 t167] 23 (0, 0)) (by (with_reducible repeat (first | refine blk_drewN ?_ _ | refine blk_drew ?_ | refine blk_alloc ?_ _)); exact BK171.out) hb); have n3_ := Aside0.mk (below_step (by repeat (first | (with_reducible first | exact HB.out | apply below_alloc | apply pw_below_drewN | apply below_drew1 | refine below_set ?_ GE171.out) | exact HB.out)) hb); clear HO170; clear BK171; clear HB; clear HO174; clear HO177; have HO170 := n0_; have HO180 := n1_; have BK171 := n2_; have HB := n3_; clear n0_ n1_ n2_ n3_; clear hb ho26; have hcz27_0 : w25.cell? ⟨gb171, 0, none⟩ = some (.int .i64 t166) := (blk_cell BK171.out 0).trans rfl; have hcz27_1 : w25.cell? ⟨gb171, 1, none⟩ = some (.int .i64 t167) := (blk_cell BK171.out 1).trans rfl; have hfz27_0 := blk_frozen BK171.out 0; have hfz27_1 := blk_frozen BK171.out 1; obtain ⟨Ao28, co28, eo28⟩ := Kd.R_slice HO170.out; subst eo28; obtain ⟨Ao29, co29, eo29⟩ := Kd.N_slice HO180.out; subst eo29) | ((with_reducible refine gate_callee (f := 25) rfl ?_); refine goesL_ (some 23) rfl rfl Try.func25 (by kernel_rfl) rfl #[.agg #[.int .i64 t166, .int .i64 t167], .slice Ao28 t168.length co28, .slice Ao29 y178.length co29] rfl (by (try simp only [List.map_toArray, List.map_cons, List.map_nil]); first | done | rfl | (simp only [List.length_drop, List.length_take]; rfl)) ?_; (with_reducible refine (loss_Of.calls k t166 t167 _ _ t168 _ _ y178 t181 t182 _ ?side1 ?side2 ?side3 ?side4 A2.out).mono ?_); (case side1 => repeat (first | (with_reducible refine Kd.C_alloc ?_ _) | (with_reducible refine Kd.C_drewN ?_ _) | (with_reducible refine Kd.C_drew ?_) | exact (Kd.R_reads' HO170.out).2.2)); (case side2 => exact (Kd.R_reads' HO170.out).2.1); (case side3 => repeat (first | (with_reducible refine Kd.C_alloc ?_ _) | (with_reducible refine Kd.C_drewN ?_ _) | (with_reducible refine Kd.C_drew ?_) | exact (Kd.N_reads' HO180.out).2.2)); (case side4 => exact (Kd.N_reads' HO180.out).2.1); rintro e w30 ⟨rfl, hb⟩; refine ⟨_, rfl, ?_⟩; have n0_ := Aside0.mk (Kd.R_below (by (with_reducible repeat (first | apply Kd.R_alloc | apply Kd.R_drewN | apply Kd.R_drew)); exact HO170.out) hb); have n1_ := Aside0.mk (Kd.N_below (by (with_reducible repeat (first | apply Kd.N_alloc | apply Kd.N_drewN | apply Kd.N_drew)); exact HO180.out) hb); have n2_ := Aside0.mk (blk_below (g := gb171) (o := .cells #[.int .i64 t166, .int .i64 t167] 23 (0, 0)) (by (with_reducible repeat (first | refine blk_drewN ?_ _ | refine blk_drew ?_ | refine blk_alloc ?_ _)); exact BK171.out) hb); have n3_ := Aside0.mk (below_step (by repeat (first | (with_reducible first | exact HB.out | apply below_alloc | apply pw_below_drewN | apply below_drew1 | refine below_set ?_ GE171.out) | exact HB.out)) hb); clear HO170; clear HO180; clear BK171; clear HB; have HO170 := n0_; have HO180 := n1_; have BK171 := n2_; have HB := n3_; clear n0_ n1_ n2_ n3_; (try clear hb); (try clear hb2); (try clear hk); (try clear hi); have hcz31_0 : w30.cell? ⟨gb171, 0, none⟩ = some (.int .i64 t166) := (blk_cell BK171.out 0).trans rfl; have hcz31_1 : w30.cell? ⟨gb171, 1, none⟩ = some (.int .i64 t167) := (blk_cell BK171.out 1).trans rfl; have hfz31_0 := blk_frozen BK171.out 0; have hfz31_1 := blk_frozen BK171.out 1; (try clear A2)) | ((with_reducible refine gate_callee (f := 25) rfl ?_); refine goesL_ (some 29) rfl rfl Try.func25 (by kernel_rfl) rfl #[.agg #[.int .i64 t166, .int .i64 t167], .slice Ao28 t168.length co28, .slice none 0 0] rfl (by (try simp only [List.map_toArray, List.map_cons, List.map_nil]); first | done | rfl | (simp only [List.length_drop, List.length_take]; rfl)) ?_; (refine (loss_Of.calls k t166 t167 _ _ t168 _ _ ([] : List (S35)) t183 t184 _ ?side1 ?side2 ?side3 ?side4 A3.out).mono ?_); (case side1 => repeat (first | (with_reducible refine Kd.C_alloc ?_ _) | (with_reducible refine Kd.C_drewN ?_ _) | (with_reducible refine Kd.C_drew ?_) | exact (Kd.R_reads' HO170.out).2.2)); (case side2 => exact (Kd.R_reads' HO170.out).2.1); (case side3 => exact Kd.C_nil _ _); (case side4 => exact Nat.le_refl _); rintro e w32 ⟨rfl, hb⟩; refine ⟨_, rfl, ?_⟩; have n0_ := Aside0.mk (Kd.R_below (by (with_reducible repeat (first | apply Kd.R_alloc | apply Kd.R_drewN | apply Kd.R_drew)); exact HO170.out) hb); have n1_ := Aside0.mk (Kd.N_below (by (with_reducible repeat (first | apply Kd.N_alloc | apply Kd.N_drewN | apply Kd.N_drew)); exact HO180.out) hb); have n2_ := Aside0.mk (blk_below (g := gb171) (o := .cells #[.int .i64 t166, .int .i64 t167] 23 (0, 0)) (by (with_reducible repeat (first | refine blk_drewN ?_ _ | refine blk_drew ?_ | refine blk_alloc ?_ _)); exact BK171.out) hb); have n3_ := Aside0.mk (below_step (by repeat (first | (with_reducible first | exact HB.out | apply below_alloc | apply pw_below_drewN | apply below_drew1 | refine below_set ?_ GE171.out) | exact HB.out)) hb); clear HO170; clear HO180; clear BK171; clear HB; have HO170 := n0_; have HO180 := n1_; have BK171 := n2_; have HB := n3_; clear n0_ n1_ n2_ n3_; (try clear hb); (try clear hb2); (try clear hk); (try clear hi); (try clear A3)))
              have n0_ := Aside0.mk (Kd.R_drew HO170.out)
              have n1_ := Aside0.mk (Kd.N_drew HO180.out)
              have n2_ := Aside0.mk (blk_drew BK171.out)
              have n3_ := Aside0.mk (below_drew1 HB.out)
              clear HO170
              clear HO180
              clear BK171
              clear HB
              have HO170 := n0_
              have HO180 := n1_
              have BK171 := n2_
              have HB := n3_
              clear n0_ n1_ n2_ n3_
              have q34 : (1 : Int) ≤ ((t168.length : Int) : Int) := of_decide_eq_true (by first | (with_reducible assumption) | assumption)
              obtain ⟨i034, hi034, _, hsz34, _⟩ := info_parts info3
              have hroom34 : t168.length ≤ co28 := (Kd.R_reads' HO170.out).2.1
              have hC34 : Kd.F (Kd.int .i64) _ _ Ao28 t168.length t168 := (Kd.V_at (base := w.heap.size) (Kd.R_V (Kd.R_types (Kd.R_apart' (HO170.out) (Kd.N_typed HO180.out) (by decide)) BK171.out (by decide)))).2.2
              have hcut34 := cut_from (P := Try.prog) 33 3 .i64 Try.underlying33 hi034 1 hsz34 Ao28 t168.length co28 1 (by omega) q34
              have hr34 := Kd.F_cut (m := (1 : Int).toNat) (c := co28) hC34 (by omega) hroom34
              obtain ⟨A34, hA34⟩ : ∃ A1, A1 = (if co28 = (1 : Int).toNat then Ao28 else (Ao28 : Option Addr).map (·.add ((1 : Int).toNat * 1))) := ⟨_, rfl⟩
              obtain ⟨c34, hc34⟩ : ∃ c1, c1 = co28 - (1 : Int).toNat := ⟨_, rfl⟩
              have hy34 : y185.length = t168.length - (1 : Int).toNat := (by rw [Ny185.out, List.length_drop] <;> omega)
              rw [show (t168).drop (1 : Int).toNat = y185 from Ny185.out.symm] at hr34
              replace hr34 : Kd.F (Kd.int .i64) _ _ A34 y185.length y185 := (by rw [hA34]; exact hr34)
              rw [← hy34, ← hA34, ← hc34] at hcut34
              have HO189 := Aside0.mk (show Kd.V (Kd.int .i64) 3 _ w.heap.size _ (.slice A34 y185.length c34) y185 from Kd.V_mk (by rw [hy34, hc34]; exact Nat.sub_le_sub_right hroom34 _) hr34)
              have HC189 := Aside0.mk (show y185.length ≤ c34 from by rw [hy34, hc34]; exact Nat.sub_le_sub_right hroom34 _)
              clear hr34 hC34 hroom34 hi034 hsz34 hc34
              have KY34 := Aside0.mk hy34
              have KA34 := Aside0.mk hA34
              clear hy34 hA34
              replace q34 := eq_true q34
              refine start_ (n := 10) (S := fun w' => w'.cell? ⟨gb171, 0, none⟩ = some (.int .i64 t166) ∧ w'.cell? ⟨gb171, 1, none⟩ = some (.int .i64 t167)) (ds := []) #[false, false, false, false, false, false, false, false, false, false] (by kernel_rfl) rfl rfl ⟨(blk_cell BK171.out 0).trans rfl, (blk_cell BK171.out 1).trans rfl⟩ (fun hHeld => ?_); refine with_tabW grafterlaw10_awake.tab5 grafterlaw10_awake.bits5 (fun HT_ HW_ => ?_)
              generalize w32.drew = w33 at HO170 HO180 BK171 HB HO189 hHeld ⊢
              refine pure_ (i := 1) (N := some 34) (v := ?_) (a' := ?_) #[false, true, false, false, false, false, false, false, false, false] rfl rfl (any_of HT_.out (by kernel_rfl)) (fun _ _ _ h => h) (Or.inl ⟨by rfl, ?_⟩) ?_ ?_
              rotate_left
              · intro w'
                go_simp
                with_reducible rfl
              rotate_left
              · simp only [Act.put, List.setIfInBounds_toArray, List.set_cons_zero, List.set_cons_succ, i64_w, i32_w]
                rfl
              refine pure_ (i := 2) (N := some 35) (v := ?_) (a' := ?_) #[false, true, true, false, false, false, false, false, false, false] rfl rfl (any_of HT_.out (by kernel_rfl)) (fun _ _ _ h => h) (Or.inl ⟨by rfl, ?_⟩) ?_ ?_
              rotate_left
              · intro w'
                go_simp
                with_reducible rfl
              rotate_left
              · simp only [Act.put, List.setIfInBounds_toArray, List.set_cons_zero, List.set_cons_succ, i64_w, i32_w]
                rfl
              refine pure_ (i := 3) (N := some 36) (v := ?_) (a' := ?_) #[false, true, true, true, false, false, false, false, false, false] rfl rfl (any_of HT_.out (by kernel_rfl)) (fun _ _ _ h => h) (Or.inl ⟨by rfl, ?_⟩) ?_ ?_
              rotate_left
              · intro w'
                go_simp
                with_reducible rfl
              rotate_left
              · simp only [Act.put, List.setIfInBounds_toArray, List.set_cons_zero, List.set_cons_succ, i64_w, i32_w]
                rfl
              refine take_ (i := 0) (N := some 33) (v := ?_) (a' := ?_) #[true, true, true, true, false, false, false, false, false, false] rfl rfl (take_ofW HT_.out HW_.out (by kernel_rfl)) (fun _ _ _ h => h) (Or.inl ⟨by rfl, ?_⟩) hHeld ?_ ?_
              rotate_left
              · rintro w' ⟨s0, s1⟩
                go_simp
                with_reducible rfl
              rotate_left
              · simp only [Act.put, List.setIfInBounds_toArray, List.set_cons_zero, List.set_cons_succ, i64_w, i32_w]
                rfl
              refine one_ (i := 4) (N := some 37) #[true, true, true, true, true, false, false, false, false, false] rfl rfl (one_of HT_.out (by kernel_rfl)) (by decide) (fun K hK => ?_)
              refine goes_ Try.func25 (by kernel_rfl) rfl #[.agg #[.int .i64 t166, .int .i64 t167], .slice A34 y185.length c34, .slice Ao29 y178.length co29] (by rfl) rfl rfl (by (try simp only [List.map_toArray, List.map_cons, List.map_nil]); first | done | rfl | (simp only [List.length_drop, List.length_take]; rfl)) ?_
              with_reducible refine (loss_Of.calls k t166 t167 _ _ y185 _ _ y178 t190 t191 _ ?side1 ?side2 ?side3 ?side4 A5.out).mono ?_
              (case side1 => repeat (first | (with_reducible refine Kd.C_alloc ?_ _) | (with_reducible refine Kd.C_drewN ?_ _) | (with_reducible refine Kd.C_drew ?_) | exact (Kd.V_reads' HO189.out).2.2))
              (case side2 => exact (Kd.V_reads' HO189.out).2.1)
              (case side3 => repeat (first | (with_reducible refine Kd.C_alloc ?_ _) | (with_reducible refine Kd.C_drewN ?_ _) | (with_reducible refine Kd.C_drew ?_) | exact (Kd.N_reads' HO180.out).2.2))
              (case side4 => exact (Kd.N_reads' HO180.out).2.1)
              rintro e w35 ⟨rfl, hb⟩
              refine ⟨_, rfl, ?_⟩
              have n0_ := Aside0.mk (Kd.R_below (by (with_reducible repeat (first | apply Kd.R_alloc | apply Kd.R_drewN | apply Kd.R_drew)); exact HO170.out) hb)
              have n1_ := Aside0.mk (Kd.N_below (by (with_reducible repeat (first | apply Kd.N_alloc | apply Kd.N_drewN | apply Kd.N_drew)); exact HO180.out) hb)
              have n2_ := Aside0.mk (Kd.V_below (by (with_reducible repeat (first | apply Kd.V_alloc | apply Kd.V_drewN | apply Kd.V_drew)); exact HO189.out) hb)
              have n3_ := Aside0.mk (blk_below (g := gb171) (o := .cells #[.int .i64 t166, .int .i64 t167] 23 (0, 0)) (by (with_reducible repeat (first | refine blk_drewN ?_ _ | refine blk_drew ?_ | refine blk_alloc ?_ _)); exact BK171.out) hb)
              have n4_ := Aside0.mk (below_step (by repeat (first | (with_reducible first | exact HB.out | apply below_alloc | apply pw_below_drewN | apply below_drew1 | refine below_set ?_ GE171.out) | exact HB.out)) hb)
              clear HO170
              clear HO180
              clear HO189
              clear BK171
              clear HB
              have HO170 := n0_
              have HO180 := n1_
              have HO189 := n2_
              have BK171 := n3_
              have HB := n4_
              clear n0_ n1_ n2_ n3_ n4_
              (try clear hb)
              (try clear hb2)
              (try clear hk)
              (try clear hi)
              refine hK.out _ _ ⟨(blk_cell BK171.out 0).trans rfl, (blk_cell BK171.out 1).trans rfl⟩ (fun hHeld => ?_)
              clear hK K
              refine norm_ (a' := ?_) ?_ ?_
              rotate_left
              · show Act.put _ (some 37) _ = _
                simp only [Act.put, List.setIfInBounds_toArray, List.set_cons_zero, List.set_cons_succ, i64_w, i32_w]
                rfl
              refine pure_ (i := 5) (N := some 32) (v := ?_) (a' := ?_) #[true, true, true, true, true, true, false, false, false, false] rfl rfl (any_of HT_.out (by kernel_rfl)) (fun _ _ _ h => h) (Or.inl ⟨by rfl, ?_⟩) ?_ ?_
              rotate_left
              · intro w'
                go_simp
                with_reducible rfl
              rotate_left
              · simp only [Act.put, List.setIfInBounds_toArray, List.set_cons_zero, List.set_cons_succ, i64_w, i32_w]
                rfl
              refine pure_ (i := 6) (N := some 38) (v := ?_) (a' := ?_) #[true, true, true, true, true, true, true, false, false, false] rfl rfl (any_of HT_.out (by kernel_rfl)) (fun _ _ _ h => h) (Or.inl ⟨by rfl, ?_⟩) ?_ ?_
              rotate_left
              · intro w'
                go_simp
                with_reducible rfl
              rotate_left
              · simp only [Act.put, List.setIfInBounds_toArray, List.set_cons_zero, List.set_cons_succ, i64_w, i32_w]
                rfl
              refine pure_ (i := 7) (N := some 39) (v := ?_) (a' := ?_) #[true, true, true, true, true, true, true, true, false, false] rfl rfl (any_of HT_.out (by kernel_rfl)) (fun _ _ _ h => h) (Or.inl ⟨by rfl, ?_⟩) ?_ ?_
              rotate_left
              · intro w'
                go_simp
                with_reducible rfl
              rotate_left
              · simp only [Act.put, List.setIfInBounds_toArray, List.set_cons_zero, List.set_cons_succ, i64_w, i32_w]
                rfl
              refine pure_ (i := 8) (N := some 8) (v := ?_) (a' := ?_) #[true, true, true, true, true, true, true, true, true, false] rfl rfl (any_of HT_.out (by kernel_rfl)) (fun _ _ _ h => h) (Or.inl ⟨by rfl, ?_⟩) ?_ ?_
              rotate_left
              · intro w'
                go_simp
                with_reducible rfl
              rotate_left
              · simp only [Act.put, List.setIfInBounds_toArray, List.set_cons_zero, List.set_cons_succ, i64_w, i32_w]
                rfl
              refine pure_ (i := 9) (N := some 9) (v := ?_) (a' := ?_) #[true, true, true, true, true, true, true, true, true, true] rfl rfl (any_of HT_.out (by kernel_rfl)) (fun _ _ _ h => h) (Or.inl ⟨by rfl, ?_⟩) ?_ ?_
              rotate_left
              · intro w'
                go_simp
                with_reducible rfl
              rotate_left
              · simp only [Act.put, List.setIfInBounds_toArray, List.set_cons_zero, List.set_cons_succ, i64_w, i32_w]
                rfl
              refine done_ (done_of HT_.out (by kernel_rfl)) ?_
              try go_wp2_with (first | (go_at_call 22; (with_reducible refine (grafterlaw0_Num.calls t182 t192 _ A7.out).mono ?_); rintro e w' ⟨rfl, ⟨nd, rfl⟩⟩; (try clear A7)) | (go_at_call 22; (with_reducible refine (grafterlaw0_Num.calls t184 t193 _ A9.out).mono ?_); rintro e w' ⟨rfl, ⟨nd, rfl⟩⟩; (try clear A9)) | (go_at_call 22; (with_reducible refine (grafterlaw0_Num.calls t191 t194 _ A11.out).mono ?_); rintro e w' ⟨rfl, ⟨nd, rfl⟩⟩; have hcz36_0 : w35.cell? ⟨gb171, 0, none⟩ = some (.int .i64 t166) := (blk_cell BK171.out 0).trans rfl; have hcz36_1 : w35.cell? ⟨gb171, 1, none⟩ = some (.int .i64 t167) := (blk_cell BK171.out 1).trans rfl; have hfz36_0 := blk_frozen BK171.out 0; have hfz36_1 := blk_frozen BK171.out 1; (try clear A11)) | (go_at_call 27; (with_reducible refine (loss_May.calls k t166 t167 _ _ y178 true _ ?side1 ?side2 A13.out).mono ?_); (case side1 => repeat (first | (with_reducible refine Kd.C_alloc ?_ _) | (with_reducible refine Kd.C_drewN ?_ _) | (with_reducible refine Kd.C_drew ?_) | exact (Kd.N_reads' HO180.out).2.2)); (case side2 => exact (Kd.N_reads' HO180.out).2.1); rintro e w37 ⟨rfl, hb⟩; have n0_ := Aside0.mk (Kd.R_below (by (with_reducible repeat (first | apply Kd.R_alloc | apply Kd.R_drewN | apply Kd.R_drew)); exact HO170.out) hb); have n1_ := Aside0.mk (Kd.N_below (by (with_reducible repeat (first | apply Kd.N_alloc | apply Kd.N_drewN | apply Kd.N_drew)); exact HO180.out) hb); have n2_ := Aside0.mk (Kd.V_below (by (with_reducible repeat (first | apply Kd.V_alloc | apply Kd.V_drewN | apply Kd.V_drew)); exact HO189.out) hb); have n3_ := Aside0.mk (blk_below (g := gb171) (o := .cells #[.int .i64 t166, .int .i64 t167] 23 (0, 0)) (by (with_reducible repeat (first | refine blk_drewN ?_ _ | refine blk_drew ?_ | refine blk_alloc ?_ _)); exact BK171.out) hb); have n4_ := Aside0.mk (below_step (by repeat (first | (with_reducible first | exact HB.out | apply below_alloc | apply pw_below_drewN | apply below_drew1 | refine below_set ?_ GE171.out) | exact HB.out)) hb); clear HO170; clear HO180; clear HO189; clear BK171; clear HB; have HO170 := n0_; have HO180 := n1_; have HO189 := n2_; have BK171 := n3_; have HB := n4_; clear n0_ n1_ n2_ n3_ n4_; (try clear hb); (try clear hb2); (try clear hk); (try clear hi); have hcz38_0 : w37.cell? ⟨gb171, 0, none⟩ = some (.int .i64 t166) := (blk_cell BK171.out 0).trans rfl; have hcz38_1 : w37.cell? ⟨gb171, 1, none⟩ = some (.int .i64 t167) := (blk_cell BK171.out 1).trans rfl; have hfz38_0 := blk_frozen BK171.out 0; have hfz38_1 := blk_frozen BK171.out 1; (try clear A13)) | (go_at_call 27; (refine (loss_May.calls k t166 t167 _ _ ([] : List (S35)) t196 _ ?side1 ?side2 A15.out).mono ?_); (case side1 => exact Kd.C_nil _ _); (case side2 => exact Nat.le_refl _); rintro e w39 ⟨rfl, hb⟩; have n0_ := Aside0.mk (Kd.R_below (by (with_reducible repeat (first | apply Kd.R_alloc | apply Kd.R_drewN | apply Kd.R_drew)); exact HO170.out) hb); have n1_ := Aside0.mk (Kd.N_below (by (with_reducible repeat (first | apply Kd.N_alloc | apply Kd.N_drewN | apply Kd.N_drew)); exact HO180.out) hb); have n2_ := Aside0.mk (Kd.V_below (by (with_reducible repeat (first | apply Kd.V_alloc | apply Kd.V_drewN | apply Kd.V_drew)); exact HO189.out) hb); have n3_ := Aside0.mk (blk_below (g := gb171) (o := .cells #[.int .i64 t166, .int .i64 t167] 23 (0, 0)) (by (with_reducible repeat (first | refine blk_drewN ?_ _ | refine blk_drew ?_ | refine blk_alloc ?_ _)); exact BK171.out) hb); have n4_ := Aside0.mk (below_step (by repeat (first | (with_reducible first | exact HB.out | apply below_alloc | apply pw_below_drewN | apply below_drew1 | refine below_set ?_ GE171.out) | exact HB.out)) hb); clear HO170; clear HO180; clear HO189; clear BK171; clear HB; have HO170 := n0_; have HO180 := n1_; have HO189 := n2_; have BK171 := n3_; have HB := n4_; clear n0_ n1_ n2_ n3_ n4_; (try clear hb); (try clear hb2); (try clear hk); (try clear hi); (try clear A15)))
              go_ret
              exact ⟨by first | rfl | (simp [errW_none, errW_some] <;> rfl) | (simp [*, errW_none, errW_some] <;> rfl), by repeat (first | (with_reducible first | exact HB.out | apply below_alloc | apply pw_below_drewN | apply below_drew1 | refine below_set ?_ GE171.out) | exact HB.out)⟩
            · replace c14 := Bool.eq_false_iff.mpr c14
              subst c14
              have H1 : (some false) = some r := by rw [if_neg (show ¬ (false = true) by decide)] at H; exact H
              clear H
              have H := H1
              clear H1
              exact absurd ((Option.some.inj H).trans HRT.out) Bool.false_ne_true
          · rw [if_neg c12] at H
            have c12b0 : (t194 == 1000) = false := beq_eq_false_iff_ne.mpr c12
            have c12b1 : (t194 != 1000) = true := bne_iff_ne.mpr c12
            exact absurd ((Option.some.inj H).trans HRT.out) Bool.false_ne_true
        · rw [if_neg c10] at H
          have c10b0 : (t193 == 1000) = false := beq_eq_false_iff_ne.mpr c10
          have c10b1 : (t193 != 1000) = true := bne_iff_ne.mpr c10
          exact absurd ((Option.some.inj H).trans HRT.out) Bool.false_ne_true
      · rw [if_neg c8] at H
        have c8b0 : (t192 == 0) = false := beq_eq_false_iff_ne.mpr c8
        have c8b1 : (t192 != 0) = true := bne_iff_ne.mpr c8
        exact absurd ((Option.some.inj H).trans HRT.out) Bool.false_ne_true
    · rw [if_neg c6] at H
      have c6b0 : (t181 == 327680) = false := beq_eq_false_iff_ne.mpr c6
      have c6b1 : (t181 != 327680) = true := bne_iff_ne.mpr c6
      exact absurd ((Option.some.inj H).trans HRT.out) Bool.false_ne_true
  · rw [if_neg c4] at H
    exact absurd H (by simp)

end Go.Proofs.Ytdgbfgnmeoihiaa.PLossRight
