-- Written by a program of this session (pprint.py) out of the translation, with hand-proved walks pasted in.
import Derived.Test.YtnhlinniodmnjaaPShapeFormsx0
import Derived.Test.YtnhlinniodmnjaaPShapeFormsx1
import Derived.Test.YtnhlinniodmnjaaPShapeFormsx2
namespace Go.Proofs.Ytnhlinniodmnjaa.PShapeForms
open Go.RowKit Go.Proofs.YtnhlinniodmnjaaW.PrintWords Go.Proofs.YtnhlinniodmnjaaW.PrintLast Go.Proofs.YtnhlinniodmnjaaW.PrintMore
attribute [local go_sem] max2_int min2_int max_two min_two max_three min_three max_four min_four   -- for this text's walks alone
set_option linter.unusedVariables false
set_option linter.unusedSimpArgs false

/-! ### grafterlaw5_ShapeForms: function 4 -/
def grafterlaw5_ShapeForms.f (k : Nat) (a0 : Int) (a1 : Int) : Option (Bool) := (grafterlaw5_awake.f k).bind fun t157 => (if t157 = true then ((some (([(⟨wrap64 (1 - (wrap64 (1 + (Go.bits .and .i64 a1 1023)))), 1⟩ : S23), (⟨wrap64 (3 + (wrap64 (1 + (Go.bits .and .i64 a1 1023)))), 1⟩ : S23), (⟨1, wrap64 (1 - (wrap64 (1 + (Go.bits .and .i64 a1 1023))))⟩ : S23), (⟨1, wrap64 (3 + (wrap64 (1 + (Go.bits .and .i64 a1 1023))))⟩ : S23)] : List (S23)) : List (S23))).bind fun y158 => (if 0 ≤ (Go.bits .and .i64 a0 3) then (if (Go.bits .and .i64 a0 3) < (y158.length : Int) then ((shape_Size.f ((rd_T23 y158 (Go.bits .and .i64 a0 3)).f0) ((rd_T23 y158 (Go.bits .and .i64 a0 3)).f1)).bind fun bt164 => ((shape_Init.f k ((rd_T23 y158 (Go.bits .and .i64 a0 3)).f0) ((rd_T23 y158 (Go.bits .and .i64 a0 3)).f1) 5 5).bind fun bt166 => ((some (([wrap64 (-(wrap64 (1 + (Go.bits .and .i64 a1 1023)))), wrap64 (65535 + (wrap64 (1 + (Go.bits .and .i64 a1 1023))))] : List Int) : List Int)).bind fun y170 => (if 0 ≤ (Go.bits .and .i64 a0 1) then (if (Go.bits .and .i64 a0 1) < (y170.length : Int) then ((shape_Init.f k 1 1 (rd y170 (Go.bits .and .i64 a0 1)) 5).bind fun bt174 => ((some (([wrap64 (-(wrap64 (1 + (Go.bits .and .i64 a1 1023)))), wrap64 (1048560 + (wrap64 (1 + (Go.bits .and .i64 a1 1023))))] : List Int) : List Int)).bind fun y178 => (if (Go.bits .and .i64 a0 1) < (y178.length : Int) then ((shape_Init.f k 1 1 5 (rd y178 (Go.bits .and .i64 a0 1))).bind fun bt182 => ((shape_May.f ((rd_T23 y158 (Go.bits .and .i64 a0 3)).f0) ((rd_T23 y158 (Go.bits .and .i64 a0 3)).f1)).bind fun t186 => (if t186 = true then (some false) else ((shape_May.f 1 1).bind fun t187 => (if t187 = true then ((grafterlaw0_Num.f bt164.2).bind fun t188 => (if t188 = 500 then ((grafterlaw0_Num.f bt166.2).bind fun t189 => (if t189 = 500 then ((grafterlaw0_Num.f bt174.2).bind fun t190 => (if t190 = 500 then ((grafterlaw0_Num.f bt182.2).bind fun t191 => (some (t191 == 500))) else (some false))) else (some false))) else (some false))) else (some false)))))) else (none)))) else (none)) else (none))))) else (none)) else (none))) else (some false))
theorem grafterlaw5_ShapeForms.mono : ∀ a0 a1 k, LeO (grafterlaw5_ShapeForms.f k a0 a1) (grafterlaw5_ShapeForms.f (k + 1) a0 a1) := by
  intro a0 a1 k
  unfold grafterlaw5_ShapeForms.f
  repeat' first
      | (with_reducible exact grafterlaw5_awake.mono _)
      | (with_reducible exact shape_Init.mono _ _ _ _ _)
      | (with_reducible exact LeO.refl _)
      | (with_reducible exact LeO.none _)
      | (with_reducible refine LeO.ite ?_ ?_)
      | (with_reducible refine LeO.bind ?_ (fun _ => ?_))
      | exact grafterlaw5_awake.mono _
      | exact shape_Init.mono _ _ _ _ _
      | exact LeO.none _
      | refine LeO.ite ?_ ?_
      | refine LeO.bind ?_ (fun _ => ?_)
def grafterlaw5_ShapeForms.T8 : Bool × List (List Nat × List Nat) := (true, [([], []), ([], []), ([1], [1]), ([], []), ([3], [3]), ([2, 4], [2, 4]), ([], []), ([6], [6]), ([5, 7], [5, 7]), ([8], [8]), ([0, 9], [0, 9]), ([10], [10]), ([11], [11]), ([11], [11]), ([12, 10, 0, 1, 2, 3, 4, 5, 6, 7, 8, 9, 10, 11, 12], [12]), ([13, 14, 0, 1, 2, 3, 4, 5, 6, 7, 8, 9, 10, 11, 12, 13, 14], [13])])
def grafterlaw5_ShapeForms.B8 : List Nat := [0, 0, 2, 0, 8, 30, 0, 64, 254, 510, 1023, 2047, 4095, 4095, 8191, 32767]
theorem grafterlaw5_ShapeForms.tab8 : rtab .any (opsOf Try.f4 8) = grafterlaw5_ShapeForms.T8 := by kernel_rfl
theorem grafterlaw5_ShapeForms.bits8 : waitsOk grafterlaw5_ShapeForms.T8.2 grafterlaw5_ShapeForms.B8 = true := by kernel_rfl
def grafterlaw5_ShapeForms.T9 : Bool × List (List Nat × List Nat) := (true, [([], []), ([], []), ([1], [1]), ([], []), ([3], [3]), ([2, 4], [2, 4]), ([], []), ([6], [6]), ([5, 7], [5, 7]), ([8], [8]), ([0, 9], [0, 9]), ([10], [10]), ([11], [11]), ([11], [11]), ([12, 10, 0, 1, 2, 3, 4, 5, 6, 7, 8, 9, 10, 11, 12], [12]), ([13, 14, 0, 1, 2, 3, 4, 5, 6, 7, 8, 9, 10, 11, 12, 13, 14], [13])])
def grafterlaw5_ShapeForms.B9 : List Nat := [0, 0, 2, 0, 8, 30, 0, 64, 254, 510, 1023, 2047, 4095, 4095, 8191, 32767]
theorem grafterlaw5_ShapeForms.tab9 : rtab .any (opsOf Try.f4 9) = grafterlaw5_ShapeForms.T9 := by kernel_rfl
theorem grafterlaw5_ShapeForms.bits9 : waitsOk grafterlaw5_ShapeForms.T9.2 grafterlaw5_ShapeForms.B9 = true := by kernel_rfl
set_option maxHeartbeats 8000000 in
set_option maxRecDepth 100000 in
theorem grafterlaw5_ShapeForms.calls (k : Nat) (a0 : Int) (a1 : Int) (r : Bool) (w : World) (hrt : r = true) (h : grafterlaw5_ShapeForms.f k a0 a1 = some r) :
    Calls Try.prog 4 #[.int .i64 a0, .int .i64 a1] w fun e w' => e = .returned (.bool r) ∧ Below w.heap.size w w' := by
  have HRT := Aside0.mk hrt
  clear hrt
  have hu23 := Try.underlying23
  have HB := Aside0.mk (Below.refl w.heap.size w)
  have H : ((grafterlaw5_awake.f k).bind fun t157 => (if t157 = true then ((some (([(⟨wrap64 (1 - (wrap64 (1 + (Go.bits .and .i64 a1 1023)))), 1⟩ : S23), (⟨wrap64 (3 + (wrap64 (1 + (Go.bits .and .i64 a1 1023)))), 1⟩ : S23), (⟨1, wrap64 (1 - (wrap64 (1 + (Go.bits .and .i64 a1 1023))))⟩ : S23), (⟨1, wrap64 (3 + (wrap64 (1 + (Go.bits .and .i64 a1 1023))))⟩ : S23)] : List (S23)) : List (S23))).bind fun y158 => (if 0 ≤ (Go.bits .and .i64 a0 3) then (if (Go.bits .and .i64 a0 3) < (y158.length : Int) then ((shape_Size.f ((rd_T23 y158 (Go.bits .and .i64 a0 3)).f0) ((rd_T23 y158 (Go.bits .and .i64 a0 3)).f1)).bind fun bt164 => ((shape_Init.f k ((rd_T23 y158 (Go.bits .and .i64 a0 3)).f0) ((rd_T23 y158 (Go.bits .and .i64 a0 3)).f1) 5 5).bind fun bt166 => ((some (([wrap64 (-(wrap64 (1 + (Go.bits .and .i64 a1 1023)))), wrap64 (65535 + (wrap64 (1 + (Go.bits .and .i64 a1 1023))))] : List Int) : List Int)).bind fun y170 => (if 0 ≤ (Go.bits .and .i64 a0 1) then (if (Go.bits .and .i64 a0 1) < (y170.length : Int) then ((shape_Init.f k 1 1 (rd y170 (Go.bits .and .i64 a0 1)) 5).bind fun bt174 => ((some (([wrap64 (-(wrap64 (1 + (Go.bits .and .i64 a1 1023)))), wrap64 (1048560 + (wrap64 (1 + (Go.bits .and .i64 a1 1023))))] : List Int) : List Int)).bind fun y178 => (if (Go.bits .and .i64 a0 1) < (y178.length : Int) then ((shape_Init.f k 1 1 5 (rd y178 (Go.bits .and .i64 a0 1))).bind fun bt182 => ((shape_May.f ((rd_T23 y158 (Go.bits .and .i64 a0 3)).f0) ((rd_T23 y158 (Go.bits .and .i64 a0 3)).f1)).bind fun t186 => (if t186 = true then (some false) else ((shape_May.f 1 1).bind fun t187 => (if t187 = true then ((grafterlaw0_Num.f bt164.2).bind fun t188 => (if t188 = 500 then ((grafterlaw0_Num.f bt166.2).bind fun t189 => (if t189 = 500 then ((grafterlaw0_Num.f bt174.2).bind fun t190 => (if t190 = 500 then ((grafterlaw0_Num.f bt182.2).bind fun t191 => (some (t191 == 500))) else (some false))) else (some false))) else (some false))) else (some false)))))) else (none)))) else (none)) else (none))))) else (none)) else (none))) else (some false))) = some r := h
  clear h
  replace H := Option.bind_eq_some_iff.mp H
  obtain ⟨t157, A30, H⟩ := H
  replace H : (if t157 = true then ((some (([(⟨wrap64 (1 - (wrap64 (1 + (Go.bits .and .i64 a1 1023)))), 1⟩ : S23), (⟨wrap64 (3 + (wrap64 (1 + (Go.bits .and .i64 a1 1023)))), 1⟩ : S23), (⟨1, wrap64 (1 - (wrap64 (1 + (Go.bits .and .i64 a1 1023))))⟩ : S23), (⟨1, wrap64 (3 + (wrap64 (1 + (Go.bits .and .i64 a1 1023))))⟩ : S23)] : List (S23)) : List (S23))).bind fun y158 => (if 0 ≤ (Go.bits .and .i64 a0 3) then (if (Go.bits .and .i64 a0 3) < (y158.length : Int) then ((shape_Size.f ((rd_T23 y158 (Go.bits .and .i64 a0 3)).f0) ((rd_T23 y158 (Go.bits .and .i64 a0 3)).f1)).bind fun bt164 => ((shape_Init.f k ((rd_T23 y158 (Go.bits .and .i64 a0 3)).f0) ((rd_T23 y158 (Go.bits .and .i64 a0 3)).f1) 5 5).bind fun bt166 => ((some (([wrap64 (-(wrap64 (1 + (Go.bits .and .i64 a1 1023)))), wrap64 (65535 + (wrap64 (1 + (Go.bits .and .i64 a1 1023))))] : List Int) : List Int)).bind fun y170 => (if 0 ≤ (Go.bits .and .i64 a0 1) then (if (Go.bits .and .i64 a0 1) < (y170.length : Int) then ((shape_Init.f k 1 1 (rd y170 (Go.bits .and .i64 a0 1)) 5).bind fun bt174 => ((some (([wrap64 (-(wrap64 (1 + (Go.bits .and .i64 a1 1023)))), wrap64 (1048560 + (wrap64 (1 + (Go.bits .and .i64 a1 1023))))] : List Int) : List Int)).bind fun y178 => (if (Go.bits .and .i64 a0 1) < (y178.length : Int) then ((shape_Init.f k 1 1 5 (rd y178 (Go.bits .and .i64 a0 1))).bind fun bt182 => ((shape_May.f ((rd_T23 y158 (Go.bits .and .i64 a0 3)).f0) ((rd_T23 y158 (Go.bits .and .i64 a0 3)).f1)).bind fun t186 => (if t186 = true then (some false) else ((shape_May.f 1 1).bind fun t187 => (if t187 = true then ((grafterlaw0_Num.f bt164.2).bind fun t188 => (if t188 = 500 then ((grafterlaw0_Num.f bt166.2).bind fun t189 => (if t189 = 500 then ((grafterlaw0_Num.f bt174.2).bind fun t190 => (if t190 = 500 then ((grafterlaw0_Num.f bt182.2).bind fun t191 => (some (t191 == 500))) else (some false))) else (some false))) else (some false))) else (some false)))))) else (none)))) else (none)) else (none))))) else (none)) else (none))) else (some false)) = some r := H
  have A3 := Aside0.mk A30
  clear A30
  by_cases c4 : t157 = true
  · subst c4
    have H1 : ((some (([(⟨wrap64 (1 - (wrap64 (1 + (Go.bits .and .i64 a1 1023)))), 1⟩ : S23), (⟨wrap64 (3 + (wrap64 (1 + (Go.bits .and .i64 a1 1023)))), 1⟩ : S23), (⟨1, wrap64 (1 - (wrap64 (1 + (Go.bits .and .i64 a1 1023))))⟩ : S23), (⟨1, wrap64 (3 + (wrap64 (1 + (Go.bits .and .i64 a1 1023))))⟩ : S23)] : List (S23)) : List (S23))).bind fun y158 => (if 0 ≤ (Go.bits .and .i64 a0 3) then (if (Go.bits .and .i64 a0 3) < (y158.length : Int) then ((shape_Size.f ((rd_T23 y158 (Go.bits .and .i64 a0 3)).f0) ((rd_T23 y158 (Go.bits .and .i64 a0 3)).f1)).bind fun bt164 => ((shape_Init.f k ((rd_T23 y158 (Go.bits .and .i64 a0 3)).f0) ((rd_T23 y158 (Go.bits .and .i64 a0 3)).f1) 5 5).bind fun bt166 => ((some (([wrap64 (-(wrap64 (1 + (Go.bits .and .i64 a1 1023)))), wrap64 (65535 + (wrap64 (1 + (Go.bits .and .i64 a1 1023))))] : List Int) : List Int)).bind fun y170 => (if 0 ≤ (Go.bits .and .i64 a0 1) then (if (Go.bits .and .i64 a0 1) < (y170.length : Int) then ((shape_Init.f k 1 1 (rd y170 (Go.bits .and .i64 a0 1)) 5).bind fun bt174 => ((some (([wrap64 (-(wrap64 (1 + (Go.bits .and .i64 a1 1023)))), wrap64 (1048560 + (wrap64 (1 + (Go.bits .and .i64 a1 1023))))] : List Int) : List Int)).bind fun y178 => (if (Go.bits .and .i64 a0 1) < (y178.length : Int) then ((shape_Init.f k 1 1 5 (rd y178 (Go.bits .and .i64 a0 1))).bind fun bt182 => ((shape_May.f ((rd_T23 y158 (Go.bits .and .i64 a0 3)).f0) ((rd_T23 y158 (Go.bits .and .i64 a0 3)).f1)).bind fun t186 => (if t186 = true then (some false) else ((shape_May.f 1 1).bind fun t187 => (if t187 = true then ((grafterlaw0_Num.f bt164.2).bind fun t188 => (if t188 = 500 then ((grafterlaw0_Num.f bt166.2).bind fun t189 => (if t189 = 500 then ((grafterlaw0_Num.f bt174.2).bind fun t190 => (if t190 = 500 then ((grafterlaw0_Num.f bt182.2).bind fun t191 => (some (t191 == 500))) else (some false))) else (some false))) else (some false))) else (some false)))))) else (none)))) else (none)) else (none))))) else (none)) else (none))) = some r := by rw [if_pos rfl] at H; exact H
    clear H
    have H := H1
    clear H1
    obtain ⟨y158, hy158⟩ : ∃ y_ : List (S23), y_ = (([(⟨wrap64 (1 - (wrap64 (1 + (Go.bits .and .i64 a1 1023)))), 1⟩ : S23), (⟨wrap64 (3 + (wrap64 (1 + (Go.bits .and .i64 a1 1023)))), 1⟩ : S23), (⟨1, wrap64 (1 - (wrap64 (1 + (Go.bits .and .i64 a1 1023))))⟩ : S23), (⟨1, wrap64 (3 + (wrap64 (1 + (Go.bits .and .i64 a1 1023))))⟩ : S23)] : List (S23))) := ⟨_, rfl⟩
    replace H : (if 0 ≤ (Go.bits .and .i64 a0 3) then (if (Go.bits .and .i64 a0 3) < (y158.length : Int) then ((shape_Size.f ((rd_T23 y158 (Go.bits .and .i64 a0 3)).f0) ((rd_T23 y158 (Go.bits .and .i64 a0 3)).f1)).bind fun bt164 => ((shape_Init.f k ((rd_T23 y158 (Go.bits .and .i64 a0 3)).f0) ((rd_T23 y158 (Go.bits .and .i64 a0 3)).f1) 5 5).bind fun bt166 => ((some (([wrap64 (-(wrap64 (1 + (Go.bits .and .i64 a1 1023)))), wrap64 (65535 + (wrap64 (1 + (Go.bits .and .i64 a1 1023))))] : List Int) : List Int)).bind fun y170 => (if 0 ≤ (Go.bits .and .i64 a0 1) then (if (Go.bits .and .i64 a0 1) < (y170.length : Int) then ((shape_Init.f k 1 1 (rd y170 (Go.bits .and .i64 a0 1)) 5).bind fun bt174 => ((some (([wrap64 (-(wrap64 (1 + (Go.bits .and .i64 a1 1023)))), wrap64 (1048560 + (wrap64 (1 + (Go.bits .and .i64 a1 1023))))] : List Int) : List Int)).bind fun y178 => (if (Go.bits .and .i64 a0 1) < (y178.length : Int) then ((shape_Init.f k 1 1 5 (rd y178 (Go.bits .and .i64 a0 1))).bind fun bt182 => ((shape_May.f ((rd_T23 y158 (Go.bits .and .i64 a0 3)).f0) ((rd_T23 y158 (Go.bits .and .i64 a0 3)).f1)).bind fun t186 => (if t186 = true then (some false) else ((shape_May.f 1 1).bind fun t187 => (if t187 = true then ((grafterlaw0_Num.f bt164.2).bind fun t188 => (if t188 = 500 then ((grafterlaw0_Num.f bt166.2).bind fun t189 => (if t189 = 500 then ((grafterlaw0_Num.f bt174.2).bind fun t190 => (if t190 = 500 then ((grafterlaw0_Num.f bt182.2).bind fun t191 => (some (t191 == 500))) else (some false))) else (some false))) else (some false))) else (some false)))))) else (none)))) else (none)) else (none))))) else (none)) else (none)) = some r := by first | (rw [hy158]; with_reducible exact H) | (have H2_ := (Option.bind_some _ _).symm.trans H; rw [hy158]; with_reducible exact H2_) | (have H2_ := (Option.bind_some _ _).symm.trans H; with_reducible exact H2_) | with_reducible exact H | (rw [hy158]; exact H) | exact H
    have Ny158 := Aside0.mk hy158
    clear hy158
    by_cases c5 : 0 ≤ (Go.bits .and .i64 a0 3)
    · rw [if_pos c5] at H
      have c5b0 : decide (0 ≤ (Go.bits .and .i64 a0 3)) = true := decide_eq_true c5
      clear c5
      by_cases c6 : (Go.bits .and .i64 a0 3) < (y158.length : Int)
      · rw [if_pos c6] at H
        have c6b0 : decide ((Go.bits .and .i64 a0 3) < (y158.length : Int)) = true := decide_eq_true c6
        clear c6
        replace H := Option.bind_eq_some_iff.mp H
        obtain ⟨⟨t164, t165⟩, A70, H⟩ := H
        replace H : ((shape_Init.f k ((rd_T23 y158 (Go.bits .and .i64 a0 3)).f0) ((rd_T23 y158 (Go.bits .and .i64 a0 3)).f1) 5 5).bind fun bt166 => ((some (([wrap64 (-(wrap64 (1 + (Go.bits .and .i64 a1 1023)))), wrap64 (65535 + (wrap64 (1 + (Go.bits .and .i64 a1 1023))))] : List Int) : List Int)).bind fun y170 => (if 0 ≤ (Go.bits .and .i64 a0 1) then (if (Go.bits .and .i64 a0 1) < (y170.length : Int) then ((shape_Init.f k 1 1 (rd y170 (Go.bits .and .i64 a0 1)) 5).bind fun bt174 => ((some (([wrap64 (-(wrap64 (1 + (Go.bits .and .i64 a1 1023)))), wrap64 (1048560 + (wrap64 (1 + (Go.bits .and .i64 a1 1023))))] : List Int) : List Int)).bind fun y178 => (if (Go.bits .and .i64 a0 1) < (y178.length : Int) then ((shape_Init.f k 1 1 5 (rd y178 (Go.bits .and .i64 a0 1))).bind fun bt182 => ((shape_May.f ((rd_T23 y158 (Go.bits .and .i64 a0 3)).f0) ((rd_T23 y158 (Go.bits .and .i64 a0 3)).f1)).bind fun t186 => (if t186 = true then (some false) else ((shape_May.f 1 1).bind fun t187 => (if t187 = true then ((grafterlaw0_Num.f t165).bind fun t188 => (if t188 = 500 then ((grafterlaw0_Num.f bt166.2).bind fun t189 => (if t189 = 500 then ((grafterlaw0_Num.f bt174.2).bind fun t190 => (if t190 = 500 then ((grafterlaw0_Num.f bt182.2).bind fun t191 => (some (t191 == 500))) else (some false))) else (some false))) else (some false))) else (some false)))))) else (none)))) else (none)) else (none)))) = some r := H
        have A7 := Aside0.mk A70
        clear A70
        replace H := Option.bind_eq_some_iff.mp H
        obtain ⟨⟨t166, t169⟩, A80, H⟩ := H
        replace H : ((some (([wrap64 (-(wrap64 (1 + (Go.bits .and .i64 a1 1023)))), wrap64 (65535 + (wrap64 (1 + (Go.bits .and .i64 a1 1023))))] : List Int) : List Int)).bind fun y170 => (if 0 ≤ (Go.bits .and .i64 a0 1) then (if (Go.bits .and .i64 a0 1) < (y170.length : Int) then ((shape_Init.f k 1 1 (rd y170 (Go.bits .and .i64 a0 1)) 5).bind fun bt174 => ((some (([wrap64 (-(wrap64 (1 + (Go.bits .and .i64 a1 1023)))), wrap64 (1048560 + (wrap64 (1 + (Go.bits .and .i64 a1 1023))))] : List Int) : List Int)).bind fun y178 => (if (Go.bits .and .i64 a0 1) < (y178.length : Int) then ((shape_Init.f k 1 1 5 (rd y178 (Go.bits .and .i64 a0 1))).bind fun bt182 => ((shape_May.f ((rd_T23 y158 (Go.bits .and .i64 a0 3)).f0) ((rd_T23 y158 (Go.bits .and .i64 a0 3)).f1)).bind fun t186 => (if t186 = true then (some false) else ((shape_May.f 1 1).bind fun t187 => (if t187 = true then ((grafterlaw0_Num.f t165).bind fun t188 => (if t188 = 500 then ((grafterlaw0_Num.f t169).bind fun t189 => (if t189 = 500 then ((grafterlaw0_Num.f bt174.2).bind fun t190 => (if t190 = 500 then ((grafterlaw0_Num.f bt182.2).bind fun t191 => (some (t191 == 500))) else (some false))) else (some false))) else (some false))) else (some false)))))) else (none)))) else (none)) else (none))) = some r := H
        have A8 := Aside0.mk A80
        clear A80
        obtain ⟨y170, hy170⟩ : ∃ y_ : List Int, y_ = (([wrap64 (-(wrap64 (1 + (Go.bits .and .i64 a1 1023)))), wrap64 (65535 + (wrap64 (1 + (Go.bits .and .i64 a1 1023))))] : List Int)) := ⟨_, rfl⟩
        replace H : (if 0 ≤ (Go.bits .and .i64 a0 1) then (if (Go.bits .and .i64 a0 1) < (y170.length : Int) then ((shape_Init.f k 1 1 (rd y170 (Go.bits .and .i64 a0 1)) 5).bind fun bt174 => ((some (([wrap64 (-(wrap64 (1 + (Go.bits .and .i64 a1 1023)))), wrap64 (1048560 + (wrap64 (1 + (Go.bits .and .i64 a1 1023))))] : List Int) : List Int)).bind fun y178 => (if (Go.bits .and .i64 a0 1) < (y178.length : Int) then ((shape_Init.f k 1 1 5 (rd y178 (Go.bits .and .i64 a0 1))).bind fun bt182 => ((shape_May.f ((rd_T23 y158 (Go.bits .and .i64 a0 3)).f0) ((rd_T23 y158 (Go.bits .and .i64 a0 3)).f1)).bind fun t186 => (if t186 = true then (some false) else ((shape_May.f 1 1).bind fun t187 => (if t187 = true then ((grafterlaw0_Num.f t165).bind fun t188 => (if t188 = 500 then ((grafterlaw0_Num.f t169).bind fun t189 => (if t189 = 500 then ((grafterlaw0_Num.f bt174.2).bind fun t190 => (if t190 = 500 then ((grafterlaw0_Num.f bt182.2).bind fun t191 => (some (t191 == 500))) else (some false))) else (some false))) else (some false))) else (some false)))))) else (none)))) else (none)) else (none)) = some r := by first | (rw [hy170]; with_reducible exact H) | (have H2_ := (Option.bind_some _ _).symm.trans H; rw [hy170]; with_reducible exact H2_) | (have H2_ := (Option.bind_some _ _).symm.trans H; with_reducible exact H2_) | with_reducible exact H | (rw [hy170]; exact H) | exact H
        have Ny170 := Aside0.mk hy170
        clear hy170
        by_cases c9 : 0 ≤ (Go.bits .and .i64 a0 1)
        · rw [if_pos c9] at H
          have c9b0 : decide (0 ≤ (Go.bits .and .i64 a0 1)) = true := decide_eq_true c9
          clear c9
          by_cases c10 : (Go.bits .and .i64 a0 1) < (y170.length : Int)
          · rw [if_pos c10] at H
            have c10b0 : decide ((Go.bits .and .i64 a0 1) < (y170.length : Int)) = true := decide_eq_true c10
            clear c10
            replace H := Option.bind_eq_some_iff.mp H
            obtain ⟨⟨t174, t177⟩, A110, H⟩ := H
            replace H : ((some (([wrap64 (-(wrap64 (1 + (Go.bits .and .i64 a1 1023)))), wrap64 (1048560 + (wrap64 (1 + (Go.bits .and .i64 a1 1023))))] : List Int) : List Int)).bind fun y178 => (if (Go.bits .and .i64 a0 1) < (y178.length : Int) then ((shape_Init.f k 1 1 5 (rd y178 (Go.bits .and .i64 a0 1))).bind fun bt182 => ((shape_May.f ((rd_T23 y158 (Go.bits .and .i64 a0 3)).f0) ((rd_T23 y158 (Go.bits .and .i64 a0 3)).f1)).bind fun t186 => (if t186 = true then (some false) else ((shape_May.f 1 1).bind fun t187 => (if t187 = true then ((grafterlaw0_Num.f t165).bind fun t188 => (if t188 = 500 then ((grafterlaw0_Num.f t169).bind fun t189 => (if t189 = 500 then ((grafterlaw0_Num.f t177).bind fun t190 => (if t190 = 500 then ((grafterlaw0_Num.f bt182.2).bind fun t191 => (some (t191 == 500))) else (some false))) else (some false))) else (some false))) else (some false)))))) else (none))) = some r := H
            have A11 := Aside0.mk A110
            clear A110
            obtain ⟨y178, hy178⟩ : ∃ y_ : List Int, y_ = (([wrap64 (-(wrap64 (1 + (Go.bits .and .i64 a1 1023)))), wrap64 (1048560 + (wrap64 (1 + (Go.bits .and .i64 a1 1023))))] : List Int)) := ⟨_, rfl⟩
            replace H : (if (Go.bits .and .i64 a0 1) < (y178.length : Int) then ((shape_Init.f k 1 1 5 (rd y178 (Go.bits .and .i64 a0 1))).bind fun bt182 => ((shape_May.f ((rd_T23 y158 (Go.bits .and .i64 a0 3)).f0) ((rd_T23 y158 (Go.bits .and .i64 a0 3)).f1)).bind fun t186 => (if t186 = true then (some false) else ((shape_May.f 1 1).bind fun t187 => (if t187 = true then ((grafterlaw0_Num.f t165).bind fun t188 => (if t188 = 500 then ((grafterlaw0_Num.f t169).bind fun t189 => (if t189 = 500 then ((grafterlaw0_Num.f t177).bind fun t190 => (if t190 = 500 then ((grafterlaw0_Num.f bt182.2).bind fun t191 => (some (t191 == 500))) else (some false))) else (some false))) else (some false))) else (some false)))))) else (none)) = some r := by first | (rw [hy178]; with_reducible exact H) | (have H2_ := (Option.bind_some _ _).symm.trans H; rw [hy178]; with_reducible exact H2_) | (have H2_ := (Option.bind_some _ _).symm.trans H; with_reducible exact H2_) | with_reducible exact H | (rw [hy178]; exact H) | exact H
            have Ny178 := Aside0.mk hy178
            clear hy178
            by_cases c12 : (Go.bits .and .i64 a0 1) < (y178.length : Int)
            · rw [if_pos c12] at H
              have c12b0 : decide ((Go.bits .and .i64 a0 1) < (y178.length : Int)) = true := decide_eq_true c12
              clear c12
              replace H := Option.bind_eq_some_iff.mp H
              obtain ⟨⟨t182, t185⟩, A130, H⟩ := H
              replace H : ((shape_May.f ((rd_T23 y158 (Go.bits .and .i64 a0 3)).f0) ((rd_T23 y158 (Go.bits .and .i64 a0 3)).f1)).bind fun t186 => (if t186 = true then (some false) else ((shape_May.f 1 1).bind fun t187 => (if t187 = true then ((grafterlaw0_Num.f t165).bind fun t188 => (if t188 = 500 then ((grafterlaw0_Num.f t169).bind fun t189 => (if t189 = 500 then ((grafterlaw0_Num.f t177).bind fun t190 => (if t190 = 500 then ((grafterlaw0_Num.f t185).bind fun t191 => (some (t191 == 500))) else (some false))) else (some false))) else (some false))) else (some false))))) = some r := H
              have A13 := Aside0.mk A130
              clear A130
              replace H := Option.bind_eq_some_iff.mp H
              obtain ⟨t186, A140, H⟩ := H
              replace H : (if t186 = true then (some false) else ((shape_May.f 1 1).bind fun t187 => (if t187 = true then ((grafterlaw0_Num.f t165).bind fun t188 => (if t188 = 500 then ((grafterlaw0_Num.f t169).bind fun t189 => (if t189 = 500 then ((grafterlaw0_Num.f t177).bind fun t190 => (if t190 = 500 then ((grafterlaw0_Num.f t185).bind fun t191 => (some (t191 == 500))) else (some false))) else (some false))) else (some false))) else (some false)))) = some r := H
              have A14 := Aside0.mk A140
              clear A140
              by_cases c15 : t186 = true
              · subst c15
                have H1 : (some false) = some r := by rw [if_pos rfl] at H; exact H
                clear H
                have H := H1
                clear H1
                exact absurd ((Option.some.inj H).trans HRT.out) Bool.false_ne_true
              · replace c15 := Bool.eq_false_iff.mpr c15
                subst c15
                have H1 : ((shape_May.f 1 1).bind fun t187 => (if t187 = true then ((grafterlaw0_Num.f t165).bind fun t188 => (if t188 = 500 then ((grafterlaw0_Num.f t169).bind fun t189 => (if t189 = 500 then ((grafterlaw0_Num.f t177).bind fun t190 => (if t190 = 500 then ((grafterlaw0_Num.f t185).bind fun t191 => (some (t191 == 500))) else (some false))) else (some false))) else (some false))) else (some false))) = some r := by rw [if_neg (show ¬ (false = true) by decide)] at H; exact H
                clear H
                have H := H1
                clear H1
                replace H := Option.bind_eq_some_iff.mp H
                obtain ⟨t187, A410, H⟩ := H
                replace H : (if t187 = true then ((grafterlaw0_Num.f t165).bind fun t188 => (if t188 = 500 then ((grafterlaw0_Num.f t169).bind fun t189 => (if t189 = 500 then ((grafterlaw0_Num.f t177).bind fun t190 => (if t190 = 500 then ((grafterlaw0_Num.f t185).bind fun t191 => (some (t191 == 500))) else (some false))) else (some false))) else (some false))) else (some false)) = some r := H
                have A41 := Aside0.mk A410
                clear A410
                by_cases c42 : t187 = true
                · subst c42
                  have H1 : ((grafterlaw0_Num.f t165).bind fun t188 => (if t188 = 500 then ((grafterlaw0_Num.f t169).bind fun t189 => (if t189 = 500 then ((grafterlaw0_Num.f t177).bind fun t190 => (if t190 = 500 then ((grafterlaw0_Num.f t185).bind fun t191 => (some (t191 == 500))) else (some false))) else (some false))) else (some false))) = some r := by rw [if_pos rfl] at H; exact H
                  clear H
                  have H := H1
                  clear H1
                  replace H := Option.bind_eq_some_iff.mp H
                  obtain ⟨t188, A430, H⟩ := H
                  replace H : (if t188 = 500 then ((grafterlaw0_Num.f t169).bind fun t189 => (if t189 = 500 then ((grafterlaw0_Num.f t177).bind fun t190 => (if t190 = 500 then ((grafterlaw0_Num.f t185).bind fun t191 => (some (t191 == 500))) else (some false))) else (some false))) else (some false)) = some r := H
                  have A43 := Aside0.mk A430
                  clear A430
                  by_cases c44 : t188 = 500
                  · rw [if_pos c44] at H
                    have c44b0 : (t188 == 500) = true := beq_iff_eq.mpr c44
                    have c44b1 : (t188 != 500) = false := bne_eq_false_iff_eq.mpr c44
                    clear c44
                    replace H := Option.bind_eq_some_iff.mp H
                    obtain ⟨t189, A450, H⟩ := H
                    replace H : (if t189 = 500 then ((grafterlaw0_Num.f t177).bind fun t190 => (if t190 = 500 then ((grafterlaw0_Num.f t185).bind fun t191 => (some (t191 == 500))) else (some false))) else (some false)) = some r := H
                    have A45 := Aside0.mk A450
                    clear A450
                    by_cases c46 : t189 = 500
                    · rw [if_pos c46] at H
                      have c46b0 : (t189 == 500) = true := beq_iff_eq.mpr c46
                      have c46b1 : (t189 != 500) = false := bne_eq_false_iff_eq.mpr c46
                      clear c46
                      replace H := Option.bind_eq_some_iff.mp H
                      obtain ⟨t190, A470, H⟩ := H
                      replace H : (if t190 = 500 then ((grafterlaw0_Num.f t185).bind fun t191 => (some (t191 == 500))) else (some false)) = some r := H
                      have A47 := Aside0.mk A470
                      clear A470
                      by_cases c48 : t190 = 500
                      · rw [if_pos c48] at H
                        have c48b0 : (t190 == 500) = true := beq_iff_eq.mpr c48
                        have c48b1 : (t190 != 500) = false := bne_eq_false_iff_eq.mpr c48
                        clear c48
                        replace H := Option.bind_eq_some_iff.mp H
                        obtain ⟨t191, A490, H⟩ := H
                        replace H : (some (t191 == 500)) = some r := H
                        have A49 := Aside0.mk A490
                        clear A490
                        obtain rfl := Option.some.inj H
                        go_enter Try.func4, Try.ntmps4
                        try go_wp2_with (first | ((with_reducible refine gate_callee (f := 27) rfl ?_); refine goesL_ (some 16) rfl rfl Try.func27 (by kernel_rfl) rfl #[] rfl (by (try simp only [List.map_toArray, List.map_cons, List.map_nil]); first | done | rfl | (simp only [List.length_drop, List.length_take]; rfl)) ?_; (with_reducible refine (grafterlaw5_awake.calls k  true _ rfl A3.out).mono ?_); rintro e w50 ⟨rfl, hb⟩; refine ⟨_, rfl, ?_⟩; have n0_ := Aside0.mk (below_step (by repeat (first | (with_reducible first | exact HB.out | apply below_alloc | apply pw_below_drewN | apply below_drew1) | exact HB.out)) hb); clear HB; have HB := n0_; clear n0_; (try clear hb); (try clear hb2); (try clear hk); (try clear hi)) | ((with_reducible refine gate_dst (N := 33) rfl ?_); refine Kd.R_lit k23 _ 23 ?hg (N := 33) ?hd (xs := ([(⟨wrap64 (1 - (wrap64 (1 + (Go.bits .and .i64 a1 1023)))), 1⟩ : S23), (⟨wrap64 (3 + (wrap64 (1 + (Go.bits .and .i64 a1 1023)))), 1⟩ : S23), (⟨1, wrap64 (1 - (wrap64 (1 + (Go.bits .and .i64 a1 1023))))⟩ : S23), (⟨1, wrap64 (3 + (wrap64 (1 + (Go.bits .and .i64 a1 1023))))⟩ : S23)] : List (S23))) (inner := [.int .i64 (wrap64 (1 - (wrap64 (1 + (Go.bits .and .i64 a1 1023))))), .int .i64 1, .int .i64 (wrap64 (3 + (wrap64 (1 + (Go.bits .and .i64 a1 1023))))), .int .i64 1, .int .i64 1, .int .i64 (wrap64 (1 - (wrap64 (1 + (Go.bits .and .i64 a1 1023))))), .int .i64 1, .int .i64 (wrap64 (3 + (wrap64 (1 + (Go.bits .and .i64 a1 1023)))))]) (ok := fun _ => True) (okp := fun _ => True) ?hr ?hp (fun _ hk => hk) trivial (Below.refl _ _) (Nat.le_refl _) (by simp) ?_; (case hd => rfl); (case hg => rfl); (case hr => first | (go_simp; done) | (go_simp; rfl)); (case hp => exact (Reps.c2 (show Kd.M k23 _ _ _ (⟨wrap64 (1 - (wrap64 (1 + (Go.bits .and .i64 a1 1023)))), 1⟩ : S23) [.int .i64 (wrap64 (1 - (wrap64 (1 + (Go.bits .and .i64 a1 1023))))), .int .i64 1] from (k23_mkM _ _ _ (⟨wrap64 (1 - (wrap64 (1 + (Go.bits .and .i64 a1 1023)))), 1⟩ : S23) )) (Reps.c2 (show Kd.M k23 _ _ _ (⟨wrap64 (3 + (wrap64 (1 + (Go.bits .and .i64 a1 1023)))), 1⟩ : S23) [.int .i64 (wrap64 (3 + (wrap64 (1 + (Go.bits .and .i64 a1 1023))))), .int .i64 1] from (k23_mkM _ _ _ (⟨wrap64 (3 + (wrap64 (1 + (Go.bits .and .i64 a1 1023)))), 1⟩ : S23) )) (Reps.c2 (show Kd.M k23 _ _ _ (⟨1, wrap64 (1 - (wrap64 (1 + (Go.bits .and .i64 a1 1023))))⟩ : S23) [.int .i64 1, .int .i64 (wrap64 (1 - (wrap64 (1 + (Go.bits .and .i64 a1 1023)))))] from (k23_mkM _ _ _ (⟨1, wrap64 (1 - (wrap64 (1 + (Go.bits .and .i64 a1 1023))))⟩ : S23) )) (Reps.c2 (show Kd.M k23 _ _ _ (⟨1, wrap64 (3 + (wrap64 (1 + (Go.bits .and .i64 a1 1023))))⟩ : S23) [.int .i64 1, .int .i64 (wrap64 (3 + (wrap64 (1 + (Go.bits .and .i64 a1 1023)))))] from (k23_mkM _ _ _ (⟨1, wrap64 (3 + (wrap64 (1 + (Go.bits .and .i64 a1 1023))))⟩ : S23) )) (Reps.none _ _)))))); intro v159 w51 ho52 hb hg_ hnew_; clear hg_ hnew_; (first | rw [← Ny158.out] at ho52 | (simp only [Int.reduceToNat] at ho52; rw [← Ny158.out] at ho52)); have n0_ := Aside0.mk (Kd.R_lower ho52 (below_size (by repeat (first | (with_reducible first | exact HB.out | apply below_alloc | apply pw_below_drewN | apply below_drew1) | exact HB.out)))); have n1_ := Aside0.mk (below_step (by repeat (first | (with_reducible first | exact HB.out | apply below_alloc | apply pw_below_drewN | apply below_drew1) | exact HB.out)) hb); clear HB; have HO160 := n0_; have HB := n1_; clear n0_ n1_; clear hb ho52; obtain ⟨Ao53, co53, eo53⟩ := Kd.R_slice HO160.out; subst eo53; have p161 : 0 ≤ ((Go.bits .and .i64 a0 3) : Int) := of_decide_eq_true (by first | (with_reducible assumption) | assumption); have q161 : (Go.bits .and .i64 a0 3) < (y158.length : Int) := of_decide_eq_true (by first | (with_reducible assumption) | assumption); obtain ⟨ad161, e161, hx161_0, hx161_1⟩ := at_T23 (Kd.R_reads' HO160.out).2.2 (Go.bits .and .i64 a0 3) p161 q161; cases e161; replace p161 := eq_true p161; replace q161 := eq_true q161) | ((with_reducible refine gate_dst (N := 6) rfl ?_); refine box_event ?hg (N := 6) ?hd (cs := #[.int .i64 0, .int .i64 0]) (t := 23) ?hr ?_; (case hd => rfl); (case hg => rfl); (case hr => first | (go_simp; done) | (go_simp; rfl)); intro gb162 hg w54 hbox hb; have n0_ := Aside0.mk (Kd.R_below (Kd.R_elderB (by (with_reducible repeat (first | apply Kd.R_alloc | apply Kd.R_drewN | apply Kd.R_drew)); exact HO160.out) gb162 (Nat.le_of_eq hg.symm)) hb); have n1_ := Aside0.mk (below_step (by repeat (first | (with_reducible first | exact HB.out | apply below_alloc | apply pw_below_drewN | apply below_drew1) | exact HB.out)) hb); have n2_ := Aside0.mk (hbox); have n3_ := Aside0.mk ((by rw [hg]; exact (below_size (by repeat (first | (with_reducible first | exact HB.out | apply below_alloc | apply pw_below_drewN | apply below_drew1) | exact HB.out))) : w.heap.size ≤ gb162)); have n4_ := Aside0.mk ((by rw [hg]; exact (below_size (by repeat (first | (with_reducible first | exact HB.out | apply below_alloc | apply pw_below_drewN | apply below_drew1) | exact HB.out))) : w.heap.size ≤ gb162)); clear HO160; clear HB; have HO160 := n0_; have HB := n1_; have BK162 := n2_; have GW162 := n3_; have GE162 := n4_; clear n0_ n1_ n2_ n3_ n4_; clear hb hbox hg; have hcz55_0 : w54.cell? ⟨gb162, 0, none⟩ = some (.int .i64 0) := (blk_cell BK162.out 0).trans rfl; have hcz55_1 : w54.cell? ⟨gb162, 1, none⟩ = some (.int .i64 0) := (blk_cell BK162.out 1).trans rfl; have hfz55_0 := blk_frozen BK162.out 0; have hfz55_1 := blk_frozen BK162.out 1) | ((with_reducible refine gate_dst (N := 7) rfl ?_); refine box_event ?hg (N := 7) ?hd (cs := #[.int .i64 0, .int .i64 0]) (t := 23) ?hr ?_; (case hd => rfl); (case hg => rfl); (case hr => first | (go_simp; done) | (go_simp; rfl)); intro gb163 hg w56 hbox hb; have n0_ := Aside0.mk (Kd.R_below (Kd.R_elderB (by (with_reducible repeat (first | apply Kd.R_alloc | apply Kd.R_drewN | apply Kd.R_drew)); exact (Kd.R_mono (Kd.R_far (p := ⟨gb162, 1, none⟩) (Kd.R_far (p := ⟨gb162, 0, none⟩) (Kd.R_mono HO160.out (fun k_ hk => (⟨hk, hk.2⟩ : _ ∧ k_ ≠ gb162))) (fun _ hk => hk.2) (.int .i64 ((rd_T23 y158 (Go.bits .and .i64 a0 3)).f0))) (fun _ hk => hk.2) (.int .i64 ((rd_T23 y158 (Go.bits .and .i64 a0 3)).f1))) (fun _ h_ => h_.1))) gb163 (Nat.le_of_eq hg.symm)) hb); have n1_ := Aside0.mk (blk_below (g := gb162) (o := .cells #[.int .i64 ((rd_T23 y158 (Go.bits .and .i64 a0 3)).f0), .int .i64 ((rd_T23 y158 (Go.bits .and .i64 a0 3)).f1)] 23 (0, 0)) (by (with_reducible repeat (first | refine blk_drewN ?_ _ | refine blk_drew ?_ | refine blk_alloc ?_ _)); refine blk_put (cs := #[.int .i64 ((rd_T23 y158 (Go.bits .and .i64 a0 3)).f0), .int .i64 0]) ?_ 1 _ rfl; (with_reducible repeat (first | refine blk_drewN ?_ _ | refine blk_drew ?_ | refine blk_alloc ?_ _)); refine blk_put (cs := #[.int .i64 0, .int .i64 0]) ?_ 0 _ rfl; (with_reducible repeat (first | refine blk_drewN ?_ _ | refine blk_drew ?_ | refine blk_alloc ?_ _)); exact BK162.out) hb); have n2_ := Aside0.mk (below_step (by repeat (first | (with_reducible first | exact HB.out | apply below_alloc | apply pw_below_drewN | apply below_drew1 | refine below_set ?_ GE162.out) | exact HB.out)) hb); have n3_ := Aside0.mk (hbox); have n4_ := Aside0.mk ((by rw [hg]; exact (below_size (by repeat (first | (with_reducible first | exact HB.out | apply below_alloc | apply pw_below_drewN | apply below_drew1 | refine below_set ?_ GE162.out) | exact HB.out))) : w.heap.size ≤ gb163)); have n5_ := Aside0.mk ((by rw [hg]; exact (below_size (by repeat (first | (with_reducible first | exact HB.out | apply below_alloc | apply pw_below_drewN | apply below_drew1 | refine below_set ?_ GE162.out) | exact HB.out))) : w.heap.size ≤ gb163)); have n6_ := Aside0.mk ((by rw [hg]; exact Nat.ne_of_lt (blk_lt (g := gb162) (o := .cells #[.int .i64 ((rd_T23 y158 (Go.bits .and .i64 a0 3)).f0), .int .i64 ((rd_T23 y158 (Go.bits .and .i64 a0 3)).f1)] 23 (0, 0)) (by (with_reducible repeat (first | refine blk_drewN ?_ _ | refine blk_drew ?_ | refine blk_alloc ?_ _)); refine blk_put (cs := #[.int .i64 ((rd_T23 y158 (Go.bits .and .i64 a0 3)).f0), .int .i64 0]) ?_ 1 _ rfl; (with_reducible repeat (first | refine blk_drewN ?_ _ | refine blk_drew ?_ | refine blk_alloc ?_ _)); refine blk_put (cs := #[.int .i64 0, .int .i64 0]) ?_ 0 _ rfl; (with_reducible repeat (first | refine blk_drewN ?_ _ | refine blk_drew ?_ | refine blk_alloc ?_ _)); exact BK162.out)) : gb162 ≠ gb163)); have n7_ := Aside0.mk ((by rw [hg]; exact Nat.ne_of_gt (blk_lt (g := gb162) (o := .cells #[.int .i64 ((rd_T23 y158 (Go.bits .and .i64 a0 3)).f0), .int .i64 ((rd_T23 y158 (Go.bits .and .i64 a0 3)).f1)] 23 (0, 0)) (by (with_reducible repeat (first | refine blk_drewN ?_ _ | refine blk_drew ?_ | refine blk_alloc ?_ _)); refine blk_put (cs := #[.int .i64 ((rd_T23 y158 (Go.bits .and .i64 a0 3)).f0), .int .i64 0]) ?_ 1 _ rfl; (with_reducible repeat (first | refine blk_drewN ?_ _ | refine blk_drew ?_ | refine blk_alloc ?_ _)); refine blk_put (cs := #[.int .i64 0, .int .i64 0]) ?_ 0 _ rfl; (with_reducible repeat (first | refine blk_drewN ?_ _ | refine blk_drew ?_ | refine blk_alloc ?_ _)); exact BK162.out)) : gb163 ≠ gb162)); clear HO160; clear BK162; clear HB; have HO160 := n0_; have BK162 := n1_; have HB := n2_; have BK163 := n3_; have GW163 := n4_; have GE163 := n5_; have NB162_163 := n6_; have NB163_162 := n7_; clear n0_ n1_ n2_ n3_ n4_ n5_ n6_ n7_; clear hb hbox hg; have hnb57 := NB163_162.out; have hnc57 := NB162_163.out; have hcz58_0 : w56.cell? ⟨gb163, 0, none⟩ = some (.int .i64 0) := (blk_cell BK163.out 0).trans rfl; have hcz58_1 : w56.cell? ⟨gb163, 1, none⟩ = some (.int .i64 0) := (blk_cell BK163.out 1).trans rfl; have hfz58_0 := blk_frozen BK163.out 0; have hfz58_1 := blk_frozen BK163.out 1; have hcz59_0 : w56.cell? ⟨gb162, 0, none⟩ = some (.int .i64 ((rd_T23 y158 (Go.bits .and .i64 a0 3)).f0)) := (blk_cell BK162.out 0).trans rfl; have hcz59_1 : w56.cell? ⟨gb162, 1, none⟩ = some (.int .i64 ((rd_T23 y158 (Go.bits .and .i64 a0 3)).f1)) := (blk_cell BK162.out 1).trans rfl; have hfz59_0 := blk_frozen BK162.out 0; have hfz59_1 := blk_frozen BK162.out 1) | ((with_reducible refine gate_callee (f := 18) rfl ?_); refine goesL_ (some 41) rfl rfl Try.func18 (by kernel_rfl) rfl #[.agg #[.int .i64 ((rd_T23 y158 (Go.bits .and .i64 a0 3)).f0), .int .i64 ((rd_T23 y158 (Go.bits .and .i64 a0 3)).f1)]] rfl (by (try simp only [List.map_toArray, List.map_cons, List.map_nil]); first | done | rfl | (simp only [List.length_drop, List.length_take]; rfl)) ?_; (with_reducible refine (shape_Size.calls ((rd_T23 y158 (Go.bits .and .i64 a0 3)).f0) ((rd_T23 y158 (Go.bits .and .i64 a0 3)).f1) t164 t165 _ A7.out).mono ?_); rintro e w60 ⟨rfl, hb⟩; refine ⟨_, rfl, ?_⟩; have n0_ := Aside0.mk (Kd.R_below (by (with_reducible repeat (first | apply Kd.R_alloc | apply Kd.R_drewN | apply Kd.R_drew)); exact (Kd.R_mono (Kd.R_far (p := ⟨gb163, 1, none⟩) (Kd.R_far (p := ⟨gb163, 0, none⟩) (Kd.R_mono HO160.out (fun k_ hk => (⟨hk, hk.2⟩ : _ ∧ k_ ≠ gb163))) (fun _ hk => hk.2) (.int .i64 1)) (fun _ hk => hk.2) (.int .i64 1)) (fun _ h_ => h_.1))) hb); have n1_ := Aside0.mk (blk_below (g := gb162) (o := .cells #[.int .i64 ((rd_T23 y158 (Go.bits .and .i64 a0 3)).f0), .int .i64 ((rd_T23 y158 (Go.bits .and .i64 a0 3)).f1)] 23 (0, 0)) (by (with_reducible repeat (first | refine blk_drewN ?_ _ | refine blk_drew ?_ | refine blk_alloc ?_ _)); refine blk_far ?_ NB162_163.out _; (with_reducible repeat (first | refine blk_drewN ?_ _ | refine blk_drew ?_ | refine blk_alloc ?_ _)); refine blk_far ?_ NB162_163.out _; (with_reducible repeat (first | refine blk_drewN ?_ _ | refine blk_drew ?_ | refine blk_alloc ?_ _)); exact BK162.out) hb); have n2_ := Aside0.mk (blk_below (g := gb163) (o := .cells #[.int .i64 1, .int .i64 1] 23 (0, 0)) (by (with_reducible repeat (first | refine blk_drewN ?_ _ | refine blk_drew ?_ | refine blk_alloc ?_ _)); refine blk_put (cs := #[.int .i64 1, .int .i64 0]) ?_ 1 _ rfl; (with_reducible repeat (first | refine blk_drewN ?_ _ | refine blk_drew ?_ | refine blk_alloc ?_ _)); refine blk_put (cs := #[.int .i64 0, .int .i64 0]) ?_ 0 _ rfl; (with_reducible repeat (first | refine blk_drewN ?_ _ | refine blk_drew ?_ | refine blk_alloc ?_ _)); exact BK163.out) hb); have n3_ := Aside0.mk (below_step (by repeat (first | (with_reducible first | exact HB.out | apply below_alloc | apply pw_below_drewN | apply below_drew1 | refine below_set ?_ GE162.out | refine below_set ?_ GE163.out) | exact HB.out)) hb); clear HO160; clear BK162; clear BK163; clear HB; have HO160 := n0_; have BK162 := n1_; have BK163 := n2_; have HB := n3_; clear n0_ n1_ n2_ n3_; (try clear hb); (try clear hb2); (try clear hk); (try clear hi); have hcz61_0 : w60.cell? ⟨gb162, 0, none⟩ = some (.int .i64 ((rd_T23 y158 (Go.bits .and .i64 a0 3)).f0)) := (blk_cell BK162.out 0).trans rfl; have hcz61_1 : w60.cell? ⟨gb162, 1, none⟩ = some (.int .i64 ((rd_T23 y158 (Go.bits .and .i64 a0 3)).f1)) := (blk_cell BK162.out 1).trans rfl; have hfz61_0 := blk_frozen BK162.out 0; have hfz61_1 := blk_frozen BK162.out 1) | ((with_reducible refine gate_callee (f := 20) rfl ?_); refine goesL_ (some 46) rfl rfl Try.func20 (by kernel_rfl) rfl #[.agg #[.int .i64 ((rd_T23 y158 (Go.bits .and .i64 a0 3)).f0), .int .i64 ((rd_T23 y158 (Go.bits .and .i64 a0 3)).f1)], .int .i64 5, .int .i64 5] rfl (by (try simp only [List.map_toArray, List.map_cons, List.map_nil]); first | done | rfl | (simp only [List.length_drop, List.length_take]; rfl)) ?_; (with_reducible refine (shape_Init.calls k ((rd_T23 y158 (Go.bits .and .i64 a0 3)).f0) ((rd_T23 y158 (Go.bits .and .i64 a0 3)).f1) 5 5 t166 t169 _ A8.out).mono ?_); rintro e w62 ⟨v167, rfl, ho0, hb⟩; refine ⟨_, rfl, ?_⟩; have n0_ := Aside0.mk (Kd.R_below (by (with_reducible repeat (first | apply Kd.R_alloc | apply Kd.R_drewN | apply Kd.R_drew)); exact HO160.out) hb); have n1_ := Aside0.mk (Kd.R_lower ho0 (below_size (by repeat (first | (with_reducible first | exact HB.out | apply below_alloc | apply pw_below_drewN | apply below_drew1 | refine below_set ?_ GE162.out | refine below_set ?_ GE163.out) | exact HB.out)))); have n2_ := Aside0.mk (blk_below (g := gb162) (o := .cells #[.int .i64 ((rd_T23 y158 (Go.bits .and .i64 a0 3)).f0), .int .i64 ((rd_T23 y158 (Go.bits .and .i64 a0 3)).f1)] 23 (0, 0)) (by (with_reducible repeat (first | refine blk_drewN ?_ _ | refine blk_drew ?_ | refine blk_alloc ?_ _)); exact BK162.out) hb); have n3_ := Aside0.mk (blk_below (g := gb163) (o := .cells #[.int .i64 1, .int .i64 1] 23 (0, 0)) (by (with_reducible repeat (first | refine blk_drewN ?_ _ | refine blk_drew ?_ | refine blk_alloc ?_ _)); exact BK163.out) hb); have n4_ := Aside0.mk (below_step (by repeat (first | (with_reducible first | exact HB.out | apply below_alloc | apply pw_below_drewN | apply below_drew1 | refine below_set ?_ GE162.out | refine below_set ?_ GE163.out) | exact HB.out)) hb); clear HO160; clear BK162; clear BK163; clear HB; have HO160 := n0_; have HO168 := n1_; have BK162 := n2_; have BK163 := n3_; have HB := n4_; clear n0_ n1_ n2_ n3_ n4_; (try clear hb); (try clear hb2); (try clear hk); (try clear hi); (try clear ho0)))
                        have pi173 : (0 ≤ ((Go.bits .and .i64 a0 1) : Int)) = True := eq_true (of_decide_eq_true (by first | (with_reducible assumption) | assumption))
                        have qi173 : ((Go.bits .and .i64 a0 1) < (y170.length : Int)) = True := eq_true (of_decide_eq_true (by first | (with_reducible assumption) | assumption))
                        have n0_ := Aside0.mk (Kd.R_drew HO160.out)
                        have n1_ := Aside0.mk (Kd.R_drew HO168.out)
                        have n2_ := Aside0.mk (blk_drew BK162.out)
                        have n3_ := Aside0.mk (blk_drew BK163.out)
                        have n4_ := Aside0.mk (below_drew1 HB.out)
                        clear HO160
                        clear HO168
                        clear BK162
                        clear BK163
                        clear HB
                        have HO160 := n0_
                        have HO168 := n1_
                        have BK162 := n2_
                        have BK163 := n3_
                        have HB := n4_
                        clear n0_ n1_ n2_ n3_ n4_
                        refine start_ (n := 16) (S := fun w' => w'.cell? ⟨gb163, 0, none⟩ = some (.int .i64 1) ∧ w'.cell? ⟨gb163, 1, none⟩ = some (.int .i64 1)) (ds := []) #[false, false, false, false, false, false, false, false, false, false, false, false, false, false, false, false] (by kernel_rfl) rfl rfl ⟨(blk_cell BK163.out 0).trans rfl, (blk_cell BK163.out 1).trans rfl⟩ (fun hHeld => ?_); refine with_tabW grafterlaw5_ShapeForms.tab8 grafterlaw5_ShapeForms.bits8 (fun HT_ HW_ => ?_)
                        generalize w62.drew = w63 at HO160 HO168 BK162 BK163 HB hHeld ⊢
                        refine pure_ (i := 1) (N := some 51) (v := ?_) (a' := ?_) #[false, true, false, false, false, false, false, false, false, false, false, false, false, false, false, false] rfl rfl (any_of HT_.out (by kernel_rfl)) (fun _ _ _ h => h) (Or.inl ⟨by rfl, ?_⟩) ?_ ?_
                        rotate_left
                        · intro w'
                          go_simp
                          with_reducible rfl
                        rotate_left
                        · simp only [Act.put, List.setIfInBounds_toArray, List.set_cons_zero, List.set_cons_succ, i64_w, i32_w]
                          rfl
                        refine pure_ (i := 2) (N := some 52) (v := ?_) (a' := ?_) #[false, true, true, false, false, false, false, false, false, false, false, false, false, false, false, false] rfl rfl (any_of HT_.out (by kernel_rfl)) (fun _ _ _ h => h) (Or.inl ⟨by rfl, ?_⟩) ?_ ?_
                        rotate_left
                        · intro w'
                          go_simp
                          with_reducible rfl
                        rotate_left
                        · simp only [Act.put, List.setIfInBounds_toArray, List.set_cons_zero, List.set_cons_succ, i64_w, i32_w]
                          rfl
                        refine pure_ (i := 3) (N := some 53) (v := ?_) (a' := ?_) #[false, true, true, true, false, false, false, false, false, false, false, false, false, false, false, false] rfl rfl (any_of HT_.out (by kernel_rfl)) (fun _ _ _ h => h) (Or.inl ⟨by rfl, ?_⟩) ?_ ?_
                        rotate_left
                        · intro w'
                          go_simp
                          with_reducible rfl
                        rotate_left
                        · simp only [Act.put, List.setIfInBounds_toArray, List.set_cons_zero, List.set_cons_succ, i64_w, i32_w]
                          rfl
                        refine pure_ (i := 4) (N := some 54) (v := ?_) (a' := ?_) #[false, true, true, true, true, false, false, false, false, false, false, false, false, false, false, false] rfl rfl (any_of HT_.out (by kernel_rfl)) (fun _ _ _ h => h) (Or.inl ⟨by rfl, ?_⟩) ?_ ?_
                        rotate_left
                        · intro w'
                          go_simp
                          with_reducible rfl
                        rotate_left
                        · simp only [Act.put, List.setIfInBounds_toArray, List.set_cons_zero, List.set_cons_succ, i64_w, i32_w]
                          rfl
                        refine pure_ (i := 6) (N := some 56) (v := ?_) (a' := ?_) #[false, true, true, true, true, false, true, false, false, false, false, false, false, false, false, false] rfl rfl (any_of HT_.out (by kernel_rfl)) (fun _ _ _ h => h) (Or.inl ⟨by rfl, ?_⟩) ?_ ?_
                        rotate_left
                        · intro w'
                          go_simp
                          with_reducible rfl
                        rotate_left
                        · simp only [Act.put, List.setIfInBounds_toArray, List.set_cons_zero, List.set_cons_succ, i64_w, i32_w]
                          rfl
                        refine pure_ (i := 7) (N := some 57) (v := ?_) (a' := ?_) #[false, true, true, true, true, false, true, true, false, false, false, false, false, false, false, false] rfl rfl (any_of HT_.out (by kernel_rfl)) (fun _ _ _ h => h) (Or.inl ⟨by rfl, ?_⟩) ?_ ?_
                        rotate_left
                        · intro w'
                          go_simp
                          with_reducible rfl
                        rotate_left
                        · simp only [Act.put, List.setIfInBounds_toArray, List.set_cons_zero, List.set_cons_succ, i64_w, i32_w]
                          rfl
                        refine take_ (i := 0) (N := some 50) (v := ?_) (a' := ?_) #[true, true, true, true, true, false, true, true, false, false, false, false, false, false, false, false] rfl rfl (take_ofW HT_.out HW_.out (by kernel_rfl)) (fun _ _ _ h => h) (Or.inl ⟨by rfl, ?_⟩) hHeld ?_ ?_
                        rotate_left
                        · rintro w' ⟨s0, s1⟩
                          go_simp
                          with_reducible rfl
                        rotate_left
                        · simp only [Act.put, List.setIfInBounds_toArray, List.set_cons_zero, List.set_cons_succ, i64_w, i32_w]
                          rfl
                        refine one_ (i := 5) (N := some 55) #[true, true, true, true, true, true, true, true, false, false, false, false, false, false, false, false] rfl rfl (one_of HT_.out (by kernel_rfl)) (by decide) (fun K hK => ?_)
                        refine Kd.R_lit_step (Kd.int .i64) _ 3 ?hg (N := 55) ?hd (xs := ([wrap64 (-(wrap64 (1 + (Go.bits .and .i64 a1 1023)))), wrap64 (65535 + (wrap64 (1 + (Go.bits .and .i64 a1 1023))))] : List Int)) (inner := [.int .i64 (wrap64 (-(wrap64 (1 + (Go.bits .and .i64 a1 1023))))), .int .i64 (wrap64 (65535 + (wrap64 (1 + (Go.bits .and .i64 a1 1023)))))]) (ok := fun _ => True) (okp := fun _ => True) ?hr ?hp (fun _ hk => hk) trivial (Below.refl _ _) (Nat.le_refl _) (by simp) ?_; (case hd => rfl); (case hg => rfl); (case hr => first | (go_simp; done) | (go_simp; rfl)); (case hp => exact (Reps.one (show Kd.M (Kd.int .i64) _ _ _ (wrap64 (-(wrap64 (1 + (Go.bits .and .i64 a1 1023))))) [.int .i64 (wrap64 (-(wrap64 (1 + (Go.bits .and .i64 a1 1023)))))] from rfl) (Reps.one (show Kd.M (Kd.int .i64) _ _ _ (wrap64 (65535 + (wrap64 (1 + (Go.bits .and .i64 a1 1023))))) [.int .i64 (wrap64 (65535 + (wrap64 (1 + (Go.bits .and .i64 a1 1023)))))] from rfl) (Reps.none _ _))))
                        intro v171 w64 ho65 hb hg_ hnew_
                        clear hg_ hnew_
                        (first | rw [← Ny170.out] at ho65 | (simp only [Int.reduceToNat] at ho65; rw [← Ny170.out] at ho65))
                        have n0_ := Aside0.mk (Kd.R_below (by (with_reducible repeat (first | apply Kd.R_alloc | apply Kd.R_drewN | apply Kd.R_drew)); exact HO160.out) hb)
                        have n1_ := Aside0.mk (Kd.R_elder' (by (with_reducible repeat (first | apply Kd.R_alloc | apply Kd.R_drewN | apply Kd.R_drew)); exact HO168.out) (Kd.R_base ho65) hb)
                        have n2_ := Aside0.mk (Kd.R_lower (Kd.R_new' ho65 (Kd.R_lt (by (with_reducible repeat (first | apply Kd.R_alloc | apply Kd.R_drewN | apply Kd.R_drew)); exact HO168.out))) (below_size (by repeat (first | (with_reducible first | exact HB.out | apply below_alloc | apply pw_below_drewN | apply below_drew1 | refine below_set ?_ GE162.out | refine below_set ?_ GE163.out) | exact HB.out))))
                        have n3_ := Aside0.mk (blk_below (g := gb162) (o := .cells #[.int .i64 ((rd_T23 y158 (Go.bits .and .i64 a0 3)).f0), .int .i64 ((rd_T23 y158 (Go.bits .and .i64 a0 3)).f1)] 23 (0, 0)) (by (with_reducible repeat (first | refine blk_drewN ?_ _ | refine blk_drew ?_ | refine blk_alloc ?_ _)); exact BK162.out) hb)
                        have n4_ := Aside0.mk (blk_below (g := gb163) (o := .cells #[.int .i64 1, .int .i64 1] 23 (0, 0)) (by (with_reducible repeat (first | refine blk_drewN ?_ _ | refine blk_drew ?_ | refine blk_alloc ?_ _)); exact BK163.out) hb)
                        have n5_ := Aside0.mk (below_step (by repeat (first | (with_reducible first | exact HB.out | apply below_alloc | apply pw_below_drewN | apply below_drew1 | refine below_set ?_ GE162.out | refine below_set ?_ GE163.out) | exact HB.out)) hb)
                        clear HO160
                        clear HO168
                        clear BK162
                        clear BK163
                        clear HB
                        have HO160 := n0_
                        have HO168 := n1_
                        have HO172 := n2_
                        have BK162 := n3_
                        have BK163 := n4_
                        have HB := n5_
                        clear n0_ n1_ n2_ n3_ n4_ n5_
                        clear hb ho65
                        obtain ⟨Ao66, co66, eo66⟩ := Kd.R_slice HO172.out
                        subst eo66
                        obtain ⟨ado66, fo66, _⟩ := Kd.at_int (Kd.R_reads' HO172.out).2.2 0 (by decide) (by rw [Ny170.out]; simp)
                        cases fo66
                        refine hK.out _ _ ⟨(blk_cell BK163.out 0).trans rfl, (blk_cell BK163.out 1).trans rfl⟩ (fun hHeld => ?_)
                        clear hK K
                        refine norm_ (a' := ?_) ?_ ?_
                        rotate_left
                        · show Act.put _ (some 55) _ = _
                          simp only [Act.put, List.setIfInBounds_toArray, List.set_cons_zero, List.set_cons_succ, i64_w, i32_w]
                          rfl
                        refine pure_ (i := 8) (N := some 58) (v := ?_) (a' := ?_) #[true, true, true, true, true, true, true, true, true, false, false, false, false, false, false, false] rfl rfl (any_of HT_.out (by kernel_rfl)) (fun _ _ _ h => h) (Or.inl ⟨by rfl, ?_⟩) ?_ ?_
                        rotate_left
                        · intro w'
                          go_simp
                          with_reducible rfl
                        rotate_left
                        · simp only [Act.put, List.setIfInBounds_toArray, List.set_cons_zero, List.set_cons_succ, i64_w, i32_w]
                          rfl
                        refine one_ (i := 9) (N := some 59) #[true, true, true, true, true, true, true, true, true, true, false, false, false, false, false, false] rfl rfl (one_of HT_.out (by kernel_rfl)) (by decide) (fun K hK => ?_)
                        (have p173 : 0 ≤ ((Go.bits .and .i64 a0 1) : Int) := of_decide_eq_true (by first | (with_reducible assumption) | assumption); have q173 : (Go.bits .and .i64 a0 1) < (y170.length : Int) := of_decide_eq_true (by first | (with_reducible assumption) | assumption); obtain ⟨ad173, e173, hx173_0⟩ := Kd.at_int (Kd.R_reads' HO172.out).2.2 (Go.bits .and .i64 a0 1) p173 q173; obtain rfl : ado66 = ad173 := (by injection e173))
                        refine value_ (w1 := ?_) (v := ?_) (by rfl) rfl ?_ ?_
                        rotate_left 2
                        · go_simp
                          constructor
                          · rfl
                          · rfl
                        clear hx173_0
                        refine hK.out _ _ ⟨(blk_cell BK163.out 0).trans rfl, (blk_cell BK163.out 1).trans rfl⟩ (fun hHeld => ?_)
                        clear hK K
                        refine norm_ (a' := ?_) ?_ ?_
                        rotate_left
                        · show Act.put _ (some 59) _ = _
                          simp only [Act.put, List.setIfInBounds_toArray, List.set_cons_zero, List.set_cons_succ, i64_w, i32_w]
                          rfl
                        refine one_ (i := 10) (N := some 60) #[true, true, true, true, true, true, true, true, true, true, true, false, false, false, false, false] rfl rfl (one_of HT_.out (by kernel_rfl)) (by decide) (fun K hK => ?_)
                        refine goes_ Try.func20 (by kernel_rfl) rfl #[.agg #[.int .i64 1, .int .i64 1], .int .i64 (rd y170 (Go.bits .and .i64 a0 1)), .int .i64 5] (by rfl) rfl rfl (by (try simp only [List.map_toArray, List.map_cons, List.map_nil]); first | done | rfl | (simp only [List.length_drop, List.length_take]; rfl)) ?_
                        with_reducible refine (shape_Init.calls k 1 1 (rd y170 (Go.bits .and .i64 a0 1)) 5 t174 t177 _ A11.out).mono ?_
                        rintro e w67 ⟨v175, rfl, ho0, hb⟩
                        refine ⟨_, rfl, ?_⟩
                        have n0_ := Aside0.mk (Kd.R_below (by (with_reducible repeat (first | apply Kd.R_alloc | apply Kd.R_drewN | apply Kd.R_drew)); exact HO160.out) hb)
                        have n1_ := Aside0.mk (Kd.R_elder' (by (with_reducible repeat (first | apply Kd.R_alloc | apply Kd.R_drewN | apply Kd.R_drew)); exact HO168.out) (Kd.R_base ho0) hb)
                        have n2_ := Aside0.mk (Kd.R_elder' (by (with_reducible repeat (first | apply Kd.R_alloc | apply Kd.R_drewN | apply Kd.R_drew)); exact HO172.out) (Kd.R_base ho0) hb)
                        have n3_ := Aside0.mk (Kd.R_lower (Kd.R_new' (Kd.R_new' ho0 (Kd.R_lt (by (with_reducible repeat (first | apply Kd.R_alloc | apply Kd.R_drewN | apply Kd.R_drew)); exact HO168.out))) (Kd.R_lt (by (with_reducible repeat (first | apply Kd.R_alloc | apply Kd.R_drewN | apply Kd.R_drew)); exact HO172.out))) (below_size (by repeat (first | (with_reducible first | exact HB.out | apply below_alloc | apply pw_below_drewN | apply below_drew1 | refine below_set ?_ GE162.out | refine below_set ?_ GE163.out) | exact HB.out))))
                        have n4_ := Aside0.mk (blk_below (g := gb162) (o := .cells #[.int .i64 ((rd_T23 y158 (Go.bits .and .i64 a0 3)).f0), .int .i64 ((rd_T23 y158 (Go.bits .and .i64 a0 3)).f1)] 23 (0, 0)) (by (with_reducible repeat (first | refine blk_drewN ?_ _ | refine blk_drew ?_ | refine blk_alloc ?_ _)); exact BK162.out) hb)
                        have n5_ := Aside0.mk (blk_below (g := gb163) (o := .cells #[.int .i64 1, .int .i64 1] 23 (0, 0)) (by (with_reducible repeat (first | refine blk_drewN ?_ _ | refine blk_drew ?_ | refine blk_alloc ?_ _)); exact BK163.out) hb)
                        have n6_ := Aside0.mk (below_step (by repeat (first | (with_reducible first | exact HB.out | apply below_alloc | apply pw_below_drewN | apply below_drew1 | refine below_set ?_ GE162.out | refine below_set ?_ GE163.out) | exact HB.out)) hb)
                        clear HO160
                        clear HO168
                        clear HO172
                        clear BK162
                        clear BK163
                        clear HB
                        have HO160 := n0_
                        have HO168 := n1_
                        have HO172 := n2_
                        have HO176 := n3_
                        have BK162 := n4_
                        have BK163 := n5_
                        have HB := n6_
                        clear n0_ n1_ n2_ n3_ n4_ n5_ n6_
                        (try clear hb)
                        (try clear hb2)
                        (try clear hk)
                        (try clear hi)
                        (try clear ho0)
                        refine hK.out _ _ ⟨(blk_cell BK163.out 0).trans rfl, (blk_cell BK163.out 1).trans rfl⟩ (fun hHeld => ?_)
                        clear hK K
                        refine norm_ (a' := ?_) ?_ ?_
                        rotate_left
                        · show Act.put _ (some 60) _ = _
                          simp only [Act.put, List.setIfInBounds_toArray, List.set_cons_zero, List.set_cons_succ, i64_w, i32_w]
                          rfl
                        refine pure_ (i := 11) (N := some 49) (v := ?_) (a' := ?_) #[true, true, true, true, true, true, true, true, true, true, true, true, false, false, false, false] rfl rfl (any_of HT_.out (by kernel_rfl)) (fun _ _ _ h => h) (Or.inl ⟨by rfl, ?_⟩) ?_ ?_
                        rotate_left
                        · intro w'
                          go_simp
                          with_reducible rfl
                        rotate_left
                        · simp only [Act.put, List.setIfInBounds_toArray, List.set_cons_zero, List.set_cons_succ, i64_w, i32_w]
                          rfl
                        refine pure_ (i := 12) (N := some 61) (v := ?_) (a' := ?_) #[true, true, true, true, true, true, true, true, true, true, true, true, true, false, false, false] rfl rfl (any_of HT_.out (by kernel_rfl)) (fun _ _ _ h => h) (Or.inl ⟨by rfl, ?_⟩) ?_ ?_
                        rotate_left
                        · intro w'
                          go_simp
                          with_reducible rfl
                        rotate_left
                        · simp only [Act.put, List.setIfInBounds_toArray, List.set_cons_zero, List.set_cons_succ, i64_w, i32_w]
                          rfl
                        refine pure_ (i := 13) (N := some 62) (v := ?_) (a' := ?_) #[true, true, true, true, true, true, true, true, true, true, true, true, true, true, false, false] rfl rfl (any_of HT_.out (by kernel_rfl)) (fun _ _ _ h => h) (Or.inl ⟨by rfl, ?_⟩) ?_ ?_
                        rotate_left
                        · intro w'
                          go_simp
                          with_reducible rfl
                        rotate_left
                        · simp only [Act.put, List.setIfInBounds_toArray, List.set_cons_zero, List.set_cons_succ, i64_w, i32_w]
                          rfl
                        refine pure_ (i := 14) (N := some 12) (v := ?_) (a' := ?_) #[true, true, true, true, true, true, true, true, true, true, true, true, true, true, true, false] rfl rfl (any_of HT_.out (by kernel_rfl)) (fun _ _ _ h => h) (Or.inl ⟨by rfl, ?_⟩) ?_ ?_
                        rotate_left
                        · intro w'
                          go_simp
                          with_reducible rfl
                        rotate_left
                        · simp only [Act.put, List.setIfInBounds_toArray, List.set_cons_zero, List.set_cons_succ, i64_w, i32_w]
                          rfl
                        refine pure_ (i := 15) (N := some 13) (v := ?_) (a' := ?_) #[true, true, true, true, true, true, true, true, true, true, true, true, true, true, true, true] rfl rfl (any_of HT_.out (by kernel_rfl)) (fun _ _ _ h => h) (Or.inl ⟨by rfl, ?_⟩) ?_ ?_
                        rotate_left
                        · intro w'
                          go_simp
                          with_reducible rfl
                        rotate_left
                        · simp only [Act.put, List.setIfInBounds_toArray, List.set_cons_zero, List.set_cons_succ, i64_w, i32_w]
                          rfl
                        refine done_ (done_of HT_.out (by kernel_rfl)) ?_
                        try go_wp2
                        have pi181 : (0 ≤ ((Go.bits .and .i64 a0 1) : Int)) = True := eq_true (of_decide_eq_true (by first | (with_reducible assumption) | assumption))
                        have qi181 : ((Go.bits .and .i64 a0 1) < (y178.length : Int)) = True := eq_true (of_decide_eq_true (by first | (with_reducible assumption) | assumption))
                        have n0_ := Aside0.mk (Kd.R_drew HO160.out)
                        have n1_ := Aside0.mk (Kd.R_drew HO168.out)
                        have n2_ := Aside0.mk (Kd.R_drew HO172.out)
                        have n3_ := Aside0.mk (Kd.R_drew HO176.out)
                        have n4_ := Aside0.mk (blk_drew BK162.out)
                        have n5_ := Aside0.mk (blk_drew BK163.out)
                        have n6_ := Aside0.mk (below_drew1 HB.out)
                        clear HO160
                        clear HO168
                        clear HO172
                        clear HO176
                        clear BK162
                        clear BK163
                        clear HB
                        have HO160 := n0_
                        have HO168 := n1_
                        have HO172 := n2_
                        have HO176 := n3_
                        have BK162 := n4_
                        have BK163 := n5_
                        have HB := n6_
                        clear n0_ n1_ n2_ n3_ n4_ n5_ n6_
                        refine start_ (n := 16) (S := fun w' => w'.cell? ⟨gb163, 0, none⟩ = some (.int .i64 1) ∧ w'.cell? ⟨gb163, 1, none⟩ = some (.int .i64 1)) (ds := []) #[false, false, false, false, false, false, false, false, false, false, false, false, false, false, false, false] (by kernel_rfl) rfl rfl ⟨(blk_cell BK163.out 0).trans rfl, (blk_cell BK163.out 1).trans rfl⟩ (fun hHeld => ?_); refine with_tabW grafterlaw5_ShapeForms.tab9 grafterlaw5_ShapeForms.bits9 (fun HT_ HW_ => ?_)
                        generalize w67.drew = w68 at HO160 HO168 HO172 HO176 BK162 BK163 HB hHeld ⊢
                        refine pure_ (i := 1) (N := some 65) (v := ?_) (a' := ?_) #[false, true, false, false, false, false, false, false, false, false, false, false, false, false, false, false] rfl rfl (any_of HT_.out (by kernel_rfl)) (fun _ _ _ h => h) (Or.inl ⟨by rfl, ?_⟩) ?_ ?_
                        rotate_left
                        · intro w'
                          go_simp
                          with_reducible rfl
                        rotate_left
                        · simp only [Act.put, List.setIfInBounds_toArray, List.set_cons_zero, List.set_cons_succ, i64_w, i32_w]
                          rfl
                        refine pure_ (i := 2) (N := some 66) (v := ?_) (a' := ?_) #[false, true, true, false, false, false, false, false, false, false, false, false, false, false, false, false] rfl rfl (any_of HT_.out (by kernel_rfl)) (fun _ _ _ h => h) (Or.inl ⟨by rfl, ?_⟩) ?_ ?_
                        rotate_left
                        · intro w'
                          go_simp
                          with_reducible rfl
                        rotate_left
                        · simp only [Act.put, List.setIfInBounds_toArray, List.set_cons_zero, List.set_cons_succ, i64_w, i32_w]
                          rfl
                        refine pure_ (i := 3) (N := some 67) (v := ?_) (a' := ?_) #[false, true, true, true, false, false, false, false, false, false, false, false, false, false, false, false] rfl rfl (any_of HT_.out (by kernel_rfl)) (fun _ _ _ h => h) (Or.inl ⟨by rfl, ?_⟩) ?_ ?_
                        rotate_left
                        · intro w'
                          go_simp
                          with_reducible rfl
                        rotate_left
                        · simp only [Act.put, List.setIfInBounds_toArray, List.set_cons_zero, List.set_cons_succ, i64_w, i32_w]
                          rfl
                        refine pure_ (i := 4) (N := some 68) (v := ?_) (a' := ?_) #[false, true, true, true, true, false, false, false, false, false, false, false, false, false, false, false] rfl rfl (any_of HT_.out (by kernel_rfl)) (fun _ _ _ h => h) (Or.inl ⟨by rfl, ?_⟩) ?_ ?_
                        rotate_left
                        · intro w'
                          go_simp
                          with_reducible rfl
                        rotate_left
                        · simp only [Act.put, List.setIfInBounds_toArray, List.set_cons_zero, List.set_cons_succ, i64_w, i32_w]
                          rfl
                        refine pure_ (i := 6) (N := some 70) (v := ?_) (a' := ?_) #[false, true, true, true, true, false, true, false, false, false, false, false, false, false, false, false] rfl rfl (any_of HT_.out (by kernel_rfl)) (fun _ _ _ h => h) (Or.inl ⟨by rfl, ?_⟩) ?_ ?_
                        rotate_left
                        · intro w'
                          go_simp
                          with_reducible rfl
                        rotate_left
                        · simp only [Act.put, List.setIfInBounds_toArray, List.set_cons_zero, List.set_cons_succ, i64_w, i32_w]
                          rfl
                        refine pure_ (i := 7) (N := some 71) (v := ?_) (a' := ?_) #[false, true, true, true, true, false, true, true, false, false, false, false, false, false, false, false] rfl rfl (any_of HT_.out (by kernel_rfl)) (fun _ _ _ h => h) (Or.inl ⟨by rfl, ?_⟩) ?_ ?_
                        rotate_left
                        · intro w'
                          go_simp
                          with_reducible rfl
                        rotate_left
                        · simp only [Act.put, List.setIfInBounds_toArray, List.set_cons_zero, List.set_cons_succ, i64_w, i32_w]
                          rfl
                        refine take_ (i := 0) (N := some 64) (v := ?_) (a' := ?_) #[true, true, true, true, true, false, true, true, false, false, false, false, false, false, false, false] rfl rfl (take_ofW HT_.out HW_.out (by kernel_rfl)) (fun _ _ _ h => h) (Or.inl ⟨by rfl, ?_⟩) hHeld ?_ ?_
                        rotate_left
                        · rintro w' ⟨s0, s1⟩
                          go_simp
                          with_reducible rfl
                        rotate_left
                        · simp only [Act.put, List.setIfInBounds_toArray, List.set_cons_zero, List.set_cons_succ, i64_w, i32_w]
                          rfl
                        refine one_ (i := 5) (N := some 69) #[true, true, true, true, true, true, true, true, false, false, false, false, false, false, false, false] rfl rfl (one_of HT_.out (by kernel_rfl)) (by decide) (fun K hK => ?_)
                        refine Kd.R_lit_step (Kd.int .i64) _ 3 ?hg (N := 69) ?hd (xs := ([wrap64 (-(wrap64 (1 + (Go.bits .and .i64 a1 1023)))), wrap64 (1048560 + (wrap64 (1 + (Go.bits .and .i64 a1 1023))))] : List Int)) (inner := [.int .i64 (wrap64 (-(wrap64 (1 + (Go.bits .and .i64 a1 1023))))), .int .i64 (wrap64 (1048560 + (wrap64 (1 + (Go.bits .and .i64 a1 1023)))))]) (ok := fun _ => True) (okp := fun _ => True) ?hr ?hp (fun _ hk => hk) trivial (Below.refl _ _) (Nat.le_refl _) (by simp) ?_; (case hd => rfl); (case hg => rfl); (case hr => first | (go_simp; done) | (go_simp; rfl)); (case hp => exact (Reps.one (show Kd.M (Kd.int .i64) _ _ _ (wrap64 (-(wrap64 (1 + (Go.bits .and .i64 a1 1023))))) [.int .i64 (wrap64 (-(wrap64 (1 + (Go.bits .and .i64 a1 1023)))))] from rfl) (Reps.one (show Kd.M (Kd.int .i64) _ _ _ (wrap64 (1048560 + (wrap64 (1 + (Go.bits .and .i64 a1 1023))))) [.int .i64 (wrap64 (1048560 + (wrap64 (1 + (Go.bits .and .i64 a1 1023)))))] from rfl) (Reps.none _ _))))
                        intro v179 w69 ho70 hb hg_ hnew_
                        clear hg_ hnew_
                        (first | rw [← Ny178.out] at ho70 | (simp only [Int.reduceToNat] at ho70; rw [← Ny178.out] at ho70))
                        have n0_ := Aside0.mk (Kd.R_below (by (with_reducible repeat (first | apply Kd.R_alloc | apply Kd.R_drewN | apply Kd.R_drew)); exact HO160.out) hb)
                        have n1_ := Aside0.mk (Kd.R_elder' (by (with_reducible repeat (first | apply Kd.R_alloc | apply Kd.R_drewN | apply Kd.R_drew)); exact HO168.out) (Kd.R_base ho70) hb)
                        have n2_ := Aside0.mk (Kd.R_elder' (by (with_reducible repeat (first | apply Kd.R_alloc | apply Kd.R_drewN | apply Kd.R_drew)); exact HO172.out) (Kd.R_base ho70) hb)
                        have n3_ := Aside0.mk (Kd.R_elder' (by (with_reducible repeat (first | apply Kd.R_alloc | apply Kd.R_drewN | apply Kd.R_drew)); exact HO176.out) (Kd.R_base ho70) hb)
                        have n4_ := Aside0.mk (Kd.R_lower (Kd.R_new' (Kd.R_new' (Kd.R_new' ho70 (Kd.R_lt (by (with_reducible repeat (first | apply Kd.R_alloc | apply Kd.R_drewN | apply Kd.R_drew)); exact HO168.out))) (Kd.R_lt (by (with_reducible repeat (first | apply Kd.R_alloc | apply Kd.R_drewN | apply Kd.R_drew)); exact HO172.out))) (Kd.R_lt (by (with_reducible repeat (first | apply Kd.R_alloc | apply Kd.R_drewN | apply Kd.R_drew)); exact HO176.out))) (below_size (by repeat (first | (with_reducible first | exact HB.out | apply below_alloc | apply pw_below_drewN | apply below_drew1 | refine below_set ?_ GE162.out | refine below_set ?_ GE163.out) | exact HB.out))))
                        have n5_ := Aside0.mk (blk_below (g := gb162) (o := .cells #[.int .i64 ((rd_T23 y158 (Go.bits .and .i64 a0 3)).f0), .int .i64 ((rd_T23 y158 (Go.bits .and .i64 a0 3)).f1)] 23 (0, 0)) (by (with_reducible repeat (first | refine blk_drewN ?_ _ | refine blk_drew ?_ | refine blk_alloc ?_ _)); exact BK162.out) hb)
                        have n6_ := Aside0.mk (blk_below (g := gb163) (o := .cells #[.int .i64 1, .int .i64 1] 23 (0, 0)) (by (with_reducible repeat (first | refine blk_drewN ?_ _ | refine blk_drew ?_ | refine blk_alloc ?_ _)); exact BK163.out) hb)
                        have n7_ := Aside0.mk (below_step (by repeat (first | (with_reducible first | exact HB.out | apply below_alloc | apply pw_below_drewN | apply below_drew1 | refine below_set ?_ GE162.out | refine below_set ?_ GE163.out) | exact HB.out)) hb)
                        clear HO160
                        clear HO168
                        clear HO172
                        clear HO176
                        clear BK162
                        clear BK163
                        clear HB
                        have HO160 := n0_
                        have HO168 := n1_
                        have HO172 := n2_
                        have HO176 := n3_
                        have HO180 := n4_
                        have BK162 := n5_
                        have BK163 := n6_
                        have HB := n7_
                        clear n0_ n1_ n2_ n3_ n4_ n5_ n6_ n7_
                        clear hb ho70
                        obtain ⟨Ao71, co71, eo71⟩ := Kd.R_slice HO180.out
                        subst eo71
                        obtain ⟨ado71, fo71, _⟩ := Kd.at_int (Kd.R_reads' HO180.out).2.2 0 (by decide) (by rw [Ny178.out]; simp)
                        cases fo71
                        refine hK.out _ _ ⟨(blk_cell BK163.out 0).trans rfl, (blk_cell BK163.out 1).trans rfl⟩ (fun hHeld => ?_)
                        clear hK K
                        refine norm_ (a' := ?_) ?_ ?_
                        rotate_left
                        · show Act.put _ (some 69) _ = _
                          simp only [Act.put, List.setIfInBounds_toArray, List.set_cons_zero, List.set_cons_succ, i64_w, i32_w]
                          rfl
                        refine pure_ (i := 8) (N := some 72) (v := ?_) (a' := ?_) #[true, true, true, true, true, true, true, true, true, false, false, false, false, false, false, false] rfl rfl (any_of HT_.out (by kernel_rfl)) (fun _ _ _ h => h) (Or.inl ⟨by rfl, ?_⟩) ?_ ?_
                        rotate_left
                        · intro w'
                          go_simp
                          with_reducible rfl
                        rotate_left
                        · simp only [Act.put, List.setIfInBounds_toArray, List.set_cons_zero, List.set_cons_succ, i64_w, i32_w]
                          rfl
                        refine one_ (i := 9) (N := some 73) #[true, true, true, true, true, true, true, true, true, true, false, false, false, false, false, false] rfl rfl (one_of HT_.out (by kernel_rfl)) (by decide) (fun K hK => ?_)
                        (have p181 : 0 ≤ ((Go.bits .and .i64 a0 1) : Int) := of_decide_eq_true (by first | (with_reducible assumption) | assumption); have q181 : (Go.bits .and .i64 a0 1) < (y178.length : Int) := of_decide_eq_true (by first | (with_reducible assumption) | assumption); obtain ⟨ad181, e181, hx181_0⟩ := Kd.at_int (Kd.R_reads' HO180.out).2.2 (Go.bits .and .i64 a0 1) p181 q181; obtain rfl : ado71 = ad181 := (by injection e181))
                        refine value_ (w1 := ?_) (v := ?_) (by rfl) rfl ?_ ?_
                        rotate_left 2
                        · go_simp
                          constructor
                          · rfl
                          · rfl
                        clear hx181_0
                        refine hK.out _ _ ⟨(blk_cell BK163.out 0).trans rfl, (blk_cell BK163.out 1).trans rfl⟩ (fun hHeld => ?_)
                        clear hK K
                        refine norm_ (a' := ?_) ?_ ?_
                        rotate_left
                        · show Act.put _ (some 73) _ = _
                          simp only [Act.put, List.setIfInBounds_toArray, List.set_cons_zero, List.set_cons_succ, i64_w, i32_w]
                          rfl
                        refine one_ (i := 10) (N := some 74) #[true, true, true, true, true, true, true, true, true, true, true, false, false, false, false, false] rfl rfl (one_of HT_.out (by kernel_rfl)) (by decide) (fun K hK => ?_)
                        refine goes_ Try.func20 (by kernel_rfl) rfl #[.agg #[.int .i64 1, .int .i64 1], .int .i64 5, .int .i64 (rd y178 (Go.bits .and .i64 a0 1))] (by rfl) rfl rfl (by (try simp only [List.map_toArray, List.map_cons, List.map_nil]); first | done | rfl | (simp only [List.length_drop, List.length_take]; rfl)) ?_
                        with_reducible refine (shape_Init.calls k 1 1 5 (rd y178 (Go.bits .and .i64 a0 1)) t182 t185 _ A13.out).mono ?_
                        rintro e w72 ⟨v183, rfl, ho0, hb⟩
                        refine ⟨_, rfl, ?_⟩
                        have n0_ := Aside0.mk (Kd.R_below (by (with_reducible repeat (first | apply Kd.R_alloc | apply Kd.R_drewN | apply Kd.R_drew)); exact HO160.out) hb)
                        have n1_ := Aside0.mk (Kd.R_elder' (by (with_reducible repeat (first | apply Kd.R_alloc | apply Kd.R_drewN | apply Kd.R_drew)); exact HO168.out) (Kd.R_base ho0) hb)
                        have n2_ := Aside0.mk (Kd.R_elder' (by (with_reducible repeat (first | apply Kd.R_alloc | apply Kd.R_drewN | apply Kd.R_drew)); exact HO172.out) (Kd.R_base ho0) hb)
                        have n3_ := Aside0.mk (Kd.R_elder' (by (with_reducible repeat (first | apply Kd.R_alloc | apply Kd.R_drewN | apply Kd.R_drew)); exact HO176.out) (Kd.R_base ho0) hb)
                        have n4_ := Aside0.mk (Kd.R_elder' (by (with_reducible repeat (first | apply Kd.R_alloc | apply Kd.R_drewN | apply Kd.R_drew)); exact HO180.out) (Kd.R_base ho0) hb)
                        have n5_ := Aside0.mk (Kd.R_lower (Kd.R_new' (Kd.R_new' (Kd.R_new' (Kd.R_new' ho0 (Kd.R_lt (by (with_reducible repeat (first | apply Kd.R_alloc | apply Kd.R_drewN | apply Kd.R_drew)); exact HO168.out))) (Kd.R_lt (by (with_reducible repeat (first | apply Kd.R_alloc | apply Kd.R_drewN | apply Kd.R_drew)); exact HO172.out))) (Kd.R_lt (by (with_reducible repeat (first | apply Kd.R_alloc | apply Kd.R_drewN | apply Kd.R_drew)); exact HO176.out))) (Kd.R_lt (by (with_reducible repeat (first | apply Kd.R_alloc | apply Kd.R_drewN | apply Kd.R_drew)); exact HO180.out))) (below_size (by repeat (first | (with_reducible first | exact HB.out | apply below_alloc | apply pw_below_drewN | apply below_drew1 | refine below_set ?_ GE162.out | refine below_set ?_ GE163.out) | exact HB.out))))
                        have n6_ := Aside0.mk (blk_below (g := gb162) (o := .cells #[.int .i64 ((rd_T23 y158 (Go.bits .and .i64 a0 3)).f0), .int .i64 ((rd_T23 y158 (Go.bits .and .i64 a0 3)).f1)] 23 (0, 0)) (by (with_reducible repeat (first | refine blk_drewN ?_ _ | refine blk_drew ?_ | refine blk_alloc ?_ _)); exact BK162.out) hb)
                        have n7_ := Aside0.mk (blk_below (g := gb163) (o := .cells #[.int .i64 1, .int .i64 1] 23 (0, 0)) (by (with_reducible repeat (first | refine blk_drewN ?_ _ | refine blk_drew ?_ | refine blk_alloc ?_ _)); exact BK163.out) hb)
                        have n8_ := Aside0.mk (below_step (by repeat (first | (with_reducible first | exact HB.out | apply below_alloc | apply pw_below_drewN | apply below_drew1 | refine below_set ?_ GE162.out | refine below_set ?_ GE163.out) | exact HB.out)) hb)
                        clear HO160
                        clear HO168
                        clear HO172
                        clear HO176
                        clear HO180
                        clear BK162
                        clear BK163
                        clear HB
                        have HO160 := n0_
                        have HO168 := n1_
                        have HO172 := n2_
                        have HO176 := n3_
                        have HO180 := n4_
                        have HO184 := n5_
                        have BK162 := n6_
                        have BK163 := n7_
                        have HB := n8_
                        clear n0_ n1_ n2_ n3_ n4_ n5_ n6_ n7_ n8_
                        (try clear hb)
                        (try clear hb2)
                        (try clear hk)
                        (try clear hi)
                        (try clear ho0)
                        refine hK.out _ _ ⟨(blk_cell BK163.out 0).trans rfl, (blk_cell BK163.out 1).trans rfl⟩ (fun hHeld => ?_)
                        clear hK K
                        refine norm_ (a' := ?_) ?_ ?_
                        rotate_left
                        · show Act.put _ (some 74) _ = _
                          simp only [Act.put, List.setIfInBounds_toArray, List.set_cons_zero, List.set_cons_succ, i64_w, i32_w]
                          rfl
                        refine pure_ (i := 11) (N := some 63) (v := ?_) (a' := ?_) #[true, true, true, true, true, true, true, true, true, true, true, true, false, false, false, false] rfl rfl (any_of HT_.out (by kernel_rfl)) (fun _ _ _ h => h) (Or.inl ⟨by rfl, ?_⟩) ?_ ?_
                        rotate_left
                        · intro w'
                          go_simp
                          with_reducible rfl
                        rotate_left
                        · simp only [Act.put, List.setIfInBounds_toArray, List.set_cons_zero, List.set_cons_succ, i64_w, i32_w]
                          rfl
                        refine pure_ (i := 12) (N := some 75) (v := ?_) (a' := ?_) #[true, true, true, true, true, true, true, true, true, true, true, true, true, false, false, false] rfl rfl (any_of HT_.out (by kernel_rfl)) (fun _ _ _ h => h) (Or.inl ⟨by rfl, ?_⟩) ?_ ?_
                        rotate_left
                        · intro w'
                          go_simp
                          with_reducible rfl
                        rotate_left
                        · simp only [Act.put, List.setIfInBounds_toArray, List.set_cons_zero, List.set_cons_succ, i64_w, i32_w]
                          rfl
                        refine pure_ (i := 13) (N := some 76) (v := ?_) (a' := ?_) #[true, true, true, true, true, true, true, true, true, true, true, true, true, true, false, false] rfl rfl (any_of HT_.out (by kernel_rfl)) (fun _ _ _ h => h) (Or.inl ⟨by rfl, ?_⟩) ?_ ?_
                        rotate_left
                        · intro w'
                          go_simp
                          with_reducible rfl
                        rotate_left
                        · simp only [Act.put, List.setIfInBounds_toArray, List.set_cons_zero, List.set_cons_succ, i64_w, i32_w]
                          rfl
                        refine pure_ (i := 14) (N := some 14) (v := ?_) (a' := ?_) #[true, true, true, true, true, true, true, true, true, true, true, true, true, true, true, false] rfl rfl (any_of HT_.out (by kernel_rfl)) (fun _ _ _ h => h) (Or.inl ⟨by rfl, ?_⟩) ?_ ?_
                        rotate_left
                        · intro w'
                          go_simp
                          with_reducible rfl
                        rotate_left
                        · simp only [Act.put, List.setIfInBounds_toArray, List.set_cons_zero, List.set_cons_succ, i64_w, i32_w]
                          rfl
                        refine pure_ (i := 15) (N := some 15) (v := ?_) (a' := ?_) #[true, true, true, true, true, true, true, true, true, true, true, true, true, true, true, true] rfl rfl (any_of HT_.out (by kernel_rfl)) (fun _ _ _ h => h) (Or.inl ⟨by rfl, ?_⟩) ?_ ?_
                        rotate_left
                        · intro w'
                          go_simp
                          with_reducible rfl
                        rotate_left
                        · simp only [Act.put, List.setIfInBounds_toArray, List.set_cons_zero, List.set_cons_succ, i64_w, i32_w]
                          rfl
                        refine done_ (done_of HT_.out (by kernel_rfl)) ?_
                        have hcz73_0 : w72.cell? ⟨gb162, 0, none⟩ = some (.int .i64 ((rd_T23 y158 (Go.bits .and .i64 a0 3)).f0)) := (blk_cell BK162.out 0).trans rfl
                        have hcz73_1 : w72.cell? ⟨gb162, 1, none⟩ = some (.int .i64 ((rd_T23 y158 (Go.bits .and .i64 a0 3)).f1)) := (blk_cell BK162.out 1).trans rfl
                        have hfz73_0 := blk_frozen BK162.out 0
                        have hfz73_1 := blk_frozen BK162.out 1
                        try go_wp2_with (first | ((with_reducible refine gate_callee (f := 24) rfl ?_); refine goesL_ (some 78) rfl rfl Try.func24 (by kernel_rfl) rfl #[.agg #[.int .i64 ((rd_T23 y158 (Go.bits .and .i64 a0 3)).f0), .int .i64 ((rd_T23 y158 (Go.bits .and .i64 a0 3)).f1)]] rfl (by (try simp only [List.map_toArray, List.map_cons, List.map_nil]); first | done | rfl | (simp only [List.length_drop, List.length_take]; rfl)) ?_; (with_reducible refine (shape_May.calls ((rd_T23 y158 (Go.bits .and .i64 a0 3)).f0) ((rd_T23 y158 (Go.bits .and .i64 a0 3)).f1) false _ A14.out).mono ?_); rintro e w74 ⟨rfl, hb⟩; refine ⟨_, rfl, ?_⟩; have n0_ := Aside0.mk (Kd.R_below (by (with_reducible repeat (first | apply Kd.R_alloc | apply Kd.R_drewN | apply Kd.R_drew)); exact HO160.out) hb); have n1_ := Aside0.mk (Kd.R_below (by (with_reducible repeat (first | apply Kd.R_alloc | apply Kd.R_drewN | apply Kd.R_drew)); exact HO168.out) hb); have n2_ := Aside0.mk (Kd.R_below (by (with_reducible repeat (first | apply Kd.R_alloc | apply Kd.R_drewN | apply Kd.R_drew)); exact HO172.out) hb); have n3_ := Aside0.mk (Kd.R_below (by (with_reducible repeat (first | apply Kd.R_alloc | apply Kd.R_drewN | apply Kd.R_drew)); exact HO176.out) hb); have n4_ := Aside0.mk (Kd.R_below (by (with_reducible repeat (first | apply Kd.R_alloc | apply Kd.R_drewN | apply Kd.R_drew)); exact HO180.out) hb); have n5_ := Aside0.mk (Kd.R_below (by (with_reducible repeat (first | apply Kd.R_alloc | apply Kd.R_drewN | apply Kd.R_drew)); exact HO184.out) hb); have n6_ := Aside0.mk (blk_below (g := gb162) (o := .cells #[.int .i64 ((rd_T23 y158 (Go.bits .and .i64 a0 3)).f0), .int .i64 ((rd_T23 y158 (Go.bits .and .i64 a0 3)).f1)] 23 (0, 0)) (by (with_reducible repeat (first | refine blk_drewN ?_ _ | refine blk_drew ?_ | refine blk_alloc ?_ _)); exact BK162.out) hb); have n7_ := Aside0.mk (blk_below (g := gb163) (o := .cells #[.int .i64 1, .int .i64 1] 23 (0, 0)) (by (with_reducible repeat (first | refine blk_drewN ?_ _ | refine blk_drew ?_ | refine blk_alloc ?_ _)); exact BK163.out) hb); have n8_ := Aside0.mk (below_step (by repeat (first | (with_reducible first | exact HB.out | apply below_alloc | apply pw_below_drewN | apply below_drew1 | refine below_set ?_ GE162.out | refine below_set ?_ GE163.out) | exact HB.out)) hb); clear HO160; clear HO168; clear HO172; clear HO176; clear HO180; clear HO184; clear BK162; clear BK163; clear HB; have HO160 := n0_; have HO168 := n1_; have HO172 := n2_; have HO176 := n3_; have HO180 := n4_; have HO184 := n5_; have BK162 := n6_; have BK163 := n7_; have HB := n8_; clear n0_ n1_ n2_ n3_ n4_ n5_ n6_ n7_ n8_; (try clear hb); (try clear hb2); (try clear hk); (try clear hi); have hcz75_0 : w74.cell? ⟨gb163, 0, none⟩ = some (.int .i64 1) := (blk_cell BK163.out 0).trans rfl; have hcz75_1 : w74.cell? ⟨gb163, 1, none⟩ = some (.int .i64 1) := (blk_cell BK163.out 1).trans rfl; have hfz75_0 := blk_frozen BK163.out 0; have hfz75_1 := blk_frozen BK163.out 1) | (go_at_call 24; (with_reducible refine (shape_May.calls 1 1 true _ A41.out).mono ?_); rintro e w76 ⟨rfl, hb⟩; have n0_ := Aside0.mk (Kd.R_below (by (with_reducible repeat (first | apply Kd.R_alloc | apply Kd.R_drewN | apply Kd.R_drew)); exact HO160.out) hb); have n1_ := Aside0.mk (Kd.R_below (by (with_reducible repeat (first | apply Kd.R_alloc | apply Kd.R_drewN | apply Kd.R_drew)); exact HO168.out) hb); have n2_ := Aside0.mk (Kd.R_below (by (with_reducible repeat (first | apply Kd.R_alloc | apply Kd.R_drewN | apply Kd.R_drew)); exact HO172.out) hb); have n3_ := Aside0.mk (Kd.R_below (by (with_reducible repeat (first | apply Kd.R_alloc | apply Kd.R_drewN | apply Kd.R_drew)); exact HO176.out) hb); have n4_ := Aside0.mk (Kd.R_below (by (with_reducible repeat (first | apply Kd.R_alloc | apply Kd.R_drewN | apply Kd.R_drew)); exact HO180.out) hb); have n5_ := Aside0.mk (Kd.R_below (by (with_reducible repeat (first | apply Kd.R_alloc | apply Kd.R_drewN | apply Kd.R_drew)); exact HO184.out) hb); have n6_ := Aside0.mk (blk_below (g := gb162) (o := .cells #[.int .i64 ((rd_T23 y158 (Go.bits .and .i64 a0 3)).f0), .int .i64 ((rd_T23 y158 (Go.bits .and .i64 a0 3)).f1)] 23 (0, 0)) (by (with_reducible repeat (first | refine blk_drewN ?_ _ | refine blk_drew ?_ | refine blk_alloc ?_ _)); exact BK162.out) hb); have n7_ := Aside0.mk (blk_below (g := gb163) (o := .cells #[.int .i64 1, .int .i64 1] 23 (0, 0)) (by (with_reducible repeat (first | refine blk_drewN ?_ _ | refine blk_drew ?_ | refine blk_alloc ?_ _)); exact BK163.out) hb); have n8_ := Aside0.mk (below_step (by repeat (first | (with_reducible first | exact HB.out | apply below_alloc | apply pw_below_drewN | apply below_drew1 | refine below_set ?_ GE162.out | refine below_set ?_ GE163.out) | exact HB.out)) hb); clear HO160; clear HO168; clear HO172; clear HO176; clear HO180; clear HO184; clear BK162; clear BK163; clear HB; have HO160 := n0_; have HO168 := n1_; have HO172 := n2_; have HO176 := n3_; have HO180 := n4_; have HO184 := n5_; have BK162 := n6_; have BK163 := n7_; have HB := n8_; clear n0_ n1_ n2_ n3_ n4_ n5_ n6_ n7_ n8_; (try clear hb); (try clear hb2); (try clear hk); (try clear hi)) | (go_at_call 22; (with_reducible refine (grafterlaw0_Num.calls t165 t188 _ A43.out).mono ?_); rintro e w' ⟨rfl, ⟨nd, rfl⟩⟩) | (go_at_call 22; (with_reducible refine (grafterlaw0_Num.calls t169 t189 _ A45.out).mono ?_); rintro e w' ⟨rfl, ⟨nd, rfl⟩⟩) | (go_at_call 22; (with_reducible refine (grafterlaw0_Num.calls t177 t190 _ A47.out).mono ?_); rintro e w' ⟨rfl, ⟨nd, rfl⟩⟩) | (go_at_call 22; (with_reducible refine (grafterlaw0_Num.calls t185 t191 _ A49.out).mono ?_); rintro e w' ⟨rfl, ⟨nd, rfl⟩⟩))
                        go_ret
                        exact ⟨by first | rfl | (simp [errW_none, errW_some] <;> rfl) | (simp [*, errW_none, errW_some] <;> rfl), by repeat (first | (with_reducible first | exact HB.out | apply below_alloc | apply pw_below_drewN | apply below_drew1 | refine below_set ?_ GE162.out | refine below_set ?_ GE163.out) | exact HB.out)⟩
                      · rw [if_neg c48] at H
                        have c48b0 : (t190 == 500) = false := beq_eq_false_iff_ne.mpr c48
                        have c48b1 : (t190 != 500) = true := bne_iff_ne.mpr c48
                        exact absurd ((Option.some.inj H).trans HRT.out) Bool.false_ne_true
                    · rw [if_neg c46] at H
                      have c46b0 : (t189 == 500) = false := beq_eq_false_iff_ne.mpr c46
                      have c46b1 : (t189 != 500) = true := bne_iff_ne.mpr c46
                      exact absurd ((Option.some.inj H).trans HRT.out) Bool.false_ne_true
                  · rw [if_neg c44] at H
                    have c44b0 : (t188 == 500) = false := beq_eq_false_iff_ne.mpr c44
                    have c44b1 : (t188 != 500) = true := bne_iff_ne.mpr c44
                    exact absurd ((Option.some.inj H).trans HRT.out) Bool.false_ne_true
                · replace c42 := Bool.eq_false_iff.mpr c42
                  subst c42
                  have H1 : (some false) = some r := by rw [if_neg (show ¬ (false = true) by decide)] at H; exact H
                  clear H
                  have H := H1
                  clear H1
                  exact absurd ((Option.some.inj H).trans HRT.out) Bool.false_ne_true
            · rw [if_neg c12] at H
              exact absurd H (by simp)
          · rw [if_neg c10] at H
            exact absurd H (by simp)
        · rw [if_neg c9] at H
          exact absurd H (by simp)
      · rw [if_neg c6] at H
        exact absurd H (by simp)
    · rw [if_neg c5] at H
      exact absurd H (by simp)
  · replace c4 := Bool.eq_false_iff.mpr c4
    subst c4
    have H1 : (some false) = some r := by rw [if_neg (show ¬ (false = true) by decide)] at H; exact H
    clear H
    have H := H1
    clear H1
    exact absurd ((Option.some.inj H).trans HRT.out) Bool.false_ne_true

/-- THE ONE PURE STATEMENT of grafterlaw5_ShapeForms: yours. -/
def grafterlaw5_ShapeForms.Pure : Prop := ∀ (a0 : Int) (a1 : Int), (Lit.int .i64 a0).wf = true → (Lit.int .i64 a1).wf = true → ∃ k, grafterlaw5_ShapeForms.f k a0 a1 = some true
theorem grafterlaw5_ShapeForms.walk (P : grafterlaw5_ShapeForms.Pure) (a0 : Int) (a1 : Int) (w : World) (w0 : (Lit.int .i64 a0).wf = true) (w1 : (Lit.int .i64 a1).wf = true) :
    Calls Try.prog 4 #[.int .i64 a0, .int .i64 a1] w fun e w' => e = .returned (.bool true) ∧ Below w.heap.size w w' := by
  obtain ⟨k, h⟩ := P a0 a1 w0 w1
  refine (grafterlaw5_ShapeForms.calls k a0 a1 true w rfl h).mono ?_
  rintro e w' ⟨rfl, hd⟩
  exact ⟨rfl, hd⟩

end Go.Proofs.Ytnhlinniodmnjaa.PShapeForms
