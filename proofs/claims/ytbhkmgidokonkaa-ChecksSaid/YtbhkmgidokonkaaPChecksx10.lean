-- Written by a program of this session (pprint.py) out of the translation, with hand-proved walks pasted in.
import Derived.Test.YtbhkmgidokonkaaPChecksx0
import Derived.Test.YtbhkmgidokonkaaPChecksx2
import Derived.Test.YtbhkmgidokonkaaPChecksx3
import Derived.Test.YtbhkmgidokonkaaPChecksx4
import Derived.Test.YtbhkmgidokonkaaPChecksx5
import Derived.Test.YtbhkmgidokonkaaPChecksx7
import Derived.Test.YtbhkmgidokonkaaPChecksx8
import Derived.Test.YtbhkmgidokonkaaPChecksx9
namespace Go.Proofs.Ytbhkmgidokonkaa.PChecks
open Go.RowKit Go.Proofs.YtbhkmgidokonkaaW.PrintWords Go.Proofs.YtbhkmgidokonkaaW.PrintLast Go.Proofs.YtbhkmgidokonkaaW.PrintMore
attribute [local go_sem] max2_int min2_int max_two min_two max_three min_three max_four min_four   -- for this text's walks alone
set_option linter.unusedVariables false
set_option linter.unusedSimpArgs false

/-! ### grafterlaw14_Checks: function 14 (SPOILT) -/
mutual
def grafterlaw14_Checks.j0 : Nat → ByteArray → Int → Int → Int → ByteArray → Int → Bool → List Int → List Int → Int → Int → Int → List Int → List Int → Int → Int → Int → List Int → List Int → Int → Int → Int → List Int → List Int → Int → Int → Int → Option (Bool)
  | 0, _, _, _, _, _, _, _, _, _, _, _, _, _, _, _, _, _, _, _, _, _, _, _, _, _, _, _ => none
  | k + 1, x1, x7, x11, x15, x16, x17, x77, x288000, x288001, x288002, x288003, x288004, x298000, x298001, x298002, x298003, x298004, x313000, x313001, x313002, x313003, x313004, x335000, x335001, x335002, x335003, x335004 => if x77 = true then (some false) else ((grafterlaw0_Num.f x7).bind fun t342 => (if t342 = 0 then ((grafterlaw0_SameCheck.f k x335000 x335001 x335002 x335003 x335004 x288000 x288001 x288002 x288003 x288004).bind fun t343 => (if t343 = true then ((grafterlaw0_Num.f x15).bind fun t344 => (if t344 = 0 then ((grafterlaw0_Num.f x11).bind fun t345 => (if t345 = 0 then (if x16.toList = x1.toList then ((grafterlaw0_Num.f x17).bind fun t346 => (grafterlaw14_Checks.j1 k (t346 != 0) x288000 x288001 x288002 x288003 x288004 x298000 x298001 x298002 x298003 x298004 x313000 x313001 x313002 x313003 x313004)) else (grafterlaw14_Checks.j1 k true x288000 x288001 x288002 x288003 x288004 x298000 x298001 x298002 x298003 x298004 x313000 x313001 x313002 x313003 x313004)) else (grafterlaw14_Checks.j1 k false x288000 x288001 x288002 x288003 x288004 x298000 x298001 x298002 x298003 x298004 x313000 x313001 x313002 x313003 x313004))) else (grafterlaw14_Checks.j1 k true x288000 x288001 x288002 x288003 x288004 x298000 x298001 x298002 x298003 x298004 x313000 x313001 x313002 x313003 x313004))) else (grafterlaw14_Checks.j1 k true x288000 x288001 x288002 x288003 x288004 x298000 x298001 x298002 x298003 x298004 x313000 x313001 x313002 x313003 x313004))) else ((grafterlaw0_Num.f x11).bind fun t347 => (if t347 = 0 then (if x16.toList = x1.toList then ((grafterlaw0_Num.f x17).bind fun t348 => (grafterlaw14_Checks.j1 k (t348 != 0) x288000 x288001 x288002 x288003 x288004 x298000 x298001 x298002 x298003 x298004 x313000 x313001 x313002 x313003 x313004)) else (grafterlaw14_Checks.j1 k true x288000 x288001 x288002 x288003 x288004 x298000 x298001 x298002 x298003 x298004 x313000 x313001 x313002 x313003 x313004)) else (grafterlaw14_Checks.j1 k false x288000 x288001 x288002 x288003 x288004 x298000 x298001 x298002 x298003 x298004 x313000 x313001 x313002 x313003 x313004)))))
def grafterlaw14_Checks.j1 : Nat → Bool → List Int → List Int → Int → Int → Int → List Int → List Int → Int → Int → Int → List Int → List Int → Int → Int → Int → Option (Bool)
  | 0, _, _, _, _, _, _, _, _, _, _, _, _, _, _, _, _ => none
  | k + 1, x106, x288000, x288001, x288002, x288003, x288004, x298000, x298001, x298002, x298003, x298004, x313000, x313001, x313002, x313003, x313004 => if x106 = true then (some false) else ((grafterlaw0_SpoilCheck.f k x313000 x313001 x313002 x313003 x313004).bind fun t349 => ((grafterlaw0_SameCheck.f k x298000 x298001 x298002 x298003 x298004 x288000 x288001 x288002 x288003 x288004).bind fun t350 => (if t350 = true then ((grafterlaw14_awake.f k).bind fun t351 => (some t351)) else (some false))))
end
def grafterlaw14_Checks.f (k : Nat) (l0_0 : List Int) (l0_1 : List Int) (a0_2 : Int) (a0_3 : Int) (a0_4 : Int) (a1 : ByteArray) : Option (Bool) := (grafterlaw0_CopyCheck.f l0_0 l0_1 a0_2 a0_3 a0_4).bind fun bt288 => ((check_Put.f k bt288.1 bt288.2.1 bt288.2.2.1 bt288.2.2.2.1 bt288.2.2.2.2).bind fun bt298 => ((grafterref12_PutCheck.f k l0_0 l0_1 a0_2 a0_3 a0_4).bind fun bt300 => ((check_Get.f k a1).bind fun bt302 => ((grafterref12_GetCheck.f k a1).bind fun bt313 => ((check_Get.f k bt298.1).bind fun bt324 => ((check_Put.f k bt302.1 bt302.2.1 bt302.2.2.1 bt302.2.2.2.1 bt302.2.2.2.2.1).bind fun bt335 => (if bt298.1.toList = bt300.1.toList then ((grafterlaw0_Num.f bt298.2).bind fun t337 => (if t337 = bt300.2 then ((grafterlaw0_SameCheck.f k bt302.1 bt302.2.1 bt302.2.2.1 bt302.2.2.2.1 bt302.2.2.2.2.1 bt313.1 bt313.2.1 bt313.2.2.1 bt313.2.2.2.1 bt313.2.2.2.2.1).bind fun t338 => (if t338 = true then ((grafterlaw0_Num.f bt302.2.2.2.2.2).bind fun t339 => (if t339 = bt313.2.2.2.2.2 then ((check_May.f k bt288.1 bt288.2.1 bt288.2.2.1 bt288.2.2.2.1 bt288.2.2.2.2).bind fun t340 => ((grafterref12_CheckMay.f k l0_0 l0_1 a0_2 a0_3 a0_4).bind fun t341 => (grafterlaw14_Checks.j0 k a1 bt298.2 bt302.2.2.2.2.2 bt324.2.2.2.2.2 bt335.1 bt335.2 (t340 != t341) l0_0 l0_1 a0_2 a0_3 a0_4 bt288.1 bt288.2.1 bt288.2.2.1 bt288.2.2.2.1 bt288.2.2.2.2 bt302.1 bt302.2.1 bt302.2.2.1 bt302.2.2.2.1 bt302.2.2.2.2.1 bt324.1 bt324.2.1 bt324.2.2.1 bt324.2.2.2.1 bt324.2.2.2.2.1))) else (grafterlaw14_Checks.j0 k a1 bt298.2 bt302.2.2.2.2.2 bt324.2.2.2.2.2 bt335.1 bt335.2 true l0_0 l0_1 a0_2 a0_3 a0_4 bt288.1 bt288.2.1 bt288.2.2.1 bt288.2.2.2.1 bt288.2.2.2.2 bt302.1 bt302.2.1 bt302.2.2.1 bt302.2.2.2.1 bt302.2.2.2.2.1 bt324.1 bt324.2.1 bt324.2.2.1 bt324.2.2.2.1 bt324.2.2.2.2.1))) else (grafterlaw14_Checks.j0 k a1 bt298.2 bt302.2.2.2.2.2 bt324.2.2.2.2.2 bt335.1 bt335.2 true l0_0 l0_1 a0_2 a0_3 a0_4 bt288.1 bt288.2.1 bt288.2.2.1 bt288.2.2.2.1 bt288.2.2.2.2 bt302.1 bt302.2.1 bt302.2.2.1 bt302.2.2.2.1 bt302.2.2.2.2.1 bt324.1 bt324.2.1 bt324.2.2.1 bt324.2.2.2.1 bt324.2.2.2.2.1))) else (grafterlaw14_Checks.j0 k a1 bt298.2 bt302.2.2.2.2.2 bt324.2.2.2.2.2 bt335.1 bt335.2 true l0_0 l0_1 a0_2 a0_3 a0_4 bt288.1 bt288.2.1 bt288.2.2.1 bt288.2.2.2.1 bt288.2.2.2.2 bt302.1 bt302.2.1 bt302.2.2.1 bt302.2.2.2.1 bt302.2.2.2.2.1 bt324.1 bt324.2.1 bt324.2.2.1 bt324.2.2.2.1 bt324.2.2.2.2.1))) else (grafterlaw14_Checks.j0 k a1 bt298.2 bt302.2.2.2.2.2 bt324.2.2.2.2.2 bt335.1 bt335.2 true l0_0 l0_1 a0_2 a0_3 a0_4 bt288.1 bt288.2.1 bt288.2.2.1 bt288.2.2.2.1 bt288.2.2.2.2 bt302.1 bt302.2.1 bt302.2.2.1 bt302.2.2.2.1 bt302.2.2.2.2.1 bt324.1 bt324.2.1 bt324.2.2.1 bt324.2.2.2.1 bt324.2.2.2.2.1))))))))
theorem grafterlaw14_Checks.mono_l : ∀ k, (∀ y0 y1 y2 y3 y4 y5 y6 y7 y8 y9 y10 y11 y12 y13 y14 y15 y16 y17 y18 y19 y20 y21 y22 y23 y24 y25 y26, LeO (grafterlaw14_Checks.j0 k y0 y1 y2 y3 y4 y5 y6 y7 y8 y9 y10 y11 y12 y13 y14 y15 y16 y17 y18 y19 y20 y21 y22 y23 y24 y25 y26) (grafterlaw14_Checks.j0 (k + 1) y0 y1 y2 y3 y4 y5 y6 y7 y8 y9 y10 y11 y12 y13 y14 y15 y16 y17 y18 y19 y20 y21 y22 y23 y24 y25 y26)) ∧ (∀ y0 y1 y2 y3 y4 y5 y6 y7 y8 y9 y10 y11 y12 y13 y14 y15, LeO (grafterlaw14_Checks.j1 k y0 y1 y2 y3 y4 y5 y6 y7 y8 y9 y10 y11 y12 y13 y14 y15) (grafterlaw14_Checks.j1 (k + 1) y0 y1 y2 y3 y4 y5 y6 y7 y8 y9 y10 y11 y12 y13 y14 y15))
  | 0 => ⟨fun _ _ _ _ _ _ _ _ _ _ _ _ _ _ _ _ _ _ _ _ _ _ _ _ _ _ _ r h => by simp [grafterlaw14_Checks.j0] at h, fun _ _ _ _ _ _ _ _ _ _ _ _ _ _ _ _ r h => by simp [grafterlaw14_Checks.j1] at h⟩
  | k + 1 => by
    obtain ⟨ih0, ih1⟩ := grafterlaw14_Checks.mono_l k
    refine ⟨?_, ?_⟩
    · intro y0 y1 y2 y3 y4 y5 y6 y7 y8 y9 y10 y11 y12 y13 y14 y15 y16 y17 y18 y19 y20 y21 y22 y23 y24 y25 y26
      unfold grafterlaw14_Checks.j0
      repeat' first
      | (with_reducible exact ih0 _ _ _ _ _ _ _ _ _ _ _ _ _ _ _ _ _ _ _ _ _ _ _ _ _ _ _)
      | (with_reducible exact ih1 _ _ _ _ _ _ _ _ _ _ _ _ _ _ _ _)
      | (with_reducible exact check_Get.mono _ _)
      | (with_reducible exact check_May.mono _ _ _ _ _ _)
      | (with_reducible exact check_Put.mono _ _ _ _ _ _)
      | (with_reducible exact grafterlaw0_SameCheck.mono _ _ _ _ _ _ _ _ _ _ _)
      | (with_reducible exact grafterlaw0_SpoilCheck.mono _ _ _ _ _ _)
      | (with_reducible exact grafterlaw14_awake.mono _)
      | (with_reducible exact grafterref12_CheckMay.mono _ _ _ _ _ _)
      | (with_reducible exact grafterref12_GetCheck.mono _ _)
      | (with_reducible exact grafterref12_PutCheck.mono _ _ _ _ _ _)
      | (with_reducible exact LeO.refl _)
      | (with_reducible exact LeO.none _)
      | (with_reducible refine LeO.ite ?_ ?_)
      | (with_reducible refine LeO.bind ?_ (fun _ => ?_))
      | exact ih0 _ _ _ _ _ _ _ _ _ _ _ _ _ _ _ _ _ _ _ _ _ _ _ _ _ _ _
      | exact ih1 _ _ _ _ _ _ _ _ _ _ _ _ _ _ _ _
      | exact check_Get.mono _ _
      | exact check_May.mono _ _ _ _ _ _
      | exact check_Put.mono _ _ _ _ _ _
      | exact grafterlaw0_SameCheck.mono _ _ _ _ _ _ _ _ _ _ _
      | exact grafterlaw0_SpoilCheck.mono _ _ _ _ _ _
      | exact grafterlaw14_awake.mono _
      | exact grafterref12_CheckMay.mono _ _ _ _ _ _
      | exact grafterref12_GetCheck.mono _ _
      | exact grafterref12_PutCheck.mono _ _ _ _ _ _
      | exact LeO.none _
      | refine LeO.ite ?_ ?_
      | refine LeO.bind ?_ (fun _ => ?_)
    · intro y0 y1 y2 y3 y4 y5 y6 y7 y8 y9 y10 y11 y12 y13 y14 y15
      unfold grafterlaw14_Checks.j1
      repeat' first
      | (with_reducible exact ih0 _ _ _ _ _ _ _ _ _ _ _ _ _ _ _ _ _ _ _ _ _ _ _ _ _ _ _)
      | (with_reducible exact ih1 _ _ _ _ _ _ _ _ _ _ _ _ _ _ _ _)
      | (with_reducible exact check_Get.mono _ _)
      | (with_reducible exact check_May.mono _ _ _ _ _ _)
      | (with_reducible exact check_Put.mono _ _ _ _ _ _)
      | (with_reducible exact grafterlaw0_SameCheck.mono _ _ _ _ _ _ _ _ _ _ _)
      | (with_reducible exact grafterlaw0_SpoilCheck.mono _ _ _ _ _ _)
      | (with_reducible exact grafterlaw14_awake.mono _)
      | (with_reducible exact grafterref12_CheckMay.mono _ _ _ _ _ _)
      | (with_reducible exact grafterref12_GetCheck.mono _ _)
      | (with_reducible exact grafterref12_PutCheck.mono _ _ _ _ _ _)
      | (with_reducible exact LeO.refl _)
      | (with_reducible exact LeO.none _)
      | (with_reducible refine LeO.ite ?_ ?_)
      | (with_reducible refine LeO.bind ?_ (fun _ => ?_))
      | exact ih0 _ _ _ _ _ _ _ _ _ _ _ _ _ _ _ _ _ _ _ _ _ _ _ _ _ _ _
      | exact ih1 _ _ _ _ _ _ _ _ _ _ _ _ _ _ _ _
      | exact check_Get.mono _ _
      | exact check_May.mono _ _ _ _ _ _
      | exact check_Put.mono _ _ _ _ _ _
      | exact grafterlaw0_SameCheck.mono _ _ _ _ _ _ _ _ _ _ _
      | exact grafterlaw0_SpoilCheck.mono _ _ _ _ _ _
      | exact grafterlaw14_awake.mono _
      | exact grafterref12_CheckMay.mono _ _ _ _ _ _
      | exact grafterref12_GetCheck.mono _ _
      | exact grafterref12_PutCheck.mono _ _ _ _ _ _
      | exact LeO.none _
      | refine LeO.ite ?_ ?_
      | refine LeO.bind ?_ (fun _ => ?_)
theorem grafterlaw14_Checks.mono : ∀ a0 a1 a2 a3 a4 a5 k, LeO (grafterlaw14_Checks.f k a0 a1 a2 a3 a4 a5) (grafterlaw14_Checks.f (k + 1) a0 a1 a2 a3 a4 a5) := by
  intro a0 a1 a2 a3 a4 a5 k
  obtain ⟨ih0, ih1⟩ := grafterlaw14_Checks.mono_l k
  unfold grafterlaw14_Checks.f
  repeat' first
      | (with_reducible exact ih0 _ _ _ _ _ _ _ _ _ _ _ _ _ _ _ _ _ _ _ _ _ _ _ _ _ _ _)
      | (with_reducible exact ih1 _ _ _ _ _ _ _ _ _ _ _ _ _ _ _ _)
      | (with_reducible exact check_Get.mono _ _)
      | (with_reducible exact check_May.mono _ _ _ _ _ _)
      | (with_reducible exact check_Put.mono _ _ _ _ _ _)
      | (with_reducible exact grafterlaw0_SameCheck.mono _ _ _ _ _ _ _ _ _ _ _)
      | (with_reducible exact grafterlaw0_SpoilCheck.mono _ _ _ _ _ _)
      | (with_reducible exact grafterlaw14_awake.mono _)
      | (with_reducible exact grafterref12_CheckMay.mono _ _ _ _ _ _)
      | (with_reducible exact grafterref12_GetCheck.mono _ _)
      | (with_reducible exact grafterref12_PutCheck.mono _ _ _ _ _ _)
      | (with_reducible exact LeO.refl _)
      | (with_reducible exact LeO.none _)
      | (with_reducible refine LeO.ite ?_ ?_)
      | (with_reducible refine LeO.bind ?_ (fun _ => ?_))
      | exact ih0 _ _ _ _ _ _ _ _ _ _ _ _ _ _ _ _ _ _ _ _ _ _ _ _ _ _ _
      | exact ih1 _ _ _ _ _ _ _ _ _ _ _ _ _ _ _ _
      | exact check_Get.mono _ _
      | exact check_May.mono _ _ _ _ _ _
      | exact check_Put.mono _ _ _ _ _ _
      | exact grafterlaw0_SameCheck.mono _ _ _ _ _ _ _ _ _ _ _
      | exact grafterlaw0_SpoilCheck.mono _ _ _ _ _ _
      | exact grafterlaw14_awake.mono _
      | exact grafterref12_CheckMay.mono _ _ _ _ _ _
      | exact grafterref12_GetCheck.mono _ _
      | exact grafterref12_PutCheck.mono _ _ _ _ _ _
      | exact LeO.none _
      | refine LeO.ite ?_ ?_
      | refine LeO.bind ?_ (fun _ => ?_)
def grafterlaw14_Checks.T8 : Bool × List (List Nat × List Nat) := (true, [([], []), ([], []), ([0, 1], [0, 1]), ([2], [2]), ([3], [3]), ([4, 3, 3], [3, 4]), ([3], [3]), ([5, 6, 3], [3, 5, 6]), ([3, 7], [3, 7]), ([8, 5], [8]), ([9], [9]), ([9], [9]), ([10, 11, 9, 9], [9, 10, 11]), ([12, 9], [9, 12]), ([9, 13], [9, 13]), ([14, 12], [14]), ([15], [15]), ([16, 15, 15], [15, 16]), ([15], [15]), ([17, 18, 15], [15, 17, 18]), ([15, 19], [15, 19]), ([20, 17], [20]), ([21], [21]), ([22, 21, 21], [21, 22]), ([21], [21]), ([24, 23, 21], [21, 24]), ([23, 25, 21], [21, 23, 25]), ([21, 26], [21, 26])])
def grafterlaw14_Checks.B8 : List Nat := [0, 0, 3, 7, 15, 31, 15, 127, 255, 511, 1023, 1023, 4095, 8191, 16383, 32767, 65535, 131071, 65535, 524287, 1048575, 2097151, 4194303, 8388607, 4194303, 33554431, 67108863, 134217727]
theorem grafterlaw14_Checks.tab8 : rtab .any (opsOf Try.f14 8) = grafterlaw14_Checks.T8 := by kernel_rfl
theorem grafterlaw14_Checks.bits8 : waitsOk grafterlaw14_Checks.T8.2 grafterlaw14_Checks.B8 = true := by kernel_rfl
theorem Checks_j0t {k : Nat} {x1 : ByteArray} {x7 x11 x15 : Int} {x16 : ByteArray} {x17 : Int} {a b : List Int} {c d e : Int} {a1 b1 : List Int} {c1 d1 e1 : Int} {a2 b2 : List Int} {c2 d2 e2 : Int} {a3 b3 : List Int} {c3 d3 e3 : Int} {r : Bool} (h : grafterlaw14_Checks.j0 k x1 x7 x11 x15 x16 x17 true a b c d e a1 b1 c1 d1 e1 a2 b2 c2 d2 e2 a3 b3 c3 d3 e3 = some r) : false = r := by
  cases k with
  | zero => simp [grafterlaw14_Checks.j0] at h
  | succ k =>
    rw [grafterlaw14_Checks.j0, if_pos rfl] at h
    exact Option.some.inj h
theorem Checks_j1t {k : Nat} {a b : List Int} {c d e : Int} {a1 b1 : List Int} {c1 d1 e1 : Int} {a2 b2 : List Int} {c2 d2 e2 : Int} {r : Bool} (h : grafterlaw14_Checks.j1 k true a b c d e a1 b1 c1 d1 e1 a2 b2 c2 d2 e2 = some r) : false = r := by
  cases k with
  | zero => simp [grafterlaw14_Checks.j1] at h
  | succ k =>
    rw [grafterlaw14_Checks.j1, if_pos rfl] at h
    exact Option.some.inj h
set_option maxHeartbeats 8000000 in
set_option maxRecDepth 100000 in
theorem grafterlaw14_Checks.calls (k : Nat) (A0_0 : Option Addr) (c0_0 : Nat) (l0_0 : List Int) (A0_1 : Option Addr) (c0_1 : Nat) (l0_1 : List Int) (a0_2 : Int) (a0_3 : Int) (a0_4 : Int) (a1 : ByteArray) (r : Bool) (w : World) (hrt : r = true) (hr0_0 : Kd.C (Kd.int .i64) w A0_0 l0_0.length l0_0) (hc0_0 : l0_0.length ≤ c0_0) (hr0_1 : Kd.C (Kd.int .i64) w A0_1 l0_1.length l0_1) (hc0_1 : l0_1.length ≤ c0_1) (h : grafterlaw14_Checks.f k l0_0 l0_1 a0_2 a0_3 a0_4 a1 = some r) :
    Calls Try.prog 14 #[.agg #[.slice A0_0 l0_0.length c0_0, .slice A0_1 l0_1.length c0_1, .int .i64 a0_2, .int .i64 a0_3, .int .i64 a0_4], .string a1] w fun e w' => e = .returned (.bool r) ∧ Below w.heap.size w w' := by
 have HRT := Aside0.mk hrt
 clear hrt
 have hu56 := Try.underlying56
 have HR0_0 := Aside0.mk hr0_0
 have cQ := Aside0.mk hc0_0
 clear hr0_0 hc0_0
 have HR0_1 := Aside0.mk hr0_1
 have cP := Aside0.mk hc0_1
 clear hr0_1 hc0_1
 have HB := Aside0.mk (Below.refl w.heap.size w)
 have H := h
 clear h
 unfold grafterlaw14_Checks.f at H
 replace H := Option.bind_eq_some_iff.mp H
 obtain ⟨⟨t288, t291, t294, t295, t296⟩, A30, H⟩ := H
 (try dsimp only at H)
 have A3 := Aside0.mk A30
 clear A30
 replace H := Option.bind_eq_some_iff.mp H
 obtain ⟨⟨t298, t299⟩, A40, H⟩ := H
 (try dsimp only at H)
 have A4 := Aside0.mk A40
 clear A40
 replace H := Option.bind_eq_some_iff.mp H
 obtain ⟨⟨t300, t301⟩, A50, H⟩ := H
 (try dsimp only at H)
 have A5 := Aside0.mk A50
 clear A50
 replace H := Option.bind_eq_some_iff.mp H
 obtain ⟨⟨t302, t305, t308, t309, t310, t311⟩, A60, H⟩ := H
 (try dsimp only at H)
 have A6 := Aside0.mk A60
 clear A60
 replace H := Option.bind_eq_some_iff.mp H
 obtain ⟨⟨t313, t316, t319, t320, t321, t322⟩, A70, H⟩ := H
 (try dsimp only at H)
 have A7 := Aside0.mk A70
 clear A70
 replace H := Option.bind_eq_some_iff.mp H
 obtain ⟨⟨t324, t327, t330, t331, t332, t333⟩, A80, H⟩ := H
 (try dsimp only at H)
 have A8 := Aside0.mk A80
 clear A80
 replace H := Option.bind_eq_some_iff.mp H
 obtain ⟨⟨t335, t336⟩, A90, H⟩ := H
 (try dsimp only at H)
 have A9 := Aside0.mk A90
 clear A90
 have cS := Aside0.mk H
 clear H
 go_enter Try.func14, Try.ntmps14
 go_upto_region 8 with (first | ((with_reducible refine gate_dst (N := 2) rfl ?_); refine box_event ?hg (N := 2) ?hd (cs := #[.slice A0_0 l0_0.length c0_0, .slice A0_1 l0_1.length c0_1, .int .i64 a0_2, .int .i64 a0_3, .int .i64 a0_4]) (t := 56) ?hr ?_; (case hd => rfl); (case hg => rfl); (case hr => first | (go_simp; done) | (go_simp; rfl)); intro aF hg w11 hbox hb; have n0_ := Aside0.mk (below_step (by repeat (first | (with_reducible first | exact HB.out | apply below_alloc | apply pw_below_drewN | apply below_drew1) | exact HB.out)) hb); have n1_ := Aside0.mk (hbox); have n2_ := Aside0.mk ((by rw [hg]; exact (below_size (by repeat (first | (with_reducible first | exact HB.out | apply below_alloc | apply pw_below_drewN | apply below_drew1) | exact HB.out))) : w.heap.size ≤ aF)); have n3_ := Aside0.mk ((by rw [hg]; exact (below_size (by repeat (first | (with_reducible first | exact HB.out | apply below_alloc | apply pw_below_drewN | apply below_drew1) | exact HB.out))) : w.heap.size ≤ aF)); clear HB; have HB := n0_; have aA := n1_; have GW287 := n2_; have aM := n3_; clear n0_ n1_ n2_ n3_; clear hb hbox hg; obtain ⟨hcz12_0, hcz12_1, hcz12_2, hcz12_3, hcz12_4, hfz12_0, hfz12_1, hfz12_2, hfz12_3, hfz12_4⟩ := Blk.blk5 (show w11.heap[aF]? = some (.cells #[.slice A0_0 l0_0.length c0_0, .slice A0_1 l0_1.length c0_1, .int .i64 a0_2, .int .i64 a0_3, .int .i64 a0_4] _ (0, 0)) from aA.out)) | ((with_reducible refine gate_callee (f := 38) rfl ?_); refine goesL_ (some 19) rfl rfl Try.func38 (by kernel_rfl) rfl #[.agg #[.slice A0_0 l0_0.length c0_0, .slice A0_1 l0_1.length c0_1, .int .i64 a0_2, .int .i64 a0_3, .int .i64 a0_4]] rfl (by (try simp only [List.map_toArray, List.map_cons, List.map_nil]); first | done | rfl | (simp only [List.length_drop, List.length_take]; rfl)) ?_; (with_reducible refine (grafterlaw0_CopyCheck.calls _ _ l0_0 _ _ l0_1 a0_2 a0_3 a0_4 t288 t291 t294 t295 t296 _ ?side1 ?side2 ?side3 ?side4 A3.out).mono ?_); (case side1 => repeat (first | (with_reducible refine Kd.C_alloc ?_ _) | (with_reducible refine Kd.C_drewN ?_ _) | (with_reducible refine Kd.C_drew ?_) | exact (Kd.C_below HR0_0.out HB.out))); (case side2 => exact cQ.out); (case side3 => repeat (first | (with_reducible refine Kd.C_alloc ?_ _) | (with_reducible refine Kd.C_drewN ?_ _) | (with_reducible refine Kd.C_drew ?_) | exact (Kd.C_below HR0_1.out HB.out))); (case side4 => exact cP.out); rintro e w13 ⟨v289, v292, rfl, ho0, ho1, hb⟩; refine ⟨_, rfl, ?_⟩; have n0_ := Aside0.mk (Kd.R_lower ho0 (below_size (by repeat (first | (with_reducible first | exact HB.out | apply below_alloc | apply pw_below_drewN | apply below_drew1 | refine below_set ?_ aM.out) | exact HB.out)))); have n1_ := Aside0.mk (Kd.R_lower ho1 (below_size (by repeat (first | (with_reducible first | exact HB.out | apply below_alloc | apply pw_below_drewN | apply below_drew1 | refine below_set ?_ aM.out) | exact HB.out)))); have n2_ := Aside0.mk (blk_below (g := aF) (o := .cells #[.slice A0_0 l0_0.length c0_0, .slice A0_1 l0_1.length c0_1, .int .i64 a0_2, .int .i64 a0_3, .int .i64 a0_4] 56 (0, 0)) (by (with_reducible repeat (first | refine blk_drewN ?_ _ | refine blk_drew ?_ | refine blk_alloc ?_ _)); exact aA.out) hb); have n3_ := Aside0.mk (below_step (by repeat (first | (with_reducible first | exact HB.out | apply below_alloc | apply pw_below_drewN | apply below_drew1 | refine below_set ?_ aM.out) | exact HB.out)) hb); clear aA; clear HB; have aH := n0_; have aG := n1_; have aA := n2_; have HB := n3_; clear n0_ n1_ n2_ n3_; (try clear hb); (try clear hb2); (try clear hk); (try clear hi); (try clear ho0); (try clear ho1)) | ((with_reducible refine gate_dst (N := 5) rfl ?_); refine box_event ?hg (N := 5) ?hd (cs := #[.slice none 0 0, .slice none 0 0, .int .i64 0, .int .i64 0, .int .i64 0]) (t := 56) ?hr ?_; (case hd => rfl); (case hg => rfl); (case hr => first | (go_simp; done) | (go_simp; rfl)); intro aE hg w14 hbox hb; have n0_ := Aside0.mk (Kd.R_below (by (with_reducible repeat (first | apply Kd.R_alloc | apply Kd.R_drewN | apply Kd.R_drew)); exact aH.out) hb); have n1_ := Aside0.mk (Kd.R_below (by (with_reducible repeat (first | apply Kd.R_alloc | apply Kd.R_drewN | apply Kd.R_drew)); exact aG.out) hb); have n2_ := Aside0.mk (blk_below (g := aF) (o := .cells #[.slice A0_0 l0_0.length c0_0, .slice A0_1 l0_1.length c0_1, .int .i64 a0_2, .int .i64 a0_3, .int .i64 a0_4] 56 (0, 0)) (by (with_reducible repeat (first | refine blk_drewN ?_ _ | refine blk_drew ?_ | refine blk_alloc ?_ _)); exact aA.out) hb); have n3_ := Aside0.mk (below_step (by repeat (first | (with_reducible first | exact HB.out | apply below_alloc | apply pw_below_drewN | apply below_drew1 | refine below_set ?_ aM.out) | exact HB.out)) hb); have n4_ := Aside0.mk (hbox); have n5_ := Aside0.mk ((by rw [hg]; exact (below_size (by repeat (first | (with_reducible first | exact HB.out | apply below_alloc | apply pw_below_drewN | apply below_drew1 | refine below_set ?_ aM.out) | exact HB.out))) : w.heap.size ≤ aE)); have n6_ := Aside0.mk ((by rw [hg]; exact (below_size (by repeat (first | (with_reducible first | exact HB.out | apply below_alloc | apply pw_below_drewN | apply below_drew1 | refine below_set ?_ aM.out) | exact HB.out))) : w.heap.size ≤ aE)); have n7_ := Aside0.mk ((by rw [hg]; exact Nat.ne_of_lt (blk_lt (g := aF) (o := .cells #[.slice A0_0 l0_0.length c0_0, .slice A0_1 l0_1.length c0_1, .int .i64 a0_2, .int .i64 a0_3, .int .i64 a0_4] 56 (0, 0)) (by (with_reducible repeat (first | refine blk_drewN ?_ _ | refine blk_drew ?_ | refine blk_alloc ?_ _)); exact aA.out)) : aF ≠ aE)); have n8_ := Aside0.mk ((by rw [hg]; exact Nat.ne_of_gt (blk_lt (g := aF) (o := .cells #[.slice A0_0 l0_0.length c0_0, .slice A0_1 l0_1.length c0_1, .int .i64 a0_2, .int .i64 a0_3, .int .i64 a0_4] 56 (0, 0)) (by (with_reducible repeat (first | refine blk_drewN ?_ _ | refine blk_drew ?_ | refine blk_alloc ?_ _)); exact aA.out)) : aE ≠ aF)); clear aH; clear aG; clear aA; clear HB; have aH := n0_; have aG := n1_; have aA := n2_; have HB := n3_; have aB := n4_; have GW297 := n5_; have aV := n6_; have bY := n7_; have cH := n8_; clear n0_ n1_ n2_ n3_ n4_ n5_ n6_ n7_ n8_; clear hb hbox hg; obtain ⟨aS, aQ, eo15⟩ := Kd.R_slice aH.out; subst eo15; have hnb16 := cH.out; have hnc16 := bY.out; obtain ⟨hcz17_0, hcz17_1, hcz17_2, hcz17_3, hcz17_4, hfz17_0, hfz17_1, hfz17_2, hfz17_3, hfz17_4⟩ := Blk.blk5 (show w14.heap[aE]? = some (.cells #[.slice none 0 0, .slice none 0 0, .int .i64 0, .int .i64 0, .int .i64 0] _ (0, 0)) from aB.out); obtain ⟨aR, aP, eo18⟩ := Kd.R_slice aG.out; subst eo18) | ((with_reducible refine gate_store (t := 56) (p := 5) rfl ?_); refine store_event (t := 56) (p := 5) (v := ?vo_w19) (w1 := (((((w14.setCell ⟨aE, 0, none⟩ (.slice aS t288.length aQ)).setCell ⟨aE, 1, none⟩ (.slice aR t291.length aP)).setCell ⟨aE, 2, none⟩ (.int .i64 t294)).setCell ⟨aE, 3, none⟩ (.int .i64 t295)).setCell ⟨aE, 4, none⟩ (.int .i64 t296))) ?hg ?ho ?hn ?hr ?_; (case ho => rfl); (case hg => rfl); (case hn => rfl); (case hr => first | (go_simp; done) | (go_simp; rfl)); intro w19 hw; have n0_ : Aside0 (Kd.R (Kd.int .i64) 3 w19 w.heap.size (fun k_ => some k_ ≠ (.slice aR t291.length aP : Value).ownBlock) (.slice aS t288.length aQ) t288) := ⟨(by rw [hw]; exact (by (with_reducible repeat (first | apply Kd.R_alloc | apply Kd.R_drewN | apply Kd.R_drew)); exact Kd.R_mono (Blk.R_far5 (g := aE) (Kd.R_types aH.out aB.out (by decide)) (fun _ hk => hk.2) _ _ _ _ _) (fun _ hk => hk.1)))⟩; have n1_ : Aside0 (Kd.R (Kd.int .i64) 3 w19 w.heap.size (fun k_ => some k_ ≠ (.slice aS t288.length aQ : Value).ownBlock) (.slice aR t291.length aP) t291) := ⟨(by rw [hw]; exact (by (with_reducible repeat (first | apply Kd.R_alloc | apply Kd.R_drewN | apply Kd.R_drew)); exact Kd.R_mono (Blk.R_far5 (g := aE) (Kd.R_types aG.out aB.out (by decide)) (fun _ hk => hk.2) _ _ _ _ _) (fun _ hk => hk.1)))⟩; have n2_ : Aside0 (w19.heap[aF]? = some (.cells #[.slice A0_0 l0_0.length c0_0, .slice A0_1 l0_1.length c0_1, .int .i64 a0_2, .int .i64 a0_3, .int .i64 a0_4] 56 (0, 0))) := ⟨(by rw [hw]; exact (by (with_reducible repeat (first | refine blk_drewN ?_ _ | refine blk_drew ?_ | refine blk_alloc ?_ _)); refine Blk.blk_far5 ?_ bY.out _ _ _ _ _; (with_reducible repeat (first | refine blk_drewN ?_ _ | refine blk_drew ?_ | refine blk_alloc ?_ _)); exact aA.out))⟩; have n3_ : Aside0 (w19.heap[aE]? = some (.cells #[.slice aS t288.length aQ, .slice aR t291.length aP, .int .i64 t294, .int .i64 t295, .int .i64 t296] 56 (0, 0))) := ⟨(by rw [hw]; exact (by (with_reducible repeat (first | refine blk_drewN ?_ _ | refine blk_drew ?_ | refine blk_alloc ?_ _)); refine Blk.blk_put5 (z0 := (.slice none 0 0)) (z1 := (.slice none 0 0)) (z2 := (.int .i64 0)) (z3 := (.int .i64 0)) (z4 := (.int .i64 0)) ?_ _ _ _ _ _; (with_reducible repeat (first | refine blk_drewN ?_ _ | refine blk_drew ?_ | refine blk_alloc ?_ _)); exact aB.out))⟩; have n4_ : Aside0 (Below w.heap.size w w19) := ⟨(by rw [hw]; exact (by repeat (first | (with_reducible first | exact HB.out | apply below_alloc | apply pw_below_drewN | apply below_drew1 | refine below_set ?_ aM.out | refine below_set ?_ aV.out) | exact HB.out)))⟩; clear hw; clear aH; clear aG; clear aA; clear aB; clear HB; have aH := n0_; have aG := n1_; have aA := n2_; have aB := n3_; have HB := n4_; clear n0_ n1_ n2_ n3_ n4_; obtain ⟨hcz20_0, hcz20_1, hcz20_2, hcz20_3, hcz20_4, hfz20_0, hfz20_1, hfz20_2, hfz20_3, hfz20_4⟩ := Blk.blk5 (show w19.heap[aE]? = some (.cells #[.slice aS t288.length aQ, .slice aR t291.length aP, .int .i64 t294, .int .i64 t295, .int .i64 t296] _ (0, 0)) from aB.out)) | ((with_reducible refine gate_callee (f := 39) rfl ?_); refine goesL_ (some 22) rfl rfl Try.func39 (by kernel_rfl) rfl #[.agg #[.slice aS t288.length aQ, .slice aR t291.length aP, .int .i64 t294, .int .i64 t295, .int .i64 t296]] rfl (by (try simp only [List.map_toArray, List.map_cons, List.map_nil]); first | done | rfl | (simp only [List.length_drop, List.length_take]; rfl)) ?_; (with_reducible refine (check_Put.calls k (fun k_ => some k_ = (.slice aS t288.length aQ : Value).ownBlock) _ _ t288 (fun k_ => some k_ = (.slice aR t291.length aP : Value).ownBlock) _ _ t291 t294 t295 t296 t298 t299 _ ?side1 ?side2 A4.out).mono ?_); (case side1 => exact Kd.R_V (Kd.R_tight rfl (Kd.R_types (Kd.R_types (aH.out) aA.out (by decide)) aB.out (by decide)))); (case side2 => exact Kd.R_V (Kd.R_tight rfl (Kd.R_types (Kd.R_types (aG.out) aA.out (by decide)) aB.out (by decide)))); rintro e w21 ⟨rfl, hb⟩; refine ⟨_, rfl, ?_⟩; have n0_ := Aside0.mk (Kd.R_below (by (with_reducible repeat (first | apply Kd.R_alloc | apply Kd.R_drewN | apply Kd.R_drew)); exact aH.out) hb); have n1_ := Aside0.mk (Kd.R_below (by (with_reducible repeat (first | apply Kd.R_alloc | apply Kd.R_drewN | apply Kd.R_drew)); exact aG.out) hb); have n2_ := Aside0.mk (blk_below (g := aF) (o := .cells #[.slice A0_0 l0_0.length c0_0, .slice A0_1 l0_1.length c0_1, .int .i64 a0_2, .int .i64 a0_3, .int .i64 a0_4] 56 (0, 0)) (by (with_reducible repeat (first | refine blk_drewN ?_ _ | refine blk_drew ?_ | refine blk_alloc ?_ _)); exact aA.out) hb); have n3_ := Aside0.mk (blk_below (g := aE) (o := .cells #[.slice aS t288.length aQ, .slice aR t291.length aP, .int .i64 t294, .int .i64 t295, .int .i64 t296] 56 (0, 0)) (by (with_reducible repeat (first | refine blk_drewN ?_ _ | refine blk_drew ?_ | refine blk_alloc ?_ _)); exact aB.out) hb); have n4_ := Aside0.mk (below_step (by repeat (first | (with_reducible first | exact HB.out | apply below_alloc | apply pw_below_drewN | apply below_drew1 | refine below_set ?_ aM.out | refine below_set ?_ aV.out) | exact HB.out)) hb); clear aH; clear aG; clear aA; clear aB; clear HB; have aH := n0_; have aG := n1_; have aA := n2_; have aB := n3_; have HB := n4_; clear n0_ n1_ n2_ n3_ n4_; (try clear hb); (try clear hb2); (try clear hk); (try clear hi); obtain ⟨hcz22_0, hcz22_1, hcz22_2, hcz22_3, hcz22_4, hfz22_0, hfz22_1, hfz22_2, hfz22_3, hfz22_4⟩ := Blk.blk5 (show w21.heap[aF]? = some (.cells #[.slice A0_0 l0_0.length c0_0, .slice A0_1 l0_1.length c0_1, .int .i64 a0_2, .int .i64 a0_3, .int .i64 a0_4] _ (0, 0)) from aA.out)) | ((with_reducible refine gate_callee (f := 40) rfl ?_); refine goesL_ (some 27) rfl rfl Try.func40 (by kernel_rfl) rfl #[.agg #[.slice A0_0 l0_0.length c0_0, .slice A0_1 l0_1.length c0_1, .int .i64 a0_2, .int .i64 a0_3, .int .i64 a0_4]] rfl (by (try simp only [List.map_toArray, List.map_cons, List.map_nil]); first | done | rfl | (simp only [List.length_drop, List.length_take]; rfl)) ?_; (with_reducible refine (grafterref12_PutCheck.calls k _ _ l0_0 _ _ l0_1 a0_2 a0_3 a0_4 t300 t301 _ ?side1 ?side2 ?side3 ?side4 A5.out).mono ?_); (case side1 => repeat (first | (with_reducible refine Kd.C_alloc ?_ _) | (with_reducible refine Kd.C_drewN ?_ _) | (with_reducible refine Kd.C_drew ?_) | exact (Kd.C_below HR0_0.out HB.out))); (case side2 => exact cQ.out); (case side3 => repeat (first | (with_reducible refine Kd.C_alloc ?_ _) | (with_reducible refine Kd.C_drewN ?_ _) | (with_reducible refine Kd.C_drew ?_) | exact (Kd.C_below HR0_1.out HB.out))); (case side4 => exact cP.out); rintro e w23 ⟨rfl, hb⟩; refine ⟨_, rfl, ?_⟩; have n0_ := Aside0.mk (Kd.R_below (by (with_reducible repeat (first | apply Kd.R_alloc | apply Kd.R_drewN | apply Kd.R_drew)); exact aH.out) hb); have n1_ := Aside0.mk (Kd.R_below (by (with_reducible repeat (first | apply Kd.R_alloc | apply Kd.R_drewN | apply Kd.R_drew)); exact aG.out) hb); have n2_ := Aside0.mk (blk_below (g := aF) (o := .cells #[.slice A0_0 l0_0.length c0_0, .slice A0_1 l0_1.length c0_1, .int .i64 a0_2, .int .i64 a0_3, .int .i64 a0_4] 56 (0, 0)) (by (with_reducible repeat (first | refine blk_drewN ?_ _ | refine blk_drew ?_ | refine blk_alloc ?_ _)); exact aA.out) hb); have n3_ := Aside0.mk (blk_below (g := aE) (o := .cells #[.slice aS t288.length aQ, .slice aR t291.length aP, .int .i64 t294, .int .i64 t295, .int .i64 t296] 56 (0, 0)) (by (with_reducible repeat (first | refine blk_drewN ?_ _ | refine blk_drew ?_ | refine blk_alloc ?_ _)); exact aB.out) hb); have n4_ := Aside0.mk (below_step (by repeat (first | (with_reducible first | exact HB.out | apply below_alloc | apply pw_below_drewN | apply below_drew1 | refine below_set ?_ aM.out | refine below_set ?_ aV.out) | exact HB.out)) hb); clear aH; clear aG; clear aA; clear aB; clear HB; have aH := n0_; have aG := n1_; have aA := n2_; have aB := n3_; have HB := n4_; clear n0_ n1_ n2_ n3_ n4_; (try clear hb); (try clear hb2); (try clear hk); (try clear hi)) | ((with_reducible refine gate_callee (f := 41) rfl ?_); refine goesL_ (some 32) rfl rfl Try.func41 (by kernel_rfl) rfl #[.string a1] rfl (by (try simp only [List.map_toArray, List.map_cons, List.map_nil]); first | done | rfl | (simp only [List.length_drop, List.length_take]; rfl)) ?_; (with_reducible refine (check_Get.calls k a1 t302 t305 t308 t309 t310 t311 _ A6.out).mono ?_); rintro e w24 ⟨v303, v306, rfl, ho0, ho1, hb⟩; refine ⟨_, rfl, ?_⟩; have n0_ := Aside0.mk (Kd.R_elder' (by (with_reducible repeat (first | apply Kd.R_alloc | apply Kd.R_drewN | apply Kd.R_drew)); exact aH.out) (Kd.R_base ho1) hb); have n1_ := Aside0.mk (Kd.R_elder' (by (with_reducible repeat (first | apply Kd.R_alloc | apply Kd.R_drewN | apply Kd.R_drew)); exact aG.out) (Kd.R_base ho1) hb); have n2_ := Aside0.mk (RC.V_lower (RC.V_mono (ok' := fun k_ => some k_ ≠ (v306 : Value).ownBlock ∧ some k_ ≠ (.slice aS t288.length aQ : Value).ownBlock ∧ some k_ ≠ (.slice aR t291.length aP : Value).ownBlock ∧ k_ ≠ aF ∧ k_ ≠ aE) ho0 (fun k_ hk_ => ⟨hk_.2, (Kd.fresh' (Kd.R_lt (by (with_reducible repeat (first | apply Kd.R_alloc | apply Kd.R_drewN | apply Kd.R_drew)); exact aH.out)) k_ hk_.1), (Kd.fresh' (Kd.R_lt (by (with_reducible repeat (first | apply Kd.R_alloc | apply Kd.R_drewN | apply Kd.R_drew)); exact aG.out)) k_ hk_.1), (Kd.freshB (g := aF) (o := .cells #[.slice A0_0 l0_0.length c0_0, .slice A0_1 l0_1.length c0_1, .int .i64 a0_2, .int .i64 a0_3, .int .i64 a0_4] 56 (0, 0)) (by (with_reducible repeat (first | refine blk_drewN ?_ _ | refine blk_drew ?_ | refine blk_alloc ?_ _)); exact aA.out) k_ hk_.1), (Kd.freshB (g := aE) (o := .cells #[.slice aS t288.length aQ, .slice aR t291.length aP, .int .i64 t294, .int .i64 t295, .int .i64 t296] 56 (0, 0)) (by (with_reducible repeat (first | refine blk_drewN ?_ _ | refine blk_drew ?_ | refine blk_alloc ?_ _)); exact aB.out) k_ hk_.1)⟩)) (below_size (by repeat (first | (with_reducible first | exact HB.out | apply below_alloc | apply pw_below_drewN | apply below_drew1 | refine below_set ?_ aM.out | refine below_set ?_ aV.out) | exact HB.out)))); have n3_ := Aside0.mk (Kd.R_lower (Kd.R_new' (Kd.R_new' (Kd.R_mono (ok' := fun k_ => True) ho1 (fun _ hk_ => trivial)) (Kd.R_lt (by (with_reducible repeat (first | apply Kd.R_alloc | apply Kd.R_drewN | apply Kd.R_drew)); exact aH.out))) (Kd.R_lt (by (with_reducible repeat (first | apply Kd.R_alloc | apply Kd.R_drewN | apply Kd.R_drew)); exact aG.out))) (below_size (by repeat (first | (with_reducible first | exact HB.out | apply below_alloc | apply pw_below_drewN | apply below_drew1 | refine below_set ?_ aM.out | refine below_set ?_ aV.out) | exact HB.out)))); have n4_ := Aside0.mk (blk_below (g := aF) (o := .cells #[.slice A0_0 l0_0.length c0_0, .slice A0_1 l0_1.length c0_1, .int .i64 a0_2, .int .i64 a0_3, .int .i64 a0_4] 56 (0, 0)) (by (with_reducible repeat (first | refine blk_drewN ?_ _ | refine blk_drew ?_ | refine blk_alloc ?_ _)); exact aA.out) hb); have n5_ := Aside0.mk (blk_below (g := aE) (o := .cells #[.slice aS t288.length aQ, .slice aR t291.length aP, .int .i64 t294, .int .i64 t295, .int .i64 t296] 56 (0, 0)) (by (with_reducible repeat (first | refine blk_drewN ?_ _ | refine blk_drew ?_ | refine blk_alloc ?_ _)); exact aB.out) hb); have n6_ := Aside0.mk (below_step (by repeat (first | (with_reducible first | exact HB.out | apply below_alloc | apply pw_below_drewN | apply below_drew1 | refine below_set ?_ aM.out | refine below_set ?_ aV.out) | exact HB.out)) hb); clear aH; clear aG; clear aA; clear aB; clear HB; have aH := n0_; have aG := n1_; have aW := n2_; have aU := n3_; have aA := n4_; have aB := n5_; have HB := n6_; clear n0_ n1_ n2_ n3_ n4_ n5_ n6_; (try clear hb); (try clear hb2); (try clear hk); (try clear hi); (try clear ho0); (try clear ho1)) | ((with_reducible refine gate_dst (N := 10) rfl ?_); refine box_event ?hg (N := 10) ?hd (cs := #[.slice none 0 0, .slice none 0 0, .int .i64 0, .int .i64 0, .int .i64 0]) (t := 56) ?hr ?_; (case hd => rfl); (case hg => rfl); (case hr => first | (go_simp; done) | (go_simp; rfl)); intro aL hg w25 hbox hb; have n0_ := Aside0.mk (Kd.R_below (by (with_reducible repeat (first | apply Kd.R_alloc | apply Kd.R_drewN | apply Kd.R_drew)); exact aH.out) hb); have n1_ := Aside0.mk (Kd.R_below (by (with_reducible repeat (first | apply Kd.R_alloc | apply Kd.R_drewN | apply Kd.R_drew)); exact aG.out) hb); have n2_ := Aside0.mk (RC.V_below (RC.V_elderB (by (with_reducible repeat (first | apply RC.V_alloc | apply RC.V_drewN | apply RC.V_drew)); exact aW.out) aL (Nat.le_of_eq hg.symm)) hb); have n3_ := Aside0.mk (Kd.R_below (by (with_reducible repeat (first | apply Kd.R_alloc | apply Kd.R_drewN | apply Kd.R_drew)); exact aU.out) hb); have n4_ := Aside0.mk (blk_below (g := aF) (o := .cells #[.slice A0_0 l0_0.length c0_0, .slice A0_1 l0_1.length c0_1, .int .i64 a0_2, .int .i64 a0_3, .int .i64 a0_4] 56 (0, 0)) (by (with_reducible repeat (first | refine blk_drewN ?_ _ | refine blk_drew ?_ | refine blk_alloc ?_ _)); exact aA.out) hb); have n5_ := Aside0.mk (blk_below (g := aE) (o := .cells #[.slice aS t288.length aQ, .slice aR t291.length aP, .int .i64 t294, .int .i64 t295, .int .i64 t296] 56 (0, 0)) (by (with_reducible repeat (first | refine blk_drewN ?_ _ | refine blk_drew ?_ | refine blk_alloc ?_ _)); exact aB.out) hb); have n6_ := Aside0.mk (below_step (by repeat (first | (with_reducible first | exact HB.out | apply below_alloc | apply pw_below_drewN | apply below_drew1 | refine below_set ?_ aM.out | refine below_set ?_ aV.out) | exact HB.out)) hb); have n7_ := Aside0.mk (hbox); have n8_ := Aside0.mk ((by rw [hg]; exact (below_size (by repeat (first | (with_reducible first | exact HB.out | apply below_alloc | apply pw_below_drewN | apply below_drew1 | refine below_set ?_ aM.out | refine below_set ?_ aV.out) | exact HB.out))) : w.heap.size ≤ aL)); have n9_ := Aside0.mk ((by rw [hg]; exact (below_size (by repeat (first | (with_reducible first | exact HB.out | apply below_alloc | apply pw_below_drewN | apply below_drew1 | refine below_set ?_ aM.out | refine below_set ?_ aV.out) | exact HB.out))) : w.heap.size ≤ aL)); have n10_ := Aside0.mk ((by rw [hg]; exact Nat.ne_of_lt (blk_lt (g := aF) (o := .cells #[.slice A0_0 l0_0.length c0_0, .slice A0_1 l0_1.length c0_1, .int .i64 a0_2, .int .i64 a0_3, .int .i64 a0_4] 56 (0, 0)) (by (with_reducible repeat (first | refine blk_drewN ?_ _ | refine blk_drew ?_ | refine blk_alloc ?_ _)); exact aA.out)) : aF ≠ aL)); have n11_ := Aside0.mk ((by rw [hg]; exact Nat.ne_of_gt (blk_lt (g := aF) (o := .cells #[.slice A0_0 l0_0.length c0_0, .slice A0_1 l0_1.length c0_1, .int .i64 a0_2, .int .i64 a0_3, .int .i64 a0_4] 56 (0, 0)) (by (with_reducible repeat (first | refine blk_drewN ?_ _ | refine blk_drew ?_ | refine blk_alloc ?_ _)); exact aA.out)) : aL ≠ aF)); have n12_ := Aside0.mk ((by rw [hg]; exact Nat.ne_of_lt (blk_lt (g := aE) (o := .cells #[.slice aS t288.length aQ, .slice aR t291.length aP, .int .i64 t294, .int .i64 t295, .int .i64 t296] 56 (0, 0)) (by (with_reducible repeat (first | refine blk_drewN ?_ _ | refine blk_drew ?_ | refine blk_alloc ?_ _)); exact aB.out)) : aE ≠ aL)); have n13_ := Aside0.mk ((by rw [hg]; exact Nat.ne_of_gt (blk_lt (g := aE) (o := .cells #[.slice aS t288.length aQ, .slice aR t291.length aP, .int .i64 t294, .int .i64 t295, .int .i64 t296] 56 (0, 0)) (by (with_reducible repeat (first | refine blk_drewN ?_ _ | refine blk_drew ?_ | refine blk_alloc ?_ _)); exact aB.out)) : aL ≠ aE)); clear aH; clear aG; clear aW; clear aU; clear aA; clear aB; clear HB; have aH := n0_; have aG := n1_; have aW := n2_; have aU := n3_; have aA := n4_; have aB := n5_; have HB := n6_; have aC := n7_; have GW312 := n8_; have bE := n9_; have bX := n10_; have cF := n11_; have cL := n12_; have cO := n13_; clear n0_ n1_ n2_ n3_ n4_ n5_ n6_ n7_ n8_ n9_ n10_ n11_ n12_ n13_; clear hb hbox hg; obtain ⟨bS, bR, eo26⟩ := RC.V_slice aW.out; subst eo26; have hnb27 := cF.out; have hnc27 := bX.out; have hnb28 := cO.out; have hnc28 := cL.out; obtain ⟨hcz29_0, hcz29_1, hcz29_2, hcz29_3, hcz29_4, hfz29_0, hfz29_1, hfz29_2, hfz29_3, hfz29_4⟩ := Blk.blk5 (show w25.heap[aL]? = some (.cells #[.slice none 0 0, .slice none 0 0, .int .i64 0, .int .i64 0, .int .i64 0] _ (0, 0)) from aC.out); obtain ⟨bB, bA, eo30⟩ := Kd.R_slice aU.out; subst eo30) | ((with_reducible refine gate_callee (f := 42) rfl ?_); refine goesL_ (some 37) rfl rfl Try.func42 (by kernel_rfl) rfl #[.string a1] rfl (by (try simp only [List.map_toArray, List.map_cons, List.map_nil]); first | done | rfl | (simp only [List.length_drop, List.length_take]; rfl)) ?_; (with_reducible refine (grafterref12_GetCheck.calls k a1 t313 t316 t319 t320 t321 t322 _ A7.out).mono ?_); rintro e w31 ⟨v314, v317, rfl, ho0, ho1, hb⟩; refine ⟨_, rfl, ?_⟩; have n0_ := Aside0.mk (Kd.R_mono (Kd.R_told (Kd.R_told (Kd.R_old (by (with_reducible repeat (first | apply Kd.R_alloc | apply Kd.R_drewN | apply Kd.R_drew)); exact (Kd.R_mono (Blk.R_far5 (g := aL) (Kd.R_types aH.out aC.out (by decide)) (fun _ hk => hk.2) _ _ _ _ _) (fun _ h_ => h_.1))) hb) (Kd.R_base ho0)) (Kd.R_base ho1)) (fun _ h_ => h_.1)); have n1_ := Aside0.mk (Kd.R_mono (Kd.R_told (Kd.R_told (Kd.R_old (by (with_reducible repeat (first | apply Kd.R_alloc | apply Kd.R_drewN | apply Kd.R_drew)); exact (Kd.R_mono (Blk.R_far5 (g := aL) (Kd.R_types aG.out aC.out (by decide)) (fun _ hk => hk.2) _ _ _ _ _) (fun _ h_ => h_.1))) hb) (Kd.R_base ho0)) (Kd.R_base ho1)) (fun _ h_ => h_.1)); have n2_ := Aside0.mk (RC.V_mono (RC.V_told (RC.V_told (RC.V_old (by (with_reducible repeat (first | apply RC.V_alloc | apply RC.V_drewN | apply RC.V_drew)); exact (RC.V_mono (RC.V_far5 (g := aL) (RC.V_mono aW.out (fun k_ hk => (⟨hk, hk.2⟩ : _ ∧ k_ ≠ aL))) (fun _ hk => hk.2) _ _ _ _ _) (fun _ h_ => h_.1))) hb) (Kd.R_base ho0)) (Kd.R_base ho1)) (fun _ h_ => h_.1)); have n3_ := Aside0.mk (Kd.R_mono (Kd.R_told (Kd.R_told (Kd.R_old (by (with_reducible repeat (first | apply Kd.R_alloc | apply Kd.R_drewN | apply Kd.R_drew)); exact (Kd.R_mono (Blk.R_far5 (g := aL) (Kd.R_types aU.out aC.out (by decide)) (fun _ hk => hk.2) _ _ _ _ _) (fun _ h_ => h_.1))) hb) (Kd.R_base ho0)) (Kd.R_base ho1)) (fun _ h_ => h_.1)); have n4_ := Aside0.mk (Kd.R_lower (Kd.R_new' (Kd.R_new' (Kd.R_new' ho0 (Kd.R_lt (by (with_reducible repeat (first | apply Kd.R_alloc | apply Kd.R_drewN | apply Kd.R_drew)); exact (Kd.R_mono (Blk.R_far5 (g := aL) (Kd.R_types aH.out aC.out (by decide)) (fun _ hk => hk.2) _ _ _ _ _) (fun _ h_ => h_.1))))) (Kd.R_lt (by (with_reducible repeat (first | apply Kd.R_alloc | apply Kd.R_drewN | apply Kd.R_drew)); exact (Kd.R_mono (Blk.R_far5 (g := aL) (Kd.R_types aG.out aC.out (by decide)) (fun _ hk => hk.2) _ _ _ _ _) (fun _ h_ => h_.1))))) (Kd.R_lt (by (with_reducible repeat (first | apply Kd.R_alloc | apply Kd.R_drewN | apply Kd.R_drew)); exact (Kd.R_mono (Blk.R_far5 (g := aL) (Kd.R_types aU.out aC.out (by decide)) (fun _ hk => hk.2) _ _ _ _ _) (fun _ h_ => h_.1))))) (below_size (by repeat (first | (with_reducible first | exact HB.out | apply below_alloc | apply pw_below_drewN | apply below_drew1 | refine below_set ?_ aM.out | refine below_set ?_ aV.out | refine below_set ?_ bE.out) | exact HB.out)))); have n5_ := Aside0.mk (Kd.R_lower (Kd.R_new' (Kd.R_new' (Kd.R_new' ho1 (Kd.R_lt (by (with_reducible repeat (first | apply Kd.R_alloc | apply Kd.R_drewN | apply Kd.R_drew)); exact (Kd.R_mono (Blk.R_far5 (g := aL) (Kd.R_types aH.out aC.out (by decide)) (fun _ hk => hk.2) _ _ _ _ _) (fun _ h_ => h_.1))))) (Kd.R_lt (by (with_reducible repeat (first | apply Kd.R_alloc | apply Kd.R_drewN | apply Kd.R_drew)); exact (Kd.R_mono (Blk.R_far5 (g := aL) (Kd.R_types aG.out aC.out (by decide)) (fun _ hk => hk.2) _ _ _ _ _) (fun _ h_ => h_.1))))) (Kd.R_lt (by (with_reducible repeat (first | apply Kd.R_alloc | apply Kd.R_drewN | apply Kd.R_drew)); exact (Kd.R_mono (Blk.R_far5 (g := aL) (Kd.R_types aU.out aC.out (by decide)) (fun _ hk => hk.2) _ _ _ _ _) (fun _ h_ => h_.1))))) (below_size (by repeat (first | (with_reducible first | exact HB.out | apply below_alloc | apply pw_below_drewN | apply below_drew1 | refine below_set ?_ aM.out | refine below_set ?_ aV.out | refine below_set ?_ bE.out) | exact HB.out)))); have n6_ := Aside0.mk (blk_below (g := aF) (o := .cells #[.slice A0_0 l0_0.length c0_0, .slice A0_1 l0_1.length c0_1, .int .i64 a0_2, .int .i64 a0_3, .int .i64 a0_4] 56 (0, 0)) (by (with_reducible repeat (first | refine blk_drewN ?_ _ | refine blk_drew ?_ | refine blk_alloc ?_ _)); refine Blk.blk_far5 ?_ bX.out _ _ _ _ _; (with_reducible repeat (first | refine blk_drewN ?_ _ | refine blk_drew ?_ | refine blk_alloc ?_ _)); exact aA.out) hb); have n7_ := Aside0.mk (blk_below (g := aE) (o := .cells #[.slice aS t288.length aQ, .slice aR t291.length aP, .int .i64 t294, .int .i64 t295, .int .i64 t296] 56 (0, 0)) (by (with_reducible repeat (first | refine blk_drewN ?_ _ | refine blk_drew ?_ | refine blk_alloc ?_ _)); refine Blk.blk_far5 ?_ cL.out _ _ _ _ _; (with_reducible repeat (first | refine blk_drewN ?_ _ | refine blk_drew ?_ | refine blk_alloc ?_ _)); exact aB.out) hb); have n8_ := Aside0.mk (blk_below (g := aL) (o := .cells #[.slice bS t302.length bR, .slice bB t305.length bA, .int .i64 t308, .int .i64 t309, .int .i64 t310] 56 (0, 0)) (by (with_reducible repeat (first | refine blk_drewN ?_ _ | refine blk_drew ?_ | refine blk_alloc ?_ _)); refine Blk.blk_put5 (z0 := (.slice none 0 0)) (z1 := (.slice none 0 0)) (z2 := (.int .i64 0)) (z3 := (.int .i64 0)) (z4 := (.int .i64 0)) ?_ _ _ _ _ _; (with_reducible repeat (first | refine blk_drewN ?_ _ | refine blk_drew ?_ | refine blk_alloc ?_ _)); exact aC.out) hb); have n9_ := Aside0.mk (below_step (by repeat (first | (with_reducible first | exact HB.out | apply below_alloc | apply pw_below_drewN | apply below_drew1 | refine below_set ?_ aM.out | refine below_set ?_ aV.out | refine below_set ?_ bE.out) | exact HB.out)) hb); clear aH; clear aG; clear aW; clear aU; clear aA; clear aB; clear aC; clear HB; have aH := n0_; have aG := n1_; have aW := n2_; have aU := n3_; have bD := n4_; have bC := n5_; have aA := n6_; have aB := n7_; have aC := n8_; have HB := n9_; clear n0_ n1_ n2_ n3_ n4_ n5_ n6_ n7_ n8_ n9_; (try clear hb); (try clear hb2); (try clear hk); (try clear hi); (try clear ho0); (try clear ho1)) | ((with_reducible refine gate_dst (N := 12) rfl ?_); refine box_event ?hg (N := 12) ?hd (cs := #[.slice none 0 0, .slice none 0 0, .int .i64 0, .int .i64 0, .int .i64 0]) (t := 56) ?hr ?_; (case hd => rfl); (case hg => rfl); (case hr => first | (go_simp; done) | (go_simp; rfl)); intro aK hg w32 hbox hb; have n0_ := Aside0.mk (Kd.R_below (by (with_reducible repeat (first | apply Kd.R_alloc | apply Kd.R_drewN | apply Kd.R_drew)); exact aH.out) hb); have n1_ := Aside0.mk (Kd.R_below (by (with_reducible repeat (first | apply Kd.R_alloc | apply Kd.R_drewN | apply Kd.R_drew)); exact aG.out) hb); have n2_ := Aside0.mk (RC.V_below (RC.V_elderB (by (with_reducible repeat (first | apply RC.V_alloc | apply RC.V_drewN | apply RC.V_drew)); exact aW.out) aK (Nat.le_of_eq hg.symm)) hb); have n3_ := Aside0.mk (Kd.R_below (by (with_reducible repeat (first | apply Kd.R_alloc | apply Kd.R_drewN | apply Kd.R_drew)); exact aU.out) hb); have n4_ := Aside0.mk (Kd.R_below (by (with_reducible repeat (first | apply Kd.R_alloc | apply Kd.R_drewN | apply Kd.R_drew)); exact bD.out) hb); have n5_ := Aside0.mk (Kd.R_below (by (with_reducible repeat (first | apply Kd.R_alloc | apply Kd.R_drewN | apply Kd.R_drew)); exact bC.out) hb); have n6_ := Aside0.mk (blk_below (g := aF) (o := .cells #[.slice A0_0 l0_0.length c0_0, .slice A0_1 l0_1.length c0_1, .int .i64 a0_2, .int .i64 a0_3, .int .i64 a0_4] 56 (0, 0)) (by (with_reducible repeat (first | refine blk_drewN ?_ _ | refine blk_drew ?_ | refine blk_alloc ?_ _)); exact aA.out) hb); have n7_ := Aside0.mk (blk_below (g := aE) (o := .cells #[.slice aS t288.length aQ, .slice aR t291.length aP, .int .i64 t294, .int .i64 t295, .int .i64 t296] 56 (0, 0)) (by (with_reducible repeat (first | refine blk_drewN ?_ _ | refine blk_drew ?_ | refine blk_alloc ?_ _)); exact aB.out) hb); have n8_ := Aside0.mk (blk_below (g := aL) (o := .cells #[.slice bS t302.length bR, .slice bB t305.length bA, .int .i64 t308, .int .i64 t309, .int .i64 t310] 56 (0, 0)) (by (with_reducible repeat (first | refine blk_drewN ?_ _ | refine blk_drew ?_ | refine blk_alloc ?_ _)); exact aC.out) hb); have n9_ := Aside0.mk (below_step (by repeat (first | (with_reducible first | exact HB.out | apply below_alloc | apply pw_below_drewN | apply below_drew1 | refine below_set ?_ aM.out | refine below_set ?_ aV.out | refine below_set ?_ bE.out) | exact HB.out)) hb); have n10_ := Aside0.mk (hbox); have n11_ := Aside0.mk ((by rw [hg]; exact (below_size (by repeat (first | (with_reducible first | exact HB.out | apply below_alloc | apply pw_below_drewN | apply below_drew1 | refine below_set ?_ aM.out | refine below_set ?_ aV.out | refine below_set ?_ bE.out) | exact HB.out))) : w.heap.size ≤ aK)); have n12_ := Aside0.mk ((by rw [hg]; exact (below_size (by repeat (first | (with_reducible first | exact HB.out | apply below_alloc | apply pw_below_drewN | apply below_drew1 | refine below_set ?_ aM.out | refine below_set ?_ aV.out | refine below_set ?_ bE.out) | exact HB.out))) : w.heap.size ≤ aK)); have n13_ := Aside0.mk ((by rw [hg]; exact Nat.ne_of_lt (blk_lt (g := aF) (o := .cells #[.slice A0_0 l0_0.length c0_0, .slice A0_1 l0_1.length c0_1, .int .i64 a0_2, .int .i64 a0_3, .int .i64 a0_4] 56 (0, 0)) (by (with_reducible repeat (first | refine blk_drewN ?_ _ | refine blk_drew ?_ | refine blk_alloc ?_ _)); exact aA.out)) : aF ≠ aK)); have n14_ := Aside0.mk ((by rw [hg]; exact Nat.ne_of_gt (blk_lt (g := aF) (o := .cells #[.slice A0_0 l0_0.length c0_0, .slice A0_1 l0_1.length c0_1, .int .i64 a0_2, .int .i64 a0_3, .int .i64 a0_4] 56 (0, 0)) (by (with_reducible repeat (first | refine blk_drewN ?_ _ | refine blk_drew ?_ | refine blk_alloc ?_ _)); exact aA.out)) : aK ≠ aF)); have n15_ := Aside0.mk ((by rw [hg]; exact Nat.ne_of_lt (blk_lt (g := aE) (o := .cells #[.slice aS t288.length aQ, .slice aR t291.length aP, .int .i64 t294, .int .i64 t295, .int .i64 t296] 56 (0, 0)) (by (with_reducible repeat (first | refine blk_drewN ?_ _ | refine blk_drew ?_ | refine blk_alloc ?_ _)); exact aB.out)) : aE ≠ aK)); have n16_ := Aside0.mk ((by rw [hg]; exact Nat.ne_of_gt (blk_lt (g := aE) (o := .cells #[.slice aS t288.length aQ, .slice aR t291.length aP, .int .i64 t294, .int .i64 t295, .int .i64 t296] 56 (0, 0)) (by (with_reducible repeat (first | refine blk_drewN ?_ _ | refine blk_drew ?_ | refine blk_alloc ?_ _)); exact aB.out)) : aK ≠ aE)); have n17_ := Aside0.mk ((by rw [hg]; exact Nat.ne_of_lt (blk_lt (g := aL) (o := .cells #[.slice bS t302.length bR, .slice bB t305.length bA, .int .i64 t308, .int .i64 t309, .int .i64 t310] 56 (0, 0)) (by (with_reducible repeat (first | refine blk_drewN ?_ _ | refine blk_drew ?_ | refine blk_alloc ?_ _)); exact aC.out)) : aL ≠ aK)); have n18_ := Aside0.mk ((by rw [hg]; exact Nat.ne_of_gt (blk_lt (g := aL) (o := .cells #[.slice bS t302.length bR, .slice bB t305.length bA, .int .i64 t308, .int .i64 t309, .int .i64 t310] 56 (0, 0)) (by (with_reducible repeat (first | refine blk_drewN ?_ _ | refine blk_drew ?_ | refine blk_alloc ?_ _)); exact aC.out)) : aK ≠ aL)); clear aH; clear aG; clear aW; clear aU; clear bD; clear bC; clear aA; clear aB; clear aC; clear HB; have aH := n0_; have aG := n1_; have aW := n2_; have aU := n3_; have bD := n4_; have bC := n5_; have aA := n6_; have aB := n7_; have aC := n8_; have HB := n9_; have aD := n10_; have GW323 := n11_; have bL := n12_; have bT := n13_; have cD := n14_; have cG := n15_; have cN := n16_; have cE := n17_; have cM := n18_; clear n0_ n1_ n2_ n3_ n4_ n5_ n6_ n7_ n8_ n9_ n10_ n11_ n12_ n13_ n14_ n15_ n16_ n17_ n18_; clear hb hbox hg; obtain ⟨bK, bI, eo33⟩ := Kd.R_slice bD.out; subst eo33; have hnb34 := cD.out; have hnc34 := bT.out; have hnb35 := cN.out; have hnc35 := cG.out; have hnb36 := cM.out; have hnc36 := cE.out; obtain ⟨hcz37_0, hcz37_1, hcz37_2, hcz37_3, hcz37_4, hfz37_0, hfz37_1, hfz37_2, hfz37_3, hfz37_4⟩ := Blk.blk5 (show w32.heap[aK]? = some (.cells #[.slice none 0 0, .slice none 0 0, .int .i64 0, .int .i64 0, .int .i64 0] _ (0, 0)) from aD.out); obtain ⟨bJ, bH, eo38⟩ := Kd.R_slice bC.out; subst eo38) | ((with_reducible refine gate_callee (f := 41) rfl ?_); refine goesL_ (some 42) rfl rfl Try.func41 (by kernel_rfl) rfl #[.string t298] rfl (by (try simp only [List.map_toArray, List.map_cons, List.map_nil]); first | done | rfl | (simp only [List.length_drop, List.length_take]; rfl)) ?_; (with_reducible refine (check_Get.calls k t298 t324 t327 t330 t331 t332 t333 _ A8.out).mono ?_); rintro e w39 ⟨v325, v328, rfl, ho0, ho1, hb⟩; refine ⟨_, rfl, ?_⟩; replace ho0 := RC.toVs ho0; have n0_ := Aside0.mk (Kd.R_elder' (by (with_reducible repeat (first | apply Kd.R_alloc | apply Kd.R_drewN | apply Kd.R_drew)); exact (Kd.R_mono (Blk.R_far5 (g := aK) (Kd.R_types aH.out aD.out (by decide)) (fun _ hk => hk.2) _ _ _ _ _) (fun _ h_ => h_.1))) (Kd.R_base ho1) hb); have n1_ := Aside0.mk (Kd.R_elder' (by (with_reducible repeat (first | apply Kd.R_alloc | apply Kd.R_drewN | apply Kd.R_drew)); exact (Kd.R_mono (Blk.R_far5 (g := aK) (Kd.R_types aG.out aD.out (by decide)) (fun _ hk => hk.2) _ _ _ _ _) (fun _ h_ => h_.1))) (Kd.R_base ho1) hb); have n2_ := Aside0.mk (RC.V_elder' (by (with_reducible repeat (first | apply RC.V_alloc | apply RC.V_drewN | apply RC.V_drew)); exact (RC.V_mono (RC.V_far5 (g := aK) (RC.V_mono aW.out (fun k_ hk => (⟨hk, hk.2⟩ : _ ∧ k_ ≠ aK))) (fun _ hk => hk.2) _ _ _ _ _) (fun _ h_ => h_.1))) (Kd.R_base ho1) hb); have n3_ := Aside0.mk (Kd.R_elder' (by (with_reducible repeat (first | apply Kd.R_alloc | apply Kd.R_drewN | apply Kd.R_drew)); exact (Kd.R_mono (Blk.R_far5 (g := aK) (Kd.R_types aU.out aD.out (by decide)) (fun _ hk => hk.2) _ _ _ _ _) (fun _ h_ => h_.1))) (Kd.R_base ho1) hb); have n4_ := Aside0.mk (Kd.R_elder' (by (with_reducible repeat (first | apply Kd.R_alloc | apply Kd.R_drewN | apply Kd.R_drew)); exact (Kd.R_mono (Blk.R_far5 (g := aK) (Kd.R_types bD.out aD.out (by decide)) (fun _ hk => hk.2) _ _ _ _ _) (fun _ h_ => h_.1))) (Kd.R_base ho1) hb); have n5_ := Aside0.mk (Kd.R_elder' (by (with_reducible repeat (first | apply Kd.R_alloc | apply Kd.R_drewN | apply Kd.R_drew)); exact (Kd.R_mono (Blk.R_far5 (g := aK) (Kd.R_types bC.out aD.out (by decide)) (fun _ hk => hk.2) _ _ _ _ _) (fun _ h_ => h_.1))) (Kd.R_base ho1) hb); have n6_ := Aside0.mk (Kd.V_lower (Kd.V_mono (ok' := fun k_ => some k_ ≠ (v328 : Value).ownBlock ∧ some k_ ≠ (.slice aS t288.length aQ : Value).ownBlock ∧ some k_ ≠ (.slice aR t291.length aP : Value).ownBlock ∧ some k_ ≠ (.slice bB t305.length bA : Value).ownBlock ∧ some k_ ≠ (.slice bK t313.length bI : Value).ownBlock ∧ some k_ ≠ (.slice bJ t316.length bH : Value).ownBlock ∧ k_ ≠ aF ∧ k_ ≠ aE ∧ k_ ≠ aL ∧ k_ ≠ aK) ho0 (fun k_ hk_ => ⟨hk_.2, (Kd.fresh' (Kd.R_lt (by (with_reducible repeat (first | apply Kd.R_alloc | apply Kd.R_drewN | apply Kd.R_drew)); exact (Kd.R_mono (Blk.R_far5 (g := aK) (Kd.R_types aH.out aD.out (by decide)) (fun _ hk => hk.2) _ _ _ _ _) (fun _ h_ => h_.1)))) k_ hk_.1), (Kd.fresh' (Kd.R_lt (by (with_reducible repeat (first | apply Kd.R_alloc | apply Kd.R_drewN | apply Kd.R_drew)); exact (Kd.R_mono (Blk.R_far5 (g := aK) (Kd.R_types aG.out aD.out (by decide)) (fun _ hk => hk.2) _ _ _ _ _) (fun _ h_ => h_.1)))) k_ hk_.1), (Kd.fresh' (Kd.R_lt (by (with_reducible repeat (first | apply Kd.R_alloc | apply Kd.R_drewN | apply Kd.R_drew)); exact (Kd.R_mono (Blk.R_far5 (g := aK) (Kd.R_types aU.out aD.out (by decide)) (fun _ hk => hk.2) _ _ _ _ _) (fun _ h_ => h_.1)))) k_ hk_.1), (Kd.fresh' (Kd.R_lt (by (with_reducible repeat (first | apply Kd.R_alloc | apply Kd.R_drewN | apply Kd.R_drew)); exact (Kd.R_mono (Blk.R_far5 (g := aK) (Kd.R_types bD.out aD.out (by decide)) (fun _ hk => hk.2) _ _ _ _ _) (fun _ h_ => h_.1)))) k_ hk_.1), (Kd.fresh' (Kd.R_lt (by (with_reducible repeat (first | apply Kd.R_alloc | apply Kd.R_drewN | apply Kd.R_drew)); exact (Kd.R_mono (Blk.R_far5 (g := aK) (Kd.R_types bC.out aD.out (by decide)) (fun _ hk => hk.2) _ _ _ _ _) (fun _ h_ => h_.1)))) k_ hk_.1), (Kd.freshB (g := aF) (o := .cells #[.slice A0_0 l0_0.length c0_0, .slice A0_1 l0_1.length c0_1, .int .i64 a0_2, .int .i64 a0_3, .int .i64 a0_4] 56 (0, 0)) (by (with_reducible repeat (first | refine blk_drewN ?_ _ | refine blk_drew ?_ | refine blk_alloc ?_ _)); refine Blk.blk_far5 ?_ bT.out _ _ _ _ _; (with_reducible repeat (first | refine blk_drewN ?_ _ | refine blk_drew ?_ | refine blk_alloc ?_ _)); exact aA.out) k_ hk_.1), (Kd.freshB (g := aE) (o := .cells #[.slice aS t288.length aQ, .slice aR t291.length aP, .int .i64 t294, .int .i64 t295, .int .i64 t296] 56 (0, 0)) (by (with_reducible repeat (first | refine blk_drewN ?_ _ | refine blk_drew ?_ | refine blk_alloc ?_ _)); refine Blk.blk_far5 ?_ cG.out _ _ _ _ _; (with_reducible repeat (first | refine blk_drewN ?_ _ | refine blk_drew ?_ | refine blk_alloc ?_ _)); exact aB.out) k_ hk_.1), (Kd.freshB (g := aL) (o := .cells #[.slice bS t302.length bR, .slice bB t305.length bA, .int .i64 t308, .int .i64 t309, .int .i64 t310] 56 (0, 0)) (by (with_reducible repeat (first | refine blk_drewN ?_ _ | refine blk_drew ?_ | refine blk_alloc ?_ _)); refine Blk.blk_far5 ?_ cE.out _ _ _ _ _; (with_reducible repeat (first | refine blk_drewN ?_ _ | refine blk_drew ?_ | refine blk_alloc ?_ _)); exact aC.out) k_ hk_.1), (Kd.freshB (g := aK) (o := .cells #[.slice bK t313.length bI, .slice bJ t316.length bH, .int .i64 t319, .int .i64 t320, .int .i64 t321] 56 (0, 0)) (by (with_reducible repeat (first | refine blk_drewN ?_ _ | refine blk_drew ?_ | refine blk_alloc ?_ _)); refine Blk.blk_put5 (z0 := (.slice none 0 0)) (z1 := (.slice none 0 0)) (z2 := (.int .i64 0)) (z3 := (.int .i64 0)) (z4 := (.int .i64 0)) ?_ _ _ _ _ _; (with_reducible repeat (first | refine blk_drewN ?_ _ | refine blk_drew ?_ | refine blk_alloc ?_ _)); exact aD.out) k_ hk_.1)⟩)) (below_size (by repeat (first | (with_reducible first | exact HB.out | apply below_alloc | apply pw_below_drewN | apply below_drew1 | refine below_set ?_ aM.out | refine below_set ?_ aV.out | refine below_set ?_ bE.out | refine below_set ?_ bL.out) | exact HB.out)))); have n7_ := Aside0.mk (Kd.R_lower (Kd.R_new' (Kd.R_new' (Kd.R_new' (Kd.R_new' (Kd.R_new' (Kd.R_mono (ok' := fun k_ => True) ho1 (fun _ hk_ => trivial)) (Kd.R_lt (by (with_reducible repeat (first | apply Kd.R_alloc | apply Kd.R_drewN | apply Kd.R_drew)); exact (Kd.R_mono (Blk.R_far5 (g := aK) (Kd.R_types aH.out aD.out (by decide)) (fun _ hk => hk.2) _ _ _ _ _) (fun _ h_ => h_.1))))) (Kd.R_lt (by (with_reducible repeat (first | apply Kd.R_alloc | apply Kd.R_drewN | apply Kd.R_drew)); exact (Kd.R_mono (Blk.R_far5 (g := aK) (Kd.R_types aG.out aD.out (by decide)) (fun _ hk => hk.2) _ _ _ _ _) (fun _ h_ => h_.1))))) (Kd.R_lt (by (with_reducible repeat (first | apply Kd.R_alloc | apply Kd.R_drewN | apply Kd.R_drew)); exact (Kd.R_mono (Blk.R_far5 (g := aK) (Kd.R_types aU.out aD.out (by decide)) (fun _ hk => hk.2) _ _ _ _ _) (fun _ h_ => h_.1))))) (Kd.R_lt (by (with_reducible repeat (first | apply Kd.R_alloc | apply Kd.R_drewN | apply Kd.R_drew)); exact (Kd.R_mono (Blk.R_far5 (g := aK) (Kd.R_types bD.out aD.out (by decide)) (fun _ hk => hk.2) _ _ _ _ _) (fun _ h_ => h_.1))))) (Kd.R_lt (by (with_reducible repeat (first | apply Kd.R_alloc | apply Kd.R_drewN | apply Kd.R_drew)); exact (Kd.R_mono (Blk.R_far5 (g := aK) (Kd.R_types bC.out aD.out (by decide)) (fun _ hk => hk.2) _ _ _ _ _) (fun _ h_ => h_.1))))) (below_size (by repeat (first | (with_reducible first | exact HB.out | apply below_alloc | apply pw_below_drewN | apply below_drew1 | refine below_set ?_ aM.out | refine below_set ?_ aV.out | refine below_set ?_ bE.out | refine below_set ?_ bL.out) | exact HB.out)))); have n8_ := Aside0.mk (blk_below (g := aF) (o := .cells #[.slice A0_0 l0_0.length c0_0, .slice A0_1 l0_1.length c0_1, .int .i64 a0_2, .int .i64 a0_3, .int .i64 a0_4] 56 (0, 0)) (by (with_reducible repeat (first | refine blk_drewN ?_ _ | refine blk_drew ?_ | refine blk_alloc ?_ _)); refine Blk.blk_far5 ?_ bT.out _ _ _ _ _; (with_reducible repeat (first | refine blk_drewN ?_ _ | refine blk_drew ?_ | refine blk_alloc ?_ _)); exact aA.out) hb); have n9_ := Aside0.mk (blk_below (g := aE) (o := .cells #[.slice aS t288.length aQ, .slice aR t291.length aP, .int .i64 t294, .int .i64 t295, .int .i64 t296] 56 (0, 0)) (by (with_reducible repeat (first | refine blk_drewN ?_ _ | refine blk_drew ?_ | refine blk_alloc ?_ _)); refine Blk.blk_far5 ?_ cG.out _ _ _ _ _; (with_reducible repeat (first | refine blk_drewN ?_ _ | refine blk_drew ?_ | refine blk_alloc ?_ _)); exact aB.out) hb); have n10_ := Aside0.mk (blk_below (g := aL) (o := .cells #[.slice bS t302.length bR, .slice bB t305.length bA, .int .i64 t308, .int .i64 t309, .int .i64 t310] 56 (0, 0)) (by (with_reducible repeat (first | refine blk_drewN ?_ _ | refine blk_drew ?_ | refine blk_alloc ?_ _)); refine Blk.blk_far5 ?_ cE.out _ _ _ _ _; (with_reducible repeat (first | refine blk_drewN ?_ _ | refine blk_drew ?_ | refine blk_alloc ?_ _)); exact aC.out) hb); have n11_ := Aside0.mk (blk_below (g := aK) (o := .cells #[.slice bK t313.length bI, .slice bJ t316.length bH, .int .i64 t319, .int .i64 t320, .int .i64 t321] 56 (0, 0)) (by (with_reducible repeat (first | refine blk_drewN ?_ _ | refine blk_drew ?_ | refine blk_alloc ?_ _)); refine Blk.blk_put5 (z0 := (.slice none 0 0)) (z1 := (.slice none 0 0)) (z2 := (.int .i64 0)) (z3 := (.int .i64 0)) (z4 := (.int .i64 0)) ?_ _ _ _ _ _; (with_reducible repeat (first | refine blk_drewN ?_ _ | refine blk_drew ?_ | refine blk_alloc ?_ _)); exact aD.out) hb); have n12_ := Aside0.mk (below_step (by repeat (first | (with_reducible first | exact HB.out | apply below_alloc | apply pw_below_drewN | apply below_drew1 | refine below_set ?_ aM.out | refine below_set ?_ aV.out | refine below_set ?_ bE.out | refine below_set ?_ bL.out) | exact HB.out)) hb); clear aH; clear aG; clear aW; clear aU; clear bD; clear bC; clear aA; clear aB; clear aC; clear aD; clear HB; have aH := n0_; have aG := n1_; have aW := n2_; have aU := n3_; have bD := n4_; have bC := n5_; have bP := n6_; have bO := n7_; have aA := n8_; have aB := n9_; have aC := n10_; have aD := n11_; have HB := n12_; clear n0_ n1_ n2_ n3_ n4_ n5_ n6_ n7_ n8_ n9_ n10_ n11_ n12_; (try clear hb); (try clear hb2); (try clear hk); (try clear hi); (try clear ho0); (try clear ho1)) | ((with_reducible refine gate_dst (N := 14) rfl ?_); refine box_event ?hg (N := 14) ?hd (cs := #[.slice none 0 0, .slice none 0 0, .int .i64 0, .int .i64 0, .int .i64 0]) (t := 56) ?hr ?_; (case hd => rfl); (case hg => rfl); (case hr => first | (go_simp; done) | (go_simp; rfl)); intro aN hg w40 hbox hb; have n0_ := Aside0.mk (Kd.R_below (by (with_reducible repeat (first | apply Kd.R_alloc | apply Kd.R_drewN | apply Kd.R_drew)); exact aH.out) hb); have n1_ := Aside0.mk (Kd.R_below (by (with_reducible repeat (first | apply Kd.R_alloc | apply Kd.R_drewN | apply Kd.R_drew)); exact aG.out) hb); have n2_ := Aside0.mk (RC.V_below (RC.V_elderB (by (with_reducible repeat (first | apply RC.V_alloc | apply RC.V_drewN | apply RC.V_drew)); exact aW.out) aN (Nat.le_of_eq hg.symm)) hb); have n3_ := Aside0.mk (Kd.R_below (by (with_reducible repeat (first | apply Kd.R_alloc | apply Kd.R_drewN | apply Kd.R_drew)); exact aU.out) hb); have n4_ := Aside0.mk (Kd.R_below (by (with_reducible repeat (first | apply Kd.R_alloc | apply Kd.R_drewN | apply Kd.R_drew)); exact bD.out) hb); have n5_ := Aside0.mk (Kd.R_below (by (with_reducible repeat (first | apply Kd.R_alloc | apply Kd.R_drewN | apply Kd.R_drew)); exact bC.out) hb); have n6_ := Aside0.mk (Kd.V_below (Kd.V_elderB (by (with_reducible repeat (first | apply Kd.V_alloc | apply Kd.V_drewN | apply Kd.V_drew)); exact bP.out) aN (Nat.le_of_eq hg.symm)) hb); have n7_ := Aside0.mk (Kd.R_below (by (with_reducible repeat (first | apply Kd.R_alloc | apply Kd.R_drewN | apply Kd.R_drew)); exact bO.out) hb); have n8_ := Aside0.mk (blk_below (g := aF) (o := .cells #[.slice A0_0 l0_0.length c0_0, .slice A0_1 l0_1.length c0_1, .int .i64 a0_2, .int .i64 a0_3, .int .i64 a0_4] 56 (0, 0)) (by (with_reducible repeat (first | refine blk_drewN ?_ _ | refine blk_drew ?_ | refine blk_alloc ?_ _)); exact aA.out) hb); have n9_ := Aside0.mk (blk_below (g := aE) (o := .cells #[.slice aS t288.length aQ, .slice aR t291.length aP, .int .i64 t294, .int .i64 t295, .int .i64 t296] 56 (0, 0)) (by (with_reducible repeat (first | refine blk_drewN ?_ _ | refine blk_drew ?_ | refine blk_alloc ?_ _)); exact aB.out) hb); have n10_ := Aside0.mk (blk_below (g := aL) (o := .cells #[.slice bS t302.length bR, .slice bB t305.length bA, .int .i64 t308, .int .i64 t309, .int .i64 t310] 56 (0, 0)) (by (with_reducible repeat (first | refine blk_drewN ?_ _ | refine blk_drew ?_ | refine blk_alloc ?_ _)); exact aC.out) hb); have n11_ := Aside0.mk (blk_below (g := aK) (o := .cells #[.slice bK t313.length bI, .slice bJ t316.length bH, .int .i64 t319, .int .i64 t320, .int .i64 t321] 56 (0, 0)) (by (with_reducible repeat (first | refine blk_drewN ?_ _ | refine blk_drew ?_ | refine blk_alloc ?_ _)); exact aD.out) hb); have n12_ := Aside0.mk (below_step (by repeat (first | (with_reducible first | exact HB.out | apply below_alloc | apply pw_below_drewN | apply below_drew1 | refine below_set ?_ aM.out | refine below_set ?_ aV.out | refine below_set ?_ bE.out | refine below_set ?_ bL.out) | exact HB.out)) hb); have n13_ := Aside0.mk (hbox); have n14_ := Aside0.mk ((by rw [hg]; exact (below_size (by repeat (first | (with_reducible first | exact HB.out | apply below_alloc | apply pw_below_drewN | apply below_drew1 | refine below_set ?_ aM.out | refine below_set ?_ aV.out | refine below_set ?_ bE.out | refine below_set ?_ bL.out) | exact HB.out))) : w.heap.size ≤ aN)); have n15_ := Aside0.mk ((by rw [hg]; exact (below_size (by repeat (first | (with_reducible first | exact HB.out | apply below_alloc | apply pw_below_drewN | apply below_drew1 | refine below_set ?_ aM.out | refine below_set ?_ aV.out | refine below_set ?_ bE.out | refine below_set ?_ bL.out) | exact HB.out))) : w.heap.size ≤ aN)); have n16_ := Aside0.mk ((by rw [hg]; exact Nat.ne_of_lt (blk_lt (g := aF) (o := .cells #[.slice A0_0 l0_0.length c0_0, .slice A0_1 l0_1.length c0_1, .int .i64 a0_2, .int .i64 a0_3, .int .i64 a0_4] 56 (0, 0)) (by (with_reducible repeat (first | refine blk_drewN ?_ _ | refine blk_drew ?_ | refine blk_alloc ?_ _)); exact aA.out)) : aF ≠ aN)); have n17_ := Aside0.mk ((by rw [hg]; exact Nat.ne_of_gt (blk_lt (g := aF) (o := .cells #[.slice A0_0 l0_0.length c0_0, .slice A0_1 l0_1.length c0_1, .int .i64 a0_2, .int .i64 a0_3, .int .i64 a0_4] 56 (0, 0)) (by (with_reducible repeat (first | refine blk_drewN ?_ _ | refine blk_drew ?_ | refine blk_alloc ?_ _)); exact aA.out)) : aN ≠ aF)); have n18_ := Aside0.mk ((by rw [hg]; exact Nat.ne_of_lt (blk_lt (g := aE) (o := .cells #[.slice aS t288.length aQ, .slice aR t291.length aP, .int .i64 t294, .int .i64 t295, .int .i64 t296] 56 (0, 0)) (by (with_reducible repeat (first | refine blk_drewN ?_ _ | refine blk_drew ?_ | refine blk_alloc ?_ _)); exact aB.out)) : aE ≠ aN)); have n19_ := Aside0.mk ((by rw [hg]; exact Nat.ne_of_gt (blk_lt (g := aE) (o := .cells #[.slice aS t288.length aQ, .slice aR t291.length aP, .int .i64 t294, .int .i64 t295, .int .i64 t296] 56 (0, 0)) (by (with_reducible repeat (first | refine blk_drewN ?_ _ | refine blk_drew ?_ | refine blk_alloc ?_ _)); exact aB.out)) : aN ≠ aE)); have n20_ := Aside0.mk ((by rw [hg]; exact Nat.ne_of_lt (blk_lt (g := aL) (o := .cells #[.slice bS t302.length bR, .slice bB t305.length bA, .int .i64 t308, .int .i64 t309, .int .i64 t310] 56 (0, 0)) (by (with_reducible repeat (first | refine blk_drewN ?_ _ | refine blk_drew ?_ | refine blk_alloc ?_ _)); exact aC.out)) : aL ≠ aN)); have n21_ := Aside0.mk ((by rw [hg]; exact Nat.ne_of_gt (blk_lt (g := aL) (o := .cells #[.slice bS t302.length bR, .slice bB t305.length bA, .int .i64 t308, .int .i64 t309, .int .i64 t310] 56 (0, 0)) (by (with_reducible repeat (first | refine blk_drewN ?_ _ | refine blk_drew ?_ | refine blk_alloc ?_ _)); exact aC.out)) : aN ≠ aL)); have n22_ := Aside0.mk ((by rw [hg]; exact Nat.ne_of_lt (blk_lt (g := aK) (o := .cells #[.slice bK t313.length bI, .slice bJ t316.length bH, .int .i64 t319, .int .i64 t320, .int .i64 t321] 56 (0, 0)) (by (with_reducible repeat (first | refine blk_drewN ?_ _ | refine blk_drew ?_ | refine blk_alloc ?_ _)); exact aD.out)) : aK ≠ aN)); have n23_ := Aside0.mk ((by rw [hg]; exact Nat.ne_of_gt (blk_lt (g := aK) (o := .cells #[.slice bK t313.length bI, .slice bJ t316.length bH, .int .i64 t319, .int .i64 t320, .int .i64 t321] 56 (0, 0)) (by (with_reducible repeat (first | refine blk_drewN ?_ _ | refine blk_drew ?_ | refine blk_alloc ?_ _)); exact aD.out)) : aN ≠ aK)); clear aH; clear aG; clear aW; clear aU; clear bD; clear bC; clear bP; clear bO; clear aA; clear aB; clear aC; clear aD; clear HB; have aH := n0_; have aG := n1_; have aW := n2_; have aU := n3_; have bD := n4_; have bC := n5_; have bP := n6_; have bO := n7_; have aA := n8_; have aB := n9_; have aC := n10_; have aD := n11_; have HB := n12_; have aO := n13_; have GW334 := n14_; have bQ := n15_; have bW := n16_; have cB := n17_; have bV := n18_; have cA := n19_; have bU := n20_; have bZ := n21_; have cC := n22_; have cK := n23_; clear n0_ n1_ n2_ n3_ n4_ n5_ n6_ n7_ n8_ n9_ n10_ n11_ n12_ n13_ n14_ n15_ n16_ n17_ n18_ n19_ n20_ n21_ n22_ n23_; clear hb hbox hg; obtain ⟨cJ, cI, eo41⟩ := Kd.V_slice bP.out; subst eo41; have hnb42 := cB.out; have hnc42 := bW.out; have hnb43 := cA.out; have hnc43 := bV.out; have hnb44 := bZ.out; have hnc44 := bU.out; have hnb45 := cK.out; have hnc45 := cC.out; obtain ⟨hcz46_0, hcz46_1, hcz46_2, hcz46_3, hcz46_4, hfz46_0, hfz46_1, hfz46_2, hfz46_3, hfz46_4⟩ := Blk.blk5 (show w40.heap[aN]? = some (.cells #[.slice none 0 0, .slice none 0 0, .int .i64 0, .int .i64 0, .int .i64 0] _ (0, 0)) from aO.out); obtain ⟨bN, bM, eo47⟩ := Kd.R_slice bO.out; subst eo47) | ((with_reducible refine gate_store (t := 56) (p := 14) rfl ?_); refine store_event (t := 56) (p := 14) (v := ?vo_w48) (w1 := (((((w40.setCell ⟨aN, 0, none⟩ (.slice cJ t324.length cI)).setCell ⟨aN, 1, none⟩ (.slice bN t327.length bM)).setCell ⟨aN, 2, none⟩ (.int .i64 t330)).setCell ⟨aN, 3, none⟩ (.int .i64 t331)).setCell ⟨aN, 4, none⟩ (.int .i64 t332))) ?hg ?ho ?hn ?hr ?_; (case ho => rfl); (case hg => rfl); (case hn => rfl); (case hr => first | (go_simp; done) | (go_simp; rfl)); intro w48 hw; have n0_ : Aside0 (Kd.R (Kd.int .i64) 3 w48 w.heap.size (fun k_ => some k_ ≠ (.slice aR t291.length aP : Value).ownBlock ∧ some k_ ≠ (.slice bB t305.length bA : Value).ownBlock ∧ some k_ ≠ (.slice bK t313.length bI : Value).ownBlock ∧ some k_ ≠ (.slice bJ t316.length bH : Value).ownBlock ∧ some k_ ≠ (.slice bN t327.length bM : Value).ownBlock) (.slice aS t288.length aQ) t288) := ⟨(by rw [hw]; exact (by (with_reducible repeat (first | apply Kd.R_alloc | apply Kd.R_drewN | apply Kd.R_drew)); exact Kd.R_mono (Blk.R_far5 (g := aN) (Kd.R_types aH.out aO.out (by decide)) (fun _ hk => hk.2) _ _ _ _ _) (fun _ hk => ⟨hk.1.1.1.1.1, ⟨hk.1.1.1.1.2, ⟨hk.1.1.1.2, ⟨hk.1.1.2, hk.1.2⟩⟩⟩⟩)))⟩; have n1_ : Aside0 (Kd.R (Kd.int .i64) 3 w48 w.heap.size (fun k_ => some k_ ≠ (.slice aS t288.length aQ : Value).ownBlock ∧ some k_ ≠ (.slice bB t305.length bA : Value).ownBlock ∧ some k_ ≠ (.slice bK t313.length bI : Value).ownBlock ∧ some k_ ≠ (.slice bJ t316.length bH : Value).ownBlock ∧ some k_ ≠ (.slice bN t327.length bM : Value).ownBlock) (.slice aR t291.length aP) t291) := ⟨(by rw [hw]; exact (by (with_reducible repeat (first | apply Kd.R_alloc | apply Kd.R_drewN | apply Kd.R_drew)); exact Kd.R_mono (Blk.R_far5 (g := aN) (Kd.R_types aG.out aO.out (by decide)) (fun _ hk => hk.2) _ _ _ _ _) (fun _ hk => ⟨hk.1.1.1.1.1, ⟨hk.1.1.1.1.2, ⟨hk.1.1.1.2, ⟨hk.1.1.2, hk.1.2⟩⟩⟩⟩)))⟩; have n2_ : Aside0 (RC.V (Kd.int .i64) 3 w48 w.heap.size (fun k_ => some k_ ≠ (.slice aS t288.length aQ : Value).ownBlock ∧ some k_ ≠ (.slice aR t291.length aP : Value).ownBlock ∧ some k_ ≠ (.slice bB t305.length bA : Value).ownBlock ∧ some k_ ≠ (.slice bK t313.length bI : Value).ownBlock ∧ some k_ ≠ (.slice bJ t316.length bH : Value).ownBlock ∧ some k_ ≠ (.slice bN t327.length bM : Value).ownBlock ∧ k_ ≠ aF ∧ k_ ≠ aE ∧ k_ ≠ aL ∧ k_ ≠ aK ∧ k_ ≠ aN) (.slice bS t302.length bR) t302) := ⟨(by rw [hw]; exact (by (with_reducible repeat (first | apply Kd.V_alloc | apply Kd.V_drewN | apply Kd.V_drew)); exact RC.V_mono (RC.V_far5 (g := aN) (RC.V_mono aW.out (fun k_ hk => (⟨hk, hk.2⟩ : _ ∧ k_ ≠ aN))) (fun _ hk => hk.2) _ _ _ _ _) (fun _ hk => ⟨hk.1.1.1.1.1.1.1.2.1, ⟨hk.1.1.1.1.1.1.1.2.2.1, ⟨hk.1.1.1.1.1.1.1.1, ⟨hk.1.1.1.1.1.2, ⟨hk.1.1.1.1.2, ⟨hk.1.1.2, ⟨hk.1.1.1.1.1.1.1.2.2.2.1, ⟨hk.1.1.1.1.1.1.1.2.2.2.2, ⟨hk.1.1.1.1.1.1.2, ⟨hk.1.1.1.2, hk.1.2⟩⟩⟩⟩⟩⟩⟩⟩⟩⟩)))⟩; have n3_ : Aside0 (Kd.R (Kd.int .i64) 3 w48 w.heap.size (fun k_ => some k_ ≠ (.slice aS t288.length aQ : Value).ownBlock ∧ some k_ ≠ (.slice aR t291.length aP : Value).ownBlock ∧ some k_ ≠ (.slice bK t313.length bI : Value).ownBlock ∧ some k_ ≠ (.slice bJ t316.length bH : Value).ownBlock ∧ some k_ ≠ (.slice bN t327.length bM : Value).ownBlock) (.slice bB t305.length bA) t305) := ⟨(by rw [hw]; exact (by (with_reducible repeat (first | apply Kd.R_alloc | apply Kd.R_drewN | apply Kd.R_drew)); exact Kd.R_mono (Blk.R_far5 (g := aN) (Kd.R_types aU.out aO.out (by decide)) (fun _ hk => hk.2) _ _ _ _ _) (fun _ hk => ⟨hk.1.1.1.1.1.2, ⟨hk.1.1.1.1.2, ⟨hk.1.1.1.2, ⟨hk.1.1.2, hk.1.2⟩⟩⟩⟩)))⟩; have n4_ : Aside0 (Kd.R (Kd.int .i64) 3 w48 w.heap.size (fun k_ => some k_ ≠ (.slice aS t288.length aQ : Value).ownBlock ∧ some k_ ≠ (.slice aR t291.length aP : Value).ownBlock ∧ some k_ ≠ (.slice bB t305.length bA : Value).ownBlock ∧ some k_ ≠ (.slice bJ t316.length bH : Value).ownBlock ∧ some k_ ≠ (.slice bN t327.length bM : Value).ownBlock) (.slice bK t313.length bI) t313) := ⟨(by rw [hw]; exact (by (with_reducible repeat (first | apply Kd.R_alloc | apply Kd.R_drewN | apply Kd.R_drew)); exact Kd.R_mono (Blk.R_far5 (g := aN) (Kd.R_types bD.out aO.out (by decide)) (fun _ hk => hk.2) _ _ _ _ _) (fun _ hk => ⟨hk.1.1.1.1.2, ⟨hk.1.1.1.2, ⟨hk.1.1.2, ⟨hk.1.1.1.1.1, hk.1.2⟩⟩⟩⟩)))⟩; have n5_ : Aside0 (Kd.R (Kd.int .i64) 3 w48 w.heap.size (fun k_ => some k_ ≠ (.slice aS t288.length aQ : Value).ownBlock ∧ some k_ ≠ (.slice aR t291.length aP : Value).ownBlock ∧ some k_ ≠ (.slice bB t305.length bA : Value).ownBlock ∧ some k_ ≠ (.slice bK t313.length bI : Value).ownBlock ∧ some k_ ≠ (.slice bN t327.length bM : Value).ownBlock) (.slice bJ t316.length bH) t316) := ⟨(by rw [hw]; exact (by (with_reducible repeat (first | apply Kd.R_alloc | apply Kd.R_drewN | apply Kd.R_drew)); exact Kd.R_mono (Blk.R_far5 (g := aN) (Kd.R_types bC.out aO.out (by decide)) (fun _ hk => hk.2) _ _ _ _ _) (fun _ hk => ⟨hk.1.1.1.1.2, ⟨hk.1.1.1.2, ⟨hk.1.1.2, ⟨hk.1.1.1.1.1, hk.1.2⟩⟩⟩⟩)))⟩; have n6_ : Aside0 (Kd.V (Kd.int .i64) 3 w48 w.heap.size (fun k_ => some k_ ≠ (.slice aS t288.length aQ : Value).ownBlock ∧ some k_ ≠ (.slice aR t291.length aP : Value).ownBlock ∧ some k_ ≠ (.slice bB t305.length bA : Value).ownBlock ∧ some k_ ≠ (.slice bK t313.length bI : Value).ownBlock ∧ some k_ ≠ (.slice bJ t316.length bH : Value).ownBlock ∧ some k_ ≠ (.slice bN t327.length bM : Value).ownBlock ∧ k_ ≠ aF ∧ k_ ≠ aE ∧ k_ ≠ aL ∧ k_ ≠ aK ∧ k_ ≠ aN) (.slice cJ t324.length cI) t324) := ⟨(by rw [hw]; exact (by (with_reducible repeat (first | apply Kd.V_alloc | apply Kd.V_drewN | apply Kd.V_drew)); exact Kd.V_mono (Blk.V_far5 (g := aN) (Kd.V_mono bP.out (fun k_ hk => (⟨hk, hk.2⟩ : _ ∧ k_ ≠ aN))) (fun _ hk => hk.2) _ _ _ _ _) (fun _ hk => ⟨hk.1.1.2.1, ⟨hk.1.1.2.2.1, ⟨hk.1.1.2.2.2.1, ⟨hk.1.1.2.2.2.2.1, ⟨hk.1.1.2.2.2.2.2.1, ⟨hk.1.1.1, ⟨hk.1.1.2.2.2.2.2.2.1, ⟨hk.1.1.2.2.2.2.2.2.2.1, ⟨hk.1.1.2.2.2.2.2.2.2.2.1, ⟨hk.1.1.2.2.2.2.2.2.2.2.2, hk.1.2⟩⟩⟩⟩⟩⟩⟩⟩⟩⟩)))⟩; have n7_ : Aside0 (Kd.R (Kd.int .i64) 3 w48 w.heap.size (fun k_ => some k_ ≠ (.slice aS t288.length aQ : Value).ownBlock ∧ some k_ ≠ (.slice aR t291.length aP : Value).ownBlock ∧ some k_ ≠ (.slice bB t305.length bA : Value).ownBlock ∧ some k_ ≠ (.slice bK t313.length bI : Value).ownBlock ∧ some k_ ≠ (.slice bJ t316.length bH : Value).ownBlock) (.slice bN t327.length bM) t327) := ⟨(by rw [hw]; exact (by (with_reducible repeat (first | apply Kd.R_alloc | apply Kd.R_drewN | apply Kd.R_drew)); exact Kd.R_mono (Blk.R_far5 (g := aN) (Kd.R_types bO.out aO.out (by decide)) (fun _ hk => hk.2) _ _ _ _ _) (fun _ hk => ⟨hk.1.1.1.1.1.2, ⟨hk.1.1.1.1.2, ⟨hk.1.1.1.2, ⟨hk.1.1.2, hk.1.2⟩⟩⟩⟩)))⟩; have n8_ : Aside0 (w48.heap[aF]? = some (.cells #[.slice A0_0 l0_0.length c0_0, .slice A0_1 l0_1.length c0_1, .int .i64 a0_2, .int .i64 a0_3, .int .i64 a0_4] 56 (0, 0))) := ⟨(by rw [hw]; exact (by (with_reducible repeat (first | refine blk_drewN ?_ _ | refine blk_drew ?_ | refine blk_alloc ?_ _)); refine Blk.blk_far5 ?_ bW.out _ _ _ _ _; (with_reducible repeat (first | refine blk_drewN ?_ _ | refine blk_drew ?_ | refine blk_alloc ?_ _)); exact aA.out))⟩; have n9_ : Aside0 (w48.heap[aE]? = some (.cells #[.slice aS t288.length aQ, .slice aR t291.length aP, .int .i64 t294, .int .i64 t295, .int .i64 t296] 56 (0, 0))) := ⟨(by rw [hw]; exact (by (with_reducible repeat (first | refine blk_drewN ?_ _ | refine blk_drew ?_ | refine blk_alloc ?_ _)); refine Blk.blk_far5 ?_ bV.out _ _ _ _ _; (with_reducible repeat (first | refine blk_drewN ?_ _ | refine blk_drew ?_ | refine blk_alloc ?_ _)); exact aB.out))⟩; have n10_ : Aside0 (w48.heap[aL]? = some (.cells #[.slice bS t302.length bR, .slice bB t305.length bA, .int .i64 t308, .int .i64 t309, .int .i64 t310] 56 (0, 0))) := ⟨(by rw [hw]; exact (by (with_reducible repeat (first | refine blk_drewN ?_ _ | refine blk_drew ?_ | refine blk_alloc ?_ _)); refine Blk.blk_far5 ?_ bU.out _ _ _ _ _; (with_reducible repeat (first | refine blk_drewN ?_ _ | refine blk_drew ?_ | refine blk_alloc ?_ _)); exact aC.out))⟩; have n11_ : Aside0 (w48.heap[aK]? = some (.cells #[.slice bK t313.length bI, .slice bJ t316.length bH, .int .i64 t319, .int .i64 t320, .int .i64 t321] 56 (0, 0))) := ⟨(by rw [hw]; exact (by (with_reducible repeat (first | refine blk_drewN ?_ _ | refine blk_drew ?_ | refine blk_alloc ?_ _)); refine Blk.blk_far5 ?_ cC.out _ _ _ _ _; (with_reducible repeat (first | refine blk_drewN ?_ _ | refine blk_drew ?_ | refine blk_alloc ?_ _)); exact aD.out))⟩; have n12_ : Aside0 (w48.heap[aN]? = some (.cells #[.slice cJ t324.length cI, .slice bN t327.length bM, .int .i64 t330, .int .i64 t331, .int .i64 t332] 56 (0, 0))) := ⟨(by rw [hw]; exact (by (with_reducible repeat (first | refine blk_drewN ?_ _ | refine blk_drew ?_ | refine blk_alloc ?_ _)); refine Blk.blk_put5 (z0 := (.slice none 0 0)) (z1 := (.slice none 0 0)) (z2 := (.int .i64 0)) (z3 := (.int .i64 0)) (z4 := (.int .i64 0)) ?_ _ _ _ _ _; (with_reducible repeat (first | refine blk_drewN ?_ _ | refine blk_drew ?_ | refine blk_alloc ?_ _)); exact aO.out))⟩; have n13_ : Aside0 (Below w.heap.size w w48) := ⟨(by rw [hw]; exact (by repeat (first | (with_reducible first | exact HB.out | apply below_alloc | apply pw_below_drewN | apply below_drew1 | refine below_set ?_ aM.out | refine below_set ?_ aV.out | refine below_set ?_ bE.out | refine below_set ?_ bL.out | refine below_set ?_ bQ.out) | exact HB.out)))⟩; clear hw; clear aH; clear aG; clear aW; clear aU; clear bD; clear bC; clear bP; clear bO; clear aA; clear aB; clear aC; clear aD; clear aO; clear HB; have aH := n0_; have aG := n1_; have aW := n2_; have aU := n3_; have bD := n4_; have bC := n5_; have bP := n6_; have bO := n7_; have aA := n8_; have aB := n9_; have aC := n10_; have aD := n11_; have aO := n12_; have HB := n13_; clear n0_ n1_ n2_ n3_ n4_ n5_ n6_ n7_ n8_ n9_ n10_ n11_ n12_ n13_; obtain ⟨hcz49_0, hcz49_1, hcz49_2, hcz49_3, hcz49_4, hfz49_0, hfz49_1, hfz49_2, hfz49_3, hfz49_4⟩ := Blk.blk5 (show w48.heap[aL]? = some (.cells #[.slice bS t302.length bR, .slice bB t305.length bA, .int .i64 t308, .int .i64 t309, .int .i64 t310] _ (0, 0)) from aC.out)) | ((with_reducible refine gate_callee (f := 39) rfl ?_); refine goesL_ (some 47) rfl rfl Try.func39 (by kernel_rfl) rfl #[.agg #[.slice bS t302.length bR, .slice bB t305.length bA, .int .i64 t308, .int .i64 t309, .int .i64 t310]] rfl (by (try simp only [List.map_toArray, List.map_cons, List.map_nil]); first | done | rfl | (simp only [List.length_drop, List.length_take]; rfl)) ?_; (with_reducible refine (check_Put.calls k (fun k_ => (some k_ ≠ (.slice aS t288.length aQ : Value).ownBlock ∧ (some k_ ≠ (.slice aR t291.length aP : Value).ownBlock ∧ (some k_ ≠ (.slice bB t305.length bA : Value).ownBlock ∧ (some k_ ≠ (.slice bK t313.length bI : Value).ownBlock ∧ (some k_ ≠ (.slice bJ t316.length bH : Value).ownBlock ∧ (some k_ ≠ (.slice bN t327.length bM : Value).ownBlock ∧ (k_ ≠ aF ∧ (k_ ≠ aE ∧ (k_ ≠ aL ∧ (k_ ≠ aK ∧ k_ ≠ aN))))))))))) _ _ t302 (fun k_ => some k_ = (.slice bB t305.length bA : Value).ownBlock) _ _ t305 t308 t309 t310 t335 t336 _ ?side1 ?side2 A9.out).mono ?_); (case side1 => exact RC.toV aW.out); (case side2 => exact Kd.R_V (Kd.R_tight rfl (Kd.R_types (Kd.R_types (Kd.R_types (Kd.R_types (Kd.R_types (aU.out) aA.out (by decide)) aB.out (by decide)) aC.out (by decide)) aD.out (by decide)) aO.out (by decide)))); rintro e w50 ⟨rfl, hb⟩; refine ⟨_, rfl, ?_⟩; have n0_ := Aside0.mk (Kd.R_below (by (with_reducible repeat (first | apply Kd.R_alloc | apply Kd.R_drewN | apply Kd.R_drew)); exact aH.out) hb); have n1_ := Aside0.mk (Kd.R_below (by (with_reducible repeat (first | apply Kd.R_alloc | apply Kd.R_drewN | apply Kd.R_drew)); exact aG.out) hb); have n2_ := Aside0.mk (RC.V_below (by (with_reducible repeat (first | apply RC.V_alloc | apply RC.V_drewN | apply RC.V_drew)); exact aW.out) hb); have n3_ := Aside0.mk (Kd.R_below (by (with_reducible repeat (first | apply Kd.R_alloc | apply Kd.R_drewN | apply Kd.R_drew)); exact aU.out) hb); have n4_ := Aside0.mk (Kd.R_below (by (with_reducible repeat (first | apply Kd.R_alloc | apply Kd.R_drewN | apply Kd.R_drew)); exact bD.out) hb); have n5_ := Aside0.mk (Kd.R_below (by (with_reducible repeat (first | apply Kd.R_alloc | apply Kd.R_drewN | apply Kd.R_drew)); exact bC.out) hb); have n6_ := Aside0.mk (Kd.V_below (by (with_reducible repeat (first | apply Kd.V_alloc | apply Kd.V_drewN | apply Kd.V_drew)); exact bP.out) hb); have n7_ := Aside0.mk (Kd.R_below (by (with_reducible repeat (first | apply Kd.R_alloc | apply Kd.R_drewN | apply Kd.R_drew)); exact bO.out) hb); have n8_ := Aside0.mk (blk_below (g := aF) (o := .cells #[.slice A0_0 l0_0.length c0_0, .slice A0_1 l0_1.length c0_1, .int .i64 a0_2, .int .i64 a0_3, .int .i64 a0_4] 56 (0, 0)) (by (with_reducible repeat (first | refine blk_drewN ?_ _ | refine blk_drew ?_ | refine blk_alloc ?_ _)); exact aA.out) hb); have n9_ := Aside0.mk (blk_below (g := aE) (o := .cells #[.slice aS t288.length aQ, .slice aR t291.length aP, .int .i64 t294, .int .i64 t295, .int .i64 t296] 56 (0, 0)) (by (with_reducible repeat (first | refine blk_drewN ?_ _ | refine blk_drew ?_ | refine blk_alloc ?_ _)); exact aB.out) hb); have n10_ := Aside0.mk (blk_below (g := aL) (o := .cells #[.slice bS t302.length bR, .slice bB t305.length bA, .int .i64 t308, .int .i64 t309, .int .i64 t310] 56 (0, 0)) (by (with_reducible repeat (first | refine blk_drewN ?_ _ | refine blk_drew ?_ | refine blk_alloc ?_ _)); exact aC.out) hb); have n11_ := Aside0.mk (blk_below (g := aK) (o := .cells #[.slice bK t313.length bI, .slice bJ t316.length bH, .int .i64 t319, .int .i64 t320, .int .i64 t321] 56 (0, 0)) (by (with_reducible repeat (first | refine blk_drewN ?_ _ | refine blk_drew ?_ | refine blk_alloc ?_ _)); exact aD.out) hb); have n12_ := Aside0.mk (blk_below (g := aN) (o := .cells #[.slice cJ t324.length cI, .slice bN t327.length bM, .int .i64 t330, .int .i64 t331, .int .i64 t332] 56 (0, 0)) (by (with_reducible repeat (first | refine blk_drewN ?_ _ | refine blk_drew ?_ | refine blk_alloc ?_ _)); exact aO.out) hb); have n13_ := Aside0.mk (below_step (by repeat (first | (with_reducible first | exact HB.out | apply below_alloc | apply pw_below_drewN | apply below_drew1 | refine below_set ?_ aM.out | refine below_set ?_ aV.out | refine below_set ?_ bE.out | refine below_set ?_ bL.out | refine below_set ?_ bQ.out) | exact HB.out)) hb); clear aH; clear aG; clear aW; clear aU; clear bD; clear bC; clear bP; clear bO; clear aA; clear aB; clear aC; clear aD; clear aO; clear HB; have aH := n0_; have aG := n1_; have aW := n2_; have aU := n3_; have bD := n4_; have bC := n5_; have bP := n6_; have bO := n7_; have aA := n8_; have aB := n9_; have aC := n10_; have aD := n11_; have aO := n12_; have HB := n13_; clear n0_ n1_ n2_ n3_ n4_ n5_ n6_ n7_ n8_ n9_ n10_ n11_ n12_ n13_; (try clear hb); (try clear hb2); (try clear hk); (try clear hi)))
 (try simp only [Act.put, List.setIfInBounds_toArray, List.set_cons_zero, List.set_cons_succ])
 go_cut [77] (fun v77 wc => ∃ (kq : Nat) (x77_9 : Bool), v77 = .bool x77_9 ∧ Aside0 (grafterlaw14_Checks.j0 kq a1 t299 t311 t333 t335 t336 x77_9 l0_0 l0_1 a0_2 a0_3 a0_4 t288 t291 t294 t295 t296 t302 t305 t308 t309 t310 t324 t327 t330 t331 t332 = some r) ∧ Aside0 (kq ≤ k) ∧ Aside0 (Kd.R (Kd.int .i64) 3 wc w.heap.size (fun k_ => some k_ ≠ ((.slice aR t291.length aP) : Value).ownBlock ∧ some k_ ≠ ((.slice bB t305.length bA) : Value).ownBlock ∧ some k_ ≠ ((.slice bK t313.length bI) : Value).ownBlock ∧ some k_ ≠ ((.slice bJ t316.length bH) : Value).ownBlock ∧ some k_ ≠ ((.slice bN t327.length bM) : Value).ownBlock) (.slice aS t288.length aQ) t288) ∧ Aside0 (Kd.R (Kd.int .i64) 3 wc w.heap.size (fun k_ => some k_ ≠ ((.slice aS t288.length aQ) : Value).ownBlock ∧ some k_ ≠ ((.slice bB t305.length bA) : Value).ownBlock ∧ some k_ ≠ ((.slice bK t313.length bI) : Value).ownBlock ∧ some k_ ≠ ((.slice bJ t316.length bH) : Value).ownBlock ∧ some k_ ≠ ((.slice bN t327.length bM) : Value).ownBlock) (.slice aR t291.length aP) t291) ∧ Aside0 (RC.V (Kd.int .i64) 3 wc w.heap.size (fun k_ => some k_ ≠ ((.slice aS t288.length aQ) : Value).ownBlock ∧ some k_ ≠ ((.slice aR t291.length aP) : Value).ownBlock ∧ some k_ ≠ ((.slice bB t305.length bA) : Value).ownBlock ∧ some k_ ≠ ((.slice bK t313.length bI) : Value).ownBlock ∧ some k_ ≠ ((.slice bJ t316.length bH) : Value).ownBlock ∧ some k_ ≠ ((.slice bN t327.length bM) : Value).ownBlock ∧ k_ ≠ aF ∧ k_ ≠ aE ∧ k_ ≠ aL ∧ k_ ≠ aK ∧ k_ ≠ aN) (.slice bS t302.length bR) t302) ∧ Aside0 (Kd.R (Kd.int .i64) 3 wc w.heap.size (fun k_ => some k_ ≠ ((.slice aS t288.length aQ) : Value).ownBlock ∧ some k_ ≠ ((.slice aR t291.length aP) : Value).ownBlock ∧ some k_ ≠ ((.slice bK t313.length bI) : Value).ownBlock ∧ some k_ ≠ ((.slice bJ t316.length bH) : Value).ownBlock ∧ some k_ ≠ ((.slice bN t327.length bM) : Value).ownBlock) (.slice bB t305.length bA) t305) ∧ Aside0 (Kd.R (Kd.int .i64) 3 wc w.heap.size (fun k_ => some k_ ≠ ((.slice aS t288.length aQ) : Value).ownBlock ∧ some k_ ≠ ((.slice aR t291.length aP) : Value).ownBlock ∧ some k_ ≠ ((.slice bB t305.length bA) : Value).ownBlock ∧ some k_ ≠ ((.slice bJ t316.length bH) : Value).ownBlock ∧ some k_ ≠ ((.slice bN t327.length bM) : Value).ownBlock) (.slice bK t313.length bI) t313) ∧ Aside0 (Kd.R (Kd.int .i64) 3 wc w.heap.size (fun k_ => some k_ ≠ ((.slice aS t288.length aQ) : Value).ownBlock ∧ some k_ ≠ ((.slice aR t291.length aP) : Value).ownBlock ∧ some k_ ≠ ((.slice bB t305.length bA) : Value).ownBlock ∧ some k_ ≠ ((.slice bK t313.length bI) : Value).ownBlock ∧ some k_ ≠ ((.slice bN t327.length bM) : Value).ownBlock) (.slice bJ t316.length bH) t316) ∧ Aside0 (Kd.V (Kd.int .i64) 3 wc w.heap.size (fun k_ => some k_ ≠ ((.slice aS t288.length aQ) : Value).ownBlock ∧ some k_ ≠ ((.slice aR t291.length aP) : Value).ownBlock ∧ some k_ ≠ ((.slice bB t305.length bA) : Value).ownBlock ∧ some k_ ≠ ((.slice bK t313.length bI) : Value).ownBlock ∧ some k_ ≠ ((.slice bJ t316.length bH) : Value).ownBlock ∧ some k_ ≠ ((.slice bN t327.length bM) : Value).ownBlock ∧ k_ ≠ aF ∧ k_ ≠ aE ∧ k_ ≠ aL ∧ k_ ≠ aK ∧ k_ ≠ aN) (.slice cJ t324.length cI) t324) ∧ Aside0 (Kd.R (Kd.int .i64) 3 wc w.heap.size (fun k_ => some k_ ≠ ((.slice aS t288.length aQ) : Value).ownBlock ∧ some k_ ≠ ((.slice aR t291.length aP) : Value).ownBlock ∧ some k_ ≠ ((.slice bB t305.length bA) : Value).ownBlock ∧ some k_ ≠ ((.slice bK t313.length bI) : Value).ownBlock ∧ some k_ ≠ ((.slice bJ t316.length bH) : Value).ownBlock) (.slice bN t327.length bM) t327) ∧ Aside0 (wc.heap[aF]? = some (.cells #[(.slice A0_0 l0_0.length c0_0), (.slice A0_1 l0_1.length c0_1), .int .i64 a0_2, .int .i64 a0_3, .int .i64 a0_4] 56 (0, 0))) ∧ Aside0 (wc.heap[aE]? = some (.cells #[(.slice aS t288.length aQ), (.slice aR t291.length aP), .int .i64 t294, .int .i64 t295, .int .i64 t296] 56 (0, 0))) ∧ Aside0 (wc.heap[aL]? = some (.cells #[(.slice bS t302.length bR), (.slice bB t305.length bA), .int .i64 t308, .int .i64 t309, .int .i64 t310] 56 (0, 0))) ∧ Aside0 (wc.heap[aK]? = some (.cells #[(.slice bK t313.length bI), (.slice bJ t316.length bH), .int .i64 t319, .int .i64 t320, .int .i64 t321] 56 (0, 0))) ∧ Aside0 (wc.heap[aN]? = some (.cells #[(.slice cJ t324.length cI), (.slice bN t327.length bM), .int .i64 t330, .int .i64 t331, .int .i64 t332] 56 (0, 0))) ∧ Aside0 (Below w.heap.size w wc))
 case first =>
  have H := cS.out
  clear cS
  by_cases c51 : t298.toList = t300.toList
  rotate_left
  · rw [if_neg c51] at H
    have c51b0 : (t298.toList == t300.toList) = false := beq_eq_false_iff_ne.mpr c51
    have c51b1 : (t298.toList != t300.toList) = true := bne_iff_ne.mpr c51
    (first | rw [c51b0] | (simp only [i64_w, i32_w]; rw [c51b0]) | skip)
    exact absurd ((Checks_j0t H).trans HRT.out) (by decide)
  rw [if_pos c51] at H
  have c51b0 : (t298.toList == t300.toList) = true := beq_iff_eq.mpr c51
  have c51b1 : (t298.toList != t300.toList) = false := bne_eq_false_iff_eq.mpr c51
  clear c51
  (first | rw [c51b0] | (simp only [i64_w, i32_w]; rw [c51b0]) | skip)
  replace H := Option.bind_eq_some_iff.mp H
  obtain ⟨t337, A520, H⟩ := H
  (try dsimp only at H)
  have A52 := Aside0.mk A520
  clear A520
  by_cases c53 : t337 = t301
  rotate_left
  · rw [if_neg c53] at H
    have c53b0 : (t337 == t301) = false := beq_eq_false_iff_ne.mpr c53
    have c53b1 : (t337 != t301) = true := bne_iff_ne.mpr c53
    exact absurd ((Checks_j0t H).trans HRT.out) (by decide)
  rw [if_pos c53] at H
  have c53b0 : (t337 == t301) = true := beq_iff_eq.mpr c53
  have c53b1 : (t337 != t301) = false := bne_eq_false_iff_eq.mpr c53
  clear c53
  replace H := Option.bind_eq_some_iff.mp H
  obtain ⟨t338, A540, H⟩ := H
  (try dsimp only at H)
  have A54 := Aside0.mk A540
  clear A540
  by_cases c55 : t338 = true
  rotate_left
  · replace c55 := Bool.eq_false_iff.mpr c55
    subst c55
    rw [if_neg (show ¬ (false = true) by decide)] at H
    exact absurd ((Checks_j0t H).trans HRT.out) (by decide)
  subst c55
  rw [if_pos rfl] at H
  replace H := Option.bind_eq_some_iff.mp H
  obtain ⟨t339, A560, H⟩ := H
  (try dsimp only at H)
  have A56 := Aside0.mk A560
  clear A560
  by_cases c57 : t339 = t322
  rotate_left
  · rw [if_neg c57] at H
    have c57b0 : (t339 == t322) = false := beq_eq_false_iff_ne.mpr c57
    have c57b1 : (t339 != t322) = true := bne_iff_ne.mpr c57
    exact absurd ((Checks_j0t H).trans HRT.out) (by decide)
  rw [if_pos c57] at H
  have c57b0 : (t339 == t322) = true := beq_iff_eq.mpr c57
  have c57b1 : (t339 != t322) = false := bne_eq_false_iff_eq.mpr c57
  clear c57
  replace H := Option.bind_eq_some_iff.mp H
  obtain ⟨t340, A580, H⟩ := H
  (try dsimp only at H)
  have A58 := Aside0.mk A580
  clear A580
  replace H := Option.bind_eq_some_iff.mp H
  obtain ⟨t341, A590, H⟩ := H
  replace H : (grafterlaw14_Checks.j0 k a1 t299 t311 t333 t335 t336 (t340 != t341) l0_0 l0_1 a0_2 a0_3 a0_4 t288 t291 t294 t295 t296 t302 t305 t308 t309 t310 t324 t327 t330 t331 t332) = some r := H
  have A59 := Aside0.mk A590
  clear A590
  have H' := Aside0.mk H
  clear H
  try go_wp2
  have n0_ := Aside0.mk (Kd.R_drew aH.out)
  have n1_ := Aside0.mk (Kd.R_drew aG.out)
  have n2_ := Aside0.mk (RC.V_drew aW.out)
  have n3_ := Aside0.mk (Kd.R_drew aU.out)
  have n4_ := Aside0.mk (Kd.R_drew bD.out)
  have n5_ := Aside0.mk (Kd.R_drew bC.out)
  have n6_ := Aside0.mk (Kd.V_drew bP.out)
  have n7_ := Aside0.mk (Kd.R_drew bO.out)
  have n8_ := Aside0.mk (blk_drew aA.out)
  have n9_ := Aside0.mk (blk_drew aB.out)
  have n10_ := Aside0.mk (blk_drew aC.out)
  have n11_ := Aside0.mk (blk_drew aD.out)
  have n12_ := Aside0.mk (blk_drew aO.out)
  have n13_ := Aside0.mk (below_drew1 HB.out)
  clear aH
  clear aG
  clear aW
  clear aU
  clear bD
  clear bC
  clear bP
  clear bO
  clear aA
  clear aB
  clear aC
  clear aD
  clear aO
  clear HB
  have aH := n0_
  have aG := n1_
  have aW := n2_
  have aU := n3_
  have bD := n4_
  have bC := n5_
  have bP := n6_
  have bO := n7_
  have aA := n8_
  have aB := n9_
  have aC := n10_
  have aD := n11_
  have aO := n12_
  have HB := n13_
  clear n0_ n1_ n2_ n3_ n4_ n5_ n6_ n7_ n8_ n9_ n10_ n11_ n12_ n13_
  refine start_ (n := 28) (S := fun w' => w'.cell? ⟨aL, 0, none⟩ = some (.slice bS t302.length bR) ∧ w'.cell? ⟨aL, 1, none⟩ = some (.slice bB t305.length bA) ∧ w'.cell? ⟨aL, 2, none⟩ = some (.int .i64 t308) ∧ w'.cell? ⟨aL, 3, none⟩ = some (.int .i64 t309) ∧ w'.cell? ⟨aL, 4, none⟩ = some (.int .i64 t310) ∧ w'.cell? ⟨aK, 0, none⟩ = some (.slice bK t313.length bI) ∧ w'.cell? ⟨aK, 1, none⟩ = some (.slice bJ t316.length bH) ∧ w'.cell? ⟨aK, 2, none⟩ = some (.int .i64 t319) ∧ w'.cell? ⟨aK, 3, none⟩ = some (.int .i64 t320) ∧ w'.cell? ⟨aK, 4, none⟩ = some (.int .i64 t321) ∧ w'.cell? ⟨aE, 0, none⟩ = some (.slice aS t288.length aQ) ∧ w'.cell? ⟨aE, 1, none⟩ = some (.slice aR t291.length aP) ∧ w'.cell? ⟨aE, 2, none⟩ = some (.int .i64 t294) ∧ w'.cell? ⟨aE, 3, none⟩ = some (.int .i64 t295) ∧ w'.cell? ⟨aE, 4, none⟩ = some (.int .i64 t296) ∧ w'.cell? ⟨aF, 0, none⟩ = some (.slice A0_0 l0_0.length c0_0) ∧ w'.cell? ⟨aF, 1, none⟩ = some (.slice A0_1 l0_1.length c0_1) ∧ w'.cell? ⟨aF, 2, none⟩ = some (.int .i64 a0_2) ∧ w'.cell? ⟨aF, 3, none⟩ = some (.int .i64 a0_3) ∧ w'.cell? ⟨aF, 4, none⟩ = some (.int .i64 a0_4)) (ds := []) #[false, false, false, false, false, false, false, false, false, false, false, false, false, false, false, false, false, false, false, false, false, false, false, false, false, false, false, false] (by kernel_rfl) rfl rfl ⟨(blk_cell aC.out 0).trans rfl, (blk_cell aC.out 1).trans rfl, (blk_cell aC.out 2).trans rfl, (blk_cell aC.out 3).trans rfl, (blk_cell aC.out 4).trans rfl, (blk_cell aD.out 0).trans rfl, (blk_cell aD.out 1).trans rfl, (blk_cell aD.out 2).trans rfl, (blk_cell aD.out 3).trans rfl, (blk_cell aD.out 4).trans rfl, (blk_cell aB.out 0).trans rfl, (blk_cell aB.out 1).trans rfl, (blk_cell aB.out 2).trans rfl, (blk_cell aB.out 3).trans rfl, (blk_cell aB.out 4).trans rfl, (blk_cell aA.out 0).trans rfl, (blk_cell aA.out 1).trans rfl, (blk_cell aA.out 2).trans rfl, (blk_cell aA.out 3).trans rfl, (blk_cell aA.out 4).trans rfl⟩ (fun hHeld => ?_); refine with_tabW grafterlaw14_Checks.tab8 grafterlaw14_Checks.bits8 (fun HT_ HW_ => ?_)
  generalize w50.drew = w60 at aH aG aW aU bD bC bP bO aA aB aC aD aO HB hHeld ⊢
  refine pure_ (i := 0) (N := some 50) (v := ?_) (a' := ?_) #[true, false, false, false, false, false, false, false, false, false, false, false, false, false, false, false, false, false, false, false, false, false, false, false, false, false, false, false] rfl rfl (any_of HT_.out (by kernel_rfl)) (fun _ _ _ h => h) (Or.inl ⟨by rfl, ?_⟩) ?_ ?_
  rotate_left
  · intro w'; go_simp; with_reducible rfl
  rotate_left
  · simp only [Act.put, List.setIfInBounds_toArray, List.set_cons_zero, List.set_cons_succ, i64_w, i32_w]; rfl
  refine pure_ (i := 1) (N := some 51) (v := ?_) (a' := ?_) #[true, true, false, false, false, false, false, false, false, false, false, false, false, false, false, false, false, false, false, false, false, false, false, false, false, false, false, false] rfl rfl (any_of HT_.out (by kernel_rfl)) (fun _ _ _ h => h) (Or.inl ⟨by rfl, ?_⟩) ?_ ?_
  rotate_left
  · intro w'; go_simp; with_reducible rfl
  rotate_left
  · simp only [Act.put, List.setIfInBounds_toArray, List.set_cons_zero, List.set_cons_succ, i64_w, i32_w]; rfl
  refine pure_ (i := 2) (N := some 52) (v := ?_) (a' := ?_) #[true, true, true, false, false, false, false, false, false, false, false, false, false, false, false, false, false, false, false, false, false, false, false, false, false, false, false, false] rfl rfl (any_of HT_.out (by kernel_rfl)) (fun _ _ _ h => h) (Or.inl ⟨by rfl, ?_⟩) ?_ ?_
  rotate_left
  · intro w'; go_simp; with_reducible rfl
  rotate_left
  · simp only [Act.put, List.setIfInBounds_toArray, List.set_cons_zero, List.set_cons_succ, i64_w, i32_w]; rfl
  refine pure_ (i := 3) (N := some 53) (v := ?_) (a' := ?_) #[true, true, true, true, false, false, false, false, false, false, false, false, false, false, false, false, false, false, false, false, false, false, false, false, false, false, false, false] rfl rfl (any_of HT_.out (by kernel_rfl)) (fun _ _ _ h => h) (Or.inl ⟨by rfl, ?_⟩) ?_ ?_
  rotate_left
  · intro w'; go_simp; with_reducible rfl
  rotate_left
  · simp only [Act.put, List.setIfInBounds_toArray, List.set_cons_zero, List.set_cons_succ, i64_w, i32_w]; rfl
  refine pure_ (i := 4) (N := some 54) (v := ?_) (a' := ?_) #[true, true, true, true, true, false, false, false, false, false, false, false, false, false, false, false, false, false, false, false, false, false, false, false, false, false, false, false] rfl rfl (any_of HT_.out (by kernel_rfl)) (fun _ _ _ h => h) (Or.inl ⟨by rfl, ?_⟩) ?_ ?_
  rotate_left
  · intro w'; go_simp; with_reducible rfl
  rotate_left
  · simp only [Act.put, List.setIfInBounds_toArray, List.set_cons_zero, List.set_cons_succ, i64_w, i32_w]; rfl
  refine pure_ (i := 6) (N := some 56) (v := ?_) (a' := ?_) #[true, true, true, true, true, false, true, false, false, false, false, false, false, false, false, false, false, false, false, false, false, false, false, false, false, false, false, false] rfl rfl (any_of HT_.out (by kernel_rfl)) (fun _ _ _ h => h) (Or.inl ⟨by rfl, ?_⟩) ?_ ?_
  rotate_left
  · intro w'; go_simp; with_reducible rfl
  rotate_left
  · simp only [Act.put, List.setIfInBounds_toArray, List.set_cons_zero, List.set_cons_succ, i64_w, i32_w]; rfl
  refine one_ (i := 5) (N := some 55) #[true, true, true, true, true, true, true, false, false, false, false, false, false, false, false, false, false, false, false, false, false, false, false, false, false, false, false, false] rfl rfl (one_of HT_.out (by kernel_rfl)) (by decide) (fun K hK => ?_)
  refine goes_ Try.func26 (by kernel_rfl) rfl #[.int .i64 t299] (by rfl) rfl rfl (by (try simp only [List.map_toArray, List.map_cons, List.map_nil]); first | done | rfl | (simp only [List.length_drop, List.length_take]; rfl)) ?_
  with_reducible refine (grafterlaw0_Num.calls t299 t337 _ A52.out).mono ?_
  rintro e w' ⟨rfl, ⟨nd, rfl⟩⟩
  refine ⟨_, rfl, ?_⟩
  refine hK.out _ _ ⟨(blk_cell (blk_drewN aC.out nd) 0).trans rfl, (blk_cell (blk_drewN aC.out nd) 1).trans rfl, (blk_cell (blk_drewN aC.out nd) 2).trans rfl, (blk_cell (blk_drewN aC.out nd) 3).trans rfl, (blk_cell (blk_drewN aC.out nd) 4).trans rfl, (blk_cell (blk_drewN aD.out nd) 0).trans rfl, (blk_cell (blk_drewN aD.out nd) 1).trans rfl, (blk_cell (blk_drewN aD.out nd) 2).trans rfl, (blk_cell (blk_drewN aD.out nd) 3).trans rfl, (blk_cell (blk_drewN aD.out nd) 4).trans rfl, (blk_cell (blk_drewN aB.out nd) 0).trans rfl, (blk_cell (blk_drewN aB.out nd) 1).trans rfl, (blk_cell (blk_drewN aB.out nd) 2).trans rfl, (blk_cell (blk_drewN aB.out nd) 3).trans rfl, (blk_cell (blk_drewN aB.out nd) 4).trans rfl, (blk_cell (blk_drewN aA.out nd) 0).trans rfl, (blk_cell (blk_drewN aA.out nd) 1).trans rfl, (blk_cell (blk_drewN aA.out nd) 2).trans rfl, (blk_cell (blk_drewN aA.out nd) 3).trans rfl, (blk_cell (blk_drewN aA.out nd) 4).trans rfl⟩ (fun hHeld => ?_)
  clear hK K
  refine norm_ (a' := ?_) ?_ ?_
  rotate_left
  · show Act.put _ (some 55) _ = _; simp only [Act.put, List.setIfInBounds_toArray, List.set_cons_zero, List.set_cons_succ, i64_w, i32_w]; rfl
  refine pure_ (i := 7) (N := some 57) (v := ?_) (a' := ?_) #[true, true, true, true, true, true, true, true, false, false, false, false, false, false, false, false, false, false, false, false, false, false, false, false, false, false, false, false] rfl rfl (any_of HT_.out (by kernel_rfl)) (fun _ _ _ h => h) (Or.inl ⟨by rfl, ?_⟩) ?_ ?_
  rotate_left
  · intro w'; go_simp; with_reducible rfl
  rotate_left
  · simp only [Act.put, List.setIfInBounds_toArray, List.set_cons_zero, List.set_cons_succ, i64_w, i32_w]; rfl
  refine pure_ (i := 8) (N := some 58) (v := ?_) (a' := ?_) #[true, true, true, true, true, true, true, true, true, false, false, false, false, false, false, false, false, false, false, false, false, false, false, false, false, false, false, false] rfl rfl (any_of HT_.out (by kernel_rfl)) (fun _ _ _ h => h) (Or.inl ⟨by rfl, ?_⟩) ?_ ?_
  rotate_left
  · intro w'; go_simp; with_reducible rfl
  rotate_left
  · simp only [Act.put, List.setIfInBounds_toArray, List.set_cons_zero, List.set_cons_succ, i64_w, i32_w]; rfl
  refine pure_ (i := 9) (N := some 59) (v := ?_) (a' := ?_) #[true, true, true, true, true, true, true, true, true, true, false, false, false, false, false, false, false, false, false, false, false, false, false, false, false, false, false, false] rfl rfl (any_of HT_.out (by kernel_rfl)) (fun _ _ _ h => h) (Or.inl ⟨by rfl, ?_⟩) ?_ ?_
  rotate_left
  · intro w'; go_simp; with_reducible rfl
  rotate_left
  · simp only [Act.put, List.setIfInBounds_toArray, List.set_cons_zero, List.set_cons_succ, i64_w, i32_w]; rfl
  refine take_ (i := 10) (N := some 60) (v := ?_) (a' := ?_) #[true, true, true, true, true, true, true, true, true, true, true, false, false, false, false, false, false, false, false, false, false, false, false, false, false, false, false, false] rfl rfl (take_ofW HT_.out HW_.out (by kernel_rfl)) (fun _ _ _ h => h) (Or.inl ⟨by rfl, ?_⟩) hHeld ?_ ?_
  rotate_left
  · rintro w' ⟨s0, s1, s2, s3, s4, s5, s6, s7, s8, s9, s10, s11, s12, s13, s14, s15, s16, s17, s18, s19⟩; go_simp; with_reducible rfl
  rotate_left
  · simp only [Act.put, List.setIfInBounds_toArray, List.set_cons_zero, List.set_cons_succ, i64_w, i32_w]; rfl
  refine take_ (i := 11) (N := some 61) (v := ?_) (a' := ?_) #[true, true, true, true, true, true, true, true, true, true, true, true, false, false, false, false, false, false, false, false, false, false, false, false, false, false, false, false] rfl rfl (take_ofW HT_.out HW_.out (by kernel_rfl)) (fun _ _ _ h => h) (Or.inl ⟨by rfl, ?_⟩) hHeld ?_ ?_
  rotate_left
  · rintro w' ⟨s0, s1, s2, s3, s4, s5, s6, s7, s8, s9, s10, s11, s12, s13, s14, s15, s16, s17, s18, s19⟩; go_simp; with_reducible rfl
  rotate_left
  · simp only [Act.put, List.setIfInBounds_toArray, List.set_cons_zero, List.set_cons_succ, i64_w, i32_w]; rfl
  refine one_ (i := 12) (N := some 62) #[true, true, true, true, true, true, true, true, true, true, true, true, true, false, false, false, false, false, false, false, false, false, false, false, false, false, false, false] rfl rfl (one_of HT_.out (by kernel_rfl)) (by decide) (fun K hK => ?_)
  refine goes_ Try.func43 (by kernel_rfl) rfl #[.agg #[.slice bS t302.length bR, .slice bB t305.length bA, .int .i64 t308, .int .i64 t309, .int .i64 t310], .agg #[.slice bK t313.length bI, .slice bJ t316.length bH, .int .i64 t319, .int .i64 t320, .int .i64 t321]] (by rfl) rfl rfl (by (try simp only [List.map_toArray, List.map_cons, List.map_nil]); first | done | rfl | (simp only [List.length_drop, List.length_take]; rfl)) ?_
  with_reducible refine (grafterlaw0_SameCheck.calls k _ _ t302 _ _ t305 t308 t309 t310 _ _ t313 _ _ t316 t319 t320 t321 true _ ?side1 ?side2 ?side3 ?side4 ?side5 ?side6 ?side7 ?side8 A54.out).mono ?_
  (case side1 => repeat (first | (with_reducible refine Kd.C_alloc ?_ _) | (with_reducible refine Kd.C_drewN ?_ _) | (with_reducible refine Kd.C_drew ?_) | exact (RC.V_reads' aW.out).2.2))
  (case side2 => exact (RC.V_reads' aW.out).2.1)
  (case side3 => repeat (first | (with_reducible refine Kd.C_alloc ?_ _) | (with_reducible refine Kd.C_drewN ?_ _) | (with_reducible refine Kd.C_drew ?_) | exact (Kd.R_reads' aU.out).2.2))
  (case side4 => exact (Kd.R_reads' aU.out).2.1)
  (case side5 => repeat (first | (with_reducible refine Kd.C_alloc ?_ _) | (with_reducible refine Kd.C_drewN ?_ _) | (with_reducible refine Kd.C_drew ?_) | exact (Kd.R_reads' bD.out).2.2))
  (case side6 => exact (Kd.R_reads' bD.out).2.1)
  (case side7 => repeat (first | (with_reducible refine Kd.C_alloc ?_ _) | (with_reducible refine Kd.C_drewN ?_ _) | (with_reducible refine Kd.C_drew ?_) | exact (Kd.R_reads' bC.out).2.2))
  (case side8 => exact (Kd.R_reads' bC.out).2.1)
  rintro e w61 ⟨rfl, hb⟩
  refine ⟨_, rfl, ?_⟩
  have n0_ := Aside0.mk (Kd.R_below (by (with_reducible repeat (first | apply Kd.R_alloc | apply Kd.R_drewN | apply Kd.R_drew)); exact aH.out) hb)
  have n1_ := Aside0.mk (Kd.R_below (by (with_reducible repeat (first | apply Kd.R_alloc | apply Kd.R_drewN | apply Kd.R_drew)); exact aG.out) hb)
  have n2_ := Aside0.mk (RC.V_below (by (with_reducible repeat (first | apply RC.V_alloc | apply RC.V_drewN | apply RC.V_drew)); exact aW.out) hb)
  have n3_ := Aside0.mk (Kd.R_below (by (with_reducible repeat (first | apply Kd.R_alloc | apply Kd.R_drewN | apply Kd.R_drew)); exact aU.out) hb)
  have n4_ := Aside0.mk (Kd.R_below (by (with_reducible repeat (first | apply Kd.R_alloc | apply Kd.R_drewN | apply Kd.R_drew)); exact bD.out) hb)
  have n5_ := Aside0.mk (Kd.R_below (by (with_reducible repeat (first | apply Kd.R_alloc | apply Kd.R_drewN | apply Kd.R_drew)); exact bC.out) hb)
  have n6_ := Aside0.mk (Kd.V_below (by (with_reducible repeat (first | apply Kd.V_alloc | apply Kd.V_drewN | apply Kd.V_drew)); exact bP.out) hb)
  have n7_ := Aside0.mk (Kd.R_below (by (with_reducible repeat (first | apply Kd.R_alloc | apply Kd.R_drewN | apply Kd.R_drew)); exact bO.out) hb)
  have n8_ := Aside0.mk (blk_below (g := aF) (o := .cells #[.slice A0_0 l0_0.length c0_0, .slice A0_1 l0_1.length c0_1, .int .i64 a0_2, .int .i64 a0_3, .int .i64 a0_4] 56 (0, 0)) (by (with_reducible repeat (first | refine blk_drewN ?_ _ | refine blk_drew ?_ | refine blk_alloc ?_ _)); exact aA.out) hb)
  have n9_ := Aside0.mk (blk_below (g := aE) (o := .cells #[.slice aS t288.length aQ, .slice aR t291.length aP, .int .i64 t294, .int .i64 t295, .int .i64 t296] 56 (0, 0)) (by (with_reducible repeat (first | refine blk_drewN ?_ _ | refine blk_drew ?_ | refine blk_alloc ?_ _)); exact aB.out) hb)
  have n10_ := Aside0.mk (blk_below (g := aL) (o := .cells #[.slice bS t302.length bR, .slice bB t305.length bA, .int .i64 t308, .int .i64 t309, .int .i64 t310] 56 (0, 0)) (by (with_reducible repeat (first | refine blk_drewN ?_ _ | refine blk_drew ?_ | refine blk_alloc ?_ _)); exact aC.out) hb)
  have n11_ := Aside0.mk (blk_below (g := aK) (o := .cells #[.slice bK t313.length bI, .slice bJ t316.length bH, .int .i64 t319, .int .i64 t320, .int .i64 t321] 56 (0, 0)) (by (with_reducible repeat (first | refine blk_drewN ?_ _ | refine blk_drew ?_ | refine blk_alloc ?_ _)); exact aD.out) hb)
  have n12_ := Aside0.mk (blk_below (g := aN) (o := .cells #[.slice cJ t324.length cI, .slice bN t327.length bM, .int .i64 t330, .int .i64 t331, .int .i64 t332] 56 (0, 0)) (by (with_reducible repeat (first | refine blk_drewN ?_ _ | refine blk_drew ?_ | refine blk_alloc ?_ _)); exact aO.out) hb)
  have n13_ := Aside0.mk (below_step (by repeat (first | (with_reducible first | exact HB.out | apply below_alloc | apply pw_below_drewN | apply below_drew1 | refine below_set ?_ aM.out | refine below_set ?_ aV.out | refine below_set ?_ bE.out | refine below_set ?_ bL.out | refine below_set ?_ bQ.out) | exact HB.out)) hb)
  clear aH
  clear aG
  clear aW
  clear aU
  clear bD
  clear bC
  clear bP
  clear bO
  clear aA
  clear aB
  clear aC
  clear aD
  clear aO
  clear HB
  have aH := n0_
  have aG := n1_
  have aW := n2_
  have aU := n3_
  have bD := n4_
  have bC := n5_
  have bP := n6_
  have bO := n7_
  have aA := n8_
  have aB := n9_
  have aC := n10_
  have aD := n11_
  have aO := n12_
  have HB := n13_
  clear n0_ n1_ n2_ n3_ n4_ n5_ n6_ n7_ n8_ n9_ n10_ n11_ n12_ n13_
  (try clear hb)
  (try clear hb2)
  (try clear hk)
  (try clear hi)
  refine hK.out _ _ ⟨(blk_cell aC.out 0).trans rfl, (blk_cell aC.out 1).trans rfl, (blk_cell aC.out 2).trans rfl, (blk_cell aC.out 3).trans rfl, (blk_cell aC.out 4).trans rfl, (blk_cell aD.out 0).trans rfl, (blk_cell aD.out 1).trans rfl, (blk_cell aD.out 2).trans rfl, (blk_cell aD.out 3).trans rfl, (blk_cell aD.out 4).trans rfl, (blk_cell aB.out 0).trans rfl, (blk_cell aB.out 1).trans rfl, (blk_cell aB.out 2).trans rfl, (blk_cell aB.out 3).trans rfl, (blk_cell aB.out 4).trans rfl, (blk_cell aA.out 0).trans rfl, (blk_cell aA.out 1).trans rfl, (blk_cell aA.out 2).trans rfl, (blk_cell aA.out 3).trans rfl, (blk_cell aA.out 4).trans rfl⟩ (fun hHeld => ?_)
  clear hK K
  refine norm_ (a' := ?_) ?_ ?_
  rotate_left
  · show Act.put _ (some 62) _ = _; simp only [Act.put, List.setIfInBounds_toArray, List.set_cons_zero, List.set_cons_succ, i64_w, i32_w]; rfl
  refine pure_ (i := 13) (N := some 63) (v := ?_) (a' := ?_) #[true, true, true, true, true, true, true, true, true, true, true, true, true, true, false, false, false, false, false, false, false, false, false, false, false, false, false, false] rfl rfl (any_of HT_.out (by kernel_rfl)) (fun _ _ _ h => h) (Or.inl ⟨by rfl, ?_⟩) ?_ ?_
  rotate_left
  · intro w'; go_simp; with_reducible rfl
  rotate_left
  · simp only [Act.put, List.setIfInBounds_toArray, List.set_cons_zero, List.set_cons_succ, i64_w, i32_w]; rfl
  refine pure_ (i := 14) (N := some 64) (v := ?_) (a' := ?_) #[true, true, true, true, true, true, true, true, true, true, true, true, true, true, true, false, false, false, false, false, false, false, false, false, false, false, false, false] rfl rfl (any_of HT_.out (by kernel_rfl)) (fun _ _ _ h => h) (Or.inl ⟨by rfl, ?_⟩) ?_ ?_
  rotate_left
  · intro w'; go_simp; with_reducible rfl
  rotate_left
  · simp only [Act.put, List.setIfInBounds_toArray, List.set_cons_zero, List.set_cons_succ, i64_w, i32_w]; rfl
  refine pure_ (i := 15) (N := some 65) (v := ?_) (a' := ?_) #[true, true, true, true, true, true, true, true, true, true, true, true, true, true, true, true, false, false, false, false, false, false, false, false, false, false, false, false] rfl rfl (any_of HT_.out (by kernel_rfl)) (fun _ _ _ h => h) (Or.inl ⟨by rfl, ?_⟩) ?_ ?_
  rotate_left
  · intro w'; go_simp; with_reducible rfl
  rotate_left
  · simp only [Act.put, List.setIfInBounds_toArray, List.set_cons_zero, List.set_cons_succ, i64_w, i32_w]; rfl
  refine pure_ (i := 16) (N := some 66) (v := ?_) (a' := ?_) #[true, true, true, true, true, true, true, true, true, true, true, true, true, true, true, true, true, false, false, false, false, false, false, false, false, false, false, false] rfl rfl (any_of HT_.out (by kernel_rfl)) (fun _ _ _ h => h) (Or.inl ⟨by rfl, ?_⟩) ?_ ?_
  rotate_left
  · intro w'; go_simp; with_reducible rfl
  rotate_left
  · simp only [Act.put, List.setIfInBounds_toArray, List.set_cons_zero, List.set_cons_succ, i64_w, i32_w]; rfl
  refine pure_ (i := 18) (N := some 68) (v := ?_) (a' := ?_) #[true, true, true, true, true, true, true, true, true, true, true, true, true, true, true, true, true, false, true, false, false, false, false, false, false, false, false, false] rfl rfl (any_of HT_.out (by kernel_rfl)) (fun _ _ _ h => h) (Or.inl ⟨by rfl, ?_⟩) ?_ ?_
  rotate_left
  · intro w'; go_simp; with_reducible rfl
  rotate_left
  · simp only [Act.put, List.setIfInBounds_toArray, List.set_cons_zero, List.set_cons_succ, i64_w, i32_w]; rfl
  refine one_ (i := 17) (N := some 67) #[true, true, true, true, true, true, true, true, true, true, true, true, true, true, true, true, true, true, true, false, false, false, false, false, false, false, false, false] rfl rfl (one_of HT_.out (by kernel_rfl)) (by decide) (fun K hK => ?_)
  refine goes_ Try.func26 (by kernel_rfl) rfl #[.int .i64 t311] (by rfl) rfl rfl (by (try simp only [List.map_toArray, List.map_cons, List.map_nil]); first | done | rfl | (simp only [List.length_drop, List.length_take]; rfl)) ?_
  with_reducible refine (grafterlaw0_Num.calls t311 t339 _ A56.out).mono ?_
  rintro e w' ⟨rfl, ⟨nd, rfl⟩⟩
  refine ⟨_, rfl, ?_⟩
  refine hK.out _ _ ⟨(blk_cell (blk_drewN aC.out nd) 0).trans rfl, (blk_cell (blk_drewN aC.out nd) 1).trans rfl, (blk_cell (blk_drewN aC.out nd) 2).trans rfl, (blk_cell (blk_drewN aC.out nd) 3).trans rfl, (blk_cell (blk_drewN aC.out nd) 4).trans rfl, (blk_cell (blk_drewN aD.out nd) 0).trans rfl, (blk_cell (blk_drewN aD.out nd) 1).trans rfl, (blk_cell (blk_drewN aD.out nd) 2).trans rfl, (blk_cell (blk_drewN aD.out nd) 3).trans rfl, (blk_cell (blk_drewN aD.out nd) 4).trans rfl, (blk_cell (blk_drewN aB.out nd) 0).trans rfl, (blk_cell (blk_drewN aB.out nd) 1).trans rfl, (blk_cell (blk_drewN aB.out nd) 2).trans rfl, (blk_cell (blk_drewN aB.out nd) 3).trans rfl, (blk_cell (blk_drewN aB.out nd) 4).trans rfl, (blk_cell (blk_drewN aA.out nd) 0).trans rfl, (blk_cell (blk_drewN aA.out nd) 1).trans rfl, (blk_cell (blk_drewN aA.out nd) 2).trans rfl, (blk_cell (blk_drewN aA.out nd) 3).trans rfl, (blk_cell (blk_drewN aA.out nd) 4).trans rfl⟩ (fun hHeld => ?_)
  clear hK K
  refine norm_ (a' := ?_) ?_ ?_
  rotate_left
  · show Act.put _ (some 67) _ = _; simp only [Act.put, List.setIfInBounds_toArray, List.set_cons_zero, List.set_cons_succ, i64_w, i32_w]; rfl
  refine pure_ (i := 19) (N := some 69) (v := ?_) (a' := ?_) #[true, true, true, true, true, true, true, true, true, true, true, true, true, true, true, true, true, true, true, true, false, false, false, false, false, false, false, false] rfl rfl (any_of HT_.out (by kernel_rfl)) (fun _ _ _ h => h) (Or.inl ⟨by rfl, ?_⟩) ?_ ?_
  rotate_left
  · intro w'; go_simp; with_reducible rfl
  rotate_left
  · simp only [Act.put, List.setIfInBounds_toArray, List.set_cons_zero, List.set_cons_succ, i64_w, i32_w]; rfl
  refine pure_ (i := 20) (N := some 70) (v := ?_) (a' := ?_) #[true, true, true, true, true, true, true, true, true, true, true, true, true, true, true, true, true, true, true, true, true, false, false, false, false, false, false, false] rfl rfl (any_of HT_.out (by kernel_rfl)) (fun _ _ _ h => h) (Or.inl ⟨by rfl, ?_⟩) ?_ ?_
  rotate_left
  · intro w'; go_simp; with_reducible rfl
  rotate_left
  · simp only [Act.put, List.setIfInBounds_toArray, List.set_cons_zero, List.set_cons_succ, i64_w, i32_w]; rfl
  refine pure_ (i := 21) (N := some 71) (v := ?_) (a' := ?_) #[true, true, true, true, true, true, true, true, true, true, true, true, true, true, true, true, true, true, true, true, true, true, false, false, false, false, false, false] rfl rfl (any_of HT_.out (by kernel_rfl)) (fun _ _ _ h => h) (Or.inl ⟨by rfl, ?_⟩) ?_ ?_
  rotate_left
  · intro w'; go_simp; with_reducible rfl
  rotate_left
  · simp only [Act.put, List.setIfInBounds_toArray, List.set_cons_zero, List.set_cons_succ, i64_w, i32_w]; rfl
  refine take_ (i := 22) (N := some 72) (v := ?_) (a' := ?_) #[true, true, true, true, true, true, true, true, true, true, true, true, true, true, true, true, true, true, true, true, true, true, true, false, false, false, false, false] rfl rfl (take_ofW HT_.out HW_.out (by kernel_rfl)) (fun _ _ _ h => h) (Or.inl ⟨by rfl, ?_⟩) hHeld ?_ ?_
  rotate_left
  · rintro w' ⟨s0, s1, s2, s3, s4, s5, s6, s7, s8, s9, s10, s11, s12, s13, s14, s15, s16, s17, s18, s19⟩; go_simp; with_reducible rfl
  rotate_left
  · simp only [Act.put, List.setIfInBounds_toArray, List.set_cons_zero, List.set_cons_succ, i64_w, i32_w]; rfl
  refine take_ (i := 24) (N := some 74) (v := ?_) (a' := ?_) #[true, true, true, true, true, true, true, true, true, true, true, true, true, true, true, true, true, true, true, true, true, true, true, false, true, false, false, false] rfl rfl (take_ofW HT_.out HW_.out (by kernel_rfl)) (fun _ _ _ h => h) (Or.inl ⟨by rfl, ?_⟩) hHeld ?_ ?_
  rotate_left
  · rintro w' ⟨s0, s1, s2, s3, s4, s5, s6, s7, s8, s9, s10, s11, s12, s13, s14, s15, s16, s17, s18, s19⟩; go_simp; with_reducible rfl
  rotate_left
  · simp only [Act.put, List.setIfInBounds_toArray, List.set_cons_zero, List.set_cons_succ, i64_w, i32_w]; rfl
  refine one_ (i := 23) (N := some 73) #[true, true, true, true, true, true, true, true, true, true, true, true, true, true, true, true, true, true, true, true, true, true, true, true, true, false, false, false] rfl rfl (one_of HT_.out (by kernel_rfl)) (by decide) (fun K hK => ?_)
  refine goes_ Try.func44 (by kernel_rfl) rfl #[.agg #[.slice aS t288.length aQ, .slice aR t291.length aP, .int .i64 t294, .int .i64 t295, .int .i64 t296]] (by rfl) rfl rfl (by (try simp only [List.map_toArray, List.map_cons, List.map_nil]); first | done | rfl | (simp only [List.length_drop, List.length_take]; rfl)) ?_
  with_reducible refine (check_May.calls k (fun k_ => some k_ = (.slice aS t288.length aQ : Value).ownBlock) _ _ t288 (fun k_ => some k_ = (.slice aR t291.length aP : Value).ownBlock) _ _ t291 t294 t295 t296 t340 _ ?side1 ?side2 A58.out).mono ?_
  (case side1 => exact Kd.R_V (Kd.R_tight rfl (Kd.R_types (Kd.R_types (Kd.R_types (Kd.R_types (Kd.R_types (aH.out) aA.out (by decide)) aB.out (by decide)) aC.out (by decide)) aD.out (by decide)) aO.out (by decide))))
  (case side2 => exact Kd.R_V (Kd.R_tight rfl (Kd.R_types (Kd.R_types (Kd.R_types (Kd.R_types (Kd.R_types (aG.out) aA.out (by decide)) aB.out (by decide)) aC.out (by decide)) aD.out (by decide)) aO.out (by decide))))
  rintro e w62 ⟨rfl, hb⟩
  refine ⟨_, rfl, ?_⟩
  have n0_ := Aside0.mk (Kd.R_below (by (with_reducible repeat (first | apply Kd.R_alloc | apply Kd.R_drewN | apply Kd.R_drew)); exact aH.out) hb)
  have n1_ := Aside0.mk (Kd.R_below (by (with_reducible repeat (first | apply Kd.R_alloc | apply Kd.R_drewN | apply Kd.R_drew)); exact aG.out) hb)
  have n2_ := Aside0.mk (RC.V_below (by (with_reducible repeat (first | apply RC.V_alloc | apply RC.V_drewN | apply RC.V_drew)); exact aW.out) hb)
  have n3_ := Aside0.mk (Kd.R_below (by (with_reducible repeat (first | apply Kd.R_alloc | apply Kd.R_drewN | apply Kd.R_drew)); exact aU.out) hb)
  have n4_ := Aside0.mk (Kd.R_below (by (with_reducible repeat (first | apply Kd.R_alloc | apply Kd.R_drewN | apply Kd.R_drew)); exact bD.out) hb)
  have n5_ := Aside0.mk (Kd.R_below (by (with_reducible repeat (first | apply Kd.R_alloc | apply Kd.R_drewN | apply Kd.R_drew)); exact bC.out) hb)
  have n6_ := Aside0.mk (Kd.V_below (by (with_reducible repeat (first | apply Kd.V_alloc | apply Kd.V_drewN | apply Kd.V_drew)); exact bP.out) hb)
  have n7_ := Aside0.mk (Kd.R_below (by (with_reducible repeat (first | apply Kd.R_alloc | apply Kd.R_drewN | apply Kd.R_drew)); exact bO.out) hb)
  have n8_ := Aside0.mk (blk_below (g := aF) (o := .cells #[.slice A0_0 l0_0.length c0_0, .slice A0_1 l0_1.length c0_1, .int .i64 a0_2, .int .i64 a0_3, .int .i64 a0_4] 56 (0, 0)) (by (with_reducible repeat (first | refine blk_drewN ?_ _ | refine blk_drew ?_ | refine blk_alloc ?_ _)); exact aA.out) hb)
  have n9_ := Aside0.mk (blk_below (g := aE) (o := .cells #[.slice aS t288.length aQ, .slice aR t291.length aP, .int .i64 t294, .int .i64 t295, .int .i64 t296] 56 (0, 0)) (by (with_reducible repeat (first | refine blk_drewN ?_ _ | refine blk_drew ?_ | refine blk_alloc ?_ _)); exact aB.out) hb)
  have n10_ := Aside0.mk (blk_below (g := aL) (o := .cells #[.slice bS t302.length bR, .slice bB t305.length bA, .int .i64 t308, .int .i64 t309, .int .i64 t310] 56 (0, 0)) (by (with_reducible repeat (first | refine blk_drewN ?_ _ | refine blk_drew ?_ | refine blk_alloc ?_ _)); exact aC.out) hb)
  have n11_ := Aside0.mk (blk_below (g := aK) (o := .cells #[.slice bK t313.length bI, .slice bJ t316.length bH, .int .i64 t319, .int .i64 t320, .int .i64 t321] 56 (0, 0)) (by (with_reducible repeat (first | refine blk_drewN ?_ _ | refine blk_drew ?_ | refine blk_alloc ?_ _)); exact aD.out) hb)
  have n12_ := Aside0.mk (blk_below (g := aN) (o := .cells #[.slice cJ t324.length cI, .slice bN t327.length bM, .int .i64 t330, .int .i64 t331, .int .i64 t332] 56 (0, 0)) (by (with_reducible repeat (first | refine blk_drewN ?_ _ | refine blk_drew ?_ | refine blk_alloc ?_ _)); exact aO.out) hb)
  have n13_ := Aside0.mk (below_step (by repeat (first | (with_reducible first | exact HB.out | apply below_alloc | apply pw_below_drewN | apply below_drew1 | refine below_set ?_ aM.out | refine below_set ?_ aV.out | refine below_set ?_ bE.out | refine below_set ?_ bL.out | refine below_set ?_ bQ.out) | exact HB.out)) hb)
  clear aH
  clear aG
  clear aW
  clear aU
  clear bD
  clear bC
  clear bP
  clear bO
  clear aA
  clear aB
  clear aC
  clear aD
  clear aO
  clear HB
  have aH := n0_
  have aG := n1_
  have aW := n2_
  have aU := n3_
  have bD := n4_
  have bC := n5_
  have bP := n6_
  have bO := n7_
  have aA := n8_
  have aB := n9_
  have aC := n10_
  have aD := n11_
  have aO := n12_
  have HB := n13_
  clear n0_ n1_ n2_ n3_ n4_ n5_ n6_ n7_ n8_ n9_ n10_ n11_ n12_ n13_
  (try clear hb)
  (try clear hb2)
  (try clear hk)
  (try clear hi)
  refine hK.out _ _ ⟨(blk_cell aC.out 0).trans rfl, (blk_cell aC.out 1).trans rfl, (blk_cell aC.out 2).trans rfl, (blk_cell aC.out 3).trans rfl, (blk_cell aC.out 4).trans rfl, (blk_cell aD.out 0).trans rfl, (blk_cell aD.out 1).trans rfl, (blk_cell aD.out 2).trans rfl, (blk_cell aD.out 3).trans rfl, (blk_cell aD.out 4).trans rfl, (blk_cell aB.out 0).trans rfl, (blk_cell aB.out 1).trans rfl, (blk_cell aB.out 2).trans rfl, (blk_cell aB.out 3).trans rfl, (blk_cell aB.out 4).trans rfl, (blk_cell aA.out 0).trans rfl, (blk_cell aA.out 1).trans rfl, (blk_cell aA.out 2).trans rfl, (blk_cell aA.out 3).trans rfl, (blk_cell aA.out 4).trans rfl⟩ (fun hHeld => ?_)
  clear hK K
  refine norm_ (a' := ?_) ?_ ?_
  rotate_left
  · show Act.put _ (some 73) _ = _; simp only [Act.put, List.setIfInBounds_toArray, List.set_cons_zero, List.set_cons_succ, i64_w, i32_w]; rfl
  refine one_ (i := 25) (N := some 75) #[true, true, true, true, true, true, true, true, true, true, true, true, true, true, true, true, true, true, true, true, true, true, true, true, true, true, false, false] rfl rfl (one_of HT_.out (by kernel_rfl)) (by decide) (fun K hK => ?_)
  refine goes_ Try.func45 (by kernel_rfl) rfl #[.agg #[.slice A0_0 l0_0.length c0_0, .slice A0_1 l0_1.length c0_1, .int .i64 a0_2, .int .i64 a0_3, .int .i64 a0_4]] (by rfl) rfl rfl (by (try simp only [List.map_toArray, List.map_cons, List.map_nil]); first | done | rfl | (simp only [List.length_drop, List.length_take]; rfl)) ?_
  with_reducible refine (grafterref12_CheckMay.calls k _ _ l0_0 _ _ l0_1 a0_2 a0_3 a0_4 t341 _ ?side1 ?side2 ?side3 ?side4 A59.out).mono ?_
  (case side1 => repeat (first | (with_reducible refine Kd.C_alloc ?_ _) | (with_reducible refine Kd.C_drewN ?_ _) | (with_reducible refine Kd.C_drew ?_) | exact (Kd.C_below HR0_0.out HB.out)))
  (case side2 => exact cQ.out)
  (case side3 => repeat (first | (with_reducible refine Kd.C_alloc ?_ _) | (with_reducible refine Kd.C_drewN ?_ _) | (with_reducible refine Kd.C_drew ?_) | exact (Kd.C_below HR0_1.out HB.out)))
  (case side4 => exact cP.out)
  rintro e w63 ⟨rfl, hb⟩
  refine ⟨_, rfl, ?_⟩
  have n0_ := Aside0.mk (Kd.R_below (by (with_reducible repeat (first | apply Kd.R_alloc | apply Kd.R_drewN | apply Kd.R_drew)); exact aH.out) hb)
  have n1_ := Aside0.mk (Kd.R_below (by (with_reducible repeat (first | apply Kd.R_alloc | apply Kd.R_drewN | apply Kd.R_drew)); exact aG.out) hb)
  have n2_ := Aside0.mk (RC.V_below (by (with_reducible repeat (first | apply RC.V_alloc | apply RC.V_drewN | apply RC.V_drew)); exact aW.out) hb)
  have n3_ := Aside0.mk (Kd.R_below (by (with_reducible repeat (first | apply Kd.R_alloc | apply Kd.R_drewN | apply Kd.R_drew)); exact aU.out) hb)
  have n4_ := Aside0.mk (Kd.R_below (by (with_reducible repeat (first | apply Kd.R_alloc | apply Kd.R_drewN | apply Kd.R_drew)); exact bD.out) hb)
  have n5_ := Aside0.mk (Kd.R_below (by (with_reducible repeat (first | apply Kd.R_alloc | apply Kd.R_drewN | apply Kd.R_drew)); exact bC.out) hb)
  have n6_ := Aside0.mk (Kd.V_below (by (with_reducible repeat (first | apply Kd.V_alloc | apply Kd.V_drewN | apply Kd.V_drew)); exact bP.out) hb)
  have n7_ := Aside0.mk (Kd.R_below (by (with_reducible repeat (first | apply Kd.R_alloc | apply Kd.R_drewN | apply Kd.R_drew)); exact bO.out) hb)
  have n8_ := Aside0.mk (blk_below (g := aF) (o := .cells #[.slice A0_0 l0_0.length c0_0, .slice A0_1 l0_1.length c0_1, .int .i64 a0_2, .int .i64 a0_3, .int .i64 a0_4] 56 (0, 0)) (by (with_reducible repeat (first | refine blk_drewN ?_ _ | refine blk_drew ?_ | refine blk_alloc ?_ _)); exact aA.out) hb)
  have n9_ := Aside0.mk (blk_below (g := aE) (o := .cells #[.slice aS t288.length aQ, .slice aR t291.length aP, .int .i64 t294, .int .i64 t295, .int .i64 t296] 56 (0, 0)) (by (with_reducible repeat (first | refine blk_drewN ?_ _ | refine blk_drew ?_ | refine blk_alloc ?_ _)); exact aB.out) hb)
  have n10_ := Aside0.mk (blk_below (g := aL) (o := .cells #[.slice bS t302.length bR, .slice bB t305.length bA, .int .i64 t308, .int .i64 t309, .int .i64 t310] 56 (0, 0)) (by (with_reducible repeat (first | refine blk_drewN ?_ _ | refine blk_drew ?_ | refine blk_alloc ?_ _)); exact aC.out) hb)
  have n11_ := Aside0.mk (blk_below (g := aK) (o := .cells #[.slice bK t313.length bI, .slice bJ t316.length bH, .int .i64 t319, .int .i64 t320, .int .i64 t321] 56 (0, 0)) (by (with_reducible repeat (first | refine blk_drewN ?_ _ | refine blk_drew ?_ | refine blk_alloc ?_ _)); exact aD.out) hb)
  have n12_ := Aside0.mk (blk_below (g := aN) (o := .cells #[.slice cJ t324.length cI, .slice bN t327.length bM, .int .i64 t330, .int .i64 t331, .int .i64 t332] 56 (0, 0)) (by (with_reducible repeat (first | refine blk_drewN ?_ _ | refine blk_drew ?_ | refine blk_alloc ?_ _)); exact aO.out) hb)
  have n13_ := Aside0.mk (below_step (by repeat (first | (with_reducible first | exact HB.out | apply below_alloc | apply pw_below_drewN | apply below_drew1 | refine below_set ?_ aM.out | refine below_set ?_ aV.out | refine below_set ?_ bE.out | refine below_set ?_ bL.out | refine below_set ?_ bQ.out) | exact HB.out)) hb)
  clear aH
  clear aG
  clear aW
  clear aU
  clear bD
  clear bC
  clear bP
  clear bO
  clear aA
  clear aB
  clear aC
  clear aD
  clear aO
  clear HB
  have aH := n0_
  have aG := n1_
  have aW := n2_
  have aU := n3_
  have bD := n4_
  have bC := n5_
  have bP := n6_
  have bO := n7_
  have aA := n8_
  have aB := n9_
  have aC := n10_
  have aD := n11_
  have aO := n12_
  have HB := n13_
  clear n0_ n1_ n2_ n3_ n4_ n5_ n6_ n7_ n8_ n9_ n10_ n11_ n12_ n13_
  (try clear hb)
  (try clear hb2)
  (try clear hk)
  (try clear hi)
  refine hK.out _ _ ⟨(blk_cell aC.out 0).trans rfl, (blk_cell aC.out 1).trans rfl, (blk_cell aC.out 2).trans rfl, (blk_cell aC.out 3).trans rfl, (blk_cell aC.out 4).trans rfl, (blk_cell aD.out 0).trans rfl, (blk_cell aD.out 1).trans rfl, (blk_cell aD.out 2).trans rfl, (blk_cell aD.out 3).trans rfl, (blk_cell aD.out 4).trans rfl, (blk_cell aB.out 0).trans rfl, (blk_cell aB.out 1).trans rfl, (blk_cell aB.out 2).trans rfl, (blk_cell aB.out 3).trans rfl, (blk_cell aB.out 4).trans rfl, (blk_cell aA.out 0).trans rfl, (blk_cell aA.out 1).trans rfl, (blk_cell aA.out 2).trans rfl, (blk_cell aA.out 3).trans rfl, (blk_cell aA.out 4).trans rfl⟩ (fun hHeld => ?_)
  clear hK K
  refine norm_ (a' := ?_) ?_ ?_
  rotate_left
  · show Act.put _ (some 75) _ = _; simp only [Act.put, List.setIfInBounds_toArray, List.set_cons_zero, List.set_cons_succ, i64_w, i32_w]; rfl
  refine pure_ (i := 26) (N := some 76) (v := ?_) (a' := ?_) #[true, true, true, true, true, true, true, true, true, true, true, true, true, true, true, true, true, true, true, true, true, true, true, true, true, true, true, false] rfl rfl (any_of HT_.out (by kernel_rfl)) (fun _ _ _ h => h) (Or.inl ⟨by rfl, ?_⟩) ?_ ?_
  rotate_left
  · intro w'; go_simp; with_reducible rfl
  rotate_left
  · simp only [Act.put, List.setIfInBounds_toArray, List.set_cons_zero, List.set_cons_succ, i64_w, i32_w]; rfl
  refine pure_ (i := 27) (N := some 77) (v := ?_) (a' := ?_) #[true, true, true, true, true, true, true, true, true, true, true, true, true, true, true, true, true, true, true, true, true, true, true, true, true, true, true, true] rfl rfl (any_of HT_.out (by kernel_rfl)) (fun _ _ _ h => h) (Or.inl ⟨by rfl, ?_⟩) ?_ ?_
  rotate_left
  · intro w'; go_simp; with_reducible rfl
  rotate_left
  · simp only [Act.put, List.setIfInBounds_toArray, List.set_cons_zero, List.set_cons_succ, i64_w, i32_w]; rfl
  refine done_ (done_of HT_.out (by kernel_rfl)) ?_
  try go_wp2
  go_meet
  case rel => exact ⟨_, ((t340 != t341)), (by first | rfl | (simp; done) | (simp [*]; done)), H', ⟨by first | omega | exact Nat.le_refl _⟩, ⟨by (with_reducible repeat (first | apply Kd.R_alloc | apply Kd.R_drewN | apply Kd.R_drew)); exact aH.out⟩, ⟨by (with_reducible repeat (first | apply Kd.R_alloc | apply Kd.R_drewN | apply Kd.R_drew)); exact aG.out⟩, ⟨by (with_reducible repeat (first | apply RC.V_alloc | apply RC.V_drewN | apply RC.V_drew)); exact aW.out⟩, ⟨by (with_reducible repeat (first | apply Kd.R_alloc | apply Kd.R_drewN | apply Kd.R_drew)); exact aU.out⟩, ⟨by (with_reducible repeat (first | apply Kd.R_alloc | apply Kd.R_drewN | apply Kd.R_drew)); exact bD.out⟩, ⟨by (with_reducible repeat (first | apply Kd.R_alloc | apply Kd.R_drewN | apply Kd.R_drew)); exact bC.out⟩, ⟨by (with_reducible repeat (first | apply Kd.V_alloc | apply Kd.V_drewN | apply Kd.V_drew)); exact bP.out⟩, ⟨by (with_reducible repeat (first | apply Kd.R_alloc | apply Kd.R_drewN | apply Kd.R_drew)); exact bO.out⟩, ⟨by (with_reducible repeat (first | refine blk_drewN ?_ _ | refine blk_drew ?_ | refine blk_alloc ?_ _)); exact aA.out⟩, ⟨by (with_reducible repeat (first | refine blk_drewN ?_ _ | refine blk_drew ?_ | refine blk_alloc ?_ _)); exact aB.out⟩, ⟨by (with_reducible repeat (first | refine blk_drewN ?_ _ | refine blk_drew ?_ | refine blk_alloc ?_ _)); exact aC.out⟩, ⟨by (with_reducible repeat (first | refine blk_drewN ?_ _ | refine blk_drew ?_ | refine blk_alloc ?_ _)); exact aD.out⟩, ⟨by (with_reducible repeat (first | refine blk_drewN ?_ _ | refine blk_drew ?_ | refine blk_alloc ?_ _)); exact aO.out⟩, ⟨by repeat (first | (with_reducible first | exact HB.out | apply below_alloc | apply pw_below_drewN | apply below_drew1 | refine below_set ?_ aM.out | refine below_set ?_ aV.out | refine below_set ?_ bE.out | refine below_set ?_ bL.out | refine below_set ?_ bQ.out) | exact HB.out)⟩⟩
 case rest =>
  clear cS
  try clear c2
  try clear p2
  try clear c4
  try clear c5
  try clear c26
  try clear c43
  try clear c51
  try clear c51b0
  try clear c51b1
  try clear c53
  try clear c53b0
  try clear c53b1
  obtain ⟨kq, x77_9, rfl, HA, HJ9, aJ, aI, aT, aZ, bG, bF, aY, aX, aA, aB, aC, aD, aO, HB⟩ := hcut
  cases kq with
  | zero => exact absurd HA.out (by simp [grafterlaw14_Checks.j0])
  | succ kj9 =>
   have H := HA.out
   clear HA
   simp only [grafterlaw14_Checks.j0] at H
   by_cases c70 : x77_9 = true
   · subst c70
     have H1 : (some false) = some r := by rw [if_pos rfl] at H; exact H
     clear H
     have H := H1
     clear H1
     exact absurd ((Option.some.inj H).trans HRT.out) Bool.false_ne_true
   replace c70 := Bool.eq_false_iff.mpr c70
   subst c70
   rw [if_neg (show ¬ (false = true) by decide)] at H
   have cR := Aside0.mk H
   clear H
   go_upto_region 10 with (fail)
   go_cut [106] (fun v106 wc => ∃ (kq : Nat) (x106_70 : Bool), v106 = .bool x106_70 ∧ Aside0 (grafterlaw14_Checks.j1 kq x106_70 l0_0 l0_1 a0_2 a0_3 a0_4 t288 t291 t294 t295 t296 t302 t305 t308 t309 t310 = some r) ∧ Aside0 (kq ≤ kj9) ∧ Aside0 (Kd.R (Kd.int .i64) 3 wc w.heap.size (fun k_ => some k_ ≠ ((.slice aR t291.length aP) : Value).ownBlock ∧ some k_ ≠ ((.slice bB t305.length bA) : Value).ownBlock ∧ some k_ ≠ ((.slice bK t313.length bI) : Value).ownBlock ∧ some k_ ≠ ((.slice bJ t316.length bH) : Value).ownBlock ∧ some k_ ≠ ((.slice bN t327.length bM) : Value).ownBlock) (.slice aS t288.length aQ) t288) ∧ Aside0 (Kd.R (Kd.int .i64) 3 wc w.heap.size (fun k_ => some k_ ≠ ((.slice aS t288.length aQ) : Value).ownBlock ∧ some k_ ≠ ((.slice bB t305.length bA) : Value).ownBlock ∧ some k_ ≠ ((.slice bK t313.length bI) : Value).ownBlock ∧ some k_ ≠ ((.slice bJ t316.length bH) : Value).ownBlock ∧ some k_ ≠ ((.slice bN t327.length bM) : Value).ownBlock) (.slice aR t291.length aP) t291) ∧ Aside0 (RC.V (Kd.int .i64) 3 wc w.heap.size (fun k_ => some k_ ≠ ((.slice aS t288.length aQ) : Value).ownBlock ∧ some k_ ≠ ((.slice aR t291.length aP) : Value).ownBlock ∧ some k_ ≠ ((.slice bB t305.length bA) : Value).ownBlock ∧ some k_ ≠ ((.slice bK t313.length bI) : Value).ownBlock ∧ some k_ ≠ ((.slice bJ t316.length bH) : Value).ownBlock ∧ some k_ ≠ ((.slice bN t327.length bM) : Value).ownBlock ∧ k_ ≠ aF ∧ k_ ≠ aE ∧ k_ ≠ aL ∧ k_ ≠ aK ∧ k_ ≠ aN) (.slice bS t302.length bR) t302) ∧ Aside0 (Kd.R (Kd.int .i64) 3 wc w.heap.size (fun k_ => some k_ ≠ ((.slice aS t288.length aQ) : Value).ownBlock ∧ some k_ ≠ ((.slice aR t291.length aP) : Value).ownBlock ∧ some k_ ≠ ((.slice bK t313.length bI) : Value).ownBlock ∧ some k_ ≠ ((.slice bJ t316.length bH) : Value).ownBlock ∧ some k_ ≠ ((.slice bN t327.length bM) : Value).ownBlock) (.slice bB t305.length bA) t305) ∧ Aside0 (Kd.R (Kd.int .i64) 3 wc w.heap.size (fun k_ => some k_ ≠ ((.slice aS t288.length aQ) : Value).ownBlock ∧ some k_ ≠ ((.slice aR t291.length aP) : Value).ownBlock ∧ some k_ ≠ ((.slice bB t305.length bA) : Value).ownBlock ∧ some k_ ≠ ((.slice bJ t316.length bH) : Value).ownBlock ∧ some k_ ≠ ((.slice bN t327.length bM) : Value).ownBlock) (.slice bK t313.length bI) t313) ∧ Aside0 (Kd.R (Kd.int .i64) 3 wc w.heap.size (fun k_ => some k_ ≠ ((.slice aS t288.length aQ) : Value).ownBlock ∧ some k_ ≠ ((.slice aR t291.length aP) : Value).ownBlock ∧ some k_ ≠ ((.slice bB t305.length bA) : Value).ownBlock ∧ some k_ ≠ ((.slice bK t313.length bI) : Value).ownBlock ∧ some k_ ≠ ((.slice bN t327.length bM) : Value).ownBlock) (.slice bJ t316.length bH) t316) ∧ Aside0 (Kd.V (Kd.int .i64) 3 wc w.heap.size (fun k_ => some k_ ≠ ((.slice aS t288.length aQ) : Value).ownBlock ∧ some k_ ≠ ((.slice aR t291.length aP) : Value).ownBlock ∧ some k_ ≠ ((.slice bB t305.length bA) : Value).ownBlock ∧ some k_ ≠ ((.slice bK t313.length bI) : Value).ownBlock ∧ some k_ ≠ ((.slice bJ t316.length bH) : Value).ownBlock ∧ some k_ ≠ ((.slice bN t327.length bM) : Value).ownBlock ∧ k_ ≠ aF ∧ k_ ≠ aE ∧ k_ ≠ aL ∧ k_ ≠ aK ∧ k_ ≠ aN) (.slice cJ t324.length cI) t324) ∧ Aside0 (Kd.R (Kd.int .i64) 3 wc w.heap.size (fun k_ => some k_ ≠ ((.slice aS t288.length aQ) : Value).ownBlock ∧ some k_ ≠ ((.slice aR t291.length aP) : Value).ownBlock ∧ some k_ ≠ ((.slice bB t305.length bA) : Value).ownBlock ∧ some k_ ≠ ((.slice bK t313.length bI) : Value).ownBlock ∧ some k_ ≠ ((.slice bJ t316.length bH) : Value).ownBlock) (.slice bN t327.length bM) t327) ∧ Aside0 (wc.heap[aF]? = some (.cells #[(.slice A0_0 l0_0.length c0_0), (.slice A0_1 l0_1.length c0_1), .int .i64 a0_2, .int .i64 a0_3, .int .i64 a0_4] 56 (0, 0))) ∧ Aside0 (wc.heap[aE]? = some (.cells #[(.slice aS t288.length aQ), (.slice aR t291.length aP), .int .i64 t294, .int .i64 t295, .int .i64 t296] 56 (0, 0))) ∧ Aside0 (wc.heap[aL]? = some (.cells #[(.slice bS t302.length bR), (.slice bB t305.length bA), .int .i64 t308, .int .i64 t309, .int .i64 t310] 56 (0, 0))) ∧ Aside0 (wc.heap[aK]? = some (.cells #[(.slice bK t313.length bI), (.slice bJ t316.length bH), .int .i64 t319, .int .i64 t320, .int .i64 t321] 56 (0, 0))) ∧ Aside0 (wc.heap[aN]? = some (.cells #[(.slice cJ t324.length cI), (.slice bN t327.length bM), .int .i64 t330, .int .i64 t331, .int .i64 t332] 56 (0, 0))) ∧ Aside0 (Below w.heap.size w wc))
   case first =>
    have H := cR.out
    clear cR
    replace H := Option.bind_eq_some_iff.mp H
    obtain ⟨t342, A720, H⟩ := H
    (try dsimp only at H)
    have A72 := Aside0.mk A720
    clear A720
    by_cases c73 : t342 = 0
    · rw [if_pos c73] at H
      have c73b0 : (t342 == 0) = true := beq_iff_eq.mpr c73
      have c73b1 : (t342 != 0) = false := bne_eq_false_iff_eq.mpr c73
      clear c73
      (first | rw [c73b0] | (simp only [i64_w, i32_w]; rw [c73b0]) | skip)
      replace H := Option.bind_eq_some_iff.mp H
      obtain ⟨t343, A740, H⟩ := H
      (try dsimp only at H)
      have A74 := Aside0.mk A740
      clear A740
      by_cases c75 : t343 = true
      · subst c75
        rw [if_pos rfl] at H
        replace H := Option.bind_eq_some_iff.mp H
        obtain ⟨t344, A760, H⟩ := H
        (try dsimp only at H)
        have A76 := Aside0.mk A760
        clear A760
        by_cases c77 : t344 = 0
        rotate_left
        · rw [if_neg c77] at H
          have c77b0 : (t344 == 0) = false := beq_eq_false_iff_ne.mpr c77
          have c77b1 : (t344 != 0) = true := bne_iff_ne.mpr c77
          exact absurd ((Checks_j1t H).trans HRT.out) (by decide)
        rw [if_pos c77] at H
        have c77b0 : (t344 == 0) = true := beq_iff_eq.mpr c77
        have c77b1 : (t344 != 0) = false := bne_eq_false_iff_eq.mpr c77
        clear c77
        replace H := Option.bind_eq_some_iff.mp H
        obtain ⟨t345, A780, H⟩ := H
        (try dsimp only at H)
        have A78 := Aside0.mk A780
        clear A780
        by_cases c79 : t345 = 0
        · rw [if_pos c79] at H
          have c79b0 : (t345 == 0) = true := beq_iff_eq.mpr c79
          have c79b1 : (t345 != 0) = false := bne_eq_false_iff_eq.mpr c79
          clear c79
          by_cases c80 : t335.toList = a1.toList
          rotate_left
          · rw [if_neg c80] at H
            have c80b0 : (t335.toList == a1.toList) = false := beq_eq_false_iff_ne.mpr c80
            have c80b1 : (t335.toList != a1.toList) = true := bne_iff_ne.mpr c80
            exact absurd ((Checks_j1t H).trans HRT.out) (by decide)
          rw [if_pos c80] at H
          have c80b0 : (t335.toList == a1.toList) = true := beq_iff_eq.mpr c80
          have c80b1 : (t335.toList != a1.toList) = false := bne_eq_false_iff_eq.mpr c80
          clear c80
          replace H := Option.bind_eq_some_iff.mp H
          obtain ⟨t346, A810, H⟩ := H
          replace H : (grafterlaw14_Checks.j1 kj9 (t346 != 0) l0_0 l0_1 a0_2 a0_3 a0_4 t288 t291 t294 t295 t296 t302 t305 t308 t309 t310) = some r := H
          have A81 := Aside0.mk A810
          clear A810
          have H' := Aside0.mk H
          clear H
          go_wp2_with (first | ((with_reducible refine gate_callee (f := 26) rfl ?_); refine goesL_ (some 79) rfl rfl Try.func26 (by kernel_rfl) rfl #[.int .i64 t299] rfl (by (try simp only [List.map_toArray, List.map_cons, List.map_nil]); first | done | rfl | (simp only [List.length_drop, List.length_take]; rfl)) ?_; (with_reducible refine (grafterlaw0_Num.calls t299 t342 _ A72.out).mono ?_); rintro e w' ⟨rfl, ⟨nd, rfl⟩⟩; refine ⟨_, rfl, ?_⟩; have hnb82 := cB.out; have hnc82 := bW.out; have hnb83 := cA.out; have hnc83 := bV.out; have hnb84 := bZ.out; have hnc84 := bU.out; have hnb85 := cK.out; have hnc85 := cC.out; obtain ⟨hcz86_0, hcz86_1, hcz86_2, hcz86_3, hcz86_4, hfz86_0, hfz86_1, hfz86_2, hfz86_3, hfz86_4⟩ := Blk.blk5 (show wc.heap[aN]? = some (.cells #[.slice cJ t324.length cI, .slice bN t327.length bM, .int .i64 t330, .int .i64 t331, .int .i64 t332] _ (0, 0)) from aO.out); have hnb87 := bY.out; have hnc87 := cH.out; have hnb88 := bX.out; have hnc88 := cF.out; have hnb89 := bT.out; have hnc89 := cD.out; obtain ⟨hcz90_0, hcz90_1, hcz90_2, hcz90_3, hcz90_4, hfz90_0, hfz90_1, hfz90_2, hfz90_3, hfz90_4⟩ := Blk.blk5 (show wc.heap[aF]? = some (.cells #[.slice A0_0 l0_0.length c0_0, .slice A0_1 l0_1.length c0_1, .int .i64 a0_2, .int .i64 a0_3, .int .i64 a0_4] _ (0, 0)) from aA.out); (try clear A72)) | (go_at_call 43; (with_reducible refine (grafterlaw0_SameCheck.calls kj9 _ _ t324 _ _ t327 t330 t331 t332 _ _ l0_0 _ _ l0_1 a0_2 a0_3 a0_4 true _ ?side1 ?side2 ?side3 ?side4 ?side5 ?side6 ?side7 ?side8 A74.out).mono ?_); (case side1 => repeat (first | (with_reducible refine Kd.C_alloc ?_ _) | (with_reducible refine Kd.C_drewN ?_ _) | (with_reducible refine Kd.C_drew ?_) | exact (Kd.V_reads' aY.out).2.2)); (case side2 => exact (Kd.V_reads' aY.out).2.1); (case side3 => repeat (first | (with_reducible refine Kd.C_alloc ?_ _) | (with_reducible refine Kd.C_drewN ?_ _) | (with_reducible refine Kd.C_drew ?_) | exact (Kd.R_reads' aX.out).2.2)); (case side4 => exact (Kd.R_reads' aX.out).2.1); (case side5 => repeat (first | exact (Kd.C_below HR0_0.out (by repeat (first | (with_reducible first | exact HB.out | apply below_alloc | apply pw_below_drewN | apply below_drew1 | refine below_set ?_ aM.out | refine below_set ?_ aV.out | refine below_set ?_ bE.out | refine below_set ?_ bL.out | refine below_set ?_ bQ.out) | exact HB.out))) | (with_reducible refine Kd.C_alloc ?_ _) | (with_reducible refine Kd.C_drewN ?_ _) | (with_reducible refine Kd.C_drew ?_))); (case side6 => exact cQ.out); (case side7 => repeat (first | exact (Kd.C_below HR0_1.out (by repeat (first | (with_reducible first | exact HB.out | apply below_alloc | apply pw_below_drewN | apply below_drew1 | refine below_set ?_ aM.out | refine below_set ?_ aV.out | refine below_set ?_ bE.out | refine below_set ?_ bL.out | refine below_set ?_ bQ.out) | exact HB.out))) | (with_reducible refine Kd.C_alloc ?_ _) | (with_reducible refine Kd.C_drewN ?_ _) | (with_reducible refine Kd.C_drew ?_))); (case side8 => exact cP.out); rintro e w91 ⟨rfl, hb⟩; have n0_ := Aside0.mk (Kd.R_below (by (with_reducible repeat (first | apply Kd.R_alloc | apply Kd.R_drewN | apply Kd.R_drew)); exact aJ.out) hb); have n1_ := Aside0.mk (Kd.R_below (by (with_reducible repeat (first | apply Kd.R_alloc | apply Kd.R_drewN | apply Kd.R_drew)); exact aI.out) hb); have n2_ := Aside0.mk (RC.V_below (by (with_reducible repeat (first | apply RC.V_alloc | apply RC.V_drewN | apply RC.V_drew)); exact aT.out) hb); have n3_ := Aside0.mk (Kd.R_below (by (with_reducible repeat (first | apply Kd.R_alloc | apply Kd.R_drewN | apply Kd.R_drew)); exact aZ.out) hb); have n4_ := Aside0.mk (Kd.R_below (by (with_reducible repeat (first | apply Kd.R_alloc | apply Kd.R_drewN | apply Kd.R_drew)); exact bG.out) hb); have n5_ := Aside0.mk (Kd.R_below (by (with_reducible repeat (first | apply Kd.R_alloc | apply Kd.R_drewN | apply Kd.R_drew)); exact bF.out) hb); have n6_ := Aside0.mk (Kd.V_below (by (with_reducible repeat (first | apply Kd.V_alloc | apply Kd.V_drewN | apply Kd.V_drew)); exact aY.out) hb); have n7_ := Aside0.mk (Kd.R_below (by (with_reducible repeat (first | apply Kd.R_alloc | apply Kd.R_drewN | apply Kd.R_drew)); exact aX.out) hb); have n8_ := Aside0.mk (blk_below (g := aF) (o := .cells #[.slice A0_0 l0_0.length c0_0, .slice A0_1 l0_1.length c0_1, .int .i64 a0_2, .int .i64 a0_3, .int .i64 a0_4] 56 (0, 0)) (by (with_reducible repeat (first | refine blk_drewN ?_ _ | refine blk_drew ?_ | refine blk_alloc ?_ _)); exact aA.out) hb); have n9_ := Aside0.mk (blk_below (g := aE) (o := .cells #[.slice aS t288.length aQ, .slice aR t291.length aP, .int .i64 t294, .int .i64 t295, .int .i64 t296] 56 (0, 0)) (by (with_reducible repeat (first | refine blk_drewN ?_ _ | refine blk_drew ?_ | refine blk_alloc ?_ _)); exact aB.out) hb); have n10_ := Aside0.mk (blk_below (g := aL) (o := .cells #[.slice bS t302.length bR, .slice bB t305.length bA, .int .i64 t308, .int .i64 t309, .int .i64 t310] 56 (0, 0)) (by (with_reducible repeat (first | refine blk_drewN ?_ _ | refine blk_drew ?_ | refine blk_alloc ?_ _)); exact aC.out) hb); have n11_ := Aside0.mk (blk_below (g := aK) (o := .cells #[.slice bK t313.length bI, .slice bJ t316.length bH, .int .i64 t319, .int .i64 t320, .int .i64 t321] 56 (0, 0)) (by (with_reducible repeat (first | refine blk_drewN ?_ _ | refine blk_drew ?_ | refine blk_alloc ?_ _)); exact aD.out) hb); have n12_ := Aside0.mk (blk_below (g := aN) (o := .cells #[.slice cJ t324.length cI, .slice bN t327.length bM, .int .i64 t330, .int .i64 t331, .int .i64 t332] 56 (0, 0)) (by (with_reducible repeat (first | refine blk_drewN ?_ _ | refine blk_drew ?_ | refine blk_alloc ?_ _)); exact aO.out) hb); have n13_ := Aside0.mk (below_step (by repeat (first | (with_reducible first | exact HB.out | apply below_alloc | apply pw_below_drewN | apply below_drew1 | refine below_set ?_ aM.out | refine below_set ?_ aV.out | refine below_set ?_ bE.out | refine below_set ?_ bL.out | refine below_set ?_ bQ.out) | exact HB.out)) hb); clear aJ; clear aI; clear aT; clear aZ; clear bG; clear bF; clear aY; clear aX; clear aA; clear aB; clear aC; clear aD; clear aO; clear HB; have aJ := n0_; have aI := n1_; have aT := n2_; have aZ := n3_; have bG := n4_; have bF := n5_; have aY := n6_; have aX := n7_; have aA := n8_; have aB := n9_; have aC := n10_; have aD := n11_; have aO := n12_; have HB := n13_; clear n0_ n1_ n2_ n3_ n4_ n5_ n6_ n7_ n8_ n9_ n10_ n11_ n12_ n13_; (try clear hb); (try clear hb2); (try clear hk); (try clear hi)) | (go_at_call 26; (with_reducible refine (grafterlaw0_Num.calls t333 t344 _ A76.out).mono ?_); rintro e w' ⟨rfl, ⟨nd, rfl⟩⟩; (try clear A76)) | (go_at_call 26; (with_reducible refine (grafterlaw0_Num.calls t311 t345 _ A78.out).mono ?_); rintro e w' ⟨rfl, ⟨nd, rfl⟩⟩; (try clear A78)) | (go_at_call 26; (with_reducible refine (grafterlaw0_Num.calls t336 t346 _ A81.out).mono ?_); rintro e w' ⟨rfl, ⟨nd, rfl⟩⟩; (try clear A81)))
          go_meet
          case rel => exact ⟨_, ((t346 != 0)), (by first | rfl | (simp; done) | (simp [*]; done)), H', ⟨by have := HJ9.out; first | omega | exact Nat.le_refl _⟩, ⟨by (with_reducible repeat (first | apply Kd.R_alloc | apply Kd.R_drewN | apply Kd.R_drew)); exact aJ.out⟩, ⟨by (with_reducible repeat (first | apply Kd.R_alloc | apply Kd.R_drewN | apply Kd.R_drew)); exact aI.out⟩, ⟨by (with_reducible repeat (first | apply RC.V_alloc | apply RC.V_drewN | apply RC.V_drew)); exact aT.out⟩, ⟨by (with_reducible repeat (first | apply Kd.R_alloc | apply Kd.R_drewN | apply Kd.R_drew)); exact aZ.out⟩, ⟨by (with_reducible repeat (first | apply Kd.R_alloc | apply Kd.R_drewN | apply Kd.R_drew)); exact bG.out⟩, ⟨by (with_reducible repeat (first | apply Kd.R_alloc | apply Kd.R_drewN | apply Kd.R_drew)); exact bF.out⟩, ⟨by (with_reducible repeat (first | apply Kd.V_alloc | apply Kd.V_drewN | apply Kd.V_drew)); exact aY.out⟩, ⟨by (with_reducible repeat (first | apply Kd.R_alloc | apply Kd.R_drewN | apply Kd.R_drew)); exact aX.out⟩, ⟨by (with_reducible repeat (first | refine blk_drewN ?_ _ | refine blk_drew ?_ | refine blk_alloc ?_ _)); exact aA.out⟩, ⟨by (with_reducible repeat (first | refine blk_drewN ?_ _ | refine blk_drew ?_ | refine blk_alloc ?_ _)); exact aB.out⟩, ⟨by (with_reducible repeat (first | refine blk_drewN ?_ _ | refine blk_drew ?_ | refine blk_alloc ?_ _)); exact aC.out⟩, ⟨by (with_reducible repeat (first | refine blk_drewN ?_ _ | refine blk_drew ?_ | refine blk_alloc ?_ _)); exact aD.out⟩, ⟨by (with_reducible repeat (first | refine blk_drewN ?_ _ | refine blk_drew ?_ | refine blk_alloc ?_ _)); exact aO.out⟩, ⟨by repeat (first | (with_reducible first | exact HB.out | apply below_alloc | apply pw_below_drewN | apply below_drew1 | refine below_set ?_ aM.out | refine below_set ?_ aV.out | refine below_set ?_ bE.out | refine below_set ?_ bL.out | refine below_set ?_ bQ.out) | exact HB.out)⟩⟩
        rw [if_neg c79] at H
        have c79b0 : (t345 == 0) = false := beq_eq_false_iff_ne.mpr c79
        have c79b1 : (t345 != 0) = true := bne_iff_ne.mpr c79
        have H' := Aside0.mk H
        clear H
        go_wp2_with (first | ((with_reducible refine gate_callee (f := 26) rfl ?_); refine goesL_ (some 79) rfl rfl Try.func26 (by kernel_rfl) rfl #[.int .i64 t299] rfl (by (try simp only [List.map_toArray, List.map_cons, List.map_nil]); first | done | rfl | (simp only [List.length_drop, List.length_take]; rfl)) ?_; (with_reducible refine (grafterlaw0_Num.calls t299 t342 _ A72.out).mono ?_); rintro e w' ⟨rfl, ⟨nd, rfl⟩⟩; refine ⟨_, rfl, ?_⟩; have hnb102 := cB.out; have hnc102 := bW.out; have hnb103 := cA.out; have hnc103 := bV.out; have hnb104 := bZ.out; have hnc104 := bU.out; have hnb105 := cK.out; have hnc105 := cC.out; obtain ⟨hcz106_0, hcz106_1, hcz106_2, hcz106_3, hcz106_4, hfz106_0, hfz106_1, hfz106_2, hfz106_3, hfz106_4⟩ := Blk.blk5 (show wc.heap[aN]? = some (.cells #[.slice cJ t324.length cI, .slice bN t327.length bM, .int .i64 t330, .int .i64 t331, .int .i64 t332] _ (0, 0)) from aO.out); have hnb107 := bY.out; have hnc107 := cH.out; have hnb108 := bX.out; have hnc108 := cF.out; have hnb109 := bT.out; have hnc109 := cD.out; obtain ⟨hcz110_0, hcz110_1, hcz110_2, hcz110_3, hcz110_4, hfz110_0, hfz110_1, hfz110_2, hfz110_3, hfz110_4⟩ := Blk.blk5 (show wc.heap[aF]? = some (.cells #[.slice A0_0 l0_0.length c0_0, .slice A0_1 l0_1.length c0_1, .int .i64 a0_2, .int .i64 a0_3, .int .i64 a0_4] _ (0, 0)) from aA.out); (try clear A72)) | (go_at_call 43; (with_reducible refine (grafterlaw0_SameCheck.calls kj9 _ _ t324 _ _ t327 t330 t331 t332 _ _ l0_0 _ _ l0_1 a0_2 a0_3 a0_4 true _ ?side1 ?side2 ?side3 ?side4 ?side5 ?side6 ?side7 ?side8 A74.out).mono ?_); (case side1 => repeat (first | (with_reducible refine Kd.C_alloc ?_ _) | (with_reducible refine Kd.C_drewN ?_ _) | (with_reducible refine Kd.C_drew ?_) | exact (Kd.V_reads' aY.out).2.2)); (case side2 => exact (Kd.V_reads' aY.out).2.1); (case side3 => repeat (first | (with_reducible refine Kd.C_alloc ?_ _) | (with_reducible refine Kd.C_drewN ?_ _) | (with_reducible refine Kd.C_drew ?_) | exact (Kd.R_reads' aX.out).2.2)); (case side4 => exact (Kd.R_reads' aX.out).2.1); (case side5 => repeat (first | exact (Kd.C_below HR0_0.out (by repeat (first | (with_reducible first | exact HB.out | apply below_alloc | apply pw_below_drewN | apply below_drew1 | refine below_set ?_ aM.out | refine below_set ?_ aV.out | refine below_set ?_ bE.out | refine below_set ?_ bL.out | refine below_set ?_ bQ.out) | exact HB.out))) | (with_reducible refine Kd.C_alloc ?_ _) | (with_reducible refine Kd.C_drewN ?_ _) | (with_reducible refine Kd.C_drew ?_))); (case side6 => exact cQ.out); (case side7 => repeat (first | exact (Kd.C_below HR0_1.out (by repeat (first | (with_reducible first | exact HB.out | apply below_alloc | apply pw_below_drewN | apply below_drew1 | refine below_set ?_ aM.out | refine below_set ?_ aV.out | refine below_set ?_ bE.out | refine below_set ?_ bL.out | refine below_set ?_ bQ.out) | exact HB.out))) | (with_reducible refine Kd.C_alloc ?_ _) | (with_reducible refine Kd.C_drewN ?_ _) | (with_reducible refine Kd.C_drew ?_))); (case side8 => exact cP.out); rintro e w111 ⟨rfl, hb⟩; have n0_ := Aside0.mk (Kd.R_below (by (with_reducible repeat (first | apply Kd.R_alloc | apply Kd.R_drewN | apply Kd.R_drew)); exact aJ.out) hb); have n1_ := Aside0.mk (Kd.R_below (by (with_reducible repeat (first | apply Kd.R_alloc | apply Kd.R_drewN | apply Kd.R_drew)); exact aI.out) hb); have n2_ := Aside0.mk (RC.V_below (by (with_reducible repeat (first | apply RC.V_alloc | apply RC.V_drewN | apply RC.V_drew)); exact aT.out) hb); have n3_ := Aside0.mk (Kd.R_below (by (with_reducible repeat (first | apply Kd.R_alloc | apply Kd.R_drewN | apply Kd.R_drew)); exact aZ.out) hb); have n4_ := Aside0.mk (Kd.R_below (by (with_reducible repeat (first | apply Kd.R_alloc | apply Kd.R_drewN | apply Kd.R_drew)); exact bG.out) hb); have n5_ := Aside0.mk (Kd.R_below (by (with_reducible repeat (first | apply Kd.R_alloc | apply Kd.R_drewN | apply Kd.R_drew)); exact bF.out) hb); have n6_ := Aside0.mk (Kd.V_below (by (with_reducible repeat (first | apply Kd.V_alloc | apply Kd.V_drewN | apply Kd.V_drew)); exact aY.out) hb); have n7_ := Aside0.mk (Kd.R_below (by (with_reducible repeat (first | apply Kd.R_alloc | apply Kd.R_drewN | apply Kd.R_drew)); exact aX.out) hb); have n8_ := Aside0.mk (blk_below (g := aF) (o := .cells #[.slice A0_0 l0_0.length c0_0, .slice A0_1 l0_1.length c0_1, .int .i64 a0_2, .int .i64 a0_3, .int .i64 a0_4] 56 (0, 0)) (by (with_reducible repeat (first | refine blk_drewN ?_ _ | refine blk_drew ?_ | refine blk_alloc ?_ _)); exact aA.out) hb); have n9_ := Aside0.mk (blk_below (g := aE) (o := .cells #[.slice aS t288.length aQ, .slice aR t291.length aP, .int .i64 t294, .int .i64 t295, .int .i64 t296] 56 (0, 0)) (by (with_reducible repeat (first | refine blk_drewN ?_ _ | refine blk_drew ?_ | refine blk_alloc ?_ _)); exact aB.out) hb); have n10_ := Aside0.mk (blk_below (g := aL) (o := .cells #[.slice bS t302.length bR, .slice bB t305.length bA, .int .i64 t308, .int .i64 t309, .int .i64 t310] 56 (0, 0)) (by (with_reducible repeat (first | refine blk_drewN ?_ _ | refine blk_drew ?_ | refine blk_alloc ?_ _)); exact aC.out) hb); have n11_ := Aside0.mk (blk_below (g := aK) (o := .cells #[.slice bK t313.length bI, .slice bJ t316.length bH, .int .i64 t319, .int .i64 t320, .int .i64 t321] 56 (0, 0)) (by (with_reducible repeat (first | refine blk_drewN ?_ _ | refine blk_drew ?_ | refine blk_alloc ?_ _)); exact aD.out) hb); have n12_ := Aside0.mk (blk_below (g := aN) (o := .cells #[.slice cJ t324.length cI, .slice bN t327.length bM, .int .i64 t330, .int .i64 t331, .int .i64 t332] 56 (0, 0)) (by (with_reducible repeat (first | refine blk_drewN ?_ _ | refine blk_drew ?_ | refine blk_alloc ?_ _)); exact aO.out) hb); have n13_ := Aside0.mk (below_step (by repeat (first | (with_reducible first | exact HB.out | apply below_alloc | apply pw_below_drewN | apply below_drew1 | refine below_set ?_ aM.out | refine below_set ?_ aV.out | refine below_set ?_ bE.out | refine below_set ?_ bL.out | refine below_set ?_ bQ.out) | exact HB.out)) hb); clear aJ; clear aI; clear aT; clear aZ; clear bG; clear bF; clear aY; clear aX; clear aA; clear aB; clear aC; clear aD; clear aO; clear HB; have aJ := n0_; have aI := n1_; have aT := n2_; have aZ := n3_; have bG := n4_; have bF := n5_; have aY := n6_; have aX := n7_; have aA := n8_; have aB := n9_; have aC := n10_; have aD := n11_; have aO := n12_; have HB := n13_; clear n0_ n1_ n2_ n3_ n4_ n5_ n6_ n7_ n8_ n9_ n10_ n11_ n12_ n13_; (try clear hb); (try clear hb2); (try clear hk); (try clear hi)) | (go_at_call 26; (with_reducible refine (grafterlaw0_Num.calls t333 t344 _ A76.out).mono ?_); rintro e w' ⟨rfl, ⟨nd, rfl⟩⟩; (try clear A76)) | (go_at_call 26; (with_reducible refine (grafterlaw0_Num.calls t311 t345 _ A78.out).mono ?_); rintro e w' ⟨rfl, ⟨nd, rfl⟩⟩; (try clear A78)))
        go_meet
        case rel => exact ⟨_, (false), (by first | rfl | (simp; done) | (simp [*]; done)), H', ⟨by have := HJ9.out; first | omega | exact Nat.le_refl _⟩, ⟨by (with_reducible repeat (first | apply Kd.R_alloc | apply Kd.R_drewN | apply Kd.R_drew)); exact aJ.out⟩, ⟨by (with_reducible repeat (first | apply Kd.R_alloc | apply Kd.R_drewN | apply Kd.R_drew)); exact aI.out⟩, ⟨by (with_reducible repeat (first | apply RC.V_alloc | apply RC.V_drewN | apply RC.V_drew)); exact aT.out⟩, ⟨by (with_reducible repeat (first | apply Kd.R_alloc | apply Kd.R_drewN | apply Kd.R_drew)); exact aZ.out⟩, ⟨by (with_reducible repeat (first | apply Kd.R_alloc | apply Kd.R_drewN | apply Kd.R_drew)); exact bG.out⟩, ⟨by (with_reducible repeat (first | apply Kd.R_alloc | apply Kd.R_drewN | apply Kd.R_drew)); exact bF.out⟩, ⟨by (with_reducible repeat (first | apply Kd.V_alloc | apply Kd.V_drewN | apply Kd.V_drew)); exact aY.out⟩, ⟨by (with_reducible repeat (first | apply Kd.R_alloc | apply Kd.R_drewN | apply Kd.R_drew)); exact aX.out⟩, ⟨by (with_reducible repeat (first | refine blk_drewN ?_ _ | refine blk_drew ?_ | refine blk_alloc ?_ _)); exact aA.out⟩, ⟨by (with_reducible repeat (first | refine blk_drewN ?_ _ | refine blk_drew ?_ | refine blk_alloc ?_ _)); exact aB.out⟩, ⟨by (with_reducible repeat (first | refine blk_drewN ?_ _ | refine blk_drew ?_ | refine blk_alloc ?_ _)); exact aC.out⟩, ⟨by (with_reducible repeat (first | refine blk_drewN ?_ _ | refine blk_drew ?_ | refine blk_alloc ?_ _)); exact aD.out⟩, ⟨by (with_reducible repeat (first | refine blk_drewN ?_ _ | refine blk_drew ?_ | refine blk_alloc ?_ _)); exact aO.out⟩, ⟨by repeat (first | (with_reducible first | exact HB.out | apply below_alloc | apply pw_below_drewN | apply below_drew1 | refine below_set ?_ aM.out | refine below_set ?_ aV.out | refine below_set ?_ bE.out | refine below_set ?_ bL.out | refine below_set ?_ bQ.out) | exact HB.out)⟩⟩
      replace c75 := Bool.eq_false_iff.mpr c75
      subst c75
      have H1 : (grafterlaw14_Checks.j1 kj9 true l0_0 l0_1 a0_2 a0_3 a0_4 t288 t291 t294 t295 t296 t302 t305 t308 t309 t310) = some r := by rw [if_neg (show ¬ (false = true) by decide)] at H; exact H
      clear H
      have H := H1
      clear H1
      exact absurd ((Checks_j1t H).trans HRT.out) (by decide)
    rw [if_neg c73] at H
    have c73b0 : (t342 == 0) = false := beq_eq_false_iff_ne.mpr c73
    have c73b1 : (t342 != 0) = true := bne_iff_ne.mpr c73
    (first | rw [c73b0] | (simp only [i64_w, i32_w]; rw [c73b0]) | skip)
    replace H := Option.bind_eq_some_iff.mp H
    obtain ⟨t347, A1320, H⟩ := H
    (try dsimp only at H)
    have A132 := Aside0.mk A1320
    clear A1320
    by_cases c133 : t347 = 0
    · rw [if_pos c133] at H
      have c133b0 : (t347 == 0) = true := beq_iff_eq.mpr c133
      have c133b1 : (t347 != 0) = false := bne_eq_false_iff_eq.mpr c133
      clear c133
      by_cases c134 : t335.toList = a1.toList
      rotate_left
      · rw [if_neg c134] at H
        have c134b0 : (t335.toList == a1.toList) = false := beq_eq_false_iff_ne.mpr c134
        have c134b1 : (t335.toList != a1.toList) = true := bne_iff_ne.mpr c134
        exact absurd ((Checks_j1t H).trans HRT.out) (by decide)
      rw [if_pos c134] at H
      have c134b0 : (t335.toList == a1.toList) = true := beq_iff_eq.mpr c134
      have c134b1 : (t335.toList != a1.toList) = false := bne_eq_false_iff_eq.mpr c134
      clear c134
      replace H := Option.bind_eq_some_iff.mp H
      obtain ⟨t348, A1350, H⟩ := H
      replace H : (grafterlaw14_Checks.j1 kj9 (t348 != 0) l0_0 l0_1 a0_2 a0_3 a0_4 t288 t291 t294 t295 t296 t302 t305 t308 t309 t310) = some r := H
      have A135 := Aside0.mk A1350
      clear A1350
      have H' := Aside0.mk H
      clear H
      go_wp2_with (first | ((with_reducible refine gate_callee (f := 26) rfl ?_); refine goesL_ (some 79) rfl rfl Try.func26 (by kernel_rfl) rfl #[.int .i64 t299] rfl (by (try simp only [List.map_toArray, List.map_cons, List.map_nil]); first | done | rfl | (simp only [List.length_drop, List.length_take]; rfl)) ?_; (with_reducible refine (grafterlaw0_Num.calls t299 t342 _ A72.out).mono ?_); rintro e w' ⟨rfl, ⟨nd, rfl⟩⟩; refine ⟨_, rfl, ?_⟩; (try clear A72)) | (go_at_call 26; (with_reducible refine (grafterlaw0_Num.calls t311 t347 _ A132.out).mono ?_); rintro e w' ⟨rfl, ⟨nd, rfl⟩⟩; (try clear A132)) | (go_at_call 26; (with_reducible refine (grafterlaw0_Num.calls t336 t348 _ A135.out).mono ?_); rintro e w' ⟨rfl, ⟨nd, rfl⟩⟩; (try clear A135)))
      go_meet
      case rel => exact ⟨_, ((t348 != 0)), (by first | rfl | (simp; done) | (simp [*]; done)), H', ⟨by have := HJ9.out; first | omega | exact Nat.le_refl _⟩, ⟨by (with_reducible repeat (first | apply Kd.R_alloc | apply Kd.R_drewN | apply Kd.R_drew)); exact aJ.out⟩, ⟨by (with_reducible repeat (first | apply Kd.R_alloc | apply Kd.R_drewN | apply Kd.R_drew)); exact aI.out⟩, ⟨by (with_reducible repeat (first | apply RC.V_alloc | apply RC.V_drewN | apply RC.V_drew)); exact aT.out⟩, ⟨by (with_reducible repeat (first | apply Kd.R_alloc | apply Kd.R_drewN | apply Kd.R_drew)); exact aZ.out⟩, ⟨by (with_reducible repeat (first | apply Kd.R_alloc | apply Kd.R_drewN | apply Kd.R_drew)); exact bG.out⟩, ⟨by (with_reducible repeat (first | apply Kd.R_alloc | apply Kd.R_drewN | apply Kd.R_drew)); exact bF.out⟩, ⟨by (with_reducible repeat (first | apply Kd.V_alloc | apply Kd.V_drewN | apply Kd.V_drew)); exact aY.out⟩, ⟨by (with_reducible repeat (first | apply Kd.R_alloc | apply Kd.R_drewN | apply Kd.R_drew)); exact aX.out⟩, ⟨by (with_reducible repeat (first | refine blk_drewN ?_ _ | refine blk_drew ?_ | refine blk_alloc ?_ _)); exact aA.out⟩, ⟨by (with_reducible repeat (first | refine blk_drewN ?_ _ | refine blk_drew ?_ | refine blk_alloc ?_ _)); exact aB.out⟩, ⟨by (with_reducible repeat (first | refine blk_drewN ?_ _ | refine blk_drew ?_ | refine blk_alloc ?_ _)); exact aC.out⟩, ⟨by (with_reducible repeat (first | refine blk_drewN ?_ _ | refine blk_drew ?_ | refine blk_alloc ?_ _)); exact aD.out⟩, ⟨by (with_reducible repeat (first | refine blk_drewN ?_ _ | refine blk_drew ?_ | refine blk_alloc ?_ _)); exact aO.out⟩, ⟨by repeat (first | (with_reducible first | exact HB.out | apply below_alloc | apply pw_below_drewN | apply below_drew1 | refine below_set ?_ aM.out | refine below_set ?_ aV.out | refine below_set ?_ bE.out | refine below_set ?_ bL.out | refine below_set ?_ bQ.out) | exact HB.out)⟩⟩
    rw [if_neg c133] at H
    have c133b0 : (t347 == 0) = false := beq_eq_false_iff_ne.mpr c133
    have c133b1 : (t347 != 0) = true := bne_iff_ne.mpr c133
    have H' := Aside0.mk H
    clear H
    go_wp2_with (first | ((with_reducible refine gate_callee (f := 26) rfl ?_); refine goesL_ (some 79) rfl rfl Try.func26 (by kernel_rfl) rfl #[.int .i64 t299] rfl (by (try simp only [List.map_toArray, List.map_cons, List.map_nil]); first | done | rfl | (simp only [List.length_drop, List.length_take]; rfl)) ?_; (with_reducible refine (grafterlaw0_Num.calls t299 t342 _ A72.out).mono ?_); rintro e w' ⟨rfl, ⟨nd, rfl⟩⟩; refine ⟨_, rfl, ?_⟩; (try clear A72)) | (go_at_call 26; (with_reducible refine (grafterlaw0_Num.calls t311 t347 _ A132.out).mono ?_); rintro e w' ⟨rfl, ⟨nd, rfl⟩⟩; (try clear A132)))
    go_meet
    case rel => exact ⟨_, (false), (by first | rfl | (simp; done) | (simp [*]; done)), H', ⟨by have := HJ9.out; first | omega | exact Nat.le_refl _⟩, ⟨by (with_reducible repeat (first | apply Kd.R_alloc | apply Kd.R_drewN | apply Kd.R_drew)); exact aJ.out⟩, ⟨by (with_reducible repeat (first | apply Kd.R_alloc | apply Kd.R_drewN | apply Kd.R_drew)); exact aI.out⟩, ⟨by (with_reducible repeat (first | apply RC.V_alloc | apply RC.V_drewN | apply RC.V_drew)); exact aT.out⟩, ⟨by (with_reducible repeat (first | apply Kd.R_alloc | apply Kd.R_drewN | apply Kd.R_drew)); exact aZ.out⟩, ⟨by (with_reducible repeat (first | apply Kd.R_alloc | apply Kd.R_drewN | apply Kd.R_drew)); exact bG.out⟩, ⟨by (with_reducible repeat (first | apply Kd.R_alloc | apply Kd.R_drewN | apply Kd.R_drew)); exact bF.out⟩, ⟨by (with_reducible repeat (first | apply Kd.V_alloc | apply Kd.V_drewN | apply Kd.V_drew)); exact aY.out⟩, ⟨by (with_reducible repeat (first | apply Kd.R_alloc | apply Kd.R_drewN | apply Kd.R_drew)); exact aX.out⟩, ⟨by (with_reducible repeat (first | refine blk_drewN ?_ _ | refine blk_drew ?_ | refine blk_alloc ?_ _)); exact aA.out⟩, ⟨by (with_reducible repeat (first | refine blk_drewN ?_ _ | refine blk_drew ?_ | refine blk_alloc ?_ _)); exact aB.out⟩, ⟨by (with_reducible repeat (first | refine blk_drewN ?_ _ | refine blk_drew ?_ | refine blk_alloc ?_ _)); exact aC.out⟩, ⟨by (with_reducible repeat (first | refine blk_drewN ?_ _ | refine blk_drew ?_ | refine blk_alloc ?_ _)); exact aD.out⟩, ⟨by (with_reducible repeat (first | refine blk_drewN ?_ _ | refine blk_drew ?_ | refine blk_alloc ?_ _)); exact aO.out⟩, ⟨by repeat (first | (with_reducible first | exact HB.out | apply below_alloc | apply pw_below_drewN | apply below_drew1 | refine below_set ?_ aM.out | refine below_set ?_ aV.out | refine below_set ?_ bE.out | refine below_set ?_ bL.out | refine below_set ?_ bQ.out) | exact HB.out)⟩⟩
   case rest =>
    clear cR
    try clear c1
    try clear c2
    try clear p2
    try clear c4
    try clear c5
    try clear c7
    try clear c8
    try clear c9
    try clear c10
    try clear c11
    try clear c12
    try clear c13
    try clear c26
    try clear c43
    try clear c51
    try clear c51b0
    try clear c51b1
    try clear c53
    try clear c53b0
    try clear c53b1
    try clear c70
    try clear c73
    try clear c73b0
    try clear c73b1
    try clear c75
    try clear c77
    try clear c77b0
    try clear c77b1
    try clear c79
    try clear c79b0
    try clear c79b1
    try clear c80
    try clear c80b0
    try clear c80b1
    try clear c82
    try clear c83
    try clear c84
    try clear c85
    try clear c87
    try clear c88
    try clear c89
    try clear c92
    try clear c93
    try clear c94
    try clear c95
    try clear c97
    try clear c98
    try clear c99
    try clear c102
    try clear c103
    try clear c104
    try clear c105
    try clear c107
    try clear c108
    try clear c109
    try clear c112
    try clear c113
    try clear c114
    try clear c115
    try clear c117
    try clear c118
    try clear c119
    try clear c122
    try clear c123
    try clear c124
    try clear c125
    try clear c127
    try clear c128
    try clear c129
    try clear c133
    try clear c133b0
    try clear c133b1
    try clear c134
    try clear c134b0
    try clear c134b1
    try clear hcz100_0
    try clear hcz100_1
    try clear hcz100_2
    try clear hcz100_3
    try clear hcz100_4
    try clear hcz106_0
    try clear hcz106_1
    try clear hcz106_2
    try clear hcz106_3
    try clear hcz106_4
    try clear hcz110_0
    try clear hcz110_1
    try clear hcz110_2
    try clear hcz110_3
    try clear hcz110_4
    try clear hcz116_0
    try clear hcz116_1
    try clear hcz116_2
    try clear hcz116_3
    try clear hcz116_4
    try clear hcz120_0
    try clear hcz120_1
    try clear hcz120_2
    try clear hcz120_3
    try clear hcz120_4
    try clear hcz126_0
    try clear hcz126_1
    try clear hcz126_2
    try clear hcz126_3
    try clear hcz126_4
    try clear hcz130_0
    try clear hcz130_1
    try clear hcz130_2
    try clear hcz130_3
    try clear hcz130_4
    try clear hcz86_0
    try clear hcz86_1
    try clear hcz86_2
    try clear hcz86_3
    try clear hcz86_4
    try clear hcz90_0
    try clear hcz90_1
    try clear hcz90_2
    try clear hcz90_3
    try clear hcz90_4
    try clear hcz96_0
    try clear hcz96_1
    try clear hcz96_2
    try clear hcz96_3
    try clear hcz96_4
    try clear hfz100_0
    try clear hfz100_1
    try clear hfz100_2
    try clear hfz100_3
    try clear hfz100_4
    try clear hfz106_0
    try clear hfz106_1
    try clear hfz106_2
    try clear hfz106_3
    try clear hfz106_4
    try clear hfz110_0
    try clear hfz110_1
    try clear hfz110_2
    try clear hfz110_3
    try clear hfz110_4
    try clear hfz116_0
    try clear hfz116_1
    try clear hfz116_2
    try clear hfz116_3
    try clear hfz116_4
    try clear hfz120_0
    try clear hfz120_1
    try clear hfz120_2
    try clear hfz120_3
    try clear hfz120_4
    try clear hfz126_0
    try clear hfz126_1
    try clear hfz126_2
    try clear hfz126_3
    try clear hfz126_4
    try clear hfz130_0
    try clear hfz130_1
    try clear hfz130_2
    try clear hfz130_3
    try clear hfz130_4
    try clear hfz86_0
    try clear hfz86_1
    try clear hfz86_2
    try clear hfz86_3
    try clear hfz86_4
    try clear hfz90_0
    try clear hfz90_1
    try clear hfz90_2
    try clear hfz90_3
    try clear hfz90_4
    try clear hfz96_0
    try clear hfz96_1
    try clear hfz96_2
    try clear hfz96_3
    try clear hfz96_4
    try clear p2
    obtain ⟨kq, x106_70, rfl, HA, HJ70, aJ, aI, aT, aZ, bG, bF, aY, aX, aA, aB, aC, aD, aO, HB⟩ := hcut
    cases kq with
    | zero => exact absurd HA.out (by simp [grafterlaw14_Checks.j1])
    | succ kj70 =>
     have H := HA.out
     clear HA
     simp only [grafterlaw14_Checks.j1] at H
     by_cases c136 : x106_70 = true
     · subst c136
       have H1 : (some false) = some r := by rw [if_pos rfl] at H; exact H
       clear H
       have H := H1
       clear H1
       exact absurd ((Option.some.inj H).trans HRT.out) Bool.false_ne_true
     replace c136 := Bool.eq_false_iff.mpr c136
     subst c136
     rw [if_neg (show ¬ (false = true) by decide)] at H
     replace H := Option.bind_eq_some_iff.mp H
     obtain ⟨t349, A1370, H⟩ := H
     (try dsimp only at H)
     have A137 := Aside0.mk A1370
     clear A1370
     replace H := Option.bind_eq_some_iff.mp H
     obtain ⟨t350, A1380, H⟩ := H
     replace H : (if t350 = true then ((grafterlaw14_awake.f kj70).bind fun t351 => (some t351)) else (some false)) = some r := H
     have A138 := Aside0.mk A1380
     clear A1380
     by_cases c139 : t350 = true
     · subst c139
       have H1 : ((grafterlaw14_awake.f kj70).bind fun t351 => (some t351)) = some r := by rw [if_pos rfl] at H; exact H
       clear H
       have H := H1
       clear H1
       replace H := Option.bind_eq_some_iff.mp H
       obtain ⟨t351, A1400, H⟩ := H
       replace H : (some t351) = some r := H
       have A140 := Aside0.mk A1400
       clear A1400
       obtain rfl := Option.some.inj H
       have hnb141 := cF.out
       have hnc141 := bX.out
       have hnb142 := cO.out
       have hnc142 := cL.out
       have hnb143 := cE.out
       have hnc143 := cM.out
       have hnb144 := bU.out
       have hnc144 := bZ.out
       obtain ⟨hcz145_0, hcz145_1, hcz145_2, hcz145_3, hcz145_4, hfz145_0, hfz145_1, hfz145_2, hfz145_3, hfz145_4⟩ := Blk.blk5 (show wc.heap[aL]? = some (.cells #[.slice bS t302.length bR, .slice bB t305.length bA, .int .i64 t308, .int .i64 t309, .int .i64 t310] _ (0, 0)) from aC.out)
       go_wp2_with (first | ((with_reducible refine gate_callee (f := 46) rfl ?_); refine goesL_ (some 108) rfl rfl Try.func46 (by kernel_rfl) rfl #[.agg #[.slice bS t302.length bR, .slice bB t305.length bA, .int .i64 t308, .int .i64 t309, .int .i64 t310]] rfl (by (try simp only [List.map_toArray, List.map_cons, List.map_nil]); first | done | rfl | (simp only [List.length_drop, List.length_take]; rfl)) ?_; (with_reducible refine (grafterlaw0_SpoilCheck.calls kj70 (fun k_ => some k_ = (.slice bS t302.length bR : Value).ownBlock) (.slice bS t302.length bR) t302 (fun k_ => some k_ = (.slice bB t305.length bA : Value).ownBlock) (.slice bB t305.length bA) t305 t308 t309 t310 t349 w _ ?side1 ?side2 ?side3 ?side4 A137.out).mono ?_); (case side1 => repeat (first | (with_reducible first | exact HB.out | apply below_alloc | apply pw_below_drewN | apply below_drew1 | refine below_set ?_ aM.out | refine below_set ?_ aV.out | refine below_set ?_ bE.out | refine below_set ?_ bL.out | refine below_set ?_ bQ.out) | exact HB.out)); (case side2 => exact RC.V_tight rfl aT.out); (case side3 => exact Kd.R_tight rfl aZ.out); (case side4 => exact fun k_ hk_ e_ => (aT.out.1 k_ e_.symm).2.2.1 hk_); rintro e w146 ⟨rfl, hb, hkp⟩; refine ⟨_, rfl, ?_⟩; have n0_ := Aside0.mk (Kd.R_reok rfl (Kd.R_keptB (Kd.R_tight rfl aJ.out) hkp (fun k_ hk_ hs_ => hs_.elim (fun h_ => (aJ.out.1 k_ hk_.symm).2.1 (hk_ ▸ h_)) (fun h_ => (aT.out.1 k_ h_.symm).1 hk_))) (fun k_ e_ => aJ.out.1 k_ e_)); have n1_ := Aside0.mk (Kd.R_reok rfl (Kd.R_keptB (Kd.R_tight rfl aI.out) hkp (fun k_ hk_ hs_ => hs_.elim (fun h_ => (aI.out.1 k_ hk_.symm).2.1 (hk_ ▸ h_)) (fun h_ => (aT.out.1 k_ h_.symm).2.1 hk_))) (fun k_ e_ => aI.out.1 k_ e_)); have n2_ := Aside0.mk (blk_kept (by (with_reducible repeat (first | refine blk_drewN ?_ _ | refine blk_drew ?_ | refine blk_alloc ?_ _)); exact aA.out) hkp (fun hs_ => hs_.elim (fun h_ => Kd.R_ne aZ.out aA.out (by decide) h_) (fun h_ => RC.V_ne aT.out aA.out (by decide) h_))); have n3_ := Aside0.mk (blk_kept (by (with_reducible repeat (first | refine blk_drewN ?_ _ | refine blk_drew ?_ | refine blk_alloc ?_ _)); exact aB.out) hkp (fun hs_ => hs_.elim (fun h_ => Kd.R_ne aZ.out aB.out (by decide) h_) (fun h_ => RC.V_ne aT.out aB.out (by decide) h_))); have n4_ := Aside0.mk hb; clear aJ; clear aI; clear aT; clear aZ; clear bG; clear bF; clear aY; clear aX; clear aA; clear aB; clear aC; clear aD; clear aO; clear HB; have aJ := n0_; have aI := n1_; have aA := n2_; have aB := n3_; have HB := n4_; clear n0_ n1_ n2_ n3_ n4_; (try clear hb); (try clear hkp); (try clear hy0); have hnb147 := cH.out; have hnc147 := bY.out; have hnb148 := cG.out; have hnc148 := cN.out; have hnb149 := bV.out; have hnc149 := cA.out; obtain ⟨hcz150_0, hcz150_1, hcz150_2, hcz150_3, hcz150_4, hfz150_0, hfz150_1, hfz150_2, hfz150_3, hfz150_4⟩ := Blk.blk5 (show w146.heap[aE]? = some (.cells #[.slice aS t288.length aQ, .slice aR t291.length aP, .int .i64 t294, .int .i64 t295, .int .i64 t296] _ (0, 0)) from aB.out); have hnb151 := bT.out; have hnc151 := cD.out; have hnb152 := bW.out; have hnc152 := cB.out; obtain ⟨hcz153_0, hcz153_1, hcz153_2, hcz153_3, hcz153_4, hfz153_0, hfz153_1, hfz153_2, hfz153_3, hfz153_4⟩ := Blk.blk5 (show w146.heap[aF]? = some (.cells #[.slice A0_0 l0_0.length c0_0, .slice A0_1 l0_1.length c0_1, .int .i64 a0_2, .int .i64 a0_3, .int .i64 a0_4] _ (0, 0)) from aA.out)) | ((with_reducible refine gate_callee (f := 43) rfl ?_); refine goesL_ (some 111) rfl rfl Try.func43 (by kernel_rfl) rfl #[.agg #[.slice aS t288.length aQ, .slice aR t291.length aP, .int .i64 t294, .int .i64 t295, .int .i64 t296], .agg #[.slice A0_0 l0_0.length c0_0, .slice A0_1 l0_1.length c0_1, .int .i64 a0_2, .int .i64 a0_3, .int .i64 a0_4]] rfl (by (try simp only [List.map_toArray, List.map_cons, List.map_nil]); first | done | rfl | (simp only [List.length_drop, List.length_take]; rfl)) ?_; (with_reducible refine (grafterlaw0_SameCheck.calls kj70 _ _ t288 _ _ t291 t294 t295 t296 _ _ l0_0 _ _ l0_1 a0_2 a0_3 a0_4 true _ ?side1 ?side2 ?side3 ?side4 ?side5 ?side6 ?side7 ?side8 A138.out).mono ?_); (case side1 => repeat (first | (with_reducible refine Kd.C_alloc ?_ _) | (with_reducible refine Kd.C_drewN ?_ _) | (with_reducible refine Kd.C_drew ?_) | exact (Kd.R_reads' aJ.out).2.2)); (case side2 => exact (Kd.R_reads' aJ.out).2.1); (case side3 => repeat (first | (with_reducible refine Kd.C_alloc ?_ _) | (with_reducible refine Kd.C_drewN ?_ _) | (with_reducible refine Kd.C_drew ?_) | exact (Kd.R_reads' aI.out).2.2)); (case side4 => exact (Kd.R_reads' aI.out).2.1); (case side5 => repeat (first | (with_reducible refine Kd.C_alloc ?_ _) | (with_reducible refine Kd.C_drewN ?_ _) | (with_reducible refine Kd.C_drew ?_) | exact (Kd.C_below HR0_0.out HB.out))); (case side6 => exact cQ.out); (case side7 => repeat (first | (with_reducible refine Kd.C_alloc ?_ _) | (with_reducible refine Kd.C_drewN ?_ _) | (with_reducible refine Kd.C_drew ?_) | exact (Kd.C_below HR0_1.out HB.out))); (case side8 => exact cP.out); rintro e w154 ⟨rfl, hb⟩; refine ⟨_, rfl, ?_⟩; have n0_ := Aside0.mk (Kd.R_below (by (with_reducible repeat (first | apply Kd.R_alloc | apply Kd.R_drewN | apply Kd.R_drew)); exact aJ.out) hb); have n1_ := Aside0.mk (Kd.R_below (by (with_reducible repeat (first | apply Kd.R_alloc | apply Kd.R_drewN | apply Kd.R_drew)); exact aI.out) hb); have n8_ := Aside0.mk (blk_below (g := aF) (o := .cells #[.slice A0_0 l0_0.length c0_0, .slice A0_1 l0_1.length c0_1, .int .i64 a0_2, .int .i64 a0_3, .int .i64 a0_4] 56 (0, 0)) (by (with_reducible repeat (first | refine blk_drewN ?_ _ | refine blk_drew ?_ | refine blk_alloc ?_ _)); exact aA.out) hb); have n9_ := Aside0.mk (blk_below (g := aE) (o := .cells #[.slice aS t288.length aQ, .slice aR t291.length aP, .int .i64 t294, .int .i64 t295, .int .i64 t296] 56 (0, 0)) (by (with_reducible repeat (first | refine blk_drewN ?_ _ | refine blk_drew ?_ | refine blk_alloc ?_ _)); exact aB.out) hb); have n13_ := Aside0.mk (below_step (by repeat (first | (with_reducible first | exact HB.out | apply below_alloc | apply pw_below_drewN | apply below_drew1 | refine below_set ?_ aM.out | refine below_set ?_ aV.out | refine below_set ?_ bE.out | refine below_set ?_ bL.out | refine below_set ?_ bQ.out) | exact HB.out)) hb); clear aJ; clear aI; clear aA; clear aB; clear HB; have aJ := n0_; have aI := n1_; have aA := n8_; have aB := n9_; have HB := n13_; clear n0_ n1_ n8_ n9_ n13_; (try clear hb); (try clear hb2); (try clear hk); (try clear hi)) | (go_at_call 47; (with_reducible refine (grafterlaw14_awake.calls kj70  t351 _ HRT.out A140.out).mono ?_); rintro e w155 ⟨rfl, hb⟩; have n0_ := Aside0.mk (Kd.R_below (by (with_reducible repeat (first | apply Kd.R_alloc | apply Kd.R_drewN | apply Kd.R_drew)); exact aJ.out) hb); have n1_ := Aside0.mk (Kd.R_below (by (with_reducible repeat (first | apply Kd.R_alloc | apply Kd.R_drewN | apply Kd.R_drew)); exact aI.out) hb); have n8_ := Aside0.mk (blk_below (g := aF) (o := .cells #[.slice A0_0 l0_0.length c0_0, .slice A0_1 l0_1.length c0_1, .int .i64 a0_2, .int .i64 a0_3, .int .i64 a0_4] 56 (0, 0)) (by (with_reducible repeat (first | refine blk_drewN ?_ _ | refine blk_drew ?_ | refine blk_alloc ?_ _)); exact aA.out) hb); have n9_ := Aside0.mk (blk_below (g := aE) (o := .cells #[.slice aS t288.length aQ, .slice aR t291.length aP, .int .i64 t294, .int .i64 t295, .int .i64 t296] 56 (0, 0)) (by (with_reducible repeat (first | refine blk_drewN ?_ _ | refine blk_drew ?_ | refine blk_alloc ?_ _)); exact aB.out) hb); have n13_ := Aside0.mk (below_step (by repeat (first | (with_reducible first | exact HB.out | apply below_alloc | apply pw_below_drewN | apply below_drew1 | refine below_set ?_ aM.out | refine below_set ?_ aV.out | refine below_set ?_ bE.out | refine below_set ?_ bL.out | refine below_set ?_ bQ.out) | exact HB.out)) hb); clear aJ; clear aI; clear aA; clear aB; clear HB; have aJ := n0_; have aI := n1_; have aA := n8_; have aB := n9_; have HB := n13_; clear n0_ n1_ n8_ n9_ n13_; (try clear hb); (try clear hb2); (try clear hk); (try clear hi)))
       go_ret
       exact ⟨by first | rfl | (simp [errW_none, errW_some] <;> rfl) | (simp [*, errW_none, errW_some] <;> rfl), by repeat (first | (with_reducible first | exact HB.out | apply below_alloc | apply pw_below_drewN | apply below_drew1 | refine below_set ?_ aM.out | refine below_set ?_ aV.out | refine below_set ?_ bE.out | refine below_set ?_ bL.out | refine below_set ?_ bQ.out) | exact HB.out)⟩
     replace c139 := Bool.eq_false_iff.mpr c139
     subst c139
     have H1 : (some false) = some r := by rw [if_neg (show ¬ (false = true) by decide)] at H; exact H
     clear H
     have H := H1
     clear H1
     exact absurd ((Option.some.inj H).trans HRT.out) Bool.false_ne_true

def grafterlaw14_Checks.Pure : Prop := ∀ (l0_0 : (List Int)) (l0_1 : (List Int)) (a0_2 : Int) (a0_3 : Int) (a0_4 : Int) (a1 : ByteArray), l0_0.length ≤ maxLen → l0_0.length * 8 ≤ 140737488351232 → (∀ y0 ∈ l0_0, (Lit.int .i64 y0).wf = true) → l0_1.length ≤ maxLen → l0_1.length * 8 ≤ 140737488351232 → (∀ y0 ∈ l0_1, (Lit.int .i64 y0).wf = true) → (Lit.int .i64 a0_2).wf = true → (Lit.int .i64 a0_3).wf = true → (Lit.int .i64 a0_4).wf = true → a1.size ≤ 140737488351232 → ∃ k, grafterlaw14_Checks.f k l0_0 l0_1 a0_2 a0_3 a0_4 a1 = some true
theorem grafterlaw14_Checks.walk (P : grafterlaw14_Checks.Pure) (A0_0 : Option Addr) (c0_0 : Nat) (l0_0 : (List Int)) (A0_1 : Option Addr) (c0_1 : Nat) (l0_1 : (List Int)) (a0_2 : Int) (a0_3 : Int) (a0_4 : Int) (a1 : ByteArray) (w : World) (hr0_0 : Kd.C (Kd.int .i64) w A0_0 l0_0.length l0_0) (hc0_0 : l0_0.length ≤ c0_0) (w0_0_0 : l0_0.length ≤ maxLen) (w0_0_1 : l0_0.length * 8 ≤ 140737488351232) (w0_0_2 : (∀ y0 ∈ l0_0, (Lit.int .i64 y0).wf = true)) (hr0_1 : Kd.C (Kd.int .i64) w A0_1 l0_1.length l0_1) (hc0_1 : l0_1.length ≤ c0_1) (w0_1_0 : l0_1.length ≤ maxLen) (w0_1_1 : l0_1.length * 8 ≤ 140737488351232) (w0_1_2 : (∀ y0 ∈ l0_1, (Lit.int .i64 y0).wf = true)) (w0_2_0 : (Lit.int .i64 a0_2).wf = true) (w0_3_0 : (Lit.int .i64 a0_3).wf = true) (w0_4_0 : (Lit.int .i64 a0_4).wf = true) (w1_0 : a1.size ≤ 140737488351232) :
    Calls Try.prog 14 #[.agg #[.slice A0_0 l0_0.length c0_0, .slice A0_1 l0_1.length c0_1, .int .i64 a0_2, .int .i64 a0_3, .int .i64 a0_4], .string a1] w fun e w' => e = .returned (.bool true) ∧ Below w.heap.size w w' := by
 obtain ⟨k, h⟩ := P l0_0 l0_1 a0_2 a0_3 a0_4 a1 w0_0_0 w0_0_1 w0_0_2 w0_1_0 w0_1_1 w0_1_2 w0_2_0 w0_3_0 w0_4_0 w1_0
 refine (grafterlaw14_Checks.calls k _ _ l0_0 _ _ l0_1 a0_2 a0_3 a0_4 a1 true w rfl hr0_0 hc0_0 hr0_1 hc0_1 h).mono ?_
 rintro e w' ⟨rfl, hd⟩
 exact ⟨rfl, hd⟩

end Go.Proofs.Ytbhkmgidokonkaa.PChecks
