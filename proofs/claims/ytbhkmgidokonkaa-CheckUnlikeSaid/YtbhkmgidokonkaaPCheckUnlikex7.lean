-- Written by a program of this session (pprint.py) out of the translation, with hand-proved walks pasted in.
import Derived.Test.YtbhkmgidokonkaaPCheckUnlikex0
import Derived.Test.YtbhkmgidokonkaaPCheckUnlikex2
import Derived.Test.YtbhkmgidokonkaaPCheckUnlikex3
import Derived.Test.YtbhkmgidokonkaaPCheckUnlikex6
namespace Go.Proofs.Ytbhkmgidokonkaa.PCheckUnlike
open Go.RowKit Go.Proofs.YtbhkmgidokonkaaW.PrintWords Go.Proofs.YtbhkmgidokonkaaW.PrintLast Go.Proofs.YtbhkmgidokonkaaW.PrintMore
attribute [local go_sem] max2_int min2_int max_two min_two max_three min_three max_four min_four   -- for this text's walks alone
set_option linter.unusedVariables false
set_option linter.unusedSimpArgs false

/-! ### grafterlaw14_CheckUnlike: function 16 -/
def grafterlaw14_CheckUnlike.f (k : Nat) (l0_0 : List Int) (l0_1 : List Int) (a0_2 : Int) (a0_3 : Int) (a0_4 : Int) (a1 : Int) (a2 : Int) : Option (Bool) := (grafterlaw14_awake.f k).bind fun t245 => (if t245 = true then ((check_Put.f k l0_0 l0_1 a0_2 a0_3 a0_4).bind fun bt246 => ((grafterlaw0_Num.f bt246.2).bind fun t248 => (if t248 = 0 then ((grafterlaw0_CopyCheck.f l0_0 l0_1 a0_2 a0_3 a0_4).bind fun bt250 => (if (IntKind.u64.wrap ((bt250.1.length : Int))) = 0 then (none) else (if (Go.bits .and .i64 a2 1) = 1 then (if 0 ≤ (wrap64 (Int.tmod (IntKind.u64.wrap (a1)) (IntKind.u64.wrap ((bt250.1.length : Int))))) then (if (wrap64 (Int.tmod (IntKind.u64.wrap (a1)) (IntKind.u64.wrap ((bt250.1.length : Int))))) < (bt250.1.length : Int) then ((check_Put.f k (bt250.1.set ((wrap64 (Int.tmod (IntKind.u64.wrap (a1)) (IntKind.u64.wrap ((bt250.1.length : Int))))) : Int).toNat (Go.bits .xor .i64 (rd bt250.1 (wrap64 (Int.tmod (IntKind.u64.wrap (a1)) (IntKind.u64.wrap ((bt250.1.length : Int)))))) 1)) bt250.2.1 bt250.2.2.1 bt250.2.2.2.1 bt250.2.2.2.2).bind fun bt262 => (if (bt246.1.size : Int) = (wrap64 (10 + (wrap64 (8 * (l0_0.length : Int))))) then ((grafterlaw0_Num.f bt262.2).bind fun t264 => (if t264 = 0 then (if (bt262.1.size : Int) = (bt246.1.size : Int) then (some (bt246.1.toList != bt262.1.toList)) else (some false)) else (some true))) else (some false))) else (none)) else (none)) else (if 0 ≤ (wrap64 (Int.tmod (IntKind.u64.wrap (a1)) (IntKind.u64.wrap ((bt250.1.length : Int))))) then (if (wrap64 (Int.tmod (IntKind.u64.wrap (a1)) (IntKind.u64.wrap ((bt250.1.length : Int))))) < (bt250.2.1.length : Int) then ((check_Put.f k bt250.1 (bt250.2.1.set ((wrap64 (Int.tmod (IntKind.u64.wrap (a1)) (IntKind.u64.wrap ((bt250.1.length : Int))))) : Int).toNat (Go.bits .xor .i64 (rd bt250.2.1 (wrap64 (Int.tmod (IntKind.u64.wrap (a1)) (IntKind.u64.wrap ((bt250.1.length : Int)))))) 1)) bt250.2.2.1 bt250.2.2.2.1 bt250.2.2.2.2).bind fun bt267 => (if (bt246.1.size : Int) = (wrap64 (10 + (wrap64 (8 * (l0_0.length : Int))))) then ((grafterlaw0_Num.f bt267.2).bind fun t269 => (if t269 = 0 then (if (bt267.1.size : Int) = (bt246.1.size : Int) then (some (bt246.1.toList != bt267.1.toList)) else (some false)) else (some true))) else (some false))) else (none)) else (none))))) else (if bt246.1.toList = ([] : List UInt8) then ((check_May.f k l0_0 l0_1 a0_2 a0_3 a0_4).bind fun t249 => (some (!t249))) else (some false))))) else (some false))
theorem grafterlaw14_CheckUnlike.mono : ∀ a0 a1 a2 a3 a4 a5 a6 k, LeO (grafterlaw14_CheckUnlike.f k a0 a1 a2 a3 a4 a5 a6) (grafterlaw14_CheckUnlike.f (k + 1) a0 a1 a2 a3 a4 a5 a6) := by
  intro a0 a1 a2 a3 a4 a5 a6 k
  unfold grafterlaw14_CheckUnlike.f
  repeat' first
      | (with_reducible exact check_May.mono _ _ _ _ _ _)
      | (with_reducible exact check_Put.mono _ _ _ _ _ _)
      | (with_reducible exact grafterlaw14_awake.mono _)
      | (with_reducible exact LeO.refl _)
      | (with_reducible exact LeO.none _)
      | (with_reducible refine LeO.ite ?_ ?_)
      | (with_reducible refine LeO.bind ?_ (fun _ => ?_))
      | exact check_May.mono _ _ _ _ _ _
      | exact check_Put.mono _ _ _ _ _ _
      | exact grafterlaw14_awake.mono _
      | exact LeO.none _
      | refine LeO.ite ?_ ?_
      | refine LeO.bind ?_ (fun _ => ?_)
def grafterlaw14_CheckUnlike.T9 : Bool × List (List Nat × List Nat) := (true, [([], []), ([0], [0]), ([], []), ([], []), ([3], [3]), ([], []), ([4, 5], [4, 5]), ([6], [6]), ([7], [7]), ([1, 2, 0, 1, 2, 3, 4, 5, 6, 7, 8], [1, 2]), ([9, 8, 0, 1, 2, 3, 4, 5, 6, 7, 8], [8, 9])])
def grafterlaw14_CheckUnlike.B9 : List Nat := [0, 1, 0, 0, 8, 0, 56, 120, 248, 511, 1023]
theorem grafterlaw14_CheckUnlike.tab9 : rtab .any (opsOf Try.f16 9) = grafterlaw14_CheckUnlike.T9 := by kernel_rfl
theorem grafterlaw14_CheckUnlike.bits9 : waitsOk grafterlaw14_CheckUnlike.T9.2 grafterlaw14_CheckUnlike.B9 = true := by kernel_rfl
def grafterlaw14_CheckUnlike.T10 : Bool × List (List Nat × List Nat) := (true, [([], []), ([0], [0]), ([], []), ([], []), ([3], [3]), ([], []), ([4, 5], [4, 5]), ([6], [6]), ([7], [7]), ([1, 2, 0, 1, 2, 3, 4, 5, 6, 7, 8], [1, 2]), ([9, 8, 0, 1, 2, 3, 4, 5, 6, 7, 8], [8, 9])])
def grafterlaw14_CheckUnlike.B10 : List Nat := [0, 1, 0, 0, 8, 0, 56, 120, 248, 511, 1023]
theorem grafterlaw14_CheckUnlike.tab10 : rtab .any (opsOf Try.f16 10) = grafterlaw14_CheckUnlike.T10 := by kernel_rfl
theorem grafterlaw14_CheckUnlike.bits10 : waitsOk grafterlaw14_CheckUnlike.T10.2 grafterlaw14_CheckUnlike.B10 = true := by kernel_rfl
set_option maxHeartbeats 8000000 in
set_option maxRecDepth 100000 in
theorem grafterlaw14_CheckUnlike.calls (k : Nat) (A0_0 : Option Addr) (c0_0 : Nat) (l0_0 : List Int) (A0_1 : Option Addr) (c0_1 : Nat) (l0_1 : List Int) (a0_2 : Int) (a0_3 : Int) (a0_4 : Int) (a1 : Int) (a2 : Int) (r : Bool) (w : World) (hrt : r = true) (hr0_0 : Kd.C (Kd.int .i64) w A0_0 l0_0.length l0_0) (hc0_0 : l0_0.length ≤ c0_0) (hr0_1 : Kd.C (Kd.int .i64) w A0_1 l0_1.length l0_1) (hc0_1 : l0_1.length ≤ c0_1) (h : grafterlaw14_CheckUnlike.f k l0_0 l0_1 a0_2 a0_3 a0_4 a1 a2 = some r) :
    Calls Try.prog 16 #[.agg #[.slice A0_0 l0_0.length c0_0, .slice A0_1 l0_1.length c0_1, .int .i64 a0_2, .int .i64 a0_3, .int .i64 a0_4], .int .i64 a1, .int .i64 a2] w fun e w' => e = .returned (.bool r) ∧ Below w.heap.size w w' := by
  have HRT := Aside0.mk hrt
  clear hrt
  have hu56 := Try.underlying56
  have HR0_0 := Aside0.mk hr0_0
  have HC0_0 := Aside0.mk hc0_0
  clear hr0_0 hc0_0
  have HR0_1 := Aside0.mk hr0_1
  have HC0_1 := Aside0.mk hc0_1
  clear hr0_1 hc0_1
  have HB := Aside0.mk (Below.refl w.heap.size w)
  have H : ((grafterlaw14_awake.f k).bind fun t245 => (if t245 = true then ((check_Put.f k l0_0 l0_1 a0_2 a0_3 a0_4).bind fun bt246 => ((grafterlaw0_Num.f bt246.2).bind fun t248 => (if t248 = 0 then ((grafterlaw0_CopyCheck.f l0_0 l0_1 a0_2 a0_3 a0_4).bind fun bt250 => (if (IntKind.u64.wrap ((bt250.1.length : Int))) = 0 then (none) else (if (Go.bits .and .i64 a2 1) = 1 then (if 0 ≤ (wrap64 (Int.tmod (IntKind.u64.wrap (a1)) (IntKind.u64.wrap ((bt250.1.length : Int))))) then (if (wrap64 (Int.tmod (IntKind.u64.wrap (a1)) (IntKind.u64.wrap ((bt250.1.length : Int))))) < (bt250.1.length : Int) then ((check_Put.f k (bt250.1.set ((wrap64 (Int.tmod (IntKind.u64.wrap (a1)) (IntKind.u64.wrap ((bt250.1.length : Int))))) : Int).toNat (Go.bits .xor .i64 (rd bt250.1 (wrap64 (Int.tmod (IntKind.u64.wrap (a1)) (IntKind.u64.wrap ((bt250.1.length : Int)))))) 1)) bt250.2.1 bt250.2.2.1 bt250.2.2.2.1 bt250.2.2.2.2).bind fun bt262 => (if (bt246.1.size : Int) = (wrap64 (10 + (wrap64 (8 * (l0_0.length : Int))))) then ((grafterlaw0_Num.f bt262.2).bind fun t264 => (if t264 = 0 then (if (bt262.1.size : Int) = (bt246.1.size : Int) then (some (bt246.1.toList != bt262.1.toList)) else (some false)) else (some true))) else (some false))) else (none)) else (none)) else (if 0 ≤ (wrap64 (Int.tmod (IntKind.u64.wrap (a1)) (IntKind.u64.wrap ((bt250.1.length : Int))))) then (if (wrap64 (Int.tmod (IntKind.u64.wrap (a1)) (IntKind.u64.wrap ((bt250.1.length : Int))))) < (bt250.2.1.length : Int) then ((check_Put.f k bt250.1 (bt250.2.1.set ((wrap64 (Int.tmod (IntKind.u64.wrap (a1)) (IntKind.u64.wrap ((bt250.1.length : Int))))) : Int).toNat (Go.bits .xor .i64 (rd bt250.2.1 (wrap64 (Int.tmod (IntKind.u64.wrap (a1)) (IntKind.u64.wrap ((bt250.1.length : Int)))))) 1)) bt250.2.2.1 bt250.2.2.2.1 bt250.2.2.2.2).bind fun bt267 => (if (bt246.1.size : Int) = (wrap64 (10 + (wrap64 (8 * (l0_0.length : Int))))) then ((grafterlaw0_Num.f bt267.2).bind fun t269 => (if t269 = 0 then (if (bt267.1.size : Int) = (bt246.1.size : Int) then (some (bt246.1.toList != bt267.1.toList)) else (some false)) else (some true))) else (some false))) else (none)) else (none))))) else (if bt246.1.toList = ([] : List UInt8) then ((check_May.f k l0_0 l0_1 a0_2 a0_3 a0_4).bind fun t249 => (some (!t249))) else (some false))))) else (some false))) = some r := h
  clear h
  replace H := Option.bind_eq_some_iff.mp H
  obtain ⟨t245, A40, H⟩ := H
  replace H : (if t245 = true then ((check_Put.f k l0_0 l0_1 a0_2 a0_3 a0_4).bind fun bt246 => ((grafterlaw0_Num.f bt246.2).bind fun t248 => (if t248 = 0 then ((grafterlaw0_CopyCheck.f l0_0 l0_1 a0_2 a0_3 a0_4).bind fun bt250 => (if (IntKind.u64.wrap ((bt250.1.length : Int))) = 0 then (none) else (if (Go.bits .and .i64 a2 1) = 1 then (if 0 ≤ (wrap64 (Int.tmod (IntKind.u64.wrap (a1)) (IntKind.u64.wrap ((bt250.1.length : Int))))) then (if (wrap64 (Int.tmod (IntKind.u64.wrap (a1)) (IntKind.u64.wrap ((bt250.1.length : Int))))) < (bt250.1.length : Int) then ((check_Put.f k (bt250.1.set ((wrap64 (Int.tmod (IntKind.u64.wrap (a1)) (IntKind.u64.wrap ((bt250.1.length : Int))))) : Int).toNat (Go.bits .xor .i64 (rd bt250.1 (wrap64 (Int.tmod (IntKind.u64.wrap (a1)) (IntKind.u64.wrap ((bt250.1.length : Int)))))) 1)) bt250.2.1 bt250.2.2.1 bt250.2.2.2.1 bt250.2.2.2.2).bind fun bt262 => (if (bt246.1.size : Int) = (wrap64 (10 + (wrap64 (8 * (l0_0.length : Int))))) then ((grafterlaw0_Num.f bt262.2).bind fun t264 => (if t264 = 0 then (if (bt262.1.size : Int) = (bt246.1.size : Int) then (some (bt246.1.toList != bt262.1.toList)) else (some false)) else (some true))) else (some false))) else (none)) else (none)) else (if 0 ≤ (wrap64 (Int.tmod (IntKind.u64.wrap (a1)) (IntKind.u64.wrap ((bt250.1.length : Int))))) then (if (wrap64 (Int.tmod (IntKind.u64.wrap (a1)) (IntKind.u64.wrap ((bt250.1.length : Int))))) < (bt250.2.1.length : Int) then ((check_Put.f k bt250.1 (bt250.2.1.set ((wrap64 (Int.tmod (IntKind.u64.wrap (a1)) (IntKind.u64.wrap ((bt250.1.length : Int))))) : Int).toNat (Go.bits .xor .i64 (rd bt250.2.1 (wrap64 (Int.tmod (IntKind.u64.wrap (a1)) (IntKind.u64.wrap ((bt250.1.length : Int)))))) 1)) bt250.2.2.1 bt250.2.2.2.1 bt250.2.2.2.2).bind fun bt267 => (if (bt246.1.size : Int) = (wrap64 (10 + (wrap64 (8 * (l0_0.length : Int))))) then ((grafterlaw0_Num.f bt267.2).bind fun t269 => (if t269 = 0 then (if (bt267.1.size : Int) = (bt246.1.size : Int) then (some (bt246.1.toList != bt267.1.toList)) else (some false)) else (some true))) else (some false))) else (none)) else (none))))) else (if bt246.1.toList = ([] : List UInt8) then ((check_May.f k l0_0 l0_1 a0_2 a0_3 a0_4).bind fun t249 => (some (!t249))) else (some false))))) else (some false)) = some r := H
  have A4 := Aside0.mk A40
  clear A40
  by_cases c5 : t245 = true
  · subst c5
    have H1 : ((check_Put.f k l0_0 l0_1 a0_2 a0_3 a0_4).bind fun bt246 => ((grafterlaw0_Num.f bt246.2).bind fun t248 => (if t248 = 0 then ((grafterlaw0_CopyCheck.f l0_0 l0_1 a0_2 a0_3 a0_4).bind fun bt250 => (if (IntKind.u64.wrap ((bt250.1.length : Int))) = 0 then (none) else (if (Go.bits .and .i64 a2 1) = 1 then (if 0 ≤ (wrap64 (Int.tmod (IntKind.u64.wrap (a1)) (IntKind.u64.wrap ((bt250.1.length : Int))))) then (if (wrap64 (Int.tmod (IntKind.u64.wrap (a1)) (IntKind.u64.wrap ((bt250.1.length : Int))))) < (bt250.1.length : Int) then ((check_Put.f k (bt250.1.set ((wrap64 (Int.tmod (IntKind.u64.wrap (a1)) (IntKind.u64.wrap ((bt250.1.length : Int))))) : Int).toNat (Go.bits .xor .i64 (rd bt250.1 (wrap64 (Int.tmod (IntKind.u64.wrap (a1)) (IntKind.u64.wrap ((bt250.1.length : Int)))))) 1)) bt250.2.1 bt250.2.2.1 bt250.2.2.2.1 bt250.2.2.2.2).bind fun bt262 => (if (bt246.1.size : Int) = (wrap64 (10 + (wrap64 (8 * (l0_0.length : Int))))) then ((grafterlaw0_Num.f bt262.2).bind fun t264 => (if t264 = 0 then (if (bt262.1.size : Int) = (bt246.1.size : Int) then (some (bt246.1.toList != bt262.1.toList)) else (some false)) else (some true))) else (some false))) else (none)) else (none)) else (if 0 ≤ (wrap64 (Int.tmod (IntKind.u64.wrap (a1)) (IntKind.u64.wrap ((bt250.1.length : Int))))) then (if (wrap64 (Int.tmod (IntKind.u64.wrap (a1)) (IntKind.u64.wrap ((bt250.1.length : Int))))) < (bt250.2.1.length : Int) then ((check_Put.f k bt250.1 (bt250.2.1.set ((wrap64 (Int.tmod (IntKind.u64.wrap (a1)) (IntKind.u64.wrap ((bt250.1.length : Int))))) : Int).toNat (Go.bits .xor .i64 (rd bt250.2.1 (wrap64 (Int.tmod (IntKind.u64.wrap (a1)) (IntKind.u64.wrap ((bt250.1.length : Int)))))) 1)) bt250.2.2.1 bt250.2.2.2.1 bt250.2.2.2.2).bind fun bt267 => (if (bt246.1.size : Int) = (wrap64 (10 + (wrap64 (8 * (l0_0.length : Int))))) then ((grafterlaw0_Num.f bt267.2).bind fun t269 => (if t269 = 0 then (if (bt267.1.size : Int) = (bt246.1.size : Int) then (some (bt246.1.toList != bt267.1.toList)) else (some false)) else (some true))) else (some false))) else (none)) else (none))))) else (if bt246.1.toList = ([] : List UInt8) then ((check_May.f k l0_0 l0_1 a0_2 a0_3 a0_4).bind fun t249 => (some (!t249))) else (some false))))) = some r := by rw [if_pos rfl] at H; exact H
    clear H
    have H := H1
    clear H1
    replace H := Option.bind_eq_some_iff.mp H
    obtain ⟨⟨t246, t247⟩, A60, H⟩ := H
    replace H : ((grafterlaw0_Num.f t247).bind fun t248 => (if t248 = 0 then ((grafterlaw0_CopyCheck.f l0_0 l0_1 a0_2 a0_3 a0_4).bind fun bt250 => (if (IntKind.u64.wrap ((bt250.1.length : Int))) = 0 then (none) else (if (Go.bits .and .i64 a2 1) = 1 then (if 0 ≤ (wrap64 (Int.tmod (IntKind.u64.wrap (a1)) (IntKind.u64.wrap ((bt250.1.length : Int))))) then (if (wrap64 (Int.tmod (IntKind.u64.wrap (a1)) (IntKind.u64.wrap ((bt250.1.length : Int))))) < (bt250.1.length : Int) then ((check_Put.f k (bt250.1.set ((wrap64 (Int.tmod (IntKind.u64.wrap (a1)) (IntKind.u64.wrap ((bt250.1.length : Int))))) : Int).toNat (Go.bits .xor .i64 (rd bt250.1 (wrap64 (Int.tmod (IntKind.u64.wrap (a1)) (IntKind.u64.wrap ((bt250.1.length : Int)))))) 1)) bt250.2.1 bt250.2.2.1 bt250.2.2.2.1 bt250.2.2.2.2).bind fun bt262 => (if (t246.size : Int) = (wrap64 (10 + (wrap64 (8 * (l0_0.length : Int))))) then ((grafterlaw0_Num.f bt262.2).bind fun t264 => (if t264 = 0 then (if (bt262.1.size : Int) = (t246.size : Int) then (some (t246.toList != bt262.1.toList)) else (some false)) else (some true))) else (some false))) else (none)) else (none)) else (if 0 ≤ (wrap64 (Int.tmod (IntKind.u64.wrap (a1)) (IntKind.u64.wrap ((bt250.1.length : Int))))) then (if (wrap64 (Int.tmod (IntKind.u64.wrap (a1)) (IntKind.u64.wrap ((bt250.1.length : Int))))) < (bt250.2.1.length : Int) then ((check_Put.f k bt250.1 (bt250.2.1.set ((wrap64 (Int.tmod (IntKind.u64.wrap (a1)) (IntKind.u64.wrap ((bt250.1.length : Int))))) : Int).toNat (Go.bits .xor .i64 (rd bt250.2.1 (wrap64 (Int.tmod (IntKind.u64.wrap (a1)) (IntKind.u64.wrap ((bt250.1.length : Int)))))) 1)) bt250.2.2.1 bt250.2.2.2.1 bt250.2.2.2.2).bind fun bt267 => (if (t246.size : Int) = (wrap64 (10 + (wrap64 (8 * (l0_0.length : Int))))) then ((grafterlaw0_Num.f bt267.2).bind fun t269 => (if t269 = 0 then (if (bt267.1.size : Int) = (t246.size : Int) then (some (t246.toList != bt267.1.toList)) else (some false)) else (some true))) else (some false))) else (none)) else (none))))) else (if t246.toList = ([] : List UInt8) then ((check_May.f k l0_0 l0_1 a0_2 a0_3 a0_4).bind fun t249 => (some (!t249))) else (some false)))) = some r := H
    have A6 := Aside0.mk A60
    clear A60
    replace H := Option.bind_eq_some_iff.mp H
    obtain ⟨t248, A70, H⟩ := H
    replace H : (if t248 = 0 then ((grafterlaw0_CopyCheck.f l0_0 l0_1 a0_2 a0_3 a0_4).bind fun bt250 => (if (IntKind.u64.wrap ((bt250.1.length : Int))) = 0 then (none) else (if (Go.bits .and .i64 a2 1) = 1 then (if 0 ≤ (wrap64 (Int.tmod (IntKind.u64.wrap (a1)) (IntKind.u64.wrap ((bt250.1.length : Int))))) then (if (wrap64 (Int.tmod (IntKind.u64.wrap (a1)) (IntKind.u64.wrap ((bt250.1.length : Int))))) < (bt250.1.length : Int) then ((check_Put.f k (bt250.1.set ((wrap64 (Int.tmod (IntKind.u64.wrap (a1)) (IntKind.u64.wrap ((bt250.1.length : Int))))) : Int).toNat (Go.bits .xor .i64 (rd bt250.1 (wrap64 (Int.tmod (IntKind.u64.wrap (a1)) (IntKind.u64.wrap ((bt250.1.length : Int)))))) 1)) bt250.2.1 bt250.2.2.1 bt250.2.2.2.1 bt250.2.2.2.2).bind fun bt262 => (if (t246.size : Int) = (wrap64 (10 + (wrap64 (8 * (l0_0.length : Int))))) then ((grafterlaw0_Num.f bt262.2).bind fun t264 => (if t264 = 0 then (if (bt262.1.size : Int) = (t246.size : Int) then (some (t246.toList != bt262.1.toList)) else (some false)) else (some true))) else (some false))) else (none)) else (none)) else (if 0 ≤ (wrap64 (Int.tmod (IntKind.u64.wrap (a1)) (IntKind.u64.wrap ((bt250.1.length : Int))))) then (if (wrap64 (Int.tmod (IntKind.u64.wrap (a1)) (IntKind.u64.wrap ((bt250.1.length : Int))))) < (bt250.2.1.length : Int) then ((check_Put.f k bt250.1 (bt250.2.1.set ((wrap64 (Int.tmod (IntKind.u64.wrap (a1)) (IntKind.u64.wrap ((bt250.1.length : Int))))) : Int).toNat (Go.bits .xor .i64 (rd bt250.2.1 (wrap64 (Int.tmod (IntKind.u64.wrap (a1)) (IntKind.u64.wrap ((bt250.1.length : Int)))))) 1)) bt250.2.2.1 bt250.2.2.2.1 bt250.2.2.2.2).bind fun bt267 => (if (t246.size : Int) = (wrap64 (10 + (wrap64 (8 * (l0_0.length : Int))))) then ((grafterlaw0_Num.f bt267.2).bind fun t269 => (if t269 = 0 then (if (bt267.1.size : Int) = (t246.size : Int) then (some (t246.toList != bt267.1.toList)) else (some false)) else (some true))) else (some false))) else (none)) else (none))))) else (if t246.toList = ([] : List UInt8) then ((check_May.f k l0_0 l0_1 a0_2 a0_3 a0_4).bind fun t249 => (some (!t249))) else (some false))) = some r := H
    have A7 := Aside0.mk A70
    clear A70
    by_cases c8 : t248 = 0
    · rw [if_pos c8] at H
      have c8b0 : (t248 == 0) = true := beq_iff_eq.mpr c8
      have c8b1 : (t248 != 0) = false := bne_eq_false_iff_eq.mpr c8
      clear c8
      replace H := Option.bind_eq_some_iff.mp H
      obtain ⟨⟨t250, t253, t256, t257, t258⟩, A90, H⟩ := H
      replace H : (if (IntKind.u64.wrap ((t250.length : Int))) = 0 then (none) else (if (Go.bits .and .i64 a2 1) = 1 then (if 0 ≤ (wrap64 (Int.tmod (IntKind.u64.wrap (a1)) (IntKind.u64.wrap ((t250.length : Int))))) then (if (wrap64 (Int.tmod (IntKind.u64.wrap (a1)) (IntKind.u64.wrap ((t250.length : Int))))) < (t250.length : Int) then ((check_Put.f k (t250.set ((wrap64 (Int.tmod (IntKind.u64.wrap (a1)) (IntKind.u64.wrap ((t250.length : Int))))) : Int).toNat (Go.bits .xor .i64 (rd t250 (wrap64 (Int.tmod (IntKind.u64.wrap (a1)) (IntKind.u64.wrap ((t250.length : Int)))))) 1)) t253 t256 t257 t258).bind fun bt262 => (if (t246.size : Int) = (wrap64 (10 + (wrap64 (8 * (l0_0.length : Int))))) then ((grafterlaw0_Num.f bt262.2).bind fun t264 => (if t264 = 0 then (if (bt262.1.size : Int) = (t246.size : Int) then (some (t246.toList != bt262.1.toList)) else (some false)) else (some true))) else (some false))) else (none)) else (none)) else (if 0 ≤ (wrap64 (Int.tmod (IntKind.u64.wrap (a1)) (IntKind.u64.wrap ((t250.length : Int))))) then (if (wrap64 (Int.tmod (IntKind.u64.wrap (a1)) (IntKind.u64.wrap ((t250.length : Int))))) < (t253.length : Int) then ((check_Put.f k t250 (t253.set ((wrap64 (Int.tmod (IntKind.u64.wrap (a1)) (IntKind.u64.wrap ((t250.length : Int))))) : Int).toNat (Go.bits .xor .i64 (rd t253 (wrap64 (Int.tmod (IntKind.u64.wrap (a1)) (IntKind.u64.wrap ((t250.length : Int)))))) 1)) t256 t257 t258).bind fun bt267 => (if (t246.size : Int) = (wrap64 (10 + (wrap64 (8 * (l0_0.length : Int))))) then ((grafterlaw0_Num.f bt267.2).bind fun t269 => (if t269 = 0 then (if (bt267.1.size : Int) = (t246.size : Int) then (some (t246.toList != bt267.1.toList)) else (some false)) else (some true))) else (some false))) else (none)) else (none)))) = some r := H
      have A9 := Aside0.mk A90
      clear A90
      by_cases c10 : (IntKind.u64.wrap ((t250.length : Int))) = 0
      · rw [if_pos c10] at H
        exact absurd H (by simp)
      · rw [if_neg c10] at H
        have c10b0 : ((IntKind.u64.wrap ((t250.length : Int))) == 0) = false := beq_eq_false_iff_ne.mpr c10
        have c10b1 : ((IntKind.u64.wrap ((t250.length : Int))) != 0) = true := bne_iff_ne.mpr c10
        by_cases c11 : (Go.bits .and .i64 a2 1) = 1
        · rw [if_pos c11] at H
          have c11b0 : ((Go.bits .and .i64 a2 1) == 1) = true := beq_iff_eq.mpr c11
          have c11b1 : ((Go.bits .and .i64 a2 1) != 1) = false := bne_eq_false_iff_eq.mpr c11
          clear c11
          obtain ⟨ji12, hji12⟩ : ∃ j_ : Int, (wrap64 (Int.tmod (IntKind.u64.wrap (a1)) (IntKind.u64.wrap ((t250.length : Int))))) = j_ := ⟨_, rfl⟩
          replace H : (if 0 ≤ (ji12) then (if (ji12) < (t250.length : Int) then ((check_Put.f k (t250.set ((ji12) : Int).toNat (Go.bits .xor .i64 (rd t250 (ji12)) 1)) t253 t256 t257 t258).bind fun bt262 => (if (t246.size : Int) = (wrap64 (10 + (wrap64 (8 * (l0_0.length : Int))))) then ((grafterlaw0_Num.f bt262.2).bind fun t264 => (if t264 = 0 then (if (bt262.1.size : Int) = (t246.size : Int) then (some (t246.toList != bt262.1.toList)) else (some false)) else (some true))) else (some false))) else (none)) else (none)) = some r := by first | (rw [hji12] at H; exact H) | (simp only [hji12] at H ⊢; exact H)
          (try rw [hji12] at A4)
          (try rw [hji12] at A6)
          (try rw [hji12] at A7)
          (try rw [hji12] at A9)
          have hji12w : (IntKind.i64.wrap (Int.tmod (IntKind.u64.wrap (a1)) (IntKind.u64.wrap ((t250.length : Int))))) = ji12 := (i64_w _).trans hji12
          by_cases c13 : 0 ≤ (ji12)
          · rw [if_pos c13] at H
            have c13b0 : decide (0 ≤ (ji12)) = true := decide_eq_true c13
            clear c13
            by_cases c14 : (ji12) < (t250.length : Int)
            · rw [if_pos c14] at H
              have c14b0 : decide ((ji12) < (t250.length : Int)) = true := decide_eq_true c14
              clear c14
              obtain ⟨y261, hy261⟩ : ∃ y_ : List Int, y_ = (t250.set ((ji12) : Int).toNat (Go.bits .xor .i64 (rd t250 (ji12)) 1)) := ⟨_, rfl⟩
              replace H : ((check_Put.f k y261 t253 t256 t257 t258).bind fun bt262 => (if (t246.size : Int) = (wrap64 (10 + (wrap64 (8 * (l0_0.length : Int))))) then ((grafterlaw0_Num.f bt262.2).bind fun t264 => (if t264 = 0 then (if (bt262.1.size : Int) = (t246.size : Int) then (some (t246.toList != bt262.1.toList)) else (some false)) else (some true))) else (some false))) = some r := by first | (rw [hy261]; with_reducible exact H) | (have H2_ := (Option.bind_some _ _).symm.trans H; rw [hy261]; with_reducible exact H2_) | (have H2_ := (Option.bind_some _ _).symm.trans H; with_reducible exact H2_) | with_reducible exact H | (rw [hy261]; exact H) | exact H
              have Ny261 := Aside0.mk hy261
              clear hy261
              replace H := Option.bind_eq_some_iff.mp H
              obtain ⟨⟨t262, t263⟩, A160, H⟩ := H
              replace H : (if (t246.size : Int) = (wrap64 (10 + (wrap64 (8 * (l0_0.length : Int))))) then ((grafterlaw0_Num.f t263).bind fun t264 => (if t264 = 0 then (if (t262.size : Int) = (t246.size : Int) then (some (t246.toList != t262.toList)) else (some false)) else (some true))) else (some false)) = some r := H
              have A16 := Aside0.mk A160
              clear A160
              by_cases c17 : (t246.size : Int) = (wrap64 (10 + (wrap64 (8 * (l0_0.length : Int)))))
              · rw [if_pos c17] at H
                have c17b0 : ((t246.size : Int) == (wrap64 (10 + (wrap64 (8 * (l0_0.length : Int)))))) = true := beq_iff_eq.mpr c17
                (try have c17b4 : ((t246.size : Int) == (10 + (wrap64 (8 * (l0_0.length : Int))))) = true := by (have h_ := beq_iff_eq.mp c17b0; unfold wrap64 at h_; exact beq_iff_eq.mpr (by omega)))
                have c17b1 : ((t246.size : Int) != (wrap64 (10 + (wrap64 (8 * (l0_0.length : Int)))))) = false := bne_eq_false_iff_eq.mpr c17
                clear c17
                replace H := Option.bind_eq_some_iff.mp H
                obtain ⟨t264, A180, H⟩ := H
                replace H : (if t264 = 0 then (if (t262.size : Int) = (t246.size : Int) then (some (t246.toList != t262.toList)) else (some false)) else (some true)) = some r := H
                have A18 := Aside0.mk A180
                clear A180
                by_cases c19 : t264 = 0
                · rw [if_pos c19] at H
                  have c19b0 : (t264 == 0) = true := beq_iff_eq.mpr c19
                  have c19b1 : (t264 != 0) = false := bne_eq_false_iff_eq.mpr c19
                  clear c19
                  by_cases c20 : (t262.size : Int) = (t246.size : Int)
                  · rw [if_pos c20] at H
                    have c20b0 : ((t262.size : Int) == (t246.size : Int)) = true := beq_iff_eq.mpr c20
                    have c20b1 : ((t262.size : Int) != (t246.size : Int)) = false := bne_eq_false_iff_eq.mpr c20
                    have c20b2 : (t262.size == t246.size) = true := by first | simpa using c20 | (simp at c20 ⊢; omega)
                    clear c20
                    obtain rfl := Option.some.inj H
                    go_enter Try.func16, Try.ntmps16
                    try go_wp2_with (first | ((with_reducible refine gate_dst (N := 3) rfl ?_); (try (refine gate_guard (by rfl) ?_; dsimp only)); refine box_event ?hg (N := 3) ?hd (cs := #[.slice A0_0 l0_0.length c0_0, .slice A0_1 l0_1.length c0_1, .int .i64 a0_2, .int .i64 a0_3, .int .i64 a0_4]) (t := 56) ?hr ?_; (case hd => rfl); (case hg => rfl); (case hr => first | (go_simp; done) | (go_simp; rfl)); intro gb244 hg w21 hbox hb; have n0_ := Aside0.mk (below_step (by repeat (first | (with_reducible first | exact HB.out | apply below_alloc | apply pw_below_drewN | apply below_drew1) | exact HB.out)) hb); have n1_ := Aside0.mk (hbox); have n2_ := Aside0.mk ((by rw [hg]; exact (below_size (by repeat (first | (with_reducible first | exact HB.out | apply below_alloc | apply pw_below_drewN | apply below_drew1) | exact HB.out))) : w.heap.size ≤ gb244)); have n3_ := Aside0.mk ((by rw [hg]; exact (below_size (by repeat (first | (with_reducible first | exact HB.out | apply below_alloc | apply pw_below_drewN | apply below_drew1) | exact HB.out))) : w.heap.size ≤ gb244)); clear HB; have HB := n0_; have BK244 := n1_; have GW244 := n2_; have GE244 := n3_; clear n0_ n1_ n2_ n3_; clear hb hbox hg) | ((with_reducible refine gate_callee (f := 47) rfl ?_); refine goesL_ (some 13) rfl rfl Try.func47 (by kernel_rfl) rfl #[] rfl (by (try simp only [List.map_toArray, List.map_cons, List.map_nil]); first | done | rfl | (simp only [List.length_drop, List.length_take]; rfl)) ?_; (with_reducible refine (grafterlaw14_awake.calls k  true _ rfl A4.out).mono ?_); rintro e w22 ⟨rfl, hb⟩; refine ⟨_, rfl, ?_⟩; have n0_ := Aside0.mk (blk_below (g := gb244) (o := .cells #[.slice A0_0 l0_0.length c0_0, .slice A0_1 l0_1.length c0_1, .int .i64 a0_2, .int .i64 a0_3, .int .i64 a0_4] 56 (0, 0)) (by (with_reducible repeat (first | refine blk_drewN ?_ _ | refine blk_drew ?_ | refine blk_alloc ?_ _)); exact BK244.out) hb); have n1_ := Aside0.mk (below_step (by repeat (first | (with_reducible first | exact HB.out | apply below_alloc | apply pw_below_drewN | apply below_drew1 | refine below_set ?_ GE244.out) | exact HB.out)) hb); clear BK244; clear HB; have BK244 := n0_; have HB := n1_; clear n0_ n1_; (try clear hb); (try clear hb2); (try clear hk); (try clear hi); have hcz23_0 : w22.cell? ⟨gb244, 0, none⟩ = some (.slice A0_0 l0_0.length c0_0) := (blk_cell BK244.out 0).trans rfl; have hcz23_1 : w22.cell? ⟨gb244, 1, none⟩ = some (.slice A0_1 l0_1.length c0_1) := (blk_cell BK244.out 1).trans rfl; have hcz23_2 : w22.cell? ⟨gb244, 2, none⟩ = some (.int .i64 a0_2) := (blk_cell BK244.out 2).trans rfl; have hcz23_3 : w22.cell? ⟨gb244, 3, none⟩ = some (.int .i64 a0_3) := (blk_cell BK244.out 3).trans rfl; have hcz23_4 : w22.cell? ⟨gb244, 4, none⟩ = some (.int .i64 a0_4) := (blk_cell BK244.out 4).trans rfl; have hfz23_0 := blk_frozen BK244.out 0; have hfz23_1 := blk_frozen BK244.out 1; have hfz23_2 := blk_frozen BK244.out 2; have hfz23_3 := blk_frozen BK244.out 3; have hfz23_4 := blk_frozen BK244.out 4) | ((with_reducible refine gate_callee (f := 39) rfl ?_); refine goesL_ (some 17) rfl rfl Try.func39 (by kernel_rfl) rfl #[.agg #[.slice A0_0 l0_0.length c0_0, .slice A0_1 l0_1.length c0_1, .int .i64 a0_2, .int .i64 a0_3, .int .i64 a0_4]] rfl (by (try simp only [List.map_toArray, List.map_cons, List.map_nil]); first | done | rfl | (simp only [List.length_drop, List.length_take]; rfl)) ?_; (with_reducible refine (check_Put.calls k (fun k_ => k_ < w.heap.size) _ _ l0_0 (fun k_ => k_ < w.heap.size) _ _ l0_1 a0_2 a0_3 a0_4 t246 t247 _ ?side1 ?side2 A6.out).mono ?_); (case side1 => exact Kd.V_mk HC0_0.out (Kd.F_below (Kd.C_F (Kd.heap_int .i64) HR0_0.out) (by repeat (first | (with_reducible first | exact HB.out | apply below_alloc | apply pw_below_drewN | apply below_drew1 | refine below_set ?_ GE244.out) | exact HB.out)))); (case side2 => exact Kd.V_mk HC0_1.out (Kd.F_below (Kd.C_F (Kd.heap_int .i64) HR0_1.out) (by repeat (first | (with_reducible first | exact HB.out | apply below_alloc | apply pw_below_drewN | apply below_drew1 | refine below_set ?_ GE244.out) | exact HB.out)))); rintro e w24 ⟨rfl, hb⟩; refine ⟨_, rfl, ?_⟩; have n0_ := Aside0.mk (blk_below (g := gb244) (o := .cells #[.slice A0_0 l0_0.length c0_0, .slice A0_1 l0_1.length c0_1, .int .i64 a0_2, .int .i64 a0_3, .int .i64 a0_4] 56 (0, 0)) (by (with_reducible repeat (first | refine blk_drewN ?_ _ | refine blk_drew ?_ | refine blk_alloc ?_ _)); exact BK244.out) hb); have n1_ := Aside0.mk (below_step (by repeat (first | (with_reducible first | exact HB.out | apply below_alloc | apply pw_below_drewN | apply below_drew1 | refine below_set ?_ GE244.out) | exact HB.out)) hb); clear BK244; clear HB; have BK244 := n0_; have HB := n1_; clear n0_ n1_; (try clear hb); (try clear hb2); (try clear hk); (try clear hi)) | ((with_reducible refine gate_callee (f := 26) rfl ?_); refine goesL_ (some 21) rfl rfl Try.func26 (by kernel_rfl) rfl #[.int .i64 t247] rfl (by (try simp only [List.map_toArray, List.map_cons, List.map_nil]); first | done | rfl | (simp only [List.length_drop, List.length_take]; rfl)) ?_; (with_reducible refine (grafterlaw0_Num.calls t247 t248 _ A7.out).mono ?_); rintro e w' ⟨rfl, ⟨nd, rfl⟩⟩; refine ⟨_, rfl, ?_⟩; (try (rw [drewN_self w24]; generalize hq_ : World.drewN w24 _ = w24; have n0_ : Aside0 (w24.heap[gb244]? = some (.cells #[.slice A0_0 l0_0.length c0_0, .slice A0_1 l0_1.length c0_1, .int .i64 a0_2, .int .i64 a0_3, .int .i64 a0_4] 56 (0, 0))) := ⟨by rw [← hq_]; exact (by (with_reducible repeat (first | refine blk_drewN ?_ _ | refine blk_drew ?_ | refine blk_alloc ?_ _)); exact BK244.out)⟩; have n1_ : Aside0 (Below w.heap.size w w24) := ⟨by rw [← hq_]; exact (by repeat (first | (with_reducible first | exact HB.out | apply below_alloc | apply pw_below_drewN | apply below_drew1 | refine below_set ?_ GE244.out) | exact HB.out))⟩; clear BK244 HB hq_; have BK244 := n0_; have HB := n1_; clear n0_ n1_)); have hcz25_0 : w24.cell? ⟨gb244, 0, none⟩ = some (.slice A0_0 l0_0.length c0_0) := (blk_cell BK244.out 0).trans rfl; have hcz25_1 : w24.cell? ⟨gb244, 1, none⟩ = some (.slice A0_1 l0_1.length c0_1) := (blk_cell BK244.out 1).trans rfl; have hcz25_2 : w24.cell? ⟨gb244, 2, none⟩ = some (.int .i64 a0_2) := (blk_cell BK244.out 2).trans rfl; have hcz25_3 : w24.cell? ⟨gb244, 3, none⟩ = some (.int .i64 a0_3) := (blk_cell BK244.out 3).trans rfl; have hcz25_4 : w24.cell? ⟨gb244, 4, none⟩ = some (.int .i64 a0_4) := (blk_cell BK244.out 4).trans rfl; have hfz25_0 := blk_frozen BK244.out 0; have hfz25_1 := blk_frozen BK244.out 1; have hfz25_2 := blk_frozen BK244.out 2; have hfz25_3 := blk_frozen BK244.out 3; have hfz25_4 := blk_frozen BK244.out 4) | ((with_reducible refine gate_callee (f := 38) rfl ?_); refine goesL_ (some 31) rfl rfl Try.func38 (by kernel_rfl) rfl #[.agg #[.slice A0_0 l0_0.length c0_0, .slice A0_1 l0_1.length c0_1, .int .i64 a0_2, .int .i64 a0_3, .int .i64 a0_4]] rfl (by (try simp only [List.map_toArray, List.map_cons, List.map_nil]); first | done | rfl | (simp only [List.length_drop, List.length_take]; rfl)) ?_; (with_reducible refine (grafterlaw0_CopyCheck.calls _ _ l0_0 _ _ l0_1 a0_2 a0_3 a0_4 t250 t253 t256 t257 t258 _ ?side1 ?side2 ?side3 ?side4 A9.out).mono ?_); (case side1 => repeat (first | (with_reducible refine Kd.C_alloc ?_ _) | (with_reducible refine Kd.C_drewN ?_ _) | (with_reducible refine Kd.C_drew ?_) | exact (Kd.C_below HR0_0.out HB.out))); (case side2 => exact HC0_0.out); (case side3 => repeat (first | (with_reducible refine Kd.C_alloc ?_ _) | (with_reducible refine Kd.C_drewN ?_ _) | (with_reducible refine Kd.C_drew ?_) | exact (Kd.C_below HR0_1.out HB.out))); (case side4 => exact HC0_1.out); rintro e w26 ⟨v251, v254, rfl, ho0, ho1, hb⟩; refine ⟨_, rfl, ?_⟩; have n0_ := Aside0.mk (Kd.R_lower ho0 (below_size (by repeat (first | (with_reducible first | exact HB.out | apply below_alloc | apply pw_below_drewN | apply below_drew1 | refine below_set ?_ GE244.out) | exact HB.out)))); have n1_ := Aside0.mk (Kd.R_lower ho1 (below_size (by repeat (first | (with_reducible first | exact HB.out | apply below_alloc | apply pw_below_drewN | apply below_drew1 | refine below_set ?_ GE244.out) | exact HB.out)))); have n2_ := Aside0.mk (blk_below (g := gb244) (o := .cells #[.slice A0_0 l0_0.length c0_0, .slice A0_1 l0_1.length c0_1, .int .i64 a0_2, .int .i64 a0_3, .int .i64 a0_4] 56 (0, 0)) (by (with_reducible repeat (first | refine blk_drewN ?_ _ | refine blk_drew ?_ | refine blk_alloc ?_ _)); exact BK244.out) hb); have n3_ := Aside0.mk (below_step (by repeat (first | (with_reducible first | exact HB.out | apply below_alloc | apply pw_below_drewN | apply below_drew1 | refine below_set ?_ GE244.out) | exact HB.out)) hb); clear BK244; clear HB; have HO252 := n0_; have HO255 := n1_; have BK244 := n2_; have HB := n3_; clear n0_ n1_ n2_ n3_; (try clear hb); (try clear hb2); (try clear hk); (try clear hi); (try clear ho0); (try clear ho1)) | ((with_reducible refine gate_dst (N := 9) rfl ?_); (try (refine gate_guard (by rfl) ?_; dsimp only)); refine box_event ?hg (N := 9) ?hd (cs := #[.slice none 0 0, .slice none 0 0, .int .i64 0, .int .i64 0, .int .i64 0]) (t := 56) ?hr ?_; (case hd => rfl); (case hg => rfl); (case hr => first | (go_simp; done) | (go_simp; rfl)); intro gb259 hg w27 hbox hb; have n0_ := Aside0.mk (Kd.R_below (by (with_reducible repeat (first | apply Kd.R_alloc | apply Kd.R_drewN | apply Kd.R_drew)); exact HO252.out) hb); have n1_ := Aside0.mk (Kd.R_below (by (with_reducible repeat (first | apply Kd.R_alloc | apply Kd.R_drewN | apply Kd.R_drew)); exact HO255.out) hb); have n2_ := Aside0.mk (blk_below (g := gb244) (o := .cells #[.slice A0_0 l0_0.length c0_0, .slice A0_1 l0_1.length c0_1, .int .i64 a0_2, .int .i64 a0_3, .int .i64 a0_4] 56 (0, 0)) (by (with_reducible repeat (first | refine blk_drewN ?_ _ | refine blk_drew ?_ | refine blk_alloc ?_ _)); exact BK244.out) hb); have n3_ := Aside0.mk (below_step (by repeat (first | (with_reducible first | exact HB.out | apply below_alloc | apply pw_below_drewN | apply below_drew1 | refine below_set ?_ GE244.out) | exact HB.out)) hb); have n4_ := Aside0.mk (hbox); have n5_ := Aside0.mk ((by rw [hg]; exact (below_size (by repeat (first | (with_reducible first | exact HB.out | apply below_alloc | apply pw_below_drewN | apply below_drew1 | refine below_set ?_ GE244.out) | exact HB.out))) : w.heap.size ≤ gb259)); have n6_ := Aside0.mk ((by rw [hg]; exact (below_size (by repeat (first | (with_reducible first | exact HB.out | apply below_alloc | apply pw_below_drewN | apply below_drew1 | refine below_set ?_ GE244.out) | exact HB.out))) : w.heap.size ≤ gb259)); have n7_ := Aside0.mk ((by rw [hg]; exact Nat.ne_of_lt (blk_lt (g := gb244) (o := .cells #[.slice A0_0 l0_0.length c0_0, .slice A0_1 l0_1.length c0_1, .int .i64 a0_2, .int .i64 a0_3, .int .i64 a0_4] 56 (0, 0)) (by (with_reducible repeat (first | refine blk_drewN ?_ _ | refine blk_drew ?_ | refine blk_alloc ?_ _)); exact BK244.out)) : gb244 ≠ gb259)); have n8_ := Aside0.mk ((by rw [hg]; exact Nat.ne_of_gt (blk_lt (g := gb244) (o := .cells #[.slice A0_0 l0_0.length c0_0, .slice A0_1 l0_1.length c0_1, .int .i64 a0_2, .int .i64 a0_3, .int .i64 a0_4] 56 (0, 0)) (by (with_reducible repeat (first | refine blk_drewN ?_ _ | refine blk_drew ?_ | refine blk_alloc ?_ _)); exact BK244.out)) : gb259 ≠ gb244)); clear HO252; clear HO255; clear BK244; clear HB; have HO252 := n0_; have HO255 := n1_; have BK244 := n2_; have HB := n3_; have BK259 := n4_; have GW259 := n5_; have GE259 := n6_; have NB244_259 := n7_; have NB259_244 := n8_; clear n0_ n1_ n2_ n3_ n4_ n5_ n6_ n7_ n8_; clear hb hbox hg; obtain ⟨Ao28, co28, eo28⟩ := Kd.R_slice HO252.out; subst eo28; have hnb29 := NB259_244.out; have hnc29 := NB244_259.out; have hcz30_0 : w27.cell? ⟨gb259, 0, none⟩ = some (.slice none 0 0) := (blk_cell BK259.out 0).trans rfl; have hcz30_1 : w27.cell? ⟨gb259, 1, none⟩ = some (.slice none 0 0) := (blk_cell BK259.out 1).trans rfl; have hcz30_2 : w27.cell? ⟨gb259, 2, none⟩ = some (.int .i64 0) := (blk_cell BK259.out 2).trans rfl; have hcz30_3 : w27.cell? ⟨gb259, 3, none⟩ = some (.int .i64 0) := (blk_cell BK259.out 3).trans rfl; have hcz30_4 : w27.cell? ⟨gb259, 4, none⟩ = some (.int .i64 0) := (blk_cell BK259.out 4).trans rfl; have hfz30_0 := blk_frozen BK259.out 0; have hfz30_1 := blk_frozen BK259.out 1; have hfz30_2 := blk_frozen BK259.out 2; have hfz30_3 := blk_frozen BK259.out 3; have hfz30_4 := blk_frozen BK259.out 4; obtain ⟨Ao31, co31, eo31⟩ := Kd.R_slice HO255.out; subst eo31))
                    have n0_ : Aside0 (Kd.R (Kd.int .i64) 3 (((((w27.setCell ⟨gb259, 0, none⟩ (.slice Ao28 t250.length co28)).setCell ⟨gb259, 1, none⟩ (.slice Ao31 t253.length co31)).setCell ⟨gb259, 2, none⟩ (.int .i64 t256)).setCell ⟨gb259, 3, none⟩ (.int .i64 t257)).setCell ⟨gb259, 4, none⟩ (.int .i64 t258)) w.heap.size (fun k_ => some k_ ≠ (.slice Ao31 t253.length co31 : Value).ownBlock) (.slice Ao28 t250.length co28) t250) := ⟨by (with_reducible repeat (first | apply Kd.R_alloc | apply Kd.R_drewN | apply Kd.R_drew)); exact Kd.R_mono (Kd.R_far (p := ⟨gb259, 4, none⟩) (Kd.R_far (p := ⟨gb259, 3, none⟩) (Kd.R_far (p := ⟨gb259, 2, none⟩) (Kd.R_far (p := ⟨gb259, 1, none⟩) (Kd.R_far (p := ⟨gb259, 0, none⟩) (Kd.R_types HO252.out BK259.out (by decide)) (fun _ hk => hk.2) (.slice Ao28 t250.length co28)) (fun _ hk => hk.2) (.slice Ao31 t253.length co31)) (fun _ hk => hk.2) (.int .i64 t256)) (fun _ hk => hk.2) (.int .i64 t257)) (fun _ hk => hk.2) (.int .i64 t258)) (fun _ hk => hk.1)⟩
                    have n1_ : Aside0 (Kd.R (Kd.int .i64) 3 (((((w27.setCell ⟨gb259, 0, none⟩ (.slice Ao28 t250.length co28)).setCell ⟨gb259, 1, none⟩ (.slice Ao31 t253.length co31)).setCell ⟨gb259, 2, none⟩ (.int .i64 t256)).setCell ⟨gb259, 3, none⟩ (.int .i64 t257)).setCell ⟨gb259, 4, none⟩ (.int .i64 t258)) w.heap.size (fun k_ => some k_ ≠ (.slice Ao28 t250.length co28 : Value).ownBlock) (.slice Ao31 t253.length co31) t253) := ⟨by (with_reducible repeat (first | apply Kd.R_alloc | apply Kd.R_drewN | apply Kd.R_drew)); exact Kd.R_mono (Kd.R_far (p := ⟨gb259, 4, none⟩) (Kd.R_far (p := ⟨gb259, 3, none⟩) (Kd.R_far (p := ⟨gb259, 2, none⟩) (Kd.R_far (p := ⟨gb259, 1, none⟩) (Kd.R_far (p := ⟨gb259, 0, none⟩) (Kd.R_types HO255.out BK259.out (by decide)) (fun _ hk => hk.2) (.slice Ao28 t250.length co28)) (fun _ hk => hk.2) (.slice Ao31 t253.length co31)) (fun _ hk => hk.2) (.int .i64 t256)) (fun _ hk => hk.2) (.int .i64 t257)) (fun _ hk => hk.2) (.int .i64 t258)) (fun _ hk => hk.1)⟩
                    have n2_ : Aside0 ((((((w27.setCell ⟨gb259, 0, none⟩ (.slice Ao28 t250.length co28)).setCell ⟨gb259, 1, none⟩ (.slice Ao31 t253.length co31)).setCell ⟨gb259, 2, none⟩ (.int .i64 t256)).setCell ⟨gb259, 3, none⟩ (.int .i64 t257)).setCell ⟨gb259, 4, none⟩ (.int .i64 t258)).heap[gb244]? = some (.cells #[.slice A0_0 l0_0.length c0_0, .slice A0_1 l0_1.length c0_1, .int .i64 a0_2, .int .i64 a0_3, .int .i64 a0_4] 56 (0, 0))) := ⟨by (with_reducible repeat (first | refine blk_drewN ?_ _ | refine blk_drew ?_ | refine blk_alloc ?_ _)); refine blk_far ?_ NB244_259.out _; (with_reducible repeat (first | refine blk_drewN ?_ _ | refine blk_drew ?_ | refine blk_alloc ?_ _)); refine blk_far ?_ NB244_259.out _; (with_reducible repeat (first | refine blk_drewN ?_ _ | refine blk_drew ?_ | refine blk_alloc ?_ _)); refine blk_far ?_ NB244_259.out _; (with_reducible repeat (first | refine blk_drewN ?_ _ | refine blk_drew ?_ | refine blk_alloc ?_ _)); refine blk_far ?_ NB244_259.out _; (with_reducible repeat (first | refine blk_drewN ?_ _ | refine blk_drew ?_ | refine blk_alloc ?_ _)); refine blk_far ?_ NB244_259.out _; (with_reducible repeat (first | refine blk_drewN ?_ _ | refine blk_drew ?_ | refine blk_alloc ?_ _)); exact BK244.out⟩
                    have n3_ : Aside0 ((((((w27.setCell ⟨gb259, 0, none⟩ (.slice Ao28 t250.length co28)).setCell ⟨gb259, 1, none⟩ (.slice Ao31 t253.length co31)).setCell ⟨gb259, 2, none⟩ (.int .i64 t256)).setCell ⟨gb259, 3, none⟩ (.int .i64 t257)).setCell ⟨gb259, 4, none⟩ (.int .i64 t258)).heap[gb259]? = some (.cells #[.slice Ao28 t250.length co28, .slice Ao31 t253.length co31, .int .i64 t256, .int .i64 t257, .int .i64 t258] 56 (0, 0))) := ⟨by (with_reducible repeat (first | refine blk_drewN ?_ _ | refine blk_drew ?_ | refine blk_alloc ?_ _)); refine blk_put (cs := #[.slice Ao28 t250.length co28, .slice Ao31 t253.length co31, .int .i64 t256, .int .i64 t257, .int .i64 0]) ?_ 4 _ rfl; (with_reducible repeat (first | refine blk_drewN ?_ _ | refine blk_drew ?_ | refine blk_alloc ?_ _)); refine blk_put (cs := #[.slice Ao28 t250.length co28, .slice Ao31 t253.length co31, .int .i64 t256, .int .i64 0, .int .i64 0]) ?_ 3 _ rfl; (with_reducible repeat (first | refine blk_drewN ?_ _ | refine blk_drew ?_ | refine blk_alloc ?_ _)); refine blk_put (cs := #[.slice Ao28 t250.length co28, .slice Ao31 t253.length co31, .int .i64 0, .int .i64 0, .int .i64 0]) ?_ 2 _ rfl; (with_reducible repeat (first | refine blk_drewN ?_ _ | refine blk_drew ?_ | refine blk_alloc ?_ _)); refine blk_put (cs := #[.slice Ao28 t250.length co28, .slice none 0 0, .int .i64 0, .int .i64 0, .int .i64 0]) ?_ 1 _ rfl; (with_reducible repeat (first | refine blk_drewN ?_ _ | refine blk_drew ?_ | refine blk_alloc ?_ _)); refine blk_put (cs := #[.slice none 0 0, .slice none 0 0, .int .i64 0, .int .i64 0, .int .i64 0]) ?_ 0 _ rfl; (with_reducible repeat (first | refine blk_drewN ?_ _ | refine blk_drew ?_ | refine blk_alloc ?_ _)); exact BK259.out⟩
                    have n4_ : Aside0 (Below w.heap.size w (((((w27.setCell ⟨gb259, 0, none⟩ (.slice Ao28 t250.length co28)).setCell ⟨gb259, 1, none⟩ (.slice Ao31 t253.length co31)).setCell ⟨gb259, 2, none⟩ (.int .i64 t256)).setCell ⟨gb259, 3, none⟩ (.int .i64 t257)).setCell ⟨gb259, 4, none⟩ (.int .i64 t258))) := ⟨by repeat (first | (with_reducible first | exact HB.out | apply below_alloc | apply pw_below_drewN | apply below_drew1 | refine below_set ?_ GE244.out | refine below_set ?_ GE259.out) | exact HB.out)⟩
                    (try clear HO252)
                    (try clear HO255)
                    (try clear BK244)
                    (try clear BK259)
                    (try clear HB)
                    generalize (((((w27.setCell ⟨gb259, 0, none⟩ (.slice Ao28 t250.length co28)).setCell ⟨gb259, 1, none⟩ (.slice Ao31 t253.length co31)).setCell ⟨gb259, 2, none⟩ (.int .i64 t256)).setCell ⟨gb259, 3, none⟩ (.int .i64 t257)).setCell ⟨gb259, 4, none⟩ (.int .i64 t258)) = w32 at n0_ n1_ n2_ n3_ n4_ ⊢
                    have HO252 := n0_
                    have HO255 := n1_
                    have BK244 := n2_
                    have BK259 := n3_
                    have HB := n4_
                    clear n0_ n1_ n2_ n3_ n4_
                    have n0_ := Aside0.mk (Kd.R_drew HO252.out)
                    have n1_ := Aside0.mk (Kd.R_drew HO255.out)
                    have n2_ := Aside0.mk (blk_drew BK244.out)
                    have n3_ := Aside0.mk (blk_drew BK259.out)
                    have n4_ := Aside0.mk (below_drew1 HB.out)
                    clear HO252
                    clear HO255
                    clear BK244
                    clear BK259
                    clear HB
                    have HO252 := n0_
                    have HO255 := n1_
                    have BK244 := n2_
                    have BK259 := n3_
                    have HB := n4_
                    clear n0_ n1_ n2_ n3_ n4_
                    have p260 : 0 ≤ ((ji12) : Int) := of_decide_eq_true (by first | (with_reducible assumption) | assumption)
                    have q260 : (ji12) < (t250.length : Int) := of_decide_eq_true (by first | (with_reducible assumption) | assumption)
                    obtain ⟨ad260, e260, hx260_0⟩ := Kd.at_int (Kd.R_reads' HO252.out).2.2 (ji12) p260 q260
                    cases e260
                    replace p260 := eq_true p260
                    replace q260 := eq_true q260
                    have p15 : 0 ≤ ((ji12) : Int) := of_decide_eq_true (by first | (with_reducible assumption) | assumption)
                    have q15 : ((ji12) : Int) < ((t250.length : Int) : Int) := of_decide_eq_true (by first | (with_reducible assumption) | assumption)
                    obtain ⟨go15, co15, eo15, gb15, gl15, cl15, HG15⟩ := Kd.R_form HO252.out (by omega)
                    (first | cases eo15 | (injection eo15 with ea_ en_ ec_; (first | subst ea_ | (injection ea_ with ea_; subst ea_)); subst ec_; clear en_))
                    have GB15 := Aside0.mk gb15
                    have GG15 := Aside0.mk HG15
                    clear gb15 gl15 HG15
                    (first | simp only [add_plain] at hx260_0 | skip)
                    obtain ⟨hx15_0, hf15_0⟩ := Kd.R_celln 0 HO252.out ((ji12) : Int) p15 q15
                    replace p15 := eq_true p15
                    replace q15 := eq_true q15
                    have HP34 := Kd.R_putn HO252.out ((ji12) : Int) (Go.bits .xor .i64 (rd t250 (ji12)) 1)
                    rw [← Ny261.out] at HP34
                    have HQ34 := Aside0.mk HP34
                    clear HP34
                    refine start_ (n := 11) (S := fun w' => w'.cell? ⟨gb259, 0, none⟩ = some (.slice (some ⟨go15, 0, none⟩) t250.length co28) ∧ w'.cell? ⟨gb259, 1, none⟩ = some (.slice Ao31 t253.length co31) ∧ w'.cell? ⟨gb259, 2, none⟩ = some (.int .i64 t256) ∧ w'.cell? ⟨gb259, 3, none⟩ = some (.int .i64 t257) ∧ w'.cell? ⟨gb259, 4, none⟩ = some (.int .i64 t258) ∧ w'.cell? ⟨go15, ((ji12)).toNat, none⟩ = some (.int .i64 (rd t250 (ji12)))) (ds := [10]) #[false, false, false, false, false, false, false, false, false, false, false] (by kernel_rfl) rfl rfl ⟨(blk_cell BK259.out 0).trans rfl, (blk_cell BK259.out 1).trans rfl, (blk_cell BK259.out 2).trans rfl, (blk_cell BK259.out 3).trans rfl, (blk_cell BK259.out 4).trans rfl, hx260_0⟩ (fun hHeld => ?_); refine with_tabW grafterlaw14_CheckUnlike.tab9 grafterlaw14_CheckUnlike.bits9 (fun HT_ HW_ => ?_)
                    generalize w32.drew = w33 at HO252 HO255 BK244 BK259 HB GG15 HQ34 hf15_0 hx15_0 hx260_0 hHeld ⊢
                    refine pure_ (i := 0) (N := some 43) (v := ?_) (a' := ?_) #[true, false, false, false, false, false, false, false, false, false, false] rfl rfl (any_of HT_.out (by kernel_rfl)) (fun _ _ _ h => h) (Or.inl ⟨by rfl, ?_⟩) ?_ ?_
                    rotate_left
                    · intro w'
                      go_simp
                      with_reducible rfl
                    rotate_left
                    · simp only [Act.put, List.setIfInBounds_toArray, List.set_cons_zero, List.set_cons_succ, i64_w, i32_w]
                      rfl
                    refine pure_ (i := 2) (N := some 45) (v := ?_) (a' := ?_) #[true, false, true, false, false, false, false, false, false, false, false] rfl rfl (any_of HT_.out (by kernel_rfl)) (fun _ _ _ h => h) (Or.inl ⟨by rfl, ?_⟩) ?_ ?_
                    rotate_left
                    · intro w'
                      go_simp
                      with_reducible rfl
                    rotate_left
                    · simp only [Act.put, List.setIfInBounds_toArray, List.set_cons_zero, List.set_cons_succ, i64_w, i32_w]
                      rfl
                    refine pure_ (i := 3) (N := some 46) (v := ?_) (a' := ?_) #[true, false, true, true, false, false, false, false, false, false, false] rfl rfl (any_of HT_.out (by kernel_rfl)) (fun _ _ _ h => h) (Or.inl ⟨by rfl, ?_⟩) ?_ ?_
                    rotate_left
                    · intro w'
                      go_simp
                      with_reducible rfl
                    rotate_left
                    · simp only [Act.put, List.setIfInBounds_toArray, List.set_cons_zero, List.set_cons_succ, i64_w, i32_w]
                      rfl
                    refine pure_ (i := 5) (N := some 48) (v := ?_) (a' := ?_) #[true, false, true, true, false, true, false, false, false, false, false] rfl rfl (any_of HT_.out (by kernel_rfl)) (fun _ _ _ h => h) (Or.inl ⟨by rfl, ?_⟩) ?_ ?_
                    rotate_left
                    · intro w'
                      go_simp
                      with_reducible rfl
                    rotate_left
                    · simp only [Act.put, List.setIfInBounds_toArray, List.set_cons_zero, List.set_cons_succ, i64_w, i32_w]
                      rfl
                    refine take_ (i := 1) (N := some 44) (v := ?_) (a' := ?_) #[true, true, true, true, false, true, false, false, false, false, false] rfl rfl (take_ofW HT_.out HW_.out (by kernel_rfl)) (fun _ _ _ h => h) (Or.inl ⟨by rfl, ?_⟩) hHeld ?_ ?_
                    rotate_left
                    · rintro w' ⟨s0, s1, s2, s3, s4, s5⟩
                      go_simp
                      with_reducible rfl
                    rotate_left
                    · simp only [Act.put, List.setIfInBounds_toArray, List.set_cons_zero, List.set_cons_succ, i64_w, i32_w]
                      rfl
                    refine take_ (i := 4) (N := some 47) (v := ?_) (a' := ?_) #[true, true, true, true, true, true, false, false, false, false, false] rfl rfl (take_ofW HT_.out HW_.out (by kernel_rfl)) (fun _ _ _ h => h) (Or.inl ⟨by rfl, ?_⟩) hHeld ?_ ?_
                    rotate_left
                    · rintro w' ⟨s0, s1, s2, s3, s4, s5⟩
                      go_simp
                      with_reducible rfl
                    rotate_left
                    · simp only [Act.put, List.setIfInBounds_toArray, List.set_cons_zero, List.set_cons_succ, i64_w, i32_w]
                      rfl
                    refine pure_ (i := 6) (N := some 49) (v := ?_) (a' := ?_) #[true, true, true, true, true, true, true, false, false, false, false] rfl rfl (any_of HT_.out (by kernel_rfl)) (fun _ _ _ h => h) (Or.inl ⟨by rfl, ?_⟩) ?_ ?_
                    rotate_left
                    · intro w'
                      go_simp
                      with_reducible rfl
                    rotate_left
                    · simp only [Act.put, List.setIfInBounds_toArray, List.set_cons_zero, List.set_cons_succ, i64_w, i32_w]
                      rfl
                    refine take_ (i := 7) (N := some 50) (v := ?_) (a' := ?_) #[true, true, true, true, true, true, true, true, false, false, false] rfl rfl (take_ofW HT_.out HW_.out (by kernel_rfl)) (fun _ _ _ h => h) (Or.inl ⟨by rfl, ?_⟩) hHeld ?_ ?_
                    rotate_left
                    · rintro w' ⟨s0, s1, s2, s3, s4, s5⟩
                      go_simp
                      with_reducible rfl
                    rotate_left
                    · simp only [Act.put, List.setIfInBounds_toArray, List.set_cons_zero, List.set_cons_succ, i64_w, i32_w]
                      rfl
                    refine pure_ (i := 8) (N := some 51) (v := ?_) (a' := ?_) #[true, true, true, true, true, true, true, true, true, false, false] rfl rfl (any_of HT_.out (by kernel_rfl)) (fun _ _ _ h => h) (Or.inl ⟨by rfl, ?_⟩) ?_ ?_
                    rotate_left
                    · intro w'
                      go_simp
                      with_reducible rfl
                    rotate_left
                    · simp only [Act.put, List.setIfInBounds_toArray, List.set_cons_zero, List.set_cons_succ, i64_w, i32_w]
                      rfl
                    refine pure_ (i := 9) (N := some 52) (v := ?_) (a' := ?_) #[true, true, true, true, true, true, true, true, true, true, false] rfl rfl (any_of HT_.out (by kernel_rfl)) (fun _ _ _ h => h) (Or.inl ⟨by rfl, ?_⟩) ?_ ?_
                    rotate_left
                    · intro w'
                      go_simp
                      with_reducible rfl
                    rotate_left
                    · simp only [Act.put, List.setIfInBounds_toArray, List.set_cons_zero, List.set_cons_succ, i64_w, i32_w]
                      rfl
                    refine last_ (i := 10) (N := none) #[true, true, true, true, true, true, true, true, true, true, true] rfl rfl (one_of HT_.out (by kernel_rfl)) (by decide) (fun K hK => ?_)
                    refine skip_ (w1 := ?_) (by rfl) rfl ?_ ?_
                    rotate_left
                    · go_simp
                      rfl
                    refine hK.out _ _ ?_
                    clear hK K
                    refine done_ (done_of HT_.out (by kernel_rfl)) ?_
                    have n0_ : Aside0 (Kd.R (Kd.int .i64) 3 (w33.setCell ⟨go15, ((ji12) : Int).toNat, none⟩ (.int .i64 (Go.bits .xor .i64 (rd t250 (ji12)) 1))) w.heap.size (fun k_ => some k_ ≠ (.slice Ao31 t253.length co31 : Value).ownBlock) (.slice (some ⟨go15, 0, none⟩) t250.length co28) y261) := ⟨by (with_reducible repeat (first | apply Kd.R_alloc | apply Kd.R_drewN | apply Kd.R_drew)); exact HQ34.out⟩
                    have n1_ : Aside0 (Kd.R (Kd.int .i64) 3 (w33.setCell ⟨go15, ((ji12) : Int).toNat, none⟩ (.int .i64 (Go.bits .xor .i64 (rd t250 (ji12)) 1))) w.heap.size (fun k_ => some k_ ≠ (.slice (some ⟨go15, 0, none⟩) t250.length co28 : Value).ownBlock) (.slice Ao31 t253.length co31) t253) := ⟨by (with_reducible repeat (first | apply Kd.R_alloc | apply Kd.R_drewN | apply Kd.R_drew)); exact Kd.R_mono (Kd.R_far (p := ⟨go15, ((ji12) : Int).toNat, none⟩) (Kd.R_mono HO255.out (fun k_ hk => (⟨hk, fun e_ => hk (by rw [e_]; rfl)⟩ : _ ∧ k_ ≠ go15))) (fun _ hk => hk.2) (.int .i64 (Go.bits .xor .i64 (rd t250 (ji12)) 1))) (fun _ hk => hk.1)⟩
                    have n2_ : Aside0 ((w33.setCell ⟨go15, ((ji12) : Int).toNat, none⟩ (.int .i64 (Go.bits .xor .i64 (rd t250 (ji12)) 1))).heap[gb244]? = some (.cells #[.slice A0_0 l0_0.length c0_0, .slice A0_1 l0_1.length c0_1, .int .i64 a0_2, .int .i64 a0_3, .int .i64 a0_4] 56 (0, 0))) := ⟨by (with_reducible repeat (first | refine blk_drewN ?_ _ | refine blk_drew ?_ | refine blk_alloc ?_ _)); refine blk_far ?_ (by have h_ := Kd.R_ne HO252.out BK244.out (by decide); intro e_; exact h_ (by rw [e_]; rfl)) _; (with_reducible repeat (first | refine blk_drewN ?_ _ | refine blk_drew ?_ | refine blk_alloc ?_ _)); exact BK244.out⟩
                    have n3_ : Aside0 ((w33.setCell ⟨go15, ((ji12) : Int).toNat, none⟩ (.int .i64 (Go.bits .xor .i64 (rd t250 (ji12)) 1))).heap[gb259]? = some (.cells #[.slice (some ⟨go15, 0, none⟩) t250.length co28, .slice Ao31 t253.length co31, .int .i64 t256, .int .i64 t257, .int .i64 t258] 56 (0, 0))) := ⟨by (with_reducible repeat (first | refine blk_drewN ?_ _ | refine blk_drew ?_ | refine blk_alloc ?_ _)); refine blk_far ?_ (by have h_ := Kd.R_ne HO252.out BK259.out (by decide); intro e_; exact h_ (by rw [e_]; rfl)) _; (with_reducible repeat (first | refine blk_drewN ?_ _ | refine blk_drew ?_ | refine blk_alloc ?_ _)); exact BK259.out⟩
                    have n4_ : Aside0 (Below w.heap.size w (w33.setCell ⟨go15, ((ji12) : Int).toNat, none⟩ (.int .i64 (Go.bits .xor .i64 (rd t250 (ji12)) 1)))) := ⟨by repeat (first | (with_reducible first | exact HB.out | apply below_alloc | apply pw_below_drewN | apply below_drew1 | refine below_set ?_ GB15.out | refine below_set ?_ GE244.out | refine below_set ?_ GE259.out) | exact HB.out)⟩
                    (try clear HO252)
                    (try clear HO255)
                    (try clear BK244)
                    (try clear BK259)
                    (try clear HB)
                    generalize (w33.setCell ⟨go15, ((ji12) : Int).toNat, none⟩ (.int .i64 (Go.bits .xor .i64 (rd t250 (ji12)) 1))) = w35 at n0_ n1_ n2_ n3_ n4_ ⊢
                    have HO252 := n0_
                    have HO255 := n1_
                    have BK244 := n2_
                    have BK259 := n3_
                    have HB := n4_
                    clear n0_ n1_ n2_ n3_ n4_
                    have hcz36_0 : w35.cell? ⟨gb259, 0, none⟩ = some (.slice (some ⟨go15, 0, none⟩) t250.length co28) := (blk_cell BK259.out 0).trans rfl
                    have hcz36_1 : w35.cell? ⟨gb259, 1, none⟩ = some (.slice Ao31 t253.length co31) := (blk_cell BK259.out 1).trans rfl
                    have hcz36_2 : w35.cell? ⟨gb259, 2, none⟩ = some (.int .i64 t256) := (blk_cell BK259.out 2).trans rfl
                    have hcz36_3 : w35.cell? ⟨gb259, 3, none⟩ = some (.int .i64 t257) := (blk_cell BK259.out 3).trans rfl
                    have hcz36_4 : w35.cell? ⟨gb259, 4, none⟩ = some (.int .i64 t258) := (blk_cell BK259.out 4).trans rfl
                    have hfz36_0 := blk_frozen BK259.out 0
                    have hfz36_1 := blk_frozen BK259.out 1
                    have hfz36_2 := blk_frozen BK259.out 2
                    have hfz36_3 := blk_frozen BK259.out 3
                    have hfz36_4 := blk_frozen BK259.out 4
                    try go_wp2_with (first | ((with_reducible refine gate_callee (f := 39) rfl ?_); refine goesL_ (some 65) rfl rfl Try.func39 (by kernel_rfl) rfl #[.agg #[.slice (some ⟨go15, 0, none⟩) y261.length co28, .slice Ao31 t253.length co31, .int .i64 t256, .int .i64 t257, .int .i64 t258]] rfl (by (try simp only [List.map_toArray, List.map_cons, List.map_nil]); first | done | (rw [show y261.length = t250.length from (Kd.R_reads' HO252.out).1.symm] <;> rfl) | rfl | (simp only [List.length_drop, List.length_take]; rfl)) ?_; (with_reducible refine (check_Put.calls k (fun k_ => some k_ = (.slice (some ⟨go15, 0, none⟩) t250.length co28 : Value).ownBlock) _ _ y261 (fun k_ => some k_ = (.slice Ao31 t253.length co31 : Value).ownBlock) _ _ t253 t256 t257 t258 t262 t263 _ ?side1 ?side2 A16.out).mono ?_); (case side1 => rw [show y261.length = t250.length from (Kd.R_reads' HO252.out).1.symm]; exact Kd.R_V (Kd.R_tight rfl (Kd.R_types (Kd.R_types (HO252.out) BK244.out (by decide)) BK259.out (by decide)))); (case side2 => exact Kd.R_V (Kd.R_tight rfl (Kd.R_types (Kd.R_types (HO255.out) BK244.out (by decide)) BK259.out (by decide)))); rintro e w37 ⟨rfl, hb⟩; refine ⟨_, rfl, ?_⟩; have n0_ := Aside0.mk (Kd.R_below (by (with_reducible repeat (first | apply Kd.R_alloc | apply Kd.R_drewN | apply Kd.R_drew)); exact HO252.out) hb); have n1_ := Aside0.mk (Kd.R_below (by (with_reducible repeat (first | apply Kd.R_alloc | apply Kd.R_drewN | apply Kd.R_drew)); exact HO255.out) hb); have n2_ := Aside0.mk (blk_below (g := gb244) (o := .cells #[.slice A0_0 l0_0.length c0_0, .slice A0_1 l0_1.length c0_1, .int .i64 a0_2, .int .i64 a0_3, .int .i64 a0_4] 56 (0, 0)) (by (with_reducible repeat (first | refine blk_drewN ?_ _ | refine blk_drew ?_ | refine blk_alloc ?_ _)); exact BK244.out) hb); have n3_ := Aside0.mk (blk_below (g := gb259) (o := .cells #[.slice (some ⟨go15, 0, none⟩) t250.length co28, .slice Ao31 t253.length co31, .int .i64 t256, .int .i64 t257, .int .i64 t258] 56 (0, 0)) (by (with_reducible repeat (first | refine blk_drewN ?_ _ | refine blk_drew ?_ | refine blk_alloc ?_ _)); exact BK259.out) hb); have n4_ := Aside0.mk (below_step (by repeat (first | (with_reducible first | exact HB.out | apply below_alloc | apply pw_below_drewN | apply below_drew1 | refine below_set ?_ GE244.out | refine below_set ?_ GE259.out) | exact HB.out)) hb); clear HO252; clear HO255; clear BK244; clear BK259; clear HB; have HO252 := n0_; have HO255 := n1_; have BK244 := n2_; have BK259 := n3_; have HB := n4_; clear n0_ n1_ n2_ n3_ n4_; (try clear hb); (try clear hb2); (try clear hk); (try clear hi); have hcz38_0 : w37.cell? ⟨gb244, 0, none⟩ = some (.slice A0_0 l0_0.length c0_0) := (blk_cell BK244.out 0).trans rfl; have hcz38_1 : w37.cell? ⟨gb244, 1, none⟩ = some (.slice A0_1 l0_1.length c0_1) := (blk_cell BK244.out 1).trans rfl; have hcz38_2 : w37.cell? ⟨gb244, 2, none⟩ = some (.int .i64 a0_2) := (blk_cell BK244.out 2).trans rfl; have hcz38_3 : w37.cell? ⟨gb244, 3, none⟩ = some (.int .i64 a0_3) := (blk_cell BK244.out 3).trans rfl; have hcz38_4 : w37.cell? ⟨gb244, 4, none⟩ = some (.int .i64 a0_4) := (blk_cell BK244.out 4).trans rfl; have hfz38_0 := blk_frozen BK244.out 0; have hfz38_1 := blk_frozen BK244.out 1; have hfz38_2 := blk_frozen BK244.out 2; have hfz38_3 := blk_frozen BK244.out 3; have hfz38_4 := blk_frozen BK244.out 4) | (go_at_call 26; (with_reducible refine (grafterlaw0_Num.calls t263 t264 _ A18.out).mono ?_); rintro e w' ⟨rfl, ⟨nd, rfl⟩⟩))
                    all_goals go_ret
                    all_goals exact ⟨by first | (simp only [← hji12_]; split <;> first | (exfalso; omega) | (simp [ByteArray.extract_zero_size]; done) | (simp [ByteArray.extract_zero_size, *]; done)) | rfl | (simp [errW_none, errW_some] <;> rfl) | (simp only [← hji12]; first | rfl | (simp [errW_none, errW_some] <;> rfl)) | (simp [*, errW_none, errW_some] <;> rfl), by repeat (first | (with_reducible first | exact HB.out | apply below_alloc | apply pw_below_drewN | apply below_drew1 | refine below_set ?_ GE244.out | refine below_set ?_ GE259.out) | exact HB.out)⟩
                  · rw [if_neg c20] at H
                    have c20b0 : ((t262.size : Int) == (t246.size : Int)) = false := beq_eq_false_iff_ne.mpr c20
                    have c20b1 : ((t262.size : Int) != (t246.size : Int)) = true := bne_iff_ne.mpr c20
                    have c20b2 : (t262.size == t246.size) = false := by first | simpa using c20 | (simp at c20 ⊢; omega)
                    exact absurd ((Option.some.inj H).trans HRT.out) Bool.false_ne_true
                · rw [if_neg c19] at H
                  have c19b0 : (t264 == 0) = false := beq_eq_false_iff_ne.mpr c19
                  have c19b1 : (t264 != 0) = true := bne_iff_ne.mpr c19
                  obtain rfl := Option.some.inj H
                  go_enter Try.func16, Try.ntmps16
                  try go_wp2_with (first | ((with_reducible refine gate_dst (N := 3) rfl ?_); (try (refine gate_guard (by rfl) ?_; dsimp only)); refine box_event ?hg (N := 3) ?hd (cs := #[.slice A0_0 l0_0.length c0_0, .slice A0_1 l0_1.length c0_1, .int .i64 a0_2, .int .i64 a0_3, .int .i64 a0_4]) (t := 56) ?hr ?_; (case hd => rfl); (case hg => rfl); (case hr => first | (go_simp; done) | (go_simp; rfl)); intro gb244 hg w57 hbox hb; have n0_ := Aside0.mk (below_step (by repeat (first | (with_reducible first | exact HB.out | apply below_alloc | apply pw_below_drewN | apply below_drew1) | exact HB.out)) hb); have n1_ := Aside0.mk (hbox); have n2_ := Aside0.mk ((by rw [hg]; exact (below_size (by repeat (first | (with_reducible first | exact HB.out | apply below_alloc | apply pw_below_drewN | apply below_drew1) | exact HB.out))) : w.heap.size ≤ gb244)); have n3_ := Aside0.mk ((by rw [hg]; exact (below_size (by repeat (first | (with_reducible first | exact HB.out | apply below_alloc | apply pw_below_drewN | apply below_drew1) | exact HB.out))) : w.heap.size ≤ gb244)); clear HB; have HB := n0_; have BK244 := n1_; have GW244 := n2_; have GE244 := n3_; clear n0_ n1_ n2_ n3_; clear hb hbox hg) | ((with_reducible refine gate_callee (f := 47) rfl ?_); refine goesL_ (some 13) rfl rfl Try.func47 (by kernel_rfl) rfl #[] rfl (by (try simp only [List.map_toArray, List.map_cons, List.map_nil]); first | done | rfl | (simp only [List.length_drop, List.length_take]; rfl)) ?_; (with_reducible refine (grafterlaw14_awake.calls k  true _ rfl A4.out).mono ?_); rintro e w58 ⟨rfl, hb⟩; refine ⟨_, rfl, ?_⟩; have n0_ := Aside0.mk (blk_below (g := gb244) (o := .cells #[.slice A0_0 l0_0.length c0_0, .slice A0_1 l0_1.length c0_1, .int .i64 a0_2, .int .i64 a0_3, .int .i64 a0_4] 56 (0, 0)) (by (with_reducible repeat (first | refine blk_drewN ?_ _ | refine blk_drew ?_ | refine blk_alloc ?_ _)); exact BK244.out) hb); have n1_ := Aside0.mk (below_step (by repeat (first | (with_reducible first | exact HB.out | apply below_alloc | apply pw_below_drewN | apply below_drew1 | refine below_set ?_ GE244.out) | exact HB.out)) hb); clear BK244; clear HB; have BK244 := n0_; have HB := n1_; clear n0_ n1_; (try clear hb); (try clear hb2); (try clear hk); (try clear hi); have hcz59_0 : w58.cell? ⟨gb244, 0, none⟩ = some (.slice A0_0 l0_0.length c0_0) := (blk_cell BK244.out 0).trans rfl; have hcz59_1 : w58.cell? ⟨gb244, 1, none⟩ = some (.slice A0_1 l0_1.length c0_1) := (blk_cell BK244.out 1).trans rfl; have hcz59_2 : w58.cell? ⟨gb244, 2, none⟩ = some (.int .i64 a0_2) := (blk_cell BK244.out 2).trans rfl; have hcz59_3 : w58.cell? ⟨gb244, 3, none⟩ = some (.int .i64 a0_3) := (blk_cell BK244.out 3).trans rfl; have hcz59_4 : w58.cell? ⟨gb244, 4, none⟩ = some (.int .i64 a0_4) := (blk_cell BK244.out 4).trans rfl; have hfz59_0 := blk_frozen BK244.out 0; have hfz59_1 := blk_frozen BK244.out 1; have hfz59_2 := blk_frozen BK244.out 2; have hfz59_3 := blk_frozen BK244.out 3; have hfz59_4 := blk_frozen BK244.out 4) | ((with_reducible refine gate_callee (f := 39) rfl ?_); refine goesL_ (some 17) rfl rfl Try.func39 (by kernel_rfl) rfl #[.agg #[.slice A0_0 l0_0.length c0_0, .slice A0_1 l0_1.length c0_1, .int .i64 a0_2, .int .i64 a0_3, .int .i64 a0_4]] rfl (by (try simp only [List.map_toArray, List.map_cons, List.map_nil]); first | done | rfl | (simp only [List.length_drop, List.length_take]; rfl)) ?_; (with_reducible refine (check_Put.calls k (fun k_ => k_ < w.heap.size) _ _ l0_0 (fun k_ => k_ < w.heap.size) _ _ l0_1 a0_2 a0_3 a0_4 t246 t247 _ ?side1 ?side2 A6.out).mono ?_); (case side1 => exact Kd.V_mk HC0_0.out (Kd.F_below (Kd.C_F (Kd.heap_int .i64) HR0_0.out) (by repeat (first | (with_reducible first | exact HB.out | apply below_alloc | apply pw_below_drewN | apply below_drew1 | refine below_set ?_ GE244.out) | exact HB.out)))); (case side2 => exact Kd.V_mk HC0_1.out (Kd.F_below (Kd.C_F (Kd.heap_int .i64) HR0_1.out) (by repeat (first | (with_reducible first | exact HB.out | apply below_alloc | apply pw_below_drewN | apply below_drew1 | refine below_set ?_ GE244.out) | exact HB.out)))); rintro e w60 ⟨rfl, hb⟩; refine ⟨_, rfl, ?_⟩; have n0_ := Aside0.mk (blk_below (g := gb244) (o := .cells #[.slice A0_0 l0_0.length c0_0, .slice A0_1 l0_1.length c0_1, .int .i64 a0_2, .int .i64 a0_3, .int .i64 a0_4] 56 (0, 0)) (by (with_reducible repeat (first | refine blk_drewN ?_ _ | refine blk_drew ?_ | refine blk_alloc ?_ _)); exact BK244.out) hb); have n1_ := Aside0.mk (below_step (by repeat (first | (with_reducible first | exact HB.out | apply below_alloc | apply pw_below_drewN | apply below_drew1 | refine below_set ?_ GE244.out) | exact HB.out)) hb); clear BK244; clear HB; have BK244 := n0_; have HB := n1_; clear n0_ n1_; (try clear hb); (try clear hb2); (try clear hk); (try clear hi)) | ((with_reducible refine gate_callee (f := 26) rfl ?_); refine goesL_ (some 21) rfl rfl Try.func26 (by kernel_rfl) rfl #[.int .i64 t247] rfl (by (try simp only [List.map_toArray, List.map_cons, List.map_nil]); first | done | rfl | (simp only [List.length_drop, List.length_take]; rfl)) ?_; (with_reducible refine (grafterlaw0_Num.calls t247 t248 _ A7.out).mono ?_); rintro e w' ⟨rfl, ⟨nd, rfl⟩⟩; refine ⟨_, rfl, ?_⟩; (try (rw [drewN_self w60]; generalize hq_ : World.drewN w60 _ = w60; have n0_ : Aside0 (w60.heap[gb244]? = some (.cells #[.slice A0_0 l0_0.length c0_0, .slice A0_1 l0_1.length c0_1, .int .i64 a0_2, .int .i64 a0_3, .int .i64 a0_4] 56 (0, 0))) := ⟨by rw [← hq_]; exact (by (with_reducible repeat (first | refine blk_drewN ?_ _ | refine blk_drew ?_ | refine blk_alloc ?_ _)); exact BK244.out)⟩; have n1_ : Aside0 (Below w.heap.size w w60) := ⟨by rw [← hq_]; exact (by repeat (first | (with_reducible first | exact HB.out | apply below_alloc | apply pw_below_drewN | apply below_drew1 | refine below_set ?_ GE244.out) | exact HB.out))⟩; clear BK244 HB hq_; have BK244 := n0_; have HB := n1_; clear n0_ n1_)); have hcz61_0 : w60.cell? ⟨gb244, 0, none⟩ = some (.slice A0_0 l0_0.length c0_0) := (blk_cell BK244.out 0).trans rfl; have hcz61_1 : w60.cell? ⟨gb244, 1, none⟩ = some (.slice A0_1 l0_1.length c0_1) := (blk_cell BK244.out 1).trans rfl; have hcz61_2 : w60.cell? ⟨gb244, 2, none⟩ = some (.int .i64 a0_2) := (blk_cell BK244.out 2).trans rfl; have hcz61_3 : w60.cell? ⟨gb244, 3, none⟩ = some (.int .i64 a0_3) := (blk_cell BK244.out 3).trans rfl; have hcz61_4 : w60.cell? ⟨gb244, 4, none⟩ = some (.int .i64 a0_4) := (blk_cell BK244.out 4).trans rfl; have hfz61_0 := blk_frozen BK244.out 0; have hfz61_1 := blk_frozen BK244.out 1; have hfz61_2 := blk_frozen BK244.out 2; have hfz61_3 := blk_frozen BK244.out 3; have hfz61_4 := blk_frozen BK244.out 4) | ((with_reducible refine gate_callee (f := 38) rfl ?_); refine goesL_ (some 31) rfl rfl Try.func38 (by kernel_rfl) rfl #[.agg #[.slice A0_0 l0_0.length c0_0, .slice A0_1 l0_1.length c0_1, .int .i64 a0_2, .int .i64 a0_3, .int .i64 a0_4]] rfl (by (try simp only [List.map_toArray, List.map_cons, List.map_nil]); first | done | rfl | (simp only [List.length_drop, List.length_take]; rfl)) ?_; (with_reducible refine (grafterlaw0_CopyCheck.calls _ _ l0_0 _ _ l0_1 a0_2 a0_3 a0_4 t250 t253 t256 t257 t258 _ ?side1 ?side2 ?side3 ?side4 A9.out).mono ?_); (case side1 => repeat (first | (with_reducible refine Kd.C_alloc ?_ _) | (with_reducible refine Kd.C_drewN ?_ _) | (with_reducible refine Kd.C_drew ?_) | exact (Kd.C_below HR0_0.out HB.out))); (case side2 => exact HC0_0.out); (case side3 => repeat (first | (with_reducible refine Kd.C_alloc ?_ _) | (with_reducible refine Kd.C_drewN ?_ _) | (with_reducible refine Kd.C_drew ?_) | exact (Kd.C_below HR0_1.out HB.out))); (case side4 => exact HC0_1.out); rintro e w62 ⟨v251, v254, rfl, ho0, ho1, hb⟩; refine ⟨_, rfl, ?_⟩; have n0_ := Aside0.mk (Kd.R_lower ho0 (below_size (by repeat (first | (with_reducible first | exact HB.out | apply below_alloc | apply pw_below_drewN | apply below_drew1 | refine below_set ?_ GE244.out) | exact HB.out)))); have n1_ := Aside0.mk (Kd.R_lower ho1 (below_size (by repeat (first | (with_reducible first | exact HB.out | apply below_alloc | apply pw_below_drewN | apply below_drew1 | refine below_set ?_ GE244.out) | exact HB.out)))); have n2_ := Aside0.mk (blk_below (g := gb244) (o := .cells #[.slice A0_0 l0_0.length c0_0, .slice A0_1 l0_1.length c0_1, .int .i64 a0_2, .int .i64 a0_3, .int .i64 a0_4] 56 (0, 0)) (by (with_reducible repeat (first | refine blk_drewN ?_ _ | refine blk_drew ?_ | refine blk_alloc ?_ _)); exact BK244.out) hb); have n3_ := Aside0.mk (below_step (by repeat (first | (with_reducible first | exact HB.out | apply below_alloc | apply pw_below_drewN | apply below_drew1 | refine below_set ?_ GE244.out) | exact HB.out)) hb); clear BK244; clear HB; have HO252 := n0_; have HO255 := n1_; have BK244 := n2_; have HB := n3_; clear n0_ n1_ n2_ n3_; (try clear hb); (try clear hb2); (try clear hk); (try clear hi); (try clear ho0); (try clear ho1)) | ((with_reducible refine gate_dst (N := 9) rfl ?_); (try (refine gate_guard (by rfl) ?_; dsimp only)); refine box_event ?hg (N := 9) ?hd (cs := #[.slice none 0 0, .slice none 0 0, .int .i64 0, .int .i64 0, .int .i64 0]) (t := 56) ?hr ?_; (case hd => rfl); (case hg => rfl); (case hr => first | (go_simp; done) | (go_simp; rfl)); intro gb259 hg w63 hbox hb; have n0_ := Aside0.mk (Kd.R_below (by (with_reducible repeat (first | apply Kd.R_alloc | apply Kd.R_drewN | apply Kd.R_drew)); exact HO252.out) hb); have n1_ := Aside0.mk (Kd.R_below (by (with_reducible repeat (first | apply Kd.R_alloc | apply Kd.R_drewN | apply Kd.R_drew)); exact HO255.out) hb); have n2_ := Aside0.mk (blk_below (g := gb244) (o := .cells #[.slice A0_0 l0_0.length c0_0, .slice A0_1 l0_1.length c0_1, .int .i64 a0_2, .int .i64 a0_3, .int .i64 a0_4] 56 (0, 0)) (by (with_reducible repeat (first | refine blk_drewN ?_ _ | refine blk_drew ?_ | refine blk_alloc ?_ _)); exact BK244.out) hb); have n3_ := Aside0.mk (below_step (by repeat (first | (with_reducible first | exact HB.out | apply below_alloc | apply pw_below_drewN | apply below_drew1 | refine below_set ?_ GE244.out) | exact HB.out)) hb); have n4_ := Aside0.mk (hbox); have n5_ := Aside0.mk ((by rw [hg]; exact (below_size (by repeat (first | (with_reducible first | exact HB.out | apply below_alloc | apply pw_below_drewN | apply below_drew1 | refine below_set ?_ GE244.out) | exact HB.out))) : w.heap.size ≤ gb259)); have n6_ := Aside0.mk ((by rw [hg]; exact (below_size (by repeat (first | (with_reducible first | exact HB.out | apply below_alloc | apply pw_below_drewN | apply below_drew1 | refine below_set ?_ GE244.out) | exact HB.out))) : w.heap.size ≤ gb259)); have n7_ := Aside0.mk ((by rw [hg]; exact Nat.ne_of_lt (blk_lt (g := gb244) (o := .cells #[.slice A0_0 l0_0.length c0_0, .slice A0_1 l0_1.length c0_1, .int .i64 a0_2, .int .i64 a0_3, .int .i64 a0_4] 56 (0, 0)) (by (with_reducible repeat (first | refine blk_drewN ?_ _ | refine blk_drew ?_ | refine blk_alloc ?_ _)); exact BK244.out)) : gb244 ≠ gb259)); have n8_ := Aside0.mk ((by rw [hg]; exact Nat.ne_of_gt (blk_lt (g := gb244) (o := .cells #[.slice A0_0 l0_0.length c0_0, .slice A0_1 l0_1.length c0_1, .int .i64 a0_2, .int .i64 a0_3, .int .i64 a0_4] 56 (0, 0)) (by (with_reducible repeat (first | refine blk_drewN ?_ _ | refine blk_drew ?_ | refine blk_alloc ?_ _)); exact BK244.out)) : gb259 ≠ gb244)); clear HO252; clear HO255; clear BK244; clear HB; have HO252 := n0_; have HO255 := n1_; have BK244 := n2_; have HB := n3_; have BK259 := n4_; have GW259 := n5_; have GE259 := n6_; have NB244_259 := n7_; have NB259_244 := n8_; clear n0_ n1_ n2_ n3_ n4_ n5_ n6_ n7_ n8_; clear hb hbox hg; obtain ⟨Ao64, co64, eo64⟩ := Kd.R_slice HO252.out; subst eo64; have hnb65 := NB259_244.out; have hnc65 := NB244_259.out; have hcz66_0 : w63.cell? ⟨gb259, 0, none⟩ = some (.slice none 0 0) := (blk_cell BK259.out 0).trans rfl; have hcz66_1 : w63.cell? ⟨gb259, 1, none⟩ = some (.slice none 0 0) := (blk_cell BK259.out 1).trans rfl; have hcz66_2 : w63.cell? ⟨gb259, 2, none⟩ = some (.int .i64 0) := (blk_cell BK259.out 2).trans rfl; have hcz66_3 : w63.cell? ⟨gb259, 3, none⟩ = some (.int .i64 0) := (blk_cell BK259.out 3).trans rfl; have hcz66_4 : w63.cell? ⟨gb259, 4, none⟩ = some (.int .i64 0) := (blk_cell BK259.out 4).trans rfl; have hfz66_0 := blk_frozen BK259.out 0; have hfz66_1 := blk_frozen BK259.out 1; have hfz66_2 := blk_frozen BK259.out 2; have hfz66_3 := blk_frozen BK259.out 3; have hfz66_4 := blk_frozen BK259.out 4; obtain ⟨Ao67, co67, eo67⟩ := Kd.R_slice HO255.out; subst eo67))
                  have n0_ : Aside0 (Kd.R (Kd.int .i64) 3 (((((w63.setCell ⟨gb259, 0, none⟩ (.slice Ao64 t250.length co64)).setCell ⟨gb259, 1, none⟩ (.slice Ao67 t253.length co67)).setCell ⟨gb259, 2, none⟩ (.int .i64 t256)).setCell ⟨gb259, 3, none⟩ (.int .i64 t257)).setCell ⟨gb259, 4, none⟩ (.int .i64 t258)) w.heap.size (fun k_ => some k_ ≠ (.slice Ao67 t253.length co67 : Value).ownBlock) (.slice Ao64 t250.length co64) t250) := ⟨by (with_reducible repeat (first | apply Kd.R_alloc | apply Kd.R_drewN | apply Kd.R_drew)); exact Kd.R_mono (Kd.R_far (p := ⟨gb259, 4, none⟩) (Kd.R_far (p := ⟨gb259, 3, none⟩) (Kd.R_far (p := ⟨gb259, 2, none⟩) (Kd.R_far (p := ⟨gb259, 1, none⟩) (Kd.R_far (p := ⟨gb259, 0, none⟩) (Kd.R_types HO252.out BK259.out (by decide)) (fun _ hk => hk.2) (.slice Ao64 t250.length co64)) (fun _ hk => hk.2) (.slice Ao67 t253.length co67)) (fun _ hk => hk.2) (.int .i64 t256)) (fun _ hk => hk.2) (.int .i64 t257)) (fun _ hk => hk.2) (.int .i64 t258)) (fun _ hk => hk.1)⟩
                  have n1_ : Aside0 (Kd.R (Kd.int .i64) 3 (((((w63.setCell ⟨gb259, 0, none⟩ (.slice Ao64 t250.length co64)).setCell ⟨gb259, 1, none⟩ (.slice Ao67 t253.length co67)).setCell ⟨gb259, 2, none⟩ (.int .i64 t256)).setCell ⟨gb259, 3, none⟩ (.int .i64 t257)).setCell ⟨gb259, 4, none⟩ (.int .i64 t258)) w.heap.size (fun k_ => some k_ ≠ (.slice Ao64 t250.length co64 : Value).ownBlock) (.slice Ao67 t253.length co67) t253) := ⟨by (with_reducible repeat (first | apply Kd.R_alloc | apply Kd.R_drewN | apply Kd.R_drew)); exact Kd.R_mono (Kd.R_far (p := ⟨gb259, 4, none⟩) (Kd.R_far (p := ⟨gb259, 3, none⟩) (Kd.R_far (p := ⟨gb259, 2, none⟩) (Kd.R_far (p := ⟨gb259, 1, none⟩) (Kd.R_far (p := ⟨gb259, 0, none⟩) (Kd.R_types HO255.out BK259.out (by decide)) (fun _ hk => hk.2) (.slice Ao64 t250.length co64)) (fun _ hk => hk.2) (.slice Ao67 t253.length co67)) (fun _ hk => hk.2) (.int .i64 t256)) (fun _ hk => hk.2) (.int .i64 t257)) (fun _ hk => hk.2) (.int .i64 t258)) (fun _ hk => hk.1)⟩
                  have n2_ : Aside0 ((((((w63.setCell ⟨gb259, 0, none⟩ (.slice Ao64 t250.length co64)).setCell ⟨gb259, 1, none⟩ (.slice Ao67 t253.length co67)).setCell ⟨gb259, 2, none⟩ (.int .i64 t256)).setCell ⟨gb259, 3, none⟩ (.int .i64 t257)).setCell ⟨gb259, 4, none⟩ (.int .i64 t258)).heap[gb244]? = some (.cells #[.slice A0_0 l0_0.length c0_0, .slice A0_1 l0_1.length c0_1, .int .i64 a0_2, .int .i64 a0_3, .int .i64 a0_4] 56 (0, 0))) := ⟨by (with_reducible repeat (first | refine blk_drewN ?_ _ | refine blk_drew ?_ | refine blk_alloc ?_ _)); refine blk_far ?_ NB244_259.out _; (with_reducible repeat (first | refine blk_drewN ?_ _ | refine blk_drew ?_ | refine blk_alloc ?_ _)); refine blk_far ?_ NB244_259.out _; (with_reducible repeat (first | refine blk_drewN ?_ _ | refine blk_drew ?_ | refine blk_alloc ?_ _)); refine blk_far ?_ NB244_259.out _; (with_reducible repeat (first | refine blk_drewN ?_ _ | refine blk_drew ?_ | refine blk_alloc ?_ _)); refine blk_far ?_ NB244_259.out _; (with_reducible repeat (first | refine blk_drewN ?_ _ | refine blk_drew ?_ | refine blk_alloc ?_ _)); refine blk_far ?_ NB244_259.out _; (with_reducible repeat (first | refine blk_drewN ?_ _ | refine blk_drew ?_ | refine blk_alloc ?_ _)); exact BK244.out⟩
                  have n3_ : Aside0 ((((((w63.setCell ⟨gb259, 0, none⟩ (.slice Ao64 t250.length co64)).setCell ⟨gb259, 1, none⟩ (.slice Ao67 t253.length co67)).setCell ⟨gb259, 2, none⟩ (.int .i64 t256)).setCell ⟨gb259, 3, none⟩ (.int .i64 t257)).setCell ⟨gb259, 4, none⟩ (.int .i64 t258)).heap[gb259]? = some (.cells #[.slice Ao64 t250.length co64, .slice Ao67 t253.length co67, .int .i64 t256, .int .i64 t257, .int .i64 t258] 56 (0, 0))) := ⟨by (with_reducible repeat (first | refine blk_drewN ?_ _ | refine blk_drew ?_ | refine blk_alloc ?_ _)); refine blk_put (cs := #[.slice Ao64 t250.length co64, .slice Ao67 t253.length co67, .int .i64 t256, .int .i64 t257, .int .i64 0]) ?_ 4 _ rfl; (with_reducible repeat (first | refine blk_drewN ?_ _ | refine blk_drew ?_ | refine blk_alloc ?_ _)); refine blk_put (cs := #[.slice Ao64 t250.length co64, .slice Ao67 t253.length co67, .int .i64 t256, .int .i64 0, .int .i64 0]) ?_ 3 _ rfl; (with_reducible repeat (first | refine blk_drewN ?_ _ | refine blk_drew ?_ | refine blk_alloc ?_ _)); refine blk_put (cs := #[.slice Ao64 t250.length co64, .slice Ao67 t253.length co67, .int .i64 0, .int .i64 0, .int .i64 0]) ?_ 2 _ rfl; (with_reducible repeat (first | refine blk_drewN ?_ _ | refine blk_drew ?_ | refine blk_alloc ?_ _)); refine blk_put (cs := #[.slice Ao64 t250.length co64, .slice none 0 0, .int .i64 0, .int .i64 0, .int .i64 0]) ?_ 1 _ rfl; (with_reducible repeat (first | refine blk_drewN ?_ _ | refine blk_drew ?_ | refine blk_alloc ?_ _)); refine blk_put (cs := #[.slice none 0 0, .slice none 0 0, .int .i64 0, .int .i64 0, .int .i64 0]) ?_ 0 _ rfl; (with_reducible repeat (first | refine blk_drewN ?_ _ | refine blk_drew ?_ | refine blk_alloc ?_ _)); exact BK259.out⟩
                  have n4_ : Aside0 (Below w.heap.size w (((((w63.setCell ⟨gb259, 0, none⟩ (.slice Ao64 t250.length co64)).setCell ⟨gb259, 1, none⟩ (.slice Ao67 t253.length co67)).setCell ⟨gb259, 2, none⟩ (.int .i64 t256)).setCell ⟨gb259, 3, none⟩ (.int .i64 t257)).setCell ⟨gb259, 4, none⟩ (.int .i64 t258))) := ⟨by repeat (first | (with_reducible first | exact HB.out | apply below_alloc | apply pw_below_drewN | apply below_drew1 | refine below_set ?_ GE244.out | refine below_set ?_ GE259.out) | exact HB.out)⟩
                  (try clear HO252)
                  (try clear HO255)
                  (try clear BK244)
                  (try clear BK259)
                  (try clear HB)
                  generalize (((((w63.setCell ⟨gb259, 0, none⟩ (.slice Ao64 t250.length co64)).setCell ⟨gb259, 1, none⟩ (.slice Ao67 t253.length co67)).setCell ⟨gb259, 2, none⟩ (.int .i64 t256)).setCell ⟨gb259, 3, none⟩ (.int .i64 t257)).setCell ⟨gb259, 4, none⟩ (.int .i64 t258)) = w68 at n0_ n1_ n2_ n3_ n4_ ⊢
                  have HO252 := n0_
                  have HO255 := n1_
                  have BK244 := n2_
                  have BK259 := n3_
                  have HB := n4_
                  clear n0_ n1_ n2_ n3_ n4_
                  have n0_ := Aside0.mk (Kd.R_drew HO252.out)
                  have n1_ := Aside0.mk (Kd.R_drew HO255.out)
                  have n2_ := Aside0.mk (blk_drew BK244.out)
                  have n3_ := Aside0.mk (blk_drew BK259.out)
                  have n4_ := Aside0.mk (below_drew1 HB.out)
                  clear HO252
                  clear HO255
                  clear BK244
                  clear BK259
                  clear HB
                  have HO252 := n0_
                  have HO255 := n1_
                  have BK244 := n2_
                  have BK259 := n3_
                  have HB := n4_
                  clear n0_ n1_ n2_ n3_ n4_
                  have p260 : 0 ≤ ((ji12) : Int) := of_decide_eq_true (by first | (with_reducible assumption) | assumption)
                  have q260 : (ji12) < (t250.length : Int) := of_decide_eq_true (by first | (with_reducible assumption) | assumption)
                  obtain ⟨ad260, e260, hx260_0⟩ := Kd.at_int (Kd.R_reads' HO252.out).2.2 (ji12) p260 q260
                  cases e260
                  replace p260 := eq_true p260
                  replace q260 := eq_true q260
                  have p15 : 0 ≤ ((ji12) : Int) := of_decide_eq_true (by first | (with_reducible assumption) | assumption)
                  have q15 : ((ji12) : Int) < ((t250.length : Int) : Int) := of_decide_eq_true (by first | (with_reducible assumption) | assumption)
                  obtain ⟨go15, co15, eo15, gb15, gl15, cl15, HG15⟩ := Kd.R_form HO252.out (by omega)
                  (first | cases eo15 | (injection eo15 with ea_ en_ ec_; (first | subst ea_ | (injection ea_ with ea_; subst ea_)); subst ec_; clear en_))
                  have GB15 := Aside0.mk gb15
                  have GG15 := Aside0.mk HG15
                  clear gb15 gl15 HG15
                  (first | simp only [add_plain] at hx260_0 | skip)
                  obtain ⟨hx15_0, hf15_0⟩ := Kd.R_celln 0 HO252.out ((ji12) : Int) p15 q15
                  replace p15 := eq_true p15
                  replace q15 := eq_true q15
                  have HP70 := Kd.R_putn HO252.out ((ji12) : Int) (Go.bits .xor .i64 (rd t250 (ji12)) 1)
                  rw [← Ny261.out] at HP70
                  have HQ70 := Aside0.mk HP70
                  clear HP70
                  refine start_ (n := 11) (S := fun w' => w'.cell? ⟨gb259, 0, none⟩ = some (.slice (some ⟨go15, 0, none⟩) t250.length co64) ∧ w'.cell? ⟨gb259, 1, none⟩ = some (.slice Ao67 t253.length co67) ∧ w'.cell? ⟨gb259, 2, none⟩ = some (.int .i64 t256) ∧ w'.cell? ⟨gb259, 3, none⟩ = some (.int .i64 t257) ∧ w'.cell? ⟨gb259, 4, none⟩ = some (.int .i64 t258) ∧ w'.cell? ⟨go15, ((ji12)).toNat, none⟩ = some (.int .i64 (rd t250 (ji12)))) (ds := [10]) #[false, false, false, false, false, false, false, false, false, false, false] (by kernel_rfl) rfl rfl ⟨(blk_cell BK259.out 0).trans rfl, (blk_cell BK259.out 1).trans rfl, (blk_cell BK259.out 2).trans rfl, (blk_cell BK259.out 3).trans rfl, (blk_cell BK259.out 4).trans rfl, hx260_0⟩ (fun hHeld => ?_); refine with_tabW grafterlaw14_CheckUnlike.tab9 grafterlaw14_CheckUnlike.bits9 (fun HT_ HW_ => ?_)
                  generalize w68.drew = w69 at HO252 HO255 BK244 BK259 HB GG15 HQ70 hf15_0 hx15_0 hx260_0 hHeld ⊢
                  refine pure_ (i := 0) (N := some 43) (v := ?_) (a' := ?_) #[true, false, false, false, false, false, false, false, false, false, false] rfl rfl (any_of HT_.out (by kernel_rfl)) (fun _ _ _ h => h) (Or.inl ⟨by rfl, ?_⟩) ?_ ?_
                  rotate_left
                  · intro w'
                    go_simp
                    with_reducible rfl
                  rotate_left
                  · simp only [Act.put, List.setIfInBounds_toArray, List.set_cons_zero, List.set_cons_succ, i64_w, i32_w]
                    rfl
                  refine pure_ (i := 2) (N := some 45) (v := ?_) (a' := ?_) #[true, false, true, false, false, false, false, false, false, false, false] rfl rfl (any_of HT_.out (by kernel_rfl)) (fun _ _ _ h => h) (Or.inl ⟨by rfl, ?_⟩) ?_ ?_
                  rotate_left
                  · intro w'
                    go_simp
                    with_reducible rfl
                  rotate_left
                  · simp only [Act.put, List.setIfInBounds_toArray, List.set_cons_zero, List.set_cons_succ, i64_w, i32_w]
                    rfl
                  refine pure_ (i := 3) (N := some 46) (v := ?_) (a' := ?_) #[true, false, true, true, false, false, false, false, false, false, false] rfl rfl (any_of HT_.out (by kernel_rfl)) (fun _ _ _ h => h) (Or.inl ⟨by rfl, ?_⟩) ?_ ?_
                  rotate_left
                  · intro w'
                    go_simp
                    with_reducible rfl
                  rotate_left
                  · simp only [Act.put, List.setIfInBounds_toArray, List.set_cons_zero, List.set_cons_succ, i64_w, i32_w]
                    rfl
                  refine pure_ (i := 5) (N := some 48) (v := ?_) (a' := ?_) #[true, false, true, true, false, true, false, false, false, false, false] rfl rfl (any_of HT_.out (by kernel_rfl)) (fun _ _ _ h => h) (Or.inl ⟨by rfl, ?_⟩) ?_ ?_
                  rotate_left
                  · intro w'
                    go_simp
                    with_reducible rfl
                  rotate_left
                  · simp only [Act.put, List.setIfInBounds_toArray, List.set_cons_zero, List.set_cons_succ, i64_w, i32_w]
                    rfl
                  refine take_ (i := 1) (N := some 44) (v := ?_) (a' := ?_) #[true, true, true, true, false, true, false, false, false, false, false] rfl rfl (take_ofW HT_.out HW_.out (by kernel_rfl)) (fun _ _ _ h => h) (Or.inl ⟨by rfl, ?_⟩) hHeld ?_ ?_
                  rotate_left
                  · rintro w' ⟨s0, s1, s2, s3, s4, s5⟩
                    go_simp
                    with_reducible rfl
                  rotate_left
                  · simp only [Act.put, List.setIfInBounds_toArray, List.set_cons_zero, List.set_cons_succ, i64_w, i32_w]
                    rfl
                  refine take_ (i := 4) (N := some 47) (v := ?_) (a' := ?_) #[true, true, true, true, true, true, false, false, false, false, false] rfl rfl (take_ofW HT_.out HW_.out (by kernel_rfl)) (fun _ _ _ h => h) (Or.inl ⟨by rfl, ?_⟩) hHeld ?_ ?_
                  rotate_left
                  · rintro w' ⟨s0, s1, s2, s3, s4, s5⟩
                    go_simp
                    with_reducible rfl
                  rotate_left
                  · simp only [Act.put, List.setIfInBounds_toArray, List.set_cons_zero, List.set_cons_succ, i64_w, i32_w]
                    rfl
                  refine pure_ (i := 6) (N := some 49) (v := ?_) (a' := ?_) #[true, true, true, true, true, true, true, false, false, false, false] rfl rfl (any_of HT_.out (by kernel_rfl)) (fun _ _ _ h => h) (Or.inl ⟨by rfl, ?_⟩) ?_ ?_
                  rotate_left
                  · intro w'
                    go_simp
                    with_reducible rfl
                  rotate_left
                  · simp only [Act.put, List.setIfInBounds_toArray, List.set_cons_zero, List.set_cons_succ, i64_w, i32_w]
                    rfl
                  refine take_ (i := 7) (N := some 50) (v := ?_) (a' := ?_) #[true, true, true, true, true, true, true, true, false, false, false] rfl rfl (take_ofW HT_.out HW_.out (by kernel_rfl)) (fun _ _ _ h => h) (Or.inl ⟨by rfl, ?_⟩) hHeld ?_ ?_
                  rotate_left
                  · rintro w' ⟨s0, s1, s2, s3, s4, s5⟩
                    go_simp
                    with_reducible rfl
                  rotate_left
                  · simp only [Act.put, List.setIfInBounds_toArray, List.set_cons_zero, List.set_cons_succ, i64_w, i32_w]
                    rfl
                  refine pure_ (i := 8) (N := some 51) (v := ?_) (a' := ?_) #[true, true, true, true, true, true, true, true, true, false, false] rfl rfl (any_of HT_.out (by kernel_rfl)) (fun _ _ _ h => h) (Or.inl ⟨by rfl, ?_⟩) ?_ ?_
                  rotate_left
                  · intro w'
                    go_simp
                    with_reducible rfl
                  rotate_left
                  · simp only [Act.put, List.setIfInBounds_toArray, List.set_cons_zero, List.set_cons_succ, i64_w, i32_w]
                    rfl
                  refine pure_ (i := 9) (N := some 52) (v := ?_) (a' := ?_) #[true, true, true, true, true, true, true, true, true, true, false] rfl rfl (any_of HT_.out (by kernel_rfl)) (fun _ _ _ h => h) (Or.inl ⟨by rfl, ?_⟩) ?_ ?_
                  rotate_left
                  · intro w'
                    go_simp
                    with_reducible rfl
                  rotate_left
                  · simp only [Act.put, List.setIfInBounds_toArray, List.set_cons_zero, List.set_cons_succ, i64_w, i32_w]
                    rfl
                  refine last_ (i := 10) (N := none) #[true, true, true, true, true, true, true, true, true, true, true] rfl rfl (one_of HT_.out (by kernel_rfl)) (by decide) (fun K hK => ?_)
                  refine skip_ (w1 := ?_) (by rfl) rfl ?_ ?_
                  rotate_left
                  · go_simp
                    rfl
                  refine hK.out _ _ ?_
                  clear hK K
                  refine done_ (done_of HT_.out (by kernel_rfl)) ?_
                  have n0_ : Aside0 (Kd.R (Kd.int .i64) 3 (w69.setCell ⟨go15, ((ji12) : Int).toNat, none⟩ (.int .i64 (Go.bits .xor .i64 (rd t250 (ji12)) 1))) w.heap.size (fun k_ => some k_ ≠ (.slice Ao67 t253.length co67 : Value).ownBlock) (.slice (some ⟨go15, 0, none⟩) t250.length co64) y261) := ⟨by (with_reducible repeat (first | apply Kd.R_alloc | apply Kd.R_drewN | apply Kd.R_drew)); exact HQ70.out⟩
                  have n1_ : Aside0 (Kd.R (Kd.int .i64) 3 (w69.setCell ⟨go15, ((ji12) : Int).toNat, none⟩ (.int .i64 (Go.bits .xor .i64 (rd t250 (ji12)) 1))) w.heap.size (fun k_ => some k_ ≠ (.slice (some ⟨go15, 0, none⟩) t250.length co64 : Value).ownBlock) (.slice Ao67 t253.length co67) t253) := ⟨by (with_reducible repeat (first | apply Kd.R_alloc | apply Kd.R_drewN | apply Kd.R_drew)); exact Kd.R_mono (Kd.R_far (p := ⟨go15, ((ji12) : Int).toNat, none⟩) (Kd.R_mono HO255.out (fun k_ hk => (⟨hk, fun e_ => hk (by rw [e_]; rfl)⟩ : _ ∧ k_ ≠ go15))) (fun _ hk => hk.2) (.int .i64 (Go.bits .xor .i64 (rd t250 (ji12)) 1))) (fun _ hk => hk.1)⟩
                  have n2_ : Aside0 ((w69.setCell ⟨go15, ((ji12) : Int).toNat, none⟩ (.int .i64 (Go.bits .xor .i64 (rd t250 (ji12)) 1))).heap[gb244]? = some (.cells #[.slice A0_0 l0_0.length c0_0, .slice A0_1 l0_1.length c0_1, .int .i64 a0_2, .int .i64 a0_3, .int .i64 a0_4] 56 (0, 0))) := ⟨by (with_reducible repeat (first | refine blk_drewN ?_ _ | refine blk_drew ?_ | refine blk_alloc ?_ _)); refine blk_far ?_ (by have h_ := Kd.R_ne HO252.out BK244.out (by decide); intro e_; exact h_ (by rw [e_]; rfl)) _; (with_reducible repeat (first | refine blk_drewN ?_ _ | refine blk_drew ?_ | refine blk_alloc ?_ _)); exact BK244.out⟩
                  have n3_ : Aside0 ((w69.setCell ⟨go15, ((ji12) : Int).toNat, none⟩ (.int .i64 (Go.bits .xor .i64 (rd t250 (ji12)) 1))).heap[gb259]? = some (.cells #[.slice (some ⟨go15, 0, none⟩) t250.length co64, .slice Ao67 t253.length co67, .int .i64 t256, .int .i64 t257, .int .i64 t258] 56 (0, 0))) := ⟨by (with_reducible repeat (first | refine blk_drewN ?_ _ | refine blk_drew ?_ | refine blk_alloc ?_ _)); refine blk_far ?_ (by have h_ := Kd.R_ne HO252.out BK259.out (by decide); intro e_; exact h_ (by rw [e_]; rfl)) _; (with_reducible repeat (first | refine blk_drewN ?_ _ | refine blk_drew ?_ | refine blk_alloc ?_ _)); exact BK259.out⟩
                  have n4_ : Aside0 (Below w.heap.size w (w69.setCell ⟨go15, ((ji12) : Int).toNat, none⟩ (.int .i64 (Go.bits .xor .i64 (rd t250 (ji12)) 1)))) := ⟨by repeat (first | (with_reducible first | exact HB.out | apply below_alloc | apply pw_below_drewN | apply below_drew1 | refine below_set ?_ GB15.out | refine below_set ?_ GE244.out | refine below_set ?_ GE259.out) | exact HB.out)⟩
                  (try clear HO252)
                  (try clear HO255)
                  (try clear BK244)
                  (try clear BK259)
                  (try clear HB)
                  generalize (w69.setCell ⟨go15, ((ji12) : Int).toNat, none⟩ (.int .i64 (Go.bits .xor .i64 (rd t250 (ji12)) 1))) = w71 at n0_ n1_ n2_ n3_ n4_ ⊢
                  have HO252 := n0_
                  have HO255 := n1_
                  have BK244 := n2_
                  have BK259 := n3_
                  have HB := n4_
                  clear n0_ n1_ n2_ n3_ n4_
                  have hcz72_0 : w71.cell? ⟨gb259, 0, none⟩ = some (.slice (some ⟨go15, 0, none⟩) t250.length co64) := (blk_cell BK259.out 0).trans rfl
                  have hcz72_1 : w71.cell? ⟨gb259, 1, none⟩ = some (.slice Ao67 t253.length co67) := (blk_cell BK259.out 1).trans rfl
                  have hcz72_2 : w71.cell? ⟨gb259, 2, none⟩ = some (.int .i64 t256) := (blk_cell BK259.out 2).trans rfl
                  have hcz72_3 : w71.cell? ⟨gb259, 3, none⟩ = some (.int .i64 t257) := (blk_cell BK259.out 3).trans rfl
                  have hcz72_4 : w71.cell? ⟨gb259, 4, none⟩ = some (.int .i64 t258) := (blk_cell BK259.out 4).trans rfl
                  have hfz72_0 := blk_frozen BK259.out 0
                  have hfz72_1 := blk_frozen BK259.out 1
                  have hfz72_2 := blk_frozen BK259.out 2
                  have hfz72_3 := blk_frozen BK259.out 3
                  have hfz72_4 := blk_frozen BK259.out 4
                  try go_wp2_with (first | ((with_reducible refine gate_callee (f := 39) rfl ?_); refine goesL_ (some 65) rfl rfl Try.func39 (by kernel_rfl) rfl #[.agg #[.slice (some ⟨go15, 0, none⟩) y261.length co64, .slice Ao67 t253.length co67, .int .i64 t256, .int .i64 t257, .int .i64 t258]] rfl (by (try simp only [List.map_toArray, List.map_cons, List.map_nil]); first | done | (rw [show y261.length = t250.length from (Kd.R_reads' HO252.out).1.symm] <;> rfl) | rfl | (simp only [List.length_drop, List.length_take]; rfl)) ?_; (with_reducible refine (check_Put.calls k (fun k_ => some k_ = (.slice (some ⟨go15, 0, none⟩) t250.length co64 : Value).ownBlock) _ _ y261 (fun k_ => some k_ = (.slice Ao67 t253.length co67 : Value).ownBlock) _ _ t253 t256 t257 t258 t262 t263 _ ?side1 ?side2 A16.out).mono ?_); (case side1 => rw [show y261.length = t250.length from (Kd.R_reads' HO252.out).1.symm]; exact Kd.R_V (Kd.R_tight rfl (Kd.R_types (Kd.R_types (HO252.out) BK244.out (by decide)) BK259.out (by decide)))); (case side2 => exact Kd.R_V (Kd.R_tight rfl (Kd.R_types (Kd.R_types (HO255.out) BK244.out (by decide)) BK259.out (by decide)))); rintro e w73 ⟨rfl, hb⟩; refine ⟨_, rfl, ?_⟩; have n0_ := Aside0.mk (Kd.R_below (by (with_reducible repeat (first | apply Kd.R_alloc | apply Kd.R_drewN | apply Kd.R_drew)); exact HO252.out) hb); have n1_ := Aside0.mk (Kd.R_below (by (with_reducible repeat (first | apply Kd.R_alloc | apply Kd.R_drewN | apply Kd.R_drew)); exact HO255.out) hb); have n2_ := Aside0.mk (blk_below (g := gb244) (o := .cells #[.slice A0_0 l0_0.length c0_0, .slice A0_1 l0_1.length c0_1, .int .i64 a0_2, .int .i64 a0_3, .int .i64 a0_4] 56 (0, 0)) (by (with_reducible repeat (first | refine blk_drewN ?_ _ | refine blk_drew ?_ | refine blk_alloc ?_ _)); exact BK244.out) hb); have n3_ := Aside0.mk (blk_below (g := gb259) (o := .cells #[.slice (some ⟨go15, 0, none⟩) t250.length co64, .slice Ao67 t253.length co67, .int .i64 t256, .int .i64 t257, .int .i64 t258] 56 (0, 0)) (by (with_reducible repeat (first | refine blk_drewN ?_ _ | refine blk_drew ?_ | refine blk_alloc ?_ _)); exact BK259.out) hb); have n4_ := Aside0.mk (below_step (by repeat (first | (with_reducible first | exact HB.out | apply below_alloc | apply pw_below_drewN | apply below_drew1 | refine below_set ?_ GE244.out | refine below_set ?_ GE259.out) | exact HB.out)) hb); clear HO252; clear HO255; clear BK244; clear BK259; clear HB; have HO252 := n0_; have HO255 := n1_; have BK244 := n2_; have BK259 := n3_; have HB := n4_; clear n0_ n1_ n2_ n3_ n4_; (try clear hb); (try clear hb2); (try clear hk); (try clear hi); have hcz74_0 : w73.cell? ⟨gb244, 0, none⟩ = some (.slice A0_0 l0_0.length c0_0) := (blk_cell BK244.out 0).trans rfl; have hcz74_1 : w73.cell? ⟨gb244, 1, none⟩ = some (.slice A0_1 l0_1.length c0_1) := (blk_cell BK244.out 1).trans rfl; have hcz74_2 : w73.cell? ⟨gb244, 2, none⟩ = some (.int .i64 a0_2) := (blk_cell BK244.out 2).trans rfl; have hcz74_3 : w73.cell? ⟨gb244, 3, none⟩ = some (.int .i64 a0_3) := (blk_cell BK244.out 3).trans rfl; have hcz74_4 : w73.cell? ⟨gb244, 4, none⟩ = some (.int .i64 a0_4) := (blk_cell BK244.out 4).trans rfl; have hfz74_0 := blk_frozen BK244.out 0; have hfz74_1 := blk_frozen BK244.out 1; have hfz74_2 := blk_frozen BK244.out 2; have hfz74_3 := blk_frozen BK244.out 3; have hfz74_4 := blk_frozen BK244.out 4) | (go_at_call 26; (with_reducible refine (grafterlaw0_Num.calls t263 t264 _ A18.out).mono ?_); rintro e w' ⟨rfl, ⟨nd, rfl⟩⟩))
                  all_goals go_ret
                  all_goals exact ⟨by first | (simp only [← hji12_]; split <;> first | (exfalso; omega) | (simp [ByteArray.extract_zero_size]; done) | (simp [ByteArray.extract_zero_size, *]; done)) | rfl | (simp [errW_none, errW_some] <;> rfl) | (simp only [← hji12]; first | rfl | (simp [errW_none, errW_some] <;> rfl)) | (simp [*, errW_none, errW_some] <;> rfl), by repeat (first | (with_reducible first | exact HB.out | apply below_alloc | apply pw_below_drewN | apply below_drew1 | refine below_set ?_ GE244.out | refine below_set ?_ GE259.out) | exact HB.out)⟩
              · rw [if_neg c17] at H
                have c17b0 : ((t246.size : Int) == (wrap64 (10 + (wrap64 (8 * (l0_0.length : Int)))))) = false := beq_eq_false_iff_ne.mpr c17
                (try have c17b4 : ((t246.size : Int) == (10 + (wrap64 (8 * (l0_0.length : Int))))) = false := by (have h_ := beq_eq_false_iff_ne.mp c17b0; unfold wrap64 at h_; exact beq_eq_false_iff_ne.mpr (by omega)))
                have c17b1 : ((t246.size : Int) != (wrap64 (10 + (wrap64 (8 * (l0_0.length : Int)))))) = true := bne_iff_ne.mpr c17
                exact absurd ((Option.some.inj H).trans HRT.out) Bool.false_ne_true
            · rw [if_neg c14] at H
              exact absurd H (by simp)
          · rw [if_neg c13] at H
            exact absurd H (by simp)
        · rw [if_neg c11] at H
          have c11b0 : ((Go.bits .and .i64 a2 1) == 1) = false := beq_eq_false_iff_ne.mpr c11
          have c11b1 : ((Go.bits .and .i64 a2 1) != 1) = true := bne_iff_ne.mpr c11
          obtain ⟨ji93, hji93⟩ : ∃ j_ : Int, (wrap64 (Int.tmod (IntKind.u64.wrap (a1)) (IntKind.u64.wrap ((t250.length : Int))))) = j_ := ⟨_, rfl⟩
          replace H : (if 0 ≤ (ji93) then (if (ji93) < (t253.length : Int) then ((check_Put.f k t250 (t253.set ((ji93) : Int).toNat (Go.bits .xor .i64 (rd t253 (ji93)) 1)) t256 t257 t258).bind fun bt267 => (if (t246.size : Int) = (wrap64 (10 + (wrap64 (8 * (l0_0.length : Int))))) then ((grafterlaw0_Num.f bt267.2).bind fun t269 => (if t269 = 0 then (if (bt267.1.size : Int) = (t246.size : Int) then (some (t246.toList != bt267.1.toList)) else (some false)) else (some true))) else (some false))) else (none)) else (none)) = some r := by first | (rw [hji93] at H; exact H) | (simp only [hji93] at H ⊢; exact H)
          (try rw [hji93] at A4)
          (try rw [hji93] at A6)
          (try rw [hji93] at A7)
          (try rw [hji93] at A9)
          have hji93w : (IntKind.i64.wrap (Int.tmod (IntKind.u64.wrap (a1)) (IntKind.u64.wrap ((t250.length : Int))))) = ji93 := (i64_w _).trans hji93
          by_cases c94 : 0 ≤ (ji93)
          · rw [if_pos c94] at H
            have c94b0 : decide (0 ≤ (ji93)) = true := decide_eq_true c94
            clear c94
            by_cases c95 : (ji93) < (t253.length : Int)
            · rw [if_pos c95] at H
              have c95b0 : decide ((ji93) < (t253.length : Int)) = true := decide_eq_true c95
              clear c95
              obtain ⟨y266, hy266⟩ : ∃ y_ : List Int, y_ = (t253.set ((ji93) : Int).toNat (Go.bits .xor .i64 (rd t253 (ji93)) 1)) := ⟨_, rfl⟩
              replace H : ((check_Put.f k t250 y266 t256 t257 t258).bind fun bt267 => (if (t246.size : Int) = (wrap64 (10 + (wrap64 (8 * (l0_0.length : Int))))) then ((grafterlaw0_Num.f bt267.2).bind fun t269 => (if t269 = 0 then (if (bt267.1.size : Int) = (t246.size : Int) then (some (t246.toList != bt267.1.toList)) else (some false)) else (some true))) else (some false))) = some r := by first | (rw [hy266]; with_reducible exact H) | (have H2_ := (Option.bind_some _ _).symm.trans H; rw [hy266]; with_reducible exact H2_) | (have H2_ := (Option.bind_some _ _).symm.trans H; with_reducible exact H2_) | with_reducible exact H | (rw [hy266]; exact H) | exact H
              have Ny266 := Aside0.mk hy266
              clear hy266
              replace H := Option.bind_eq_some_iff.mp H
              obtain ⟨⟨t267, t268⟩, A970, H⟩ := H
              replace H : (if (t246.size : Int) = (wrap64 (10 + (wrap64 (8 * (l0_0.length : Int))))) then ((grafterlaw0_Num.f t268).bind fun t269 => (if t269 = 0 then (if (t267.size : Int) = (t246.size : Int) then (some (t246.toList != t267.toList)) else (some false)) else (some true))) else (some false)) = some r := H
              have A97 := Aside0.mk A970
              clear A970
              by_cases c98 : (t246.size : Int) = (wrap64 (10 + (wrap64 (8 * (l0_0.length : Int)))))
              · rw [if_pos c98] at H
                have c98b0 : ((t246.size : Int) == (wrap64 (10 + (wrap64 (8 * (l0_0.length : Int)))))) = true := beq_iff_eq.mpr c98
                (try have c98b4 : ((t246.size : Int) == (10 + (wrap64 (8 * (l0_0.length : Int))))) = true := by (have h_ := beq_iff_eq.mp c98b0; unfold wrap64 at h_; exact beq_iff_eq.mpr (by omega)))
                have c98b1 : ((t246.size : Int) != (wrap64 (10 + (wrap64 (8 * (l0_0.length : Int)))))) = false := bne_eq_false_iff_eq.mpr c98
                clear c98
                replace H := Option.bind_eq_some_iff.mp H
                obtain ⟨t269, A990, H⟩ := H
                replace H : (if t269 = 0 then (if (t267.size : Int) = (t246.size : Int) then (some (t246.toList != t267.toList)) else (some false)) else (some true)) = some r := H
                have A99 := Aside0.mk A990
                clear A990
                by_cases c100 : t269 = 0
                · rw [if_pos c100] at H
                  have c100b0 : (t269 == 0) = true := beq_iff_eq.mpr c100
                  have c100b1 : (t269 != 0) = false := bne_eq_false_iff_eq.mpr c100
                  clear c100
                  by_cases c101 : (t267.size : Int) = (t246.size : Int)
                  · rw [if_pos c101] at H
                    have c101b0 : ((t267.size : Int) == (t246.size : Int)) = true := beq_iff_eq.mpr c101
                    have c101b1 : ((t267.size : Int) != (t246.size : Int)) = false := bne_eq_false_iff_eq.mpr c101
                    have c101b2 : (t267.size == t246.size) = true := by first | simpa using c101 | (simp at c101 ⊢; omega)
                    clear c101
                    obtain rfl := Option.some.inj H
                    go_enter Try.func16, Try.ntmps16
                    try go_wp2_with (first | ((with_reducible refine gate_dst (N := 3) rfl ?_); (try (refine gate_guard (by rfl) ?_; dsimp only)); refine box_event ?hg (N := 3) ?hd (cs := #[.slice A0_0 l0_0.length c0_0, .slice A0_1 l0_1.length c0_1, .int .i64 a0_2, .int .i64 a0_3, .int .i64 a0_4]) (t := 56) ?hr ?_; (case hd => rfl); (case hg => rfl); (case hr => first | (go_simp; done) | (go_simp; rfl)); intro gb244 hg w102 hbox hb; have n0_ := Aside0.mk (below_step (by repeat (first | (with_reducible first | exact HB.out | apply below_alloc | apply pw_below_drewN | apply below_drew1) | exact HB.out)) hb); have n1_ := Aside0.mk (hbox); have n2_ := Aside0.mk ((by rw [hg]; exact (below_size (by repeat (first | (with_reducible first | exact HB.out | apply below_alloc | apply pw_below_drewN | apply below_drew1) | exact HB.out))) : w.heap.size ≤ gb244)); have n3_ := Aside0.mk ((by rw [hg]; exact (below_size (by repeat (first | (with_reducible first | exact HB.out | apply below_alloc | apply pw_below_drewN | apply below_drew1) | exact HB.out))) : w.heap.size ≤ gb244)); clear HB; have HB := n0_; have BK244 := n1_; have GW244 := n2_; have GE244 := n3_; clear n0_ n1_ n2_ n3_; clear hb hbox hg) | ((with_reducible refine gate_callee (f := 47) rfl ?_); refine goesL_ (some 13) rfl rfl Try.func47 (by kernel_rfl) rfl #[] rfl (by (try simp only [List.map_toArray, List.map_cons, List.map_nil]); first | done | rfl | (simp only [List.length_drop, List.length_take]; rfl)) ?_; (with_reducible refine (grafterlaw14_awake.calls k  true _ rfl A4.out).mono ?_); rintro e w103 ⟨rfl, hb⟩; refine ⟨_, rfl, ?_⟩; have n0_ := Aside0.mk (blk_below (g := gb244) (o := .cells #[.slice A0_0 l0_0.length c0_0, .slice A0_1 l0_1.length c0_1, .int .i64 a0_2, .int .i64 a0_3, .int .i64 a0_4] 56 (0, 0)) (by (with_reducible repeat (first | refine blk_drewN ?_ _ | refine blk_drew ?_ | refine blk_alloc ?_ _)); exact BK244.out) hb); have n1_ := Aside0.mk (below_step (by repeat (first | (with_reducible first | exact HB.out | apply below_alloc | apply pw_below_drewN | apply below_drew1 | refine below_set ?_ GE244.out) | exact HB.out)) hb); clear BK244; clear HB; have BK244 := n0_; have HB := n1_; clear n0_ n1_; (try clear hb); (try clear hb2); (try clear hk); (try clear hi); have hcz104_0 : w103.cell? ⟨gb244, 0, none⟩ = some (.slice A0_0 l0_0.length c0_0) := (blk_cell BK244.out 0).trans rfl; have hcz104_1 : w103.cell? ⟨gb244, 1, none⟩ = some (.slice A0_1 l0_1.length c0_1) := (blk_cell BK244.out 1).trans rfl; have hcz104_2 : w103.cell? ⟨gb244, 2, none⟩ = some (.int .i64 a0_2) := (blk_cell BK244.out 2).trans rfl; have hcz104_3 : w103.cell? ⟨gb244, 3, none⟩ = some (.int .i64 a0_3) := (blk_cell BK244.out 3).trans rfl; have hcz104_4 : w103.cell? ⟨gb244, 4, none⟩ = some (.int .i64 a0_4) := (blk_cell BK244.out 4).trans rfl; have hfz104_0 := blk_frozen BK244.out 0; have hfz104_1 := blk_frozen BK244.out 1; have hfz104_2 := blk_frozen BK244.out 2; have hfz104_3 := blk_frozen BK244.out 3; have hfz104_4 := blk_frozen BK244.out 4) | ((with_reducible refine gate_callee (f := 39) rfl ?_); refine goesL_ (some 17) rfl rfl Try.func39 (by kernel_rfl) rfl #[.agg #[.slice A0_0 l0_0.length c0_0, .slice A0_1 l0_1.length c0_1, .int .i64 a0_2, .int .i64 a0_3, .int .i64 a0_4]] rfl (by (try simp only [List.map_toArray, List.map_cons, List.map_nil]); first | done | rfl | (simp only [List.length_drop, List.length_take]; rfl)) ?_; (with_reducible refine (check_Put.calls k (fun k_ => k_ < w.heap.size) _ _ l0_0 (fun k_ => k_ < w.heap.size) _ _ l0_1 a0_2 a0_3 a0_4 t246 t247 _ ?side1 ?side2 A6.out).mono ?_); (case side1 => exact Kd.V_mk HC0_0.out (Kd.F_below (Kd.C_F (Kd.heap_int .i64) HR0_0.out) (by repeat (first | (with_reducible first | exact HB.out | apply below_alloc | apply pw_below_drewN | apply below_drew1 | refine below_set ?_ GE244.out) | exact HB.out)))); (case side2 => exact Kd.V_mk HC0_1.out (Kd.F_below (Kd.C_F (Kd.heap_int .i64) HR0_1.out) (by repeat (first | (with_reducible first | exact HB.out | apply below_alloc | apply pw_below_drewN | apply below_drew1 | refine below_set ?_ GE244.out) | exact HB.out)))); rintro e w105 ⟨rfl, hb⟩; refine ⟨_, rfl, ?_⟩; have n0_ := Aside0.mk (blk_below (g := gb244) (o := .cells #[.slice A0_0 l0_0.length c0_0, .slice A0_1 l0_1.length c0_1, .int .i64 a0_2, .int .i64 a0_3, .int .i64 a0_4] 56 (0, 0)) (by (with_reducible repeat (first | refine blk_drewN ?_ _ | refine blk_drew ?_ | refine blk_alloc ?_ _)); exact BK244.out) hb); have n1_ := Aside0.mk (below_step (by repeat (first | (with_reducible first | exact HB.out | apply below_alloc | apply pw_below_drewN | apply below_drew1 | refine below_set ?_ GE244.out) | exact HB.out)) hb); clear BK244; clear HB; have BK244 := n0_; have HB := n1_; clear n0_ n1_; (try clear hb); (try clear hb2); (try clear hk); (try clear hi)) | ((with_reducible refine gate_callee (f := 26) rfl ?_); refine goesL_ (some 21) rfl rfl Try.func26 (by kernel_rfl) rfl #[.int .i64 t247] rfl (by (try simp only [List.map_toArray, List.map_cons, List.map_nil]); first | done | rfl | (simp only [List.length_drop, List.length_take]; rfl)) ?_; (with_reducible refine (grafterlaw0_Num.calls t247 t248 _ A7.out).mono ?_); rintro e w' ⟨rfl, ⟨nd, rfl⟩⟩; refine ⟨_, rfl, ?_⟩; (try (rw [drewN_self w105]; generalize hq_ : World.drewN w105 _ = w105; have n0_ : Aside0 (w105.heap[gb244]? = some (.cells #[.slice A0_0 l0_0.length c0_0, .slice A0_1 l0_1.length c0_1, .int .i64 a0_2, .int .i64 a0_3, .int .i64 a0_4] 56 (0, 0))) := ⟨by rw [← hq_]; exact (by (with_reducible repeat (first | refine blk_drewN ?_ _ | refine blk_drew ?_ | refine blk_alloc ?_ _)); exact BK244.out)⟩; have n1_ : Aside0 (Below w.heap.size w w105) := ⟨by rw [← hq_]; exact (by repeat (first | (with_reducible first | exact HB.out | apply below_alloc | apply pw_below_drewN | apply below_drew1 | refine below_set ?_ GE244.out) | exact HB.out))⟩; clear BK244 HB hq_; have BK244 := n0_; have HB := n1_; clear n0_ n1_)); have hcz106_0 : w105.cell? ⟨gb244, 0, none⟩ = some (.slice A0_0 l0_0.length c0_0) := (blk_cell BK244.out 0).trans rfl; have hcz106_1 : w105.cell? ⟨gb244, 1, none⟩ = some (.slice A0_1 l0_1.length c0_1) := (blk_cell BK244.out 1).trans rfl; have hcz106_2 : w105.cell? ⟨gb244, 2, none⟩ = some (.int .i64 a0_2) := (blk_cell BK244.out 2).trans rfl; have hcz106_3 : w105.cell? ⟨gb244, 3, none⟩ = some (.int .i64 a0_3) := (blk_cell BK244.out 3).trans rfl; have hcz106_4 : w105.cell? ⟨gb244, 4, none⟩ = some (.int .i64 a0_4) := (blk_cell BK244.out 4).trans rfl; have hfz106_0 := blk_frozen BK244.out 0; have hfz106_1 := blk_frozen BK244.out 1; have hfz106_2 := blk_frozen BK244.out 2; have hfz106_3 := blk_frozen BK244.out 3; have hfz106_4 := blk_frozen BK244.out 4) | ((with_reducible refine gate_callee (f := 38) rfl ?_); refine goesL_ (some 31) rfl rfl Try.func38 (by kernel_rfl) rfl #[.agg #[.slice A0_0 l0_0.length c0_0, .slice A0_1 l0_1.length c0_1, .int .i64 a0_2, .int .i64 a0_3, .int .i64 a0_4]] rfl (by (try simp only [List.map_toArray, List.map_cons, List.map_nil]); first | done | rfl | (simp only [List.length_drop, List.length_take]; rfl)) ?_; (with_reducible refine (grafterlaw0_CopyCheck.calls _ _ l0_0 _ _ l0_1 a0_2 a0_3 a0_4 t250 t253 t256 t257 t258 _ ?side1 ?side2 ?side3 ?side4 A9.out).mono ?_); (case side1 => repeat (first | (with_reducible refine Kd.C_alloc ?_ _) | (with_reducible refine Kd.C_drewN ?_ _) | (with_reducible refine Kd.C_drew ?_) | exact (Kd.C_below HR0_0.out HB.out))); (case side2 => exact HC0_0.out); (case side3 => repeat (first | (with_reducible refine Kd.C_alloc ?_ _) | (with_reducible refine Kd.C_drewN ?_ _) | (with_reducible refine Kd.C_drew ?_) | exact (Kd.C_below HR0_1.out HB.out))); (case side4 => exact HC0_1.out); rintro e w107 ⟨v251, v254, rfl, ho0, ho1, hb⟩; refine ⟨_, rfl, ?_⟩; have n0_ := Aside0.mk (Kd.R_lower ho0 (below_size (by repeat (first | (with_reducible first | exact HB.out | apply below_alloc | apply pw_below_drewN | apply below_drew1 | refine below_set ?_ GE244.out) | exact HB.out)))); have n1_ := Aside0.mk (Kd.R_lower ho1 (below_size (by repeat (first | (with_reducible first | exact HB.out | apply below_alloc | apply pw_below_drewN | apply below_drew1 | refine below_set ?_ GE244.out) | exact HB.out)))); have n2_ := Aside0.mk (blk_below (g := gb244) (o := .cells #[.slice A0_0 l0_0.length c0_0, .slice A0_1 l0_1.length c0_1, .int .i64 a0_2, .int .i64 a0_3, .int .i64 a0_4] 56 (0, 0)) (by (with_reducible repeat (first | refine blk_drewN ?_ _ | refine blk_drew ?_ | refine blk_alloc ?_ _)); exact BK244.out) hb); have n3_ := Aside0.mk (below_step (by repeat (first | (with_reducible first | exact HB.out | apply below_alloc | apply pw_below_drewN | apply below_drew1 | refine below_set ?_ GE244.out) | exact HB.out)) hb); clear BK244; clear HB; have HO252 := n0_; have HO255 := n1_; have BK244 := n2_; have HB := n3_; clear n0_ n1_ n2_ n3_; (try clear hb); (try clear hb2); (try clear hk); (try clear hi); (try clear ho0); (try clear ho1)) | ((with_reducible refine gate_dst (N := 9) rfl ?_); (try (refine gate_guard (by rfl) ?_; dsimp only)); refine box_event ?hg (N := 9) ?hd (cs := #[.slice none 0 0, .slice none 0 0, .int .i64 0, .int .i64 0, .int .i64 0]) (t := 56) ?hr ?_; (case hd => rfl); (case hg => rfl); (case hr => first | (go_simp; done) | (go_simp; rfl)); intro gb259 hg w108 hbox hb; have n0_ := Aside0.mk (Kd.R_below (by (with_reducible repeat (first | apply Kd.R_alloc | apply Kd.R_drewN | apply Kd.R_drew)); exact HO252.out) hb); have n1_ := Aside0.mk (Kd.R_below (by (with_reducible repeat (first | apply Kd.R_alloc | apply Kd.R_drewN | apply Kd.R_drew)); exact HO255.out) hb); have n2_ := Aside0.mk (blk_below (g := gb244) (o := .cells #[.slice A0_0 l0_0.length c0_0, .slice A0_1 l0_1.length c0_1, .int .i64 a0_2, .int .i64 a0_3, .int .i64 a0_4] 56 (0, 0)) (by (with_reducible repeat (first | refine blk_drewN ?_ _ | refine blk_drew ?_ | refine blk_alloc ?_ _)); exact BK244.out) hb); have n3_ := Aside0.mk (below_step (by repeat (first | (with_reducible first | exact HB.out | apply below_alloc | apply pw_below_drewN | apply below_drew1 | refine below_set ?_ GE244.out) | exact HB.out)) hb); have n4_ := Aside0.mk (hbox); have n5_ := Aside0.mk ((by rw [hg]; exact (below_size (by repeat (first | (with_reducible first | exact HB.out | apply below_alloc | apply pw_below_drewN | apply below_drew1 | refine below_set ?_ GE244.out) | exact HB.out))) : w.heap.size ≤ gb259)); have n6_ := Aside0.mk ((by rw [hg]; exact (below_size (by repeat (first | (with_reducible first | exact HB.out | apply below_alloc | apply pw_below_drewN | apply below_drew1 | refine below_set ?_ GE244.out) | exact HB.out))) : w.heap.size ≤ gb259)); have n7_ := Aside0.mk ((by rw [hg]; exact Nat.ne_of_lt (blk_lt (g := gb244) (o := .cells #[.slice A0_0 l0_0.length c0_0, .slice A0_1 l0_1.length c0_1, .int .i64 a0_2, .int .i64 a0_3, .int .i64 a0_4] 56 (0, 0)) (by (with_reducible repeat (first | refine blk_drewN ?_ _ | refine blk_drew ?_ | refine blk_alloc ?_ _)); exact BK244.out)) : gb244 ≠ gb259)); have n8_ := Aside0.mk ((by rw [hg]; exact Nat.ne_of_gt (blk_lt (g := gb244) (o := .cells #[.slice A0_0 l0_0.length c0_0, .slice A0_1 l0_1.length c0_1, .int .i64 a0_2, .int .i64 a0_3, .int .i64 a0_4] 56 (0, 0)) (by (with_reducible repeat (first | refine blk_drewN ?_ _ | refine blk_drew ?_ | refine blk_alloc ?_ _)); exact BK244.out)) : gb259 ≠ gb244)); clear HO252; clear HO255; clear BK244; clear HB; have HO252 := n0_; have HO255 := n1_; have BK244 := n2_; have HB := n3_; have BK259 := n4_; have GW259 := n5_; have GE259 := n6_; have NB244_259 := n7_; have NB259_244 := n8_; clear n0_ n1_ n2_ n3_ n4_ n5_ n6_ n7_ n8_; clear hb hbox hg; obtain ⟨Ao109, co109, eo109⟩ := Kd.R_slice HO252.out; subst eo109; have hnb110 := NB259_244.out; have hnc110 := NB244_259.out; have hcz111_0 : w108.cell? ⟨gb259, 0, none⟩ = some (.slice none 0 0) := (blk_cell BK259.out 0).trans rfl; have hcz111_1 : w108.cell? ⟨gb259, 1, none⟩ = some (.slice none 0 0) := (blk_cell BK259.out 1).trans rfl; have hcz111_2 : w108.cell? ⟨gb259, 2, none⟩ = some (.int .i64 0) := (blk_cell BK259.out 2).trans rfl; have hcz111_3 : w108.cell? ⟨gb259, 3, none⟩ = some (.int .i64 0) := (blk_cell BK259.out 3).trans rfl; have hcz111_4 : w108.cell? ⟨gb259, 4, none⟩ = some (.int .i64 0) := (blk_cell BK259.out 4).trans rfl; have hfz111_0 := blk_frozen BK259.out 0; have hfz111_1 := blk_frozen BK259.out 1; have hfz111_2 := blk_frozen BK259.out 2; have hfz111_3 := blk_frozen BK259.out 3; have hfz111_4 := blk_frozen BK259.out 4; obtain ⟨Ao112, co112, eo112⟩ := Kd.R_slice HO255.out; subst eo112))
                    have n0_ : Aside0 (Kd.R (Kd.int .i64) 3 (((((w108.setCell ⟨gb259, 0, none⟩ (.slice Ao109 t250.length co109)).setCell ⟨gb259, 1, none⟩ (.slice Ao112 t253.length co112)).setCell ⟨gb259, 2, none⟩ (.int .i64 t256)).setCell ⟨gb259, 3, none⟩ (.int .i64 t257)).setCell ⟨gb259, 4, none⟩ (.int .i64 t258)) w.heap.size (fun k_ => some k_ ≠ (.slice Ao112 t253.length co112 : Value).ownBlock) (.slice Ao109 t250.length co109) t250) := ⟨by (with_reducible repeat (first | apply Kd.R_alloc | apply Kd.R_drewN | apply Kd.R_drew)); exact Kd.R_mono (Kd.R_far (p := ⟨gb259, 4, none⟩) (Kd.R_far (p := ⟨gb259, 3, none⟩) (Kd.R_far (p := ⟨gb259, 2, none⟩) (Kd.R_far (p := ⟨gb259, 1, none⟩) (Kd.R_far (p := ⟨gb259, 0, none⟩) (Kd.R_types HO252.out BK259.out (by decide)) (fun _ hk => hk.2) (.slice Ao109 t250.length co109)) (fun _ hk => hk.2) (.slice Ao112 t253.length co112)) (fun _ hk => hk.2) (.int .i64 t256)) (fun _ hk => hk.2) (.int .i64 t257)) (fun _ hk => hk.2) (.int .i64 t258)) (fun _ hk => hk.1)⟩
                    have n1_ : Aside0 (Kd.R (Kd.int .i64) 3 (((((w108.setCell ⟨gb259, 0, none⟩ (.slice Ao109 t250.length co109)).setCell ⟨gb259, 1, none⟩ (.slice Ao112 t253.length co112)).setCell ⟨gb259, 2, none⟩ (.int .i64 t256)).setCell ⟨gb259, 3, none⟩ (.int .i64 t257)).setCell ⟨gb259, 4, none⟩ (.int .i64 t258)) w.heap.size (fun k_ => some k_ ≠ (.slice Ao109 t250.length co109 : Value).ownBlock) (.slice Ao112 t253.length co112) t253) := ⟨by (with_reducible repeat (first | apply Kd.R_alloc | apply Kd.R_drewN | apply Kd.R_drew)); exact Kd.R_mono (Kd.R_far (p := ⟨gb259, 4, none⟩) (Kd.R_far (p := ⟨gb259, 3, none⟩) (Kd.R_far (p := ⟨gb259, 2, none⟩) (Kd.R_far (p := ⟨gb259, 1, none⟩) (Kd.R_far (p := ⟨gb259, 0, none⟩) (Kd.R_types HO255.out BK259.out (by decide)) (fun _ hk => hk.2) (.slice Ao109 t250.length co109)) (fun _ hk => hk.2) (.slice Ao112 t253.length co112)) (fun _ hk => hk.2) (.int .i64 t256)) (fun _ hk => hk.2) (.int .i64 t257)) (fun _ hk => hk.2) (.int .i64 t258)) (fun _ hk => hk.1)⟩
                    have n2_ : Aside0 ((((((w108.setCell ⟨gb259, 0, none⟩ (.slice Ao109 t250.length co109)).setCell ⟨gb259, 1, none⟩ (.slice Ao112 t253.length co112)).setCell ⟨gb259, 2, none⟩ (.int .i64 t256)).setCell ⟨gb259, 3, none⟩ (.int .i64 t257)).setCell ⟨gb259, 4, none⟩ (.int .i64 t258)).heap[gb244]? = some (.cells #[.slice A0_0 l0_0.length c0_0, .slice A0_1 l0_1.length c0_1, .int .i64 a0_2, .int .i64 a0_3, .int .i64 a0_4] 56 (0, 0))) := ⟨by (with_reducible repeat (first | refine blk_drewN ?_ _ | refine blk_drew ?_ | refine blk_alloc ?_ _)); refine blk_far ?_ NB244_259.out _; (with_reducible repeat (first | refine blk_drewN ?_ _ | refine blk_drew ?_ | refine blk_alloc ?_ _)); refine blk_far ?_ NB244_259.out _; (with_reducible repeat (first | refine blk_drewN ?_ _ | refine blk_drew ?_ | refine blk_alloc ?_ _)); refine blk_far ?_ NB244_259.out _; (with_reducible repeat (first | refine blk_drewN ?_ _ | refine blk_drew ?_ | refine blk_alloc ?_ _)); refine blk_far ?_ NB244_259.out _; (with_reducible repeat (first | refine blk_drewN ?_ _ | refine blk_drew ?_ | refine blk_alloc ?_ _)); refine blk_far ?_ NB244_259.out _; (with_reducible repeat (first | refine blk_drewN ?_ _ | refine blk_drew ?_ | refine blk_alloc ?_ _)); exact BK244.out⟩
                    have n3_ : Aside0 ((((((w108.setCell ⟨gb259, 0, none⟩ (.slice Ao109 t250.length co109)).setCell ⟨gb259, 1, none⟩ (.slice Ao112 t253.length co112)).setCell ⟨gb259, 2, none⟩ (.int .i64 t256)).setCell ⟨gb259, 3, none⟩ (.int .i64 t257)).setCell ⟨gb259, 4, none⟩ (.int .i64 t258)).heap[gb259]? = some (.cells #[.slice Ao109 t250.length co109, .slice Ao112 t253.length co112, .int .i64 t256, .int .i64 t257, .int .i64 t258] 56 (0, 0))) := ⟨by (with_reducible repeat (first | refine blk_drewN ?_ _ | refine blk_drew ?_ | refine blk_alloc ?_ _)); refine blk_put (cs := #[.slice Ao109 t250.length co109, .slice Ao112 t253.length co112, .int .i64 t256, .int .i64 t257, .int .i64 0]) ?_ 4 _ rfl; (with_reducible repeat (first | refine blk_drewN ?_ _ | refine blk_drew ?_ | refine blk_alloc ?_ _)); refine blk_put (cs := #[.slice Ao109 t250.length co109, .slice Ao112 t253.length co112, .int .i64 t256, .int .i64 0, .int .i64 0]) ?_ 3 _ rfl; (with_reducible repeat (first | refine blk_drewN ?_ _ | refine blk_drew ?_ | refine blk_alloc ?_ _)); refine blk_put (cs := #[.slice Ao109 t250.length co109, .slice Ao112 t253.length co112, .int .i64 0, .int .i64 0, .int .i64 0]) ?_ 2 _ rfl; (with_reducible repeat (first | refine blk_drewN ?_ _ | refine blk_drew ?_ | refine blk_alloc ?_ _)); refine blk_put (cs := #[.slice Ao109 t250.length co109, .slice none 0 0, .int .i64 0, .int .i64 0, .int .i64 0]) ?_ 1 _ rfl; (with_reducible repeat (first | refine blk_drewN ?_ _ | refine blk_drew ?_ | refine blk_alloc ?_ _)); refine blk_put (cs := #[.slice none 0 0, .slice none 0 0, .int .i64 0, .int .i64 0, .int .i64 0]) ?_ 0 _ rfl; (with_reducible repeat (first | refine blk_drewN ?_ _ | refine blk_drew ?_ | refine blk_alloc ?_ _)); exact BK259.out⟩
                    have n4_ : Aside0 (Below w.heap.size w (((((w108.setCell ⟨gb259, 0, none⟩ (.slice Ao109 t250.length co109)).setCell ⟨gb259, 1, none⟩ (.slice Ao112 t253.length co112)).setCell ⟨gb259, 2, none⟩ (.int .i64 t256)).setCell ⟨gb259, 3, none⟩ (.int .i64 t257)).setCell ⟨gb259, 4, none⟩ (.int .i64 t258))) := ⟨by repeat (first | (with_reducible first | exact HB.out | apply below_alloc | apply pw_below_drewN | apply below_drew1 | refine below_set ?_ GE244.out | refine below_set ?_ GE259.out) | exact HB.out)⟩
                    (try clear HO252)
                    (try clear HO255)
                    (try clear BK244)
                    (try clear BK259)
                    (try clear HB)
                    generalize (((((w108.setCell ⟨gb259, 0, none⟩ (.slice Ao109 t250.length co109)).setCell ⟨gb259, 1, none⟩ (.slice Ao112 t253.length co112)).setCell ⟨gb259, 2, none⟩ (.int .i64 t256)).setCell ⟨gb259, 3, none⟩ (.int .i64 t257)).setCell ⟨gb259, 4, none⟩ (.int .i64 t258)) = w113 at n0_ n1_ n2_ n3_ n4_ ⊢
                    have HO252 := n0_
                    have HO255 := n1_
                    have BK244 := n2_
                    have BK259 := n3_
                    have HB := n4_
                    clear n0_ n1_ n2_ n3_ n4_
                    have n0_ := Aside0.mk (Kd.R_drew HO252.out)
                    have n1_ := Aside0.mk (Kd.R_drew HO255.out)
                    have n2_ := Aside0.mk (blk_drew BK244.out)
                    have n3_ := Aside0.mk (blk_drew BK259.out)
                    have n4_ := Aside0.mk (below_drew1 HB.out)
                    clear HO252
                    clear HO255
                    clear BK244
                    clear BK259
                    clear HB
                    have HO252 := n0_
                    have HO255 := n1_
                    have BK244 := n2_
                    have BK259 := n3_
                    have HB := n4_
                    clear n0_ n1_ n2_ n3_ n4_
                    have p265 : 0 ≤ ((ji93) : Int) := of_decide_eq_true (by first | (with_reducible assumption) | assumption)
                    have q265 : (ji93) < (t253.length : Int) := of_decide_eq_true (by first | (with_reducible assumption) | assumption)
                    obtain ⟨ad265, e265, hx265_0⟩ := Kd.at_int (Kd.R_reads' HO255.out).2.2 (ji93) p265 q265
                    cases e265
                    replace p265 := eq_true p265
                    replace q265 := eq_true q265
                    have p96 : 0 ≤ ((ji93) : Int) := of_decide_eq_true (by first | (with_reducible assumption) | assumption)
                    have q96 : ((ji93) : Int) < ((t253.length : Int) : Int) := of_decide_eq_true (by first | (with_reducible assumption) | assumption)
                    obtain ⟨go96, co96, eo96, gb96, gl96, cl96, HG96⟩ := Kd.R_form HO255.out (by omega)
                    (first | cases eo96 | (injection eo96 with ea_ en_ ec_; (first | subst ea_ | (injection ea_ with ea_; subst ea_)); subst ec_; clear en_))
                    have GB96 := Aside0.mk gb96
                    have GG96 := Aside0.mk HG96
                    clear gb96 gl96 HG96
                    (first | simp only [add_plain] at hx265_0 | skip)
                    obtain ⟨hx96_0, hf96_0⟩ := Kd.R_celln 0 HO255.out ((ji93) : Int) p96 q96
                    replace p96 := eq_true p96
                    replace q96 := eq_true q96
                    have HP115 := Kd.R_putn HO255.out ((ji93) : Int) (Go.bits .xor .i64 (rd t253 (ji93)) 1)
                    rw [← Ny266.out] at HP115
                    have HQ115 := Aside0.mk HP115
                    clear HP115
                    refine start_ (n := 11) (S := fun w' => w'.cell? ⟨gb259, 0, none⟩ = some (.slice Ao109 t250.length co109) ∧ w'.cell? ⟨gb259, 1, none⟩ = some (.slice (some ⟨go96, 0, none⟩) t253.length co112) ∧ w'.cell? ⟨gb259, 2, none⟩ = some (.int .i64 t256) ∧ w'.cell? ⟨gb259, 3, none⟩ = some (.int .i64 t257) ∧ w'.cell? ⟨gb259, 4, none⟩ = some (.int .i64 t258) ∧ w'.cell? ⟨go96, ((ji93)).toNat, none⟩ = some (.int .i64 (rd t253 (ji93)))) (ds := [10]) #[false, false, false, false, false, false, false, false, false, false, false] (by kernel_rfl) rfl rfl ⟨(blk_cell BK259.out 0).trans rfl, (blk_cell BK259.out 1).trans rfl, (blk_cell BK259.out 2).trans rfl, (blk_cell BK259.out 3).trans rfl, (blk_cell BK259.out 4).trans rfl, hx265_0⟩ (fun hHeld => ?_); refine with_tabW grafterlaw14_CheckUnlike.tab10 grafterlaw14_CheckUnlike.bits10 (fun HT_ HW_ => ?_)
                    generalize w113.drew = w114 at HO252 HO255 BK244 BK259 HB GG96 HQ115 hf96_0 hx265_0 hx96_0 hHeld ⊢
                    refine pure_ (i := 0) (N := some 53) (v := ?_) (a' := ?_) #[true, false, false, false, false, false, false, false, false, false, false] rfl rfl (any_of HT_.out (by kernel_rfl)) (fun _ _ _ h => h) (Or.inl ⟨by rfl, ?_⟩) ?_ ?_
                    rotate_left
                    · intro w'
                      go_simp
                      with_reducible rfl
                    rotate_left
                    · simp only [Act.put, List.setIfInBounds_toArray, List.set_cons_zero, List.set_cons_succ, i64_w, i32_w]
                      rfl
                    refine pure_ (i := 2) (N := some 55) (v := ?_) (a' := ?_) #[true, false, true, false, false, false, false, false, false, false, false] rfl rfl (any_of HT_.out (by kernel_rfl)) (fun _ _ _ h => h) (Or.inl ⟨by rfl, ?_⟩) ?_ ?_
                    rotate_left
                    · intro w'
                      go_simp
                      with_reducible rfl
                    rotate_left
                    · simp only [Act.put, List.setIfInBounds_toArray, List.set_cons_zero, List.set_cons_succ, i64_w, i32_w]
                      rfl
                    refine pure_ (i := 3) (N := some 56) (v := ?_) (a' := ?_) #[true, false, true, true, false, false, false, false, false, false, false] rfl rfl (any_of HT_.out (by kernel_rfl)) (fun _ _ _ h => h) (Or.inl ⟨by rfl, ?_⟩) ?_ ?_
                    rotate_left
                    · intro w'
                      go_simp
                      with_reducible rfl
                    rotate_left
                    · simp only [Act.put, List.setIfInBounds_toArray, List.set_cons_zero, List.set_cons_succ, i64_w, i32_w]
                      rfl
                    refine pure_ (i := 5) (N := some 58) (v := ?_) (a' := ?_) #[true, false, true, true, false, true, false, false, false, false, false] rfl rfl (any_of HT_.out (by kernel_rfl)) (fun _ _ _ h => h) (Or.inl ⟨by rfl, ?_⟩) ?_ ?_
                    rotate_left
                    · intro w'
                      go_simp
                      with_reducible rfl
                    rotate_left
                    · simp only [Act.put, List.setIfInBounds_toArray, List.set_cons_zero, List.set_cons_succ, i64_w, i32_w]
                      rfl
                    refine take_ (i := 1) (N := some 54) (v := ?_) (a' := ?_) #[true, true, true, true, false, true, false, false, false, false, false] rfl rfl (take_ofW HT_.out HW_.out (by kernel_rfl)) (fun _ _ _ h => h) (Or.inl ⟨by rfl, ?_⟩) hHeld ?_ ?_
                    rotate_left
                    · rintro w' ⟨s0, s1, s2, s3, s4, s5⟩
                      go_simp
                      with_reducible rfl
                    rotate_left
                    · simp only [Act.put, List.setIfInBounds_toArray, List.set_cons_zero, List.set_cons_succ, i64_w, i32_w]
                      rfl
                    refine take_ (i := 4) (N := some 57) (v := ?_) (a' := ?_) #[true, true, true, true, true, true, false, false, false, false, false] rfl rfl (take_ofW HT_.out HW_.out (by kernel_rfl)) (fun _ _ _ h => h) (Or.inl ⟨by rfl, ?_⟩) hHeld ?_ ?_
                    rotate_left
                    · rintro w' ⟨s0, s1, s2, s3, s4, s5⟩
                      go_simp
                      with_reducible rfl
                    rotate_left
                    · simp only [Act.put, List.setIfInBounds_toArray, List.set_cons_zero, List.set_cons_succ, i64_w, i32_w]
                      rfl
                    refine pure_ (i := 6) (N := some 59) (v := ?_) (a' := ?_) #[true, true, true, true, true, true, true, false, false, false, false] rfl rfl (any_of HT_.out (by kernel_rfl)) (fun _ _ _ h => h) (Or.inl ⟨by rfl, ?_⟩) ?_ ?_
                    rotate_left
                    · intro w'
                      go_simp
                      with_reducible rfl
                    rotate_left
                    · simp only [Act.put, List.setIfInBounds_toArray, List.set_cons_zero, List.set_cons_succ, i64_w, i32_w]
                      rfl
                    refine take_ (i := 7) (N := some 60) (v := ?_) (a' := ?_) #[true, true, true, true, true, true, true, true, false, false, false] rfl rfl (take_ofW HT_.out HW_.out (by kernel_rfl)) (fun _ _ _ h => h) (Or.inl ⟨by rfl, ?_⟩) hHeld ?_ ?_
                    rotate_left
                    · rintro w' ⟨s0, s1, s2, s3, s4, s5⟩
                      go_simp
                      with_reducible rfl
                    rotate_left
                    · simp only [Act.put, List.setIfInBounds_toArray, List.set_cons_zero, List.set_cons_succ, i64_w, i32_w]
                      rfl
                    refine pure_ (i := 8) (N := some 61) (v := ?_) (a' := ?_) #[true, true, true, true, true, true, true, true, true, false, false] rfl rfl (any_of HT_.out (by kernel_rfl)) (fun _ _ _ h => h) (Or.inl ⟨by rfl, ?_⟩) ?_ ?_
                    rotate_left
                    · intro w'
                      go_simp
                      with_reducible rfl
                    rotate_left
                    · simp only [Act.put, List.setIfInBounds_toArray, List.set_cons_zero, List.set_cons_succ, i64_w, i32_w]
                      rfl
                    refine pure_ (i := 9) (N := some 62) (v := ?_) (a' := ?_) #[true, true, true, true, true, true, true, true, true, true, false] rfl rfl (any_of HT_.out (by kernel_rfl)) (fun _ _ _ h => h) (Or.inl ⟨by rfl, ?_⟩) ?_ ?_
                    rotate_left
                    · intro w'
                      go_simp
                      with_reducible rfl
                    rotate_left
                    · simp only [Act.put, List.setIfInBounds_toArray, List.set_cons_zero, List.set_cons_succ, i64_w, i32_w]
                      rfl
                    refine last_ (i := 10) (N := none) #[true, true, true, true, true, true, true, true, true, true, true] rfl rfl (one_of HT_.out (by kernel_rfl)) (by decide) (fun K hK => ?_)
                    refine skip_ (w1 := ?_) (by rfl) rfl ?_ ?_
                    rotate_left
                    · go_simp
                      rfl
                    refine hK.out _ _ ?_
                    clear hK K
                    refine done_ (done_of HT_.out (by kernel_rfl)) ?_
                    have n0_ : Aside0 (Kd.R (Kd.int .i64) 3 (w114.setCell ⟨go96, ((ji93) : Int).toNat, none⟩ (.int .i64 (Go.bits .xor .i64 (rd t253 (ji93)) 1))) w.heap.size (fun k_ => some k_ ≠ (.slice (some ⟨go96, 0, none⟩) t253.length co112 : Value).ownBlock) (.slice Ao109 t250.length co109) t250) := ⟨by (with_reducible repeat (first | apply Kd.R_alloc | apply Kd.R_drewN | apply Kd.R_drew)); exact Kd.R_mono (Kd.R_far (p := ⟨go96, ((ji93) : Int).toNat, none⟩) (Kd.R_mono HO252.out (fun k_ hk => (⟨hk, fun e_ => hk (by rw [e_]; rfl)⟩ : _ ∧ k_ ≠ go96))) (fun _ hk => hk.2) (.int .i64 (Go.bits .xor .i64 (rd t253 (ji93)) 1))) (fun _ hk => hk.1)⟩
                    have n1_ : Aside0 (Kd.R (Kd.int .i64) 3 (w114.setCell ⟨go96, ((ji93) : Int).toNat, none⟩ (.int .i64 (Go.bits .xor .i64 (rd t253 (ji93)) 1))) w.heap.size (fun k_ => some k_ ≠ (.slice Ao109 t250.length co109 : Value).ownBlock) (.slice (some ⟨go96, 0, none⟩) t253.length co112) y266) := ⟨by (with_reducible repeat (first | apply Kd.R_alloc | apply Kd.R_drewN | apply Kd.R_drew)); exact HQ115.out⟩
                    have n2_ : Aside0 ((w114.setCell ⟨go96, ((ji93) : Int).toNat, none⟩ (.int .i64 (Go.bits .xor .i64 (rd t253 (ji93)) 1))).heap[gb244]? = some (.cells #[.slice A0_0 l0_0.length c0_0, .slice A0_1 l0_1.length c0_1, .int .i64 a0_2, .int .i64 a0_3, .int .i64 a0_4] 56 (0, 0))) := ⟨by (with_reducible repeat (first | refine blk_drewN ?_ _ | refine blk_drew ?_ | refine blk_alloc ?_ _)); refine blk_far ?_ (by have h_ := Kd.R_ne HO255.out BK244.out (by decide); intro e_; exact h_ (by rw [e_]; rfl)) _; (with_reducible repeat (first | refine blk_drewN ?_ _ | refine blk_drew ?_ | refine blk_alloc ?_ _)); exact BK244.out⟩
                    have n3_ : Aside0 ((w114.setCell ⟨go96, ((ji93) : Int).toNat, none⟩ (.int .i64 (Go.bits .xor .i64 (rd t253 (ji93)) 1))).heap[gb259]? = some (.cells #[.slice Ao109 t250.length co109, .slice (some ⟨go96, 0, none⟩) t253.length co112, .int .i64 t256, .int .i64 t257, .int .i64 t258] 56 (0, 0))) := ⟨by (with_reducible repeat (first | refine blk_drewN ?_ _ | refine blk_drew ?_ | refine blk_alloc ?_ _)); refine blk_far ?_ (by have h_ := Kd.R_ne HO255.out BK259.out (by decide); intro e_; exact h_ (by rw [e_]; rfl)) _; (with_reducible repeat (first | refine blk_drewN ?_ _ | refine blk_drew ?_ | refine blk_alloc ?_ _)); exact BK259.out⟩
                    have n4_ : Aside0 (Below w.heap.size w (w114.setCell ⟨go96, ((ji93) : Int).toNat, none⟩ (.int .i64 (Go.bits .xor .i64 (rd t253 (ji93)) 1)))) := ⟨by repeat (first | (with_reducible first | exact HB.out | apply below_alloc | apply pw_below_drewN | apply below_drew1 | refine below_set ?_ GB96.out | refine below_set ?_ GE244.out | refine below_set ?_ GE259.out) | exact HB.out)⟩
                    (try clear HO252)
                    (try clear HO255)
                    (try clear BK244)
                    (try clear BK259)
                    (try clear HB)
                    generalize (w114.setCell ⟨go96, ((ji93) : Int).toNat, none⟩ (.int .i64 (Go.bits .xor .i64 (rd t253 (ji93)) 1))) = w116 at n0_ n1_ n2_ n3_ n4_ ⊢
                    have HO252 := n0_
                    have HO255 := n1_
                    have BK244 := n2_
                    have BK259 := n3_
                    have HB := n4_
                    clear n0_ n1_ n2_ n3_ n4_
                    have hcz117_0 : w116.cell? ⟨gb259, 0, none⟩ = some (.slice Ao109 t250.length co109) := (blk_cell BK259.out 0).trans rfl
                    have hcz117_1 : w116.cell? ⟨gb259, 1, none⟩ = some (.slice (some ⟨go96, 0, none⟩) t253.length co112) := (blk_cell BK259.out 1).trans rfl
                    have hcz117_2 : w116.cell? ⟨gb259, 2, none⟩ = some (.int .i64 t256) := (blk_cell BK259.out 2).trans rfl
                    have hcz117_3 : w116.cell? ⟨gb259, 3, none⟩ = some (.int .i64 t257) := (blk_cell BK259.out 3).trans rfl
                    have hcz117_4 : w116.cell? ⟨gb259, 4, none⟩ = some (.int .i64 t258) := (blk_cell BK259.out 4).trans rfl
                    have hfz117_0 := blk_frozen BK259.out 0
                    have hfz117_1 := blk_frozen BK259.out 1
                    have hfz117_2 := blk_frozen BK259.out 2
                    have hfz117_3 := blk_frozen BK259.out 3
                    have hfz117_4 := blk_frozen BK259.out 4
                    try go_wp2_with (first | ((with_reducible refine gate_callee (f := 39) rfl ?_); refine goesL_ (some 65) rfl rfl Try.func39 (by kernel_rfl) rfl #[.agg #[.slice Ao109 t250.length co109, .slice (some ⟨go96, 0, none⟩) y266.length co112, .int .i64 t256, .int .i64 t257, .int .i64 t258]] rfl (by (try simp only [List.map_toArray, List.map_cons, List.map_nil]); first | done | (rw [show y266.length = t253.length from (Kd.R_reads' HO255.out).1.symm] <;> rfl) | rfl | (simp only [List.length_drop, List.length_take]; rfl)) ?_; (with_reducible refine (check_Put.calls k (fun k_ => some k_ = (.slice Ao109 t250.length co109 : Value).ownBlock) _ _ t250 (fun k_ => some k_ = (.slice (some ⟨go96, 0, none⟩) t253.length co112 : Value).ownBlock) _ _ y266 t256 t257 t258 t267 t268 _ ?side1 ?side2 A97.out).mono ?_); (case side1 => exact Kd.R_V (Kd.R_tight rfl (Kd.R_types (Kd.R_types (HO252.out) BK244.out (by decide)) BK259.out (by decide)))); (case side2 => rw [show y266.length = t253.length from (Kd.R_reads' HO255.out).1.symm]; exact Kd.R_V (Kd.R_tight rfl (Kd.R_types (Kd.R_types (HO255.out) BK244.out (by decide)) BK259.out (by decide)))); rintro e w118 ⟨rfl, hb⟩; refine ⟨_, rfl, ?_⟩; have n0_ := Aside0.mk (Kd.R_below (by (with_reducible repeat (first | apply Kd.R_alloc | apply Kd.R_drewN | apply Kd.R_drew)); exact HO252.out) hb); have n1_ := Aside0.mk (Kd.R_below (by (with_reducible repeat (first | apply Kd.R_alloc | apply Kd.R_drewN | apply Kd.R_drew)); exact HO255.out) hb); have n2_ := Aside0.mk (blk_below (g := gb244) (o := .cells #[.slice A0_0 l0_0.length c0_0, .slice A0_1 l0_1.length c0_1, .int .i64 a0_2, .int .i64 a0_3, .int .i64 a0_4] 56 (0, 0)) (by (with_reducible repeat (first | refine blk_drewN ?_ _ | refine blk_drew ?_ | refine blk_alloc ?_ _)); exact BK244.out) hb); have n3_ := Aside0.mk (blk_below (g := gb259) (o := .cells #[.slice Ao109 t250.length co109, .slice (some ⟨go96, 0, none⟩) t253.length co112, .int .i64 t256, .int .i64 t257, .int .i64 t258] 56 (0, 0)) (by (with_reducible repeat (first | refine blk_drewN ?_ _ | refine blk_drew ?_ | refine blk_alloc ?_ _)); exact BK259.out) hb); have n4_ := Aside0.mk (below_step (by repeat (first | (with_reducible first | exact HB.out | apply below_alloc | apply pw_below_drewN | apply below_drew1 | refine below_set ?_ GE244.out | refine below_set ?_ GE259.out) | exact HB.out)) hb); clear HO252; clear HO255; clear BK244; clear BK259; clear HB; have HO252 := n0_; have HO255 := n1_; have BK244 := n2_; have BK259 := n3_; have HB := n4_; clear n0_ n1_ n2_ n3_ n4_; (try clear hb); (try clear hb2); (try clear hk); (try clear hi); have hcz119_0 : w118.cell? ⟨gb244, 0, none⟩ = some (.slice A0_0 l0_0.length c0_0) := (blk_cell BK244.out 0).trans rfl; have hcz119_1 : w118.cell? ⟨gb244, 1, none⟩ = some (.slice A0_1 l0_1.length c0_1) := (blk_cell BK244.out 1).trans rfl; have hcz119_2 : w118.cell? ⟨gb244, 2, none⟩ = some (.int .i64 a0_2) := (blk_cell BK244.out 2).trans rfl; have hcz119_3 : w118.cell? ⟨gb244, 3, none⟩ = some (.int .i64 a0_3) := (blk_cell BK244.out 3).trans rfl; have hcz119_4 : w118.cell? ⟨gb244, 4, none⟩ = some (.int .i64 a0_4) := (blk_cell BK244.out 4).trans rfl; have hfz119_0 := blk_frozen BK244.out 0; have hfz119_1 := blk_frozen BK244.out 1; have hfz119_2 := blk_frozen BK244.out 2; have hfz119_3 := blk_frozen BK244.out 3; have hfz119_4 := blk_frozen BK244.out 4) | (go_at_call 26; (with_reducible refine (grafterlaw0_Num.calls t268 t269 _ A99.out).mono ?_); rintro e w' ⟨rfl, ⟨nd, rfl⟩⟩))
                    all_goals go_ret
                    all_goals exact ⟨by first | (simp only [← hji93_]; split <;> first | (exfalso; omega) | (simp [ByteArray.extract_zero_size]; done) | (simp [ByteArray.extract_zero_size, *]; done)) | rfl | (simp [errW_none, errW_some] <;> rfl) | (simp only [← hji93]; first | rfl | (simp [errW_none, errW_some] <;> rfl)) | (simp [*, errW_none, errW_some] <;> rfl), by repeat (first | (with_reducible first | exact HB.out | apply below_alloc | apply pw_below_drewN | apply below_drew1 | refine below_set ?_ GE244.out | refine below_set ?_ GE259.out) | exact HB.out)⟩
                  · rw [if_neg c101] at H
                    have c101b0 : ((t267.size : Int) == (t246.size : Int)) = false := beq_eq_false_iff_ne.mpr c101
                    have c101b1 : ((t267.size : Int) != (t246.size : Int)) = true := bne_iff_ne.mpr c101
                    have c101b2 : (t267.size == t246.size) = false := by first | simpa using c101 | (simp at c101 ⊢; omega)
                    exact absurd ((Option.some.inj H).trans HRT.out) Bool.false_ne_true
                · rw [if_neg c100] at H
                  have c100b0 : (t269 == 0) = false := beq_eq_false_iff_ne.mpr c100
                  have c100b1 : (t269 != 0) = true := bne_iff_ne.mpr c100
                  obtain rfl := Option.some.inj H
                  go_enter Try.func16, Try.ntmps16
                  try go_wp2_with (first | ((with_reducible refine gate_dst (N := 3) rfl ?_); (try (refine gate_guard (by rfl) ?_; dsimp only)); refine box_event ?hg (N := 3) ?hd (cs := #[.slice A0_0 l0_0.length c0_0, .slice A0_1 l0_1.length c0_1, .int .i64 a0_2, .int .i64 a0_3, .int .i64 a0_4]) (t := 56) ?hr ?_; (case hd => rfl); (case hg => rfl); (case hr => first | (go_simp; done) | (go_simp; rfl)); intro gb244 hg w138 hbox hb; have n0_ := Aside0.mk (below_step (by repeat (first | (with_reducible first | exact HB.out | apply below_alloc | apply pw_below_drewN | apply below_drew1) | exact HB.out)) hb); have n1_ := Aside0.mk (hbox); have n2_ := Aside0.mk ((by rw [hg]; exact (below_size (by repeat (first | (with_reducible first | exact HB.out | apply below_alloc | apply pw_below_drewN | apply below_drew1) | exact HB.out))) : w.heap.size ≤ gb244)); have n3_ := Aside0.mk ((by rw [hg]; exact (below_size (by repeat (first | (with_reducible first | exact HB.out | apply below_alloc | apply pw_below_drewN | apply below_drew1) | exact HB.out))) : w.heap.size ≤ gb244)); clear HB; have HB := n0_; have BK244 := n1_; have GW244 := n2_; have GE244 := n3_; clear n0_ n1_ n2_ n3_; clear hb hbox hg) | ((with_reducible refine gate_callee (f := 47) rfl ?_); refine goesL_ (some 13) rfl rfl Try.func47 (by kernel_rfl) rfl #[] rfl (by (try simp only [List.map_toArray, List.map_cons, List.map_nil]); first | done | rfl | (simp only [List.length_drop, List.length_take]; rfl)) ?_; (with_reducible refine (grafterlaw14_awake.calls k  true _ rfl A4.out).mono ?_); rintro e w139 ⟨rfl, hb⟩; refine ⟨_, rfl, ?_⟩; have n0_ := Aside0.mk (blk_below (g := gb244) (o := .cells #[.slice A0_0 l0_0.length c0_0, .slice A0_1 l0_1.length c0_1, .int .i64 a0_2, .int .i64 a0_3, .int .i64 a0_4] 56 (0, 0)) (by (with_reducible repeat (first | refine blk_drewN ?_ _ | refine blk_drew ?_ | refine blk_alloc ?_ _)); exact BK244.out) hb); have n1_ := Aside0.mk (below_step (by repeat (first | (with_reducible first | exact HB.out | apply below_alloc | apply pw_below_drewN | apply below_drew1 | refine below_set ?_ GE244.out) | exact HB.out)) hb); clear BK244; clear HB; have BK244 := n0_; have HB := n1_; clear n0_ n1_; (try clear hb); (try clear hb2); (try clear hk); (try clear hi); have hcz140_0 : w139.cell? ⟨gb244, 0, none⟩ = some (.slice A0_0 l0_0.length c0_0) := (blk_cell BK244.out 0).trans rfl; have hcz140_1 : w139.cell? ⟨gb244, 1, none⟩ = some (.slice A0_1 l0_1.length c0_1) := (blk_cell BK244.out 1).trans rfl; have hcz140_2 : w139.cell? ⟨gb244, 2, none⟩ = some (.int .i64 a0_2) := (blk_cell BK244.out 2).trans rfl; have hcz140_3 : w139.cell? ⟨gb244, 3, none⟩ = some (.int .i64 a0_3) := (blk_cell BK244.out 3).trans rfl; have hcz140_4 : w139.cell? ⟨gb244, 4, none⟩ = some (.int .i64 a0_4) := (blk_cell BK244.out 4).trans rfl; have hfz140_0 := blk_frozen BK244.out 0; have hfz140_1 := blk_frozen BK244.out 1; have hfz140_2 := blk_frozen BK244.out 2; have hfz140_3 := blk_frozen BK244.out 3; have hfz140_4 := blk_frozen BK244.out 4) | ((with_reducible refine gate_callee (f := 39) rfl ?_); refine goesL_ (some 17) rfl rfl Try.func39 (by kernel_rfl) rfl #[.agg #[.slice A0_0 l0_0.length c0_0, .slice A0_1 l0_1.length c0_1, .int .i64 a0_2, .int .i64 a0_3, .int .i64 a0_4]] rfl (by (try simp only [List.map_toArray, List.map_cons, List.map_nil]); first | done | rfl | (simp only [List.length_drop, List.length_take]; rfl)) ?_; (with_reducible refine (check_Put.calls k (fun k_ => k_ < w.heap.size) _ _ l0_0 (fun k_ => k_ < w.heap.size) _ _ l0_1 a0_2 a0_3 a0_4 t246 t247 _ ?side1 ?side2 A6.out).mono ?_); (case side1 => exact Kd.V_mk HC0_0.out (Kd.F_below (Kd.C_F (Kd.heap_int .i64) HR0_0.out) (by repeat (first | (with_reducible first | exact HB.out | apply below_alloc | apply pw_below_drewN | apply below_drew1 | refine below_set ?_ GE244.out) | exact HB.out)))); (case side2 => exact Kd.V_mk HC0_1.out (Kd.F_below (Kd.C_F (Kd.heap_int .i64) HR0_1.out) (by repeat (first | (with_reducible first | exact HB.out | apply below_alloc | apply pw_below_drewN | apply below_drew1 | refine below_set ?_ GE244.out) | exact HB.out)))); rintro e w141 ⟨rfl, hb⟩; refine ⟨_, rfl, ?_⟩; have n0_ := Aside0.mk (blk_below (g := gb244) (o := .cells #[.slice A0_0 l0_0.length c0_0, .slice A0_1 l0_1.length c0_1, .int .i64 a0_2, .int .i64 a0_3, .int .i64 a0_4] 56 (0, 0)) (by (with_reducible repeat (first | refine blk_drewN ?_ _ | refine blk_drew ?_ | refine blk_alloc ?_ _)); exact BK244.out) hb); have n1_ := Aside0.mk (below_step (by repeat (first | (with_reducible first | exact HB.out | apply below_alloc | apply pw_below_drewN | apply below_drew1 | refine below_set ?_ GE244.out) | exact HB.out)) hb); clear BK244; clear HB; have BK244 := n0_; have HB := n1_; clear n0_ n1_; (try clear hb); (try clear hb2); (try clear hk); (try clear hi)) | ((with_reducible refine gate_callee (f := 26) rfl ?_); refine goesL_ (some 21) rfl rfl Try.func26 (by kernel_rfl) rfl #[.int .i64 t247] rfl (by (try simp only [List.map_toArray, List.map_cons, List.map_nil]); first | done | rfl | (simp only [List.length_drop, List.length_take]; rfl)) ?_; (with_reducible refine (grafterlaw0_Num.calls t247 t248 _ A7.out).mono ?_); rintro e w' ⟨rfl, ⟨nd, rfl⟩⟩; refine ⟨_, rfl, ?_⟩; (try (rw [drewN_self w141]; generalize hq_ : World.drewN w141 _ = w141; have n0_ : Aside0 (w141.heap[gb244]? = some (.cells #[.slice A0_0 l0_0.length c0_0, .slice A0_1 l0_1.length c0_1, .int .i64 a0_2, .int .i64 a0_3, .int .i64 a0_4] 56 (0, 0))) := ⟨by rw [← hq_]; exact (by (with_reducible repeat (first | refine blk_drewN ?_ _ | refine blk_drew ?_ | refine blk_alloc ?_ _)); exact BK244.out)⟩; have n1_ : Aside0 (Below w.heap.size w w141) := ⟨by rw [← hq_]; exact (by repeat (first | (with_reducible first | exact HB.out | apply below_alloc | apply pw_below_drewN | apply below_drew1 | refine below_set ?_ GE244.out) | exact HB.out))⟩; clear BK244 HB hq_; have BK244 := n0_; have HB := n1_; clear n0_ n1_)); have hcz142_0 : w141.cell? ⟨gb244, 0, none⟩ = some (.slice A0_0 l0_0.length c0_0) := (blk_cell BK244.out 0).trans rfl; have hcz142_1 : w141.cell? ⟨gb244, 1, none⟩ = some (.slice A0_1 l0_1.length c0_1) := (blk_cell BK244.out 1).trans rfl; have hcz142_2 : w141.cell? ⟨gb244, 2, none⟩ = some (.int .i64 a0_2) := (blk_cell BK244.out 2).trans rfl; have hcz142_3 : w141.cell? ⟨gb244, 3, none⟩ = some (.int .i64 a0_3) := (blk_cell BK244.out 3).trans rfl; have hcz142_4 : w141.cell? ⟨gb244, 4, none⟩ = some (.int .i64 a0_4) := (blk_cell BK244.out 4).trans rfl; have hfz142_0 := blk_frozen BK244.out 0; have hfz142_1 := blk_frozen BK244.out 1; have hfz142_2 := blk_frozen BK244.out 2; have hfz142_3 := blk_frozen BK244.out 3; have hfz142_4 := blk_frozen BK244.out 4) | ((with_reducible refine gate_callee (f := 38) rfl ?_); refine goesL_ (some 31) rfl rfl Try.func38 (by kernel_rfl) rfl #[.agg #[.slice A0_0 l0_0.length c0_0, .slice A0_1 l0_1.length c0_1, .int .i64 a0_2, .int .i64 a0_3, .int .i64 a0_4]] rfl (by (try simp only [List.map_toArray, List.map_cons, List.map_nil]); first | done | rfl | (simp only [List.length_drop, List.length_take]; rfl)) ?_; (with_reducible refine (grafterlaw0_CopyCheck.calls _ _ l0_0 _ _ l0_1 a0_2 a0_3 a0_4 t250 t253 t256 t257 t258 _ ?side1 ?side2 ?side3 ?side4 A9.out).mono ?_); (case side1 => repeat (first | (with_reducible refine Kd.C_alloc ?_ _) | (with_reducible refine Kd.C_drewN ?_ _) | (with_reducible refine Kd.C_drew ?_) | exact (Kd.C_below HR0_0.out HB.out))); (case side2 => exact HC0_0.out); (case side3 => repeat (first | (with_reducible refine Kd.C_alloc ?_ _) | (with_reducible refine Kd.C_drewN ?_ _) | (with_reducible refine Kd.C_drew ?_) | exact (Kd.C_below HR0_1.out HB.out))); (case side4 => exact HC0_1.out); rintro e w143 ⟨v251, v254, rfl, ho0, ho1, hb⟩; refine ⟨_, rfl, ?_⟩; have n0_ := Aside0.mk (Kd.R_lower ho0 (below_size (by repeat (first | (with_reducible first | exact HB.out | apply below_alloc | apply pw_below_drewN | apply below_drew1 | refine below_set ?_ GE244.out) | exact HB.out)))); have n1_ := Aside0.mk (Kd.R_lower ho1 (below_size (by repeat (first | (with_reducible first | exact HB.out | apply below_alloc | apply pw_below_drewN | apply below_drew1 | refine below_set ?_ GE244.out) | exact HB.out)))); have n2_ := Aside0.mk (blk_below (g := gb244) (o := .cells #[.slice A0_0 l0_0.length c0_0, .slice A0_1 l0_1.length c0_1, .int .i64 a0_2, .int .i64 a0_3, .int .i64 a0_4] 56 (0, 0)) (by (with_reducible repeat (first | refine blk_drewN ?_ _ | refine blk_drew ?_ | refine blk_alloc ?_ _)); exact BK244.out) hb); have n3_ := Aside0.mk (below_step (by repeat (first | (with_reducible first | exact HB.out | apply below_alloc | apply pw_below_drewN | apply below_drew1 | refine below_set ?_ GE244.out) | exact HB.out)) hb); clear BK244; clear HB; have HO252 := n0_; have HO255 := n1_; have BK244 := n2_; have HB := n3_; clear n0_ n1_ n2_ n3_; (try clear hb); (try clear hb2); (try clear hk); (try clear hi); (try clear ho0); (try clear ho1)) | ((with_reducible refine gate_dst (N := 9) rfl ?_); (try (refine gate_guard (by rfl) ?_; dsimp only)); refine box_event ?hg (N := 9) ?hd (cs := #[.slice none 0 0, .slice none 0 0, .int .i64 0, .int .i64 0, .int .i64 0]) (t := 56) ?hr ?_; (case hd => rfl); (case hg => rfl); (case hr => first | (go_simp; done) | (go_simp; rfl)); intro gb259 hg w144 hbox hb; have n0_ := Aside0.mk (Kd.R_below (by (with_reducible repeat (first | apply Kd.R_alloc | apply Kd.R_drewN | apply Kd.R_drew)); exact HO252.out) hb); have n1_ := Aside0.mk (Kd.R_below (by (with_reducible repeat (first | apply Kd.R_alloc | apply Kd.R_drewN | apply Kd.R_drew)); exact HO255.out) hb); have n2_ := Aside0.mk (blk_below (g := gb244) (o := .cells #[.slice A0_0 l0_0.length c0_0, .slice A0_1 l0_1.length c0_1, .int .i64 a0_2, .int .i64 a0_3, .int .i64 a0_4] 56 (0, 0)) (by (with_reducible repeat (first | refine blk_drewN ?_ _ | refine blk_drew ?_ | refine blk_alloc ?_ _)); exact BK244.out) hb); have n3_ := Aside0.mk (below_step (by repeat (first | (with_reducible first | exact HB.out | apply below_alloc | apply pw_below_drewN | apply below_drew1 | refine below_set ?_ GE244.out) | exact HB.out)) hb); have n4_ := Aside0.mk (hbox); have n5_ := Aside0.mk ((by rw [hg]; exact (below_size (by repeat (first | (with_reducible first | exact HB.out | apply below_alloc | apply pw_below_drewN | apply below_drew1 | refine below_set ?_ GE244.out) | exact HB.out))) : w.heap.size ≤ gb259)); have n6_ := Aside0.mk ((by rw [hg]; exact (below_size (by repeat (first | (with_reducible first | exact HB.out | apply below_alloc | apply pw_below_drewN | apply below_drew1 | refine below_set ?_ GE244.out) | exact HB.out))) : w.heap.size ≤ gb259)); have n7_ := Aside0.mk ((by rw [hg]; exact Nat.ne_of_lt (blk_lt (g := gb244) (o := .cells #[.slice A0_0 l0_0.length c0_0, .slice A0_1 l0_1.length c0_1, .int .i64 a0_2, .int .i64 a0_3, .int .i64 a0_4] 56 (0, 0)) (by (with_reducible repeat (first | refine blk_drewN ?_ _ | refine blk_drew ?_ | refine blk_alloc ?_ _)); exact BK244.out)) : gb244 ≠ gb259)); have n8_ := Aside0.mk ((by rw [hg]; exact Nat.ne_of_gt (blk_lt (g := gb244) (o := .cells #[.slice A0_0 l0_0.length c0_0, .slice A0_1 l0_1.length c0_1, .int .i64 a0_2, .int .i64 a0_3, .int .i64 a0_4] 56 (0, 0)) (by (with_reducible repeat (first | refine blk_drewN ?_ _ | refine blk_drew ?_ | refine blk_alloc ?_ _)); exact BK244.out)) : gb259 ≠ gb244)); clear HO252; clear HO255; clear BK244; clear HB; have HO252 := n0_; have HO255 := n1_; have BK244 := n2_; have HB := n3_; have BK259 := n4_; have GW259 := n5_; have GE259 := n6_; have NB244_259 := n7_; have NB259_244 := n8_; clear n0_ n1_ n2_ n3_ n4_ n5_ n6_ n7_ n8_; clear hb hbox hg; obtain ⟨Ao145, co145, eo145⟩ := Kd.R_slice HO252.out; subst eo145; have hnb146 := NB259_244.out; have hnc146 := NB244_259.out; have hcz147_0 : w144.cell? ⟨gb259, 0, none⟩ = some (.slice none 0 0) := (blk_cell BK259.out 0).trans rfl; have hcz147_1 : w144.cell? ⟨gb259, 1, none⟩ = some (.slice none 0 0) := (blk_cell BK259.out 1).trans rfl; have hcz147_2 : w144.cell? ⟨gb259, 2, none⟩ = some (.int .i64 0) := (blk_cell BK259.out 2).trans rfl; have hcz147_3 : w144.cell? ⟨gb259, 3, none⟩ = some (.int .i64 0) := (blk_cell BK259.out 3).trans rfl; have hcz147_4 : w144.cell? ⟨gb259, 4, none⟩ = some (.int .i64 0) := (blk_cell BK259.out 4).trans rfl; have hfz147_0 := blk_frozen BK259.out 0; have hfz147_1 := blk_frozen BK259.out 1; have hfz147_2 := blk_frozen BK259.out 2; have hfz147_3 := blk_frozen BK259.out 3; have hfz147_4 := blk_frozen BK259.out 4; obtain ⟨Ao148, co148, eo148⟩ := Kd.R_slice HO255.out; subst eo148))
                  have n0_ : Aside0 (Kd.R (Kd.int .i64) 3 (((((w144.setCell ⟨gb259, 0, none⟩ (.slice Ao145 t250.length co145)).setCell ⟨gb259, 1, none⟩ (.slice Ao148 t253.length co148)).setCell ⟨gb259, 2, none⟩ (.int .i64 t256)).setCell ⟨gb259, 3, none⟩ (.int .i64 t257)).setCell ⟨gb259, 4, none⟩ (.int .i64 t258)) w.heap.size (fun k_ => some k_ ≠ (.slice Ao148 t253.length co148 : Value).ownBlock) (.slice Ao145 t250.length co145) t250) := ⟨by (with_reducible repeat (first | apply Kd.R_alloc | apply Kd.R_drewN | apply Kd.R_drew)); exact Kd.R_mono (Kd.R_far (p := ⟨gb259, 4, none⟩) (Kd.R_far (p := ⟨gb259, 3, none⟩) (Kd.R_far (p := ⟨gb259, 2, none⟩) (Kd.R_far (p := ⟨gb259, 1, none⟩) (Kd.R_far (p := ⟨gb259, 0, none⟩) (Kd.R_types HO252.out BK259.out (by decide)) (fun _ hk => hk.2) (.slice Ao145 t250.length co145)) (fun _ hk => hk.2) (.slice Ao148 t253.length co148)) (fun _ hk => hk.2) (.int .i64 t256)) (fun _ hk => hk.2) (.int .i64 t257)) (fun _ hk => hk.2) (.int .i64 t258)) (fun _ hk => hk.1)⟩
                  have n1_ : Aside0 (Kd.R (Kd.int .i64) 3 (((((w144.setCell ⟨gb259, 0, none⟩ (.slice Ao145 t250.length co145)).setCell ⟨gb259, 1, none⟩ (.slice Ao148 t253.length co148)).setCell ⟨gb259, 2, none⟩ (.int .i64 t256)).setCell ⟨gb259, 3, none⟩ (.int .i64 t257)).setCell ⟨gb259, 4, none⟩ (.int .i64 t258)) w.heap.size (fun k_ => some k_ ≠ (.slice Ao145 t250.length co145 : Value).ownBlock) (.slice Ao148 t253.length co148) t253) := ⟨by (with_reducible repeat (first | apply Kd.R_alloc | apply Kd.R_drewN | apply Kd.R_drew)); exact Kd.R_mono (Kd.R_far (p := ⟨gb259, 4, none⟩) (Kd.R_far (p := ⟨gb259, 3, none⟩) (Kd.R_far (p := ⟨gb259, 2, none⟩) (Kd.R_far (p := ⟨gb259, 1, none⟩) (Kd.R_far (p := ⟨gb259, 0, none⟩) (Kd.R_types HO255.out BK259.out (by decide)) (fun _ hk => hk.2) (.slice Ao145 t250.length co145)) (fun _ hk => hk.2) (.slice Ao148 t253.length co148)) (fun _ hk => hk.2) (.int .i64 t256)) (fun _ hk => hk.2) (.int .i64 t257)) (fun _ hk => hk.2) (.int .i64 t258)) (fun _ hk => hk.1)⟩
                  have n2_ : Aside0 ((((((w144.setCell ⟨gb259, 0, none⟩ (.slice Ao145 t250.length co145)).setCell ⟨gb259, 1, none⟩ (.slice Ao148 t253.length co148)).setCell ⟨gb259, 2, none⟩ (.int .i64 t256)).setCell ⟨gb259, 3, none⟩ (.int .i64 t257)).setCell ⟨gb259, 4, none⟩ (.int .i64 t258)).heap[gb244]? = some (.cells #[.slice A0_0 l0_0.length c0_0, .slice A0_1 l0_1.length c0_1, .int .i64 a0_2, .int .i64 a0_3, .int .i64 a0_4] 56 (0, 0))) := ⟨by (with_reducible repeat (first | refine blk_drewN ?_ _ | refine blk_drew ?_ | refine blk_alloc ?_ _)); refine blk_far ?_ NB244_259.out _; (with_reducible repeat (first | refine blk_drewN ?_ _ | refine blk_drew ?_ | refine blk_alloc ?_ _)); refine blk_far ?_ NB244_259.out _; (with_reducible repeat (first | refine blk_drewN ?_ _ | refine blk_drew ?_ | refine blk_alloc ?_ _)); refine blk_far ?_ NB244_259.out _; (with_reducible repeat (first | refine blk_drewN ?_ _ | refine blk_drew ?_ | refine blk_alloc ?_ _)); refine blk_far ?_ NB244_259.out _; (with_reducible repeat (first | refine blk_drewN ?_ _ | refine blk_drew ?_ | refine blk_alloc ?_ _)); refine blk_far ?_ NB244_259.out _; (with_reducible repeat (first | refine blk_drewN ?_ _ | refine blk_drew ?_ | refine blk_alloc ?_ _)); exact BK244.out⟩
                  have n3_ : Aside0 ((((((w144.setCell ⟨gb259, 0, none⟩ (.slice Ao145 t250.length co145)).setCell ⟨gb259, 1, none⟩ (.slice Ao148 t253.length co148)).setCell ⟨gb259, 2, none⟩ (.int .i64 t256)).setCell ⟨gb259, 3, none⟩ (.int .i64 t257)).setCell ⟨gb259, 4, none⟩ (.int .i64 t258)).heap[gb259]? = some (.cells #[.slice Ao145 t250.length co145, .slice Ao148 t253.length co148, .int .i64 t256, .int .i64 t257, .int .i64 t258] 56 (0, 0))) := ⟨by (with_reducible repeat (first | refine blk_drewN ?_ _ | refine blk_drew ?_ | refine blk_alloc ?_ _)); refine blk_put (cs := #[.slice Ao145 t250.length co145, .slice Ao148 t253.length co148, .int .i64 t256, .int .i64 t257, .int .i64 0]) ?_ 4 _ rfl; (with_reducible repeat (first | refine blk_drewN ?_ _ | refine blk_drew ?_ | refine blk_alloc ?_ _)); refine blk_put (cs := #[.slice Ao145 t250.length co145, .slice Ao148 t253.length co148, .int .i64 t256, .int .i64 0, .int .i64 0]) ?_ 3 _ rfl; (with_reducible repeat (first | refine blk_drewN ?_ _ | refine blk_drew ?_ | refine blk_alloc ?_ _)); refine blk_put (cs := #[.slice Ao145 t250.length co145, .slice Ao148 t253.length co148, .int .i64 0, .int .i64 0, .int .i64 0]) ?_ 2 _ rfl; (with_reducible repeat (first | refine blk_drewN ?_ _ | refine blk_drew ?_ | refine blk_alloc ?_ _)); refine blk_put (cs := #[.slice Ao145 t250.length co145, .slice none 0 0, .int .i64 0, .int .i64 0, .int .i64 0]) ?_ 1 _ rfl; (with_reducible repeat (first | refine blk_drewN ?_ _ | refine blk_drew ?_ | refine blk_alloc ?_ _)); refine blk_put (cs := #[.slice none 0 0, .slice none 0 0, .int .i64 0, .int .i64 0, .int .i64 0]) ?_ 0 _ rfl; (with_reducible repeat (first | refine blk_drewN ?_ _ | refine blk_drew ?_ | refine blk_alloc ?_ _)); exact BK259.out⟩
                  have n4_ : Aside0 (Below w.heap.size w (((((w144.setCell ⟨gb259, 0, none⟩ (.slice Ao145 t250.length co145)).setCell ⟨gb259, 1, none⟩ (.slice Ao148 t253.length co148)).setCell ⟨gb259, 2, none⟩ (.int .i64 t256)).setCell ⟨gb259, 3, none⟩ (.int .i64 t257)).setCell ⟨gb259, 4, none⟩ (.int .i64 t258))) := ⟨by repeat (first | (with_reducible first | exact HB.out | apply below_alloc | apply pw_below_drewN | apply below_drew1 | refine below_set ?_ GE244.out | refine below_set ?_ GE259.out) | exact HB.out)⟩
                  (try clear HO252)
                  (try clear HO255)
                  (try clear BK244)
                  (try clear BK259)
                  (try clear HB)
                  generalize (((((w144.setCell ⟨gb259, 0, none⟩ (.slice Ao145 t250.length co145)).setCell ⟨gb259, 1, none⟩ (.slice Ao148 t253.length co148)).setCell ⟨gb259, 2, none⟩ (.int .i64 t256)).setCell ⟨gb259, 3, none⟩ (.int .i64 t257)).setCell ⟨gb259, 4, none⟩ (.int .i64 t258)) = w149 at n0_ n1_ n2_ n3_ n4_ ⊢
                  have HO252 := n0_
                  have HO255 := n1_
                  have BK244 := n2_
                  have BK259 := n3_
                  have HB := n4_
                  clear n0_ n1_ n2_ n3_ n4_
                  have n0_ := Aside0.mk (Kd.R_drew HO252.out)
                  have n1_ := Aside0.mk (Kd.R_drew HO255.out)
                  have n2_ := Aside0.mk (blk_drew BK244.out)
                  have n3_ := Aside0.mk (blk_drew BK259.out)
                  have n4_ := Aside0.mk (below_drew1 HB.out)
                  clear HO252
                  clear HO255
                  clear BK244
                  clear BK259
                  clear HB
                  have HO252 := n0_
                  have HO255 := n1_
                  have BK244 := n2_
                  have BK259 := n3_
                  have HB := n4_
                  clear n0_ n1_ n2_ n3_ n4_
                  have p265 : 0 ≤ ((ji93) : Int) := of_decide_eq_true (by first | (with_reducible assumption) | assumption)
                  have q265 : (ji93) < (t253.length : Int) := of_decide_eq_true (by first | (with_reducible assumption) | assumption)
                  obtain ⟨ad265, e265, hx265_0⟩ := Kd.at_int (Kd.R_reads' HO255.out).2.2 (ji93) p265 q265
                  cases e265
                  replace p265 := eq_true p265
                  replace q265 := eq_true q265
                  have p96 : 0 ≤ ((ji93) : Int) := of_decide_eq_true (by first | (with_reducible assumption) | assumption)
                  have q96 : ((ji93) : Int) < ((t253.length : Int) : Int) := of_decide_eq_true (by first | (with_reducible assumption) | assumption)
                  obtain ⟨go96, co96, eo96, gb96, gl96, cl96, HG96⟩ := Kd.R_form HO255.out (by omega)
                  (first | cases eo96 | (injection eo96 with ea_ en_ ec_; (first | subst ea_ | (injection ea_ with ea_; subst ea_)); subst ec_; clear en_))
                  have GB96 := Aside0.mk gb96
                  have GG96 := Aside0.mk HG96
                  clear gb96 gl96 HG96
                  (first | simp only [add_plain] at hx265_0 | skip)
                  obtain ⟨hx96_0, hf96_0⟩ := Kd.R_celln 0 HO255.out ((ji93) : Int) p96 q96
                  replace p96 := eq_true p96
                  replace q96 := eq_true q96
                  have HP151 := Kd.R_putn HO255.out ((ji93) : Int) (Go.bits .xor .i64 (rd t253 (ji93)) 1)
                  rw [← Ny266.out] at HP151
                  have HQ151 := Aside0.mk HP151
                  clear HP151
                  refine start_ (n := 11) (S := fun w' => w'.cell? ⟨gb259, 0, none⟩ = some (.slice Ao145 t250.length co145) ∧ w'.cell? ⟨gb259, 1, none⟩ = some (.slice (some ⟨go96, 0, none⟩) t253.length co148) ∧ w'.cell? ⟨gb259, 2, none⟩ = some (.int .i64 t256) ∧ w'.cell? ⟨gb259, 3, none⟩ = some (.int .i64 t257) ∧ w'.cell? ⟨gb259, 4, none⟩ = some (.int .i64 t258) ∧ w'.cell? ⟨go96, ((ji93)).toNat, none⟩ = some (.int .i64 (rd t253 (ji93)))) (ds := [10]) #[false, false, false, false, false, false, false, false, false, false, false] (by kernel_rfl) rfl rfl ⟨(blk_cell BK259.out 0).trans rfl, (blk_cell BK259.out 1).trans rfl, (blk_cell BK259.out 2).trans rfl, (blk_cell BK259.out 3).trans rfl, (blk_cell BK259.out 4).trans rfl, hx265_0⟩ (fun hHeld => ?_); refine with_tabW grafterlaw14_CheckUnlike.tab10 grafterlaw14_CheckUnlike.bits10 (fun HT_ HW_ => ?_)
                  generalize w149.drew = w150 at HO252 HO255 BK244 BK259 HB GG96 HQ151 hf96_0 hx265_0 hx96_0 hHeld ⊢
                  refine pure_ (i := 0) (N := some 53) (v := ?_) (a' := ?_) #[true, false, false, false, false, false, false, false, false, false, false] rfl rfl (any_of HT_.out (by kernel_rfl)) (fun _ _ _ h => h) (Or.inl ⟨by rfl, ?_⟩) ?_ ?_
                  rotate_left
                  · intro w'
                    go_simp
                    with_reducible rfl
                  rotate_left
                  · simp only [Act.put, List.setIfInBounds_toArray, List.set_cons_zero, List.set_cons_succ, i64_w, i32_w]
                    rfl
                  refine pure_ (i := 2) (N := some 55) (v := ?_) (a' := ?_) #[true, false, true, false, false, false, false, false, false, false, false] rfl rfl (any_of HT_.out (by kernel_rfl)) (fun _ _ _ h => h) (Or.inl ⟨by rfl, ?_⟩) ?_ ?_
                  rotate_left
                  · intro w'
                    go_simp
                    with_reducible rfl
                  rotate_left
                  · simp only [Act.put, List.setIfInBounds_toArray, List.set_cons_zero, List.set_cons_succ, i64_w, i32_w]
                    rfl
                  refine pure_ (i := 3) (N := some 56) (v := ?_) (a' := ?_) #[true, false, true, true, false, false, false, false, false, false, false] rfl rfl (any_of HT_.out (by kernel_rfl)) (fun _ _ _ h => h) (Or.inl ⟨by rfl, ?_⟩) ?_ ?_
                  rotate_left
                  · intro w'
                    go_simp
                    with_reducible rfl
                  rotate_left
                  · simp only [Act.put, List.setIfInBounds_toArray, List.set_cons_zero, List.set_cons_succ, i64_w, i32_w]
                    rfl
                  refine pure_ (i := 5) (N := some 58) (v := ?_) (a' := ?_) #[true, false, true, true, false, true, false, false, false, false, false] rfl rfl (any_of HT_.out (by kernel_rfl)) (fun _ _ _ h => h) (Or.inl ⟨by rfl, ?_⟩) ?_ ?_
                  rotate_left
                  · intro w'
                    go_simp
                    with_reducible rfl
                  rotate_left
                  · simp only [Act.put, List.setIfInBounds_toArray, List.set_cons_zero, List.set_cons_succ, i64_w, i32_w]
                    rfl
                  refine take_ (i := 1) (N := some 54) (v := ?_) (a' := ?_) #[true, true, true, true, false, true, false, false, false, false, false] rfl rfl (take_ofW HT_.out HW_.out (by kernel_rfl)) (fun _ _ _ h => h) (Or.inl ⟨by rfl, ?_⟩) hHeld ?_ ?_
                  rotate_left
                  · rintro w' ⟨s0, s1, s2, s3, s4, s5⟩
                    go_simp
                    with_reducible rfl
                  rotate_left
                  · simp only [Act.put, List.setIfInBounds_toArray, List.set_cons_zero, List.set_cons_succ, i64_w, i32_w]
                    rfl
                  refine take_ (i := 4) (N := some 57) (v := ?_) (a' := ?_) #[true, true, true, true, true, true, false, false, false, false, false] rfl rfl (take_ofW HT_.out HW_.out (by kernel_rfl)) (fun _ _ _ h => h) (Or.inl ⟨by rfl, ?_⟩) hHeld ?_ ?_
                  rotate_left
                  · rintro w' ⟨s0, s1, s2, s3, s4, s5⟩
                    go_simp
                    with_reducible rfl
                  rotate_left
                  · simp only [Act.put, List.setIfInBounds_toArray, List.set_cons_zero, List.set_cons_succ, i64_w, i32_w]
                    rfl
                  refine pure_ (i := 6) (N := some 59) (v := ?_) (a' := ?_) #[true, true, true, true, true, true, true, false, false, false, false] rfl rfl (any_of HT_.out (by kernel_rfl)) (fun _ _ _ h => h) (Or.inl ⟨by rfl, ?_⟩) ?_ ?_
                  rotate_left
                  · intro w'
                    go_simp
                    with_reducible rfl
                  rotate_left
                  · simp only [Act.put, List.setIfInBounds_toArray, List.set_cons_zero, List.set_cons_succ, i64_w, i32_w]
                    rfl
                  refine take_ (i := 7) (N := some 60) (v := ?_) (a' := ?_) #[true, true, true, true, true, true, true, true, false, false, false] rfl rfl (take_ofW HT_.out HW_.out (by kernel_rfl)) (fun _ _ _ h => h) (Or.inl ⟨by rfl, ?_⟩) hHeld ?_ ?_
                  rotate_left
                  · rintro w' ⟨s0, s1, s2, s3, s4, s5⟩
                    go_simp
                    with_reducible rfl
                  rotate_left
                  · simp only [Act.put, List.setIfInBounds_toArray, List.set_cons_zero, List.set_cons_succ, i64_w, i32_w]
                    rfl
                  refine pure_ (i := 8) (N := some 61) (v := ?_) (a' := ?_) #[true, true, true, true, true, true, true, true, true, false, false] rfl rfl (any_of HT_.out (by kernel_rfl)) (fun _ _ _ h => h) (Or.inl ⟨by rfl, ?_⟩) ?_ ?_
                  rotate_left
                  · intro w'
                    go_simp
                    with_reducible rfl
                  rotate_left
                  · simp only [Act.put, List.setIfInBounds_toArray, List.set_cons_zero, List.set_cons_succ, i64_w, i32_w]
                    rfl
                  refine pure_ (i := 9) (N := some 62) (v := ?_) (a' := ?_) #[true, true, true, true, true, true, true, true, true, true, false] rfl rfl (any_of HT_.out (by kernel_rfl)) (fun _ _ _ h => h) (Or.inl ⟨by rfl, ?_⟩) ?_ ?_
                  rotate_left
                  · intro w'
                    go_simp
                    with_reducible rfl
                  rotate_left
                  · simp only [Act.put, List.setIfInBounds_toArray, List.set_cons_zero, List.set_cons_succ, i64_w, i32_w]
                    rfl
                  refine last_ (i := 10) (N := none) #[true, true, true, true, true, true, true, true, true, true, true] rfl rfl (one_of HT_.out (by kernel_rfl)) (by decide) (fun K hK => ?_)
                  refine skip_ (w1 := ?_) (by rfl) rfl ?_ ?_
                  rotate_left
                  · go_simp
                    rfl
                  refine hK.out _ _ ?_
                  clear hK K
                  refine done_ (done_of HT_.out (by kernel_rfl)) ?_
                  have n0_ : Aside0 (Kd.R (Kd.int .i64) 3 (w150.setCell ⟨go96, ((ji93) : Int).toNat, none⟩ (.int .i64 (Go.bits .xor .i64 (rd t253 (ji93)) 1))) w.heap.size (fun k_ => some k_ ≠ (.slice (some ⟨go96, 0, none⟩) t253.length co148 : Value).ownBlock) (.slice Ao145 t250.length co145) t250) := ⟨by (with_reducible repeat (first | apply Kd.R_alloc | apply Kd.R_drewN | apply Kd.R_drew)); exact Kd.R_mono (Kd.R_far (p := ⟨go96, ((ji93) : Int).toNat, none⟩) (Kd.R_mono HO252.out (fun k_ hk => (⟨hk, fun e_ => hk (by rw [e_]; rfl)⟩ : _ ∧ k_ ≠ go96))) (fun _ hk => hk.2) (.int .i64 (Go.bits .xor .i64 (rd t253 (ji93)) 1))) (fun _ hk => hk.1)⟩
                  have n1_ : Aside0 (Kd.R (Kd.int .i64) 3 (w150.setCell ⟨go96, ((ji93) : Int).toNat, none⟩ (.int .i64 (Go.bits .xor .i64 (rd t253 (ji93)) 1))) w.heap.size (fun k_ => some k_ ≠ (.slice Ao145 t250.length co145 : Value).ownBlock) (.slice (some ⟨go96, 0, none⟩) t253.length co148) y266) := ⟨by (with_reducible repeat (first | apply Kd.R_alloc | apply Kd.R_drewN | apply Kd.R_drew)); exact HQ151.out⟩
                  have n2_ : Aside0 ((w150.setCell ⟨go96, ((ji93) : Int).toNat, none⟩ (.int .i64 (Go.bits .xor .i64 (rd t253 (ji93)) 1))).heap[gb244]? = some (.cells #[.slice A0_0 l0_0.length c0_0, .slice A0_1 l0_1.length c0_1, .int .i64 a0_2, .int .i64 a0_3, .int .i64 a0_4] 56 (0, 0))) := ⟨by (with_reducible repeat (first | refine blk_drewN ?_ _ | refine blk_drew ?_ | refine blk_alloc ?_ _)); refine blk_far ?_ (by have h_ := Kd.R_ne HO255.out BK244.out (by decide); intro e_; exact h_ (by rw [e_]; rfl)) _; (with_reducible repeat (first | refine blk_drewN ?_ _ | refine blk_drew ?_ | refine blk_alloc ?_ _)); exact BK244.out⟩
                  have n3_ : Aside0 ((w150.setCell ⟨go96, ((ji93) : Int).toNat, none⟩ (.int .i64 (Go.bits .xor .i64 (rd t253 (ji93)) 1))).heap[gb259]? = some (.cells #[.slice Ao145 t250.length co145, .slice (some ⟨go96, 0, none⟩) t253.length co148, .int .i64 t256, .int .i64 t257, .int .i64 t258] 56 (0, 0))) := ⟨by (with_reducible repeat (first | refine blk_drewN ?_ _ | refine blk_drew ?_ | refine blk_alloc ?_ _)); refine blk_far ?_ (by have h_ := Kd.R_ne HO255.out BK259.out (by decide); intro e_; exact h_ (by rw [e_]; rfl)) _; (with_reducible repeat (first | refine blk_drewN ?_ _ | refine blk_drew ?_ | refine blk_alloc ?_ _)); exact BK259.out⟩
                  have n4_ : Aside0 (Below w.heap.size w (w150.setCell ⟨go96, ((ji93) : Int).toNat, none⟩ (.int .i64 (Go.bits .xor .i64 (rd t253 (ji93)) 1)))) := ⟨by repeat (first | (with_reducible first | exact HB.out | apply below_alloc | apply pw_below_drewN | apply below_drew1 | refine below_set ?_ GB96.out | refine below_set ?_ GE244.out | refine below_set ?_ GE259.out) | exact HB.out)⟩
                  (try clear HO252)
                  (try clear HO255)
                  (try clear BK244)
                  (try clear BK259)
                  (try clear HB)
                  generalize (w150.setCell ⟨go96, ((ji93) : Int).toNat, none⟩ (.int .i64 (Go.bits .xor .i64 (rd t253 (ji93)) 1))) = w152 at n0_ n1_ n2_ n3_ n4_ ⊢
                  have HO252 := n0_
                  have HO255 := n1_
                  have BK244 := n2_
                  have BK259 := n3_
                  have HB := n4_
                  clear n0_ n1_ n2_ n3_ n4_
                  have hcz153_0 : w152.cell? ⟨gb259, 0, none⟩ = some (.slice Ao145 t250.length co145) := (blk_cell BK259.out 0).trans rfl
                  have hcz153_1 : w152.cell? ⟨gb259, 1, none⟩ = some (.slice (some ⟨go96, 0, none⟩) t253.length co148) := (blk_cell BK259.out 1).trans rfl
                  have hcz153_2 : w152.cell? ⟨gb259, 2, none⟩ = some (.int .i64 t256) := (blk_cell BK259.out 2).trans rfl
                  have hcz153_3 : w152.cell? ⟨gb259, 3, none⟩ = some (.int .i64 t257) := (blk_cell BK259.out 3).trans rfl
                  have hcz153_4 : w152.cell? ⟨gb259, 4, none⟩ = some (.int .i64 t258) := (blk_cell BK259.out 4).trans rfl
                  have hfz153_0 := blk_frozen BK259.out 0
                  have hfz153_1 := blk_frozen BK259.out 1
                  have hfz153_2 := blk_frozen BK259.out 2
                  have hfz153_3 := blk_frozen BK259.out 3
                  have hfz153_4 := blk_frozen BK259.out 4
                  try go_wp2_with (first | ((with_reducible refine gate_callee (f := 39) rfl ?_); refine goesL_ (some 65) rfl rfl Try.func39 (by kernel_rfl) rfl #[.agg #[.slice Ao145 t250.length co145, .slice (some ⟨go96, 0, none⟩) y266.length co148, .int .i64 t256, .int .i64 t257, .int .i64 t258]] rfl (by (try simp only [List.map_toArray, List.map_cons, List.map_nil]); first | done | (rw [show y266.length = t253.length from (Kd.R_reads' HO255.out).1.symm] <;> rfl) | rfl | (simp only [List.length_drop, List.length_take]; rfl)) ?_; (with_reducible refine (check_Put.calls k (fun k_ => some k_ = (.slice Ao145 t250.length co145 : Value).ownBlock) _ _ t250 (fun k_ => some k_ = (.slice (some ⟨go96, 0, none⟩) t253.length co148 : Value).ownBlock) _ _ y266 t256 t257 t258 t267 t268 _ ?side1 ?side2 A97.out).mono ?_); (case side1 => exact Kd.R_V (Kd.R_tight rfl (Kd.R_types (Kd.R_types (HO252.out) BK244.out (by decide)) BK259.out (by decide)))); (case side2 => rw [show y266.length = t253.length from (Kd.R_reads' HO255.out).1.symm]; exact Kd.R_V (Kd.R_tight rfl (Kd.R_types (Kd.R_types (HO255.out) BK244.out (by decide)) BK259.out (by decide)))); rintro e w154 ⟨rfl, hb⟩; refine ⟨_, rfl, ?_⟩; have n0_ := Aside0.mk (Kd.R_below (by (with_reducible repeat (first | apply Kd.R_alloc | apply Kd.R_drewN | apply Kd.R_drew)); exact HO252.out) hb); have n1_ := Aside0.mk (Kd.R_below (by (with_reducible repeat (first | apply Kd.R_alloc | apply Kd.R_drewN | apply Kd.R_drew)); exact HO255.out) hb); have n2_ := Aside0.mk (blk_below (g := gb244) (o := .cells #[.slice A0_0 l0_0.length c0_0, .slice A0_1 l0_1.length c0_1, .int .i64 a0_2, .int .i64 a0_3, .int .i64 a0_4] 56 (0, 0)) (by (with_reducible repeat (first | refine blk_drewN ?_ _ | refine blk_drew ?_ | refine blk_alloc ?_ _)); exact BK244.out) hb); have n3_ := Aside0.mk (blk_below (g := gb259) (o := .cells #[.slice Ao145 t250.length co145, .slice (some ⟨go96, 0, none⟩) t253.length co148, .int .i64 t256, .int .i64 t257, .int .i64 t258] 56 (0, 0)) (by (with_reducible repeat (first | refine blk_drewN ?_ _ | refine blk_drew ?_ | refine blk_alloc ?_ _)); exact BK259.out) hb); have n4_ := Aside0.mk (below_step (by repeat (first | (with_reducible first | exact HB.out | apply below_alloc | apply pw_below_drewN | apply below_drew1 | refine below_set ?_ GE244.out | refine below_set ?_ GE259.out) | exact HB.out)) hb); clear HO252; clear HO255; clear BK244; clear BK259; clear HB; have HO252 := n0_; have HO255 := n1_; have BK244 := n2_; have BK259 := n3_; have HB := n4_; clear n0_ n1_ n2_ n3_ n4_; (try clear hb); (try clear hb2); (try clear hk); (try clear hi); have hcz155_0 : w154.cell? ⟨gb244, 0, none⟩ = some (.slice A0_0 l0_0.length c0_0) := (blk_cell BK244.out 0).trans rfl; have hcz155_1 : w154.cell? ⟨gb244, 1, none⟩ = some (.slice A0_1 l0_1.length c0_1) := (blk_cell BK244.out 1).trans rfl; have hcz155_2 : w154.cell? ⟨gb244, 2, none⟩ = some (.int .i64 a0_2) := (blk_cell BK244.out 2).trans rfl; have hcz155_3 : w154.cell? ⟨gb244, 3, none⟩ = some (.int .i64 a0_3) := (blk_cell BK244.out 3).trans rfl; have hcz155_4 : w154.cell? ⟨gb244, 4, none⟩ = some (.int .i64 a0_4) := (blk_cell BK244.out 4).trans rfl; have hfz155_0 := blk_frozen BK244.out 0; have hfz155_1 := blk_frozen BK244.out 1; have hfz155_2 := blk_frozen BK244.out 2; have hfz155_3 := blk_frozen BK244.out 3; have hfz155_4 := blk_frozen BK244.out 4) | (go_at_call 26; (with_reducible refine (grafterlaw0_Num.calls t268 t269 _ A99.out).mono ?_); rintro e w' ⟨rfl, ⟨nd, rfl⟩⟩))
                  all_goals go_ret
                  all_goals exact ⟨by first | (simp only [← hji93_]; split <;> first | (exfalso; omega) | (simp [ByteArray.extract_zero_size]; done) | (simp [ByteArray.extract_zero_size, *]; done)) | rfl | (simp [errW_none, errW_some] <;> rfl) | (simp only [← hji93]; first | rfl | (simp [errW_none, errW_some] <;> rfl)) | (simp [*, errW_none, errW_some] <;> rfl), by repeat (first | (with_reducible first | exact HB.out | apply below_alloc | apply pw_below_drewN | apply below_drew1 | refine below_set ?_ GE244.out | refine below_set ?_ GE259.out) | exact HB.out)⟩
              · rw [if_neg c98] at H
                have c98b0 : ((t246.size : Int) == (wrap64 (10 + (wrap64 (8 * (l0_0.length : Int)))))) = false := beq_eq_false_iff_ne.mpr c98
                (try have c98b4 : ((t246.size : Int) == (10 + (wrap64 (8 * (l0_0.length : Int))))) = false := by (have h_ := beq_eq_false_iff_ne.mp c98b0; unfold wrap64 at h_; exact beq_eq_false_iff_ne.mpr (by omega)))
                have c98b1 : ((t246.size : Int) != (wrap64 (10 + (wrap64 (8 * (l0_0.length : Int)))))) = true := bne_iff_ne.mpr c98
                exact absurd ((Option.some.inj H).trans HRT.out) Bool.false_ne_true
            · rw [if_neg c95] at H
              exact absurd H (by simp)
          · rw [if_neg c94] at H
            exact absurd H (by simp)
    · rw [if_neg c8] at H
      have c8b0 : (t248 == 0) = false := beq_eq_false_iff_ne.mpr c8
      have c8b1 : (t248 != 0) = true := bne_iff_ne.mpr c8
      by_cases c174 : t246.toList = ([] : List UInt8)
      · rw [if_pos c174] at H
        have c174b0 : (t246.toList == ([] : List UInt8)) = true := beq_iff_eq.mpr c174
        have c174b1 : (t246.toList != ([] : List UInt8)) = false := bne_eq_false_iff_eq.mpr c174
        clear c174
        replace H := Option.bind_eq_some_iff.mp H
        obtain ⟨t249, A1750, H⟩ := H
        replace H : (some (!t249)) = some r := H
        have A175 := Aside0.mk A1750
        clear A1750
        obtain rfl := Option.some.inj H
        go_enter Try.func16, Try.ntmps16
        go_wp2_with (first | ((with_reducible refine gate_dst (N := 3) rfl ?_); (try (refine gate_guard (by rfl) ?_; dsimp only)); refine box_event ?hg (N := 3) ?hd (cs := #[.slice A0_0 l0_0.length c0_0, .slice A0_1 l0_1.length c0_1, .int .i64 a0_2, .int .i64 a0_3, .int .i64 a0_4]) (t := 56) ?hr ?_; (case hd => rfl); (case hg => rfl); (case hr => first | (go_simp; done) | (go_simp; rfl)); intro gb244 hg w176 hbox hb; have n0_ := Aside0.mk (below_step (by repeat (first | (with_reducible first | exact HB.out | apply below_alloc | apply pw_below_drewN | apply below_drew1) | exact HB.out)) hb); have n1_ := Aside0.mk (hbox); have n2_ := Aside0.mk ((by rw [hg]; exact (below_size (by repeat (first | (with_reducible first | exact HB.out | apply below_alloc | apply pw_below_drewN | apply below_drew1) | exact HB.out))) : w.heap.size ≤ gb244)); have n3_ := Aside0.mk ((by rw [hg]; exact (below_size (by repeat (first | (with_reducible first | exact HB.out | apply below_alloc | apply pw_below_drewN | apply below_drew1) | exact HB.out))) : w.heap.size ≤ gb244)); clear HB; have HB := n0_; have BK244 := n1_; have GW244 := n2_; have GE244 := n3_; clear n0_ n1_ n2_ n3_; clear hb hbox hg) | ((with_reducible refine gate_callee (f := 47) rfl ?_); refine goesL_ (some 13) rfl rfl Try.func47 (by kernel_rfl) rfl #[] rfl (by (try simp only [List.map_toArray, List.map_cons, List.map_nil]); first | done | rfl | (simp only [List.length_drop, List.length_take]; rfl)) ?_; (with_reducible refine (grafterlaw14_awake.calls k  true _ rfl A4.out).mono ?_); rintro e w177 ⟨rfl, hb⟩; refine ⟨_, rfl, ?_⟩; have n0_ := Aside0.mk (blk_below (g := gb244) (o := .cells #[.slice A0_0 l0_0.length c0_0, .slice A0_1 l0_1.length c0_1, .int .i64 a0_2, .int .i64 a0_3, .int .i64 a0_4] 56 (0, 0)) (by (with_reducible repeat (first | refine blk_drewN ?_ _ | refine blk_drew ?_ | refine blk_alloc ?_ _)); exact BK244.out) hb); have n1_ := Aside0.mk (below_step (by repeat (first | (with_reducible first | exact HB.out | apply below_alloc | apply pw_below_drewN | apply below_drew1 | refine below_set ?_ GE244.out) | exact HB.out)) hb); clear BK244; clear HB; have BK244 := n0_; have HB := n1_; clear n0_ n1_; (try clear hb); (try clear hb2); (try clear hk); (try clear hi); have hcz178_0 : w177.cell? ⟨gb244, 0, none⟩ = some (.slice A0_0 l0_0.length c0_0) := (blk_cell BK244.out 0).trans rfl; have hcz178_1 : w177.cell? ⟨gb244, 1, none⟩ = some (.slice A0_1 l0_1.length c0_1) := (blk_cell BK244.out 1).trans rfl; have hcz178_2 : w177.cell? ⟨gb244, 2, none⟩ = some (.int .i64 a0_2) := (blk_cell BK244.out 2).trans rfl; have hcz178_3 : w177.cell? ⟨gb244, 3, none⟩ = some (.int .i64 a0_3) := (blk_cell BK244.out 3).trans rfl; have hcz178_4 : w177.cell? ⟨gb244, 4, none⟩ = some (.int .i64 a0_4) := (blk_cell BK244.out 4).trans rfl; have hfz178_0 := blk_frozen BK244.out 0; have hfz178_1 := blk_frozen BK244.out 1; have hfz178_2 := blk_frozen BK244.out 2; have hfz178_3 := blk_frozen BK244.out 3; have hfz178_4 := blk_frozen BK244.out 4) | ((with_reducible refine gate_callee (f := 39) rfl ?_); refine goesL_ (some 17) rfl rfl Try.func39 (by kernel_rfl) rfl #[.agg #[.slice A0_0 l0_0.length c0_0, .slice A0_1 l0_1.length c0_1, .int .i64 a0_2, .int .i64 a0_3, .int .i64 a0_4]] rfl (by (try simp only [List.map_toArray, List.map_cons, List.map_nil]); first | done | rfl | (simp only [List.length_drop, List.length_take]; rfl)) ?_; (with_reducible refine (check_Put.calls k (fun k_ => k_ < w.heap.size) _ _ l0_0 (fun k_ => k_ < w.heap.size) _ _ l0_1 a0_2 a0_3 a0_4 t246 t247 _ ?side1 ?side2 A6.out).mono ?_); (case side1 => exact Kd.V_mk HC0_0.out (Kd.F_below (Kd.C_F (Kd.heap_int .i64) HR0_0.out) (by repeat (first | (with_reducible first | exact HB.out | apply below_alloc | apply pw_below_drewN | apply below_drew1 | refine below_set ?_ GE244.out) | exact HB.out)))); (case side2 => exact Kd.V_mk HC0_1.out (Kd.F_below (Kd.C_F (Kd.heap_int .i64) HR0_1.out) (by repeat (first | (with_reducible first | exact HB.out | apply below_alloc | apply pw_below_drewN | apply below_drew1 | refine below_set ?_ GE244.out) | exact HB.out)))); rintro e w179 ⟨rfl, hb⟩; refine ⟨_, rfl, ?_⟩; have n0_ := Aside0.mk (blk_below (g := gb244) (o := .cells #[.slice A0_0 l0_0.length c0_0, .slice A0_1 l0_1.length c0_1, .int .i64 a0_2, .int .i64 a0_3, .int .i64 a0_4] 56 (0, 0)) (by (with_reducible repeat (first | refine blk_drewN ?_ _ | refine blk_drew ?_ | refine blk_alloc ?_ _)); exact BK244.out) hb); have n1_ := Aside0.mk (below_step (by repeat (first | (with_reducible first | exact HB.out | apply below_alloc | apply pw_below_drewN | apply below_drew1 | refine below_set ?_ GE244.out) | exact HB.out)) hb); clear BK244; clear HB; have BK244 := n0_; have HB := n1_; clear n0_ n1_; (try clear hb); (try clear hb2); (try clear hk); (try clear hi)) | ((with_reducible refine gate_callee (f := 26) rfl ?_); refine goesL_ (some 21) rfl rfl Try.func26 (by kernel_rfl) rfl #[.int .i64 t247] rfl (by (try simp only [List.map_toArray, List.map_cons, List.map_nil]); first | done | rfl | (simp only [List.length_drop, List.length_take]; rfl)) ?_; (with_reducible refine (grafterlaw0_Num.calls t247 t248 _ A7.out).mono ?_); rintro e w' ⟨rfl, ⟨nd, rfl⟩⟩; refine ⟨_, rfl, ?_⟩; have hcz180_0 : w179.cell? ⟨gb244, 0, none⟩ = some (.slice A0_0 l0_0.length c0_0) := (blk_cell BK244.out 0).trans rfl; have hcz180_1 : w179.cell? ⟨gb244, 1, none⟩ = some (.slice A0_1 l0_1.length c0_1) := (blk_cell BK244.out 1).trans rfl; have hcz180_2 : w179.cell? ⟨gb244, 2, none⟩ = some (.int .i64 a0_2) := (blk_cell BK244.out 2).trans rfl; have hcz180_3 : w179.cell? ⟨gb244, 3, none⟩ = some (.int .i64 a0_3) := (blk_cell BK244.out 3).trans rfl; have hcz180_4 : w179.cell? ⟨gb244, 4, none⟩ = some (.int .i64 a0_4) := (blk_cell BK244.out 4).trans rfl; have hfz180_0 := blk_frozen BK244.out 0; have hfz180_1 := blk_frozen BK244.out 1; have hfz180_2 := blk_frozen BK244.out 2; have hfz180_3 := blk_frozen BK244.out 3; have hfz180_4 := blk_frozen BK244.out 4) | (go_at_call 44; (with_reducible refine (check_May.calls k (fun k_ => k_ < w.heap.size) _ _ l0_0 (fun k_ => k_ < w.heap.size) _ _ l0_1 a0_2 a0_3 a0_4 t249 _ ?side1 ?side2 A175.out).mono ?_); (case side1 => exact Kd.V_mk HC0_0.out (Kd.F_below (Kd.C_F (Kd.heap_int .i64) HR0_0.out) (by repeat (first | (with_reducible first | exact HB.out | apply below_alloc | apply pw_below_drewN | apply below_drew1 | refine below_set ?_ GE244.out) | exact HB.out)))); (case side2 => exact Kd.V_mk HC0_1.out (Kd.F_below (Kd.C_F (Kd.heap_int .i64) HR0_1.out) (by repeat (first | (with_reducible first | exact HB.out | apply below_alloc | apply pw_below_drewN | apply below_drew1 | refine below_set ?_ GE244.out) | exact HB.out)))); rintro e w181 ⟨rfl, hb⟩; have n0_ := Aside0.mk (blk_below (g := gb244) (o := .cells #[.slice A0_0 l0_0.length c0_0, .slice A0_1 l0_1.length c0_1, .int .i64 a0_2, .int .i64 a0_3, .int .i64 a0_4] 56 (0, 0)) (by (with_reducible repeat (first | refine blk_drewN ?_ _ | refine blk_drew ?_ | refine blk_alloc ?_ _)); exact BK244.out) hb); have n1_ := Aside0.mk (below_step (by repeat (first | (with_reducible first | exact HB.out | apply below_alloc | apply pw_below_drewN | apply below_drew1 | refine below_set ?_ GE244.out) | exact HB.out)) hb); clear BK244; clear HB; have BK244 := n0_; have HB := n1_; clear n0_ n1_; (try clear hb); (try clear hb2); (try clear hk); (try clear hi)))
        go_ret
        exact ⟨by first | rfl | (simp [errW_none, errW_some] <;> rfl) | (simp [*, errW_none, errW_some] <;> rfl), by repeat (first | (with_reducible first | exact HB.out | apply below_alloc | apply pw_below_drewN | apply below_drew1 | refine below_set ?_ GE244.out) | exact HB.out)⟩
      · rw [if_neg c174] at H
        have c174b0 : (t246.toList == ([] : List UInt8)) = false := beq_eq_false_iff_ne.mpr c174
        have c174b1 : (t246.toList != ([] : List UInt8)) = true := bne_iff_ne.mpr c174
        exact absurd ((Option.some.inj H).trans HRT.out) Bool.false_ne_true
  · replace c5 := Bool.eq_false_iff.mpr c5
    subst c5
    have H1 : (some false) = some r := by rw [if_neg (show ¬ (false = true) by decide)] at H; exact H
    clear H
    have H := H1
    clear H1
    exact absurd ((Option.some.inj H).trans HRT.out) Bool.false_ne_true

def grafterlaw14_CheckUnlike.Pure : Prop := ∀ (l0_0 : (List Int)) (l0_1 : (List Int)) (a0_2 : Int) (a0_3 : Int) (a0_4 : Int) (a1 : Int) (a2 : Int), l0_0.length ≤ maxLen → l0_0.length * 8 ≤ 140737488351232 → (∀ y0 ∈ l0_0, (Lit.int .i64 y0).wf = true) → l0_1.length ≤ maxLen → l0_1.length * 8 ≤ 140737488351232 → (∀ y0 ∈ l0_1, (Lit.int .i64 y0).wf = true) → (Lit.int .i64 a0_2).wf = true → (Lit.int .i64 a0_3).wf = true → (Lit.int .i64 a0_4).wf = true → (Lit.int .i64 a1).wf = true → (Lit.int .i64 a2).wf = true → ∃ k, grafterlaw14_CheckUnlike.f k l0_0 l0_1 a0_2 a0_3 a0_4 a1 a2 = some true
theorem grafterlaw14_CheckUnlike.walk (P : grafterlaw14_CheckUnlike.Pure) (A0_0 : Option Addr) (c0_0 : Nat) (l0_0 : (List Int)) (A0_1 : Option Addr) (c0_1 : Nat) (l0_1 : (List Int)) (a0_2 : Int) (a0_3 : Int) (a0_4 : Int) (a1 : Int) (a2 : Int) (w : World) (hr0_0 : Kd.C (Kd.int .i64) w A0_0 l0_0.length l0_0) (hc0_0 : l0_0.length ≤ c0_0) (w0_0_0 : l0_0.length ≤ maxLen) (w0_0_1 : l0_0.length * 8 ≤ 140737488351232) (w0_0_2 : (∀ y0 ∈ l0_0, (Lit.int .i64 y0).wf = true)) (hr0_1 : Kd.C (Kd.int .i64) w A0_1 l0_1.length l0_1) (hc0_1 : l0_1.length ≤ c0_1) (w0_1_0 : l0_1.length ≤ maxLen) (w0_1_1 : l0_1.length * 8 ≤ 140737488351232) (w0_1_2 : (∀ y0 ∈ l0_1, (Lit.int .i64 y0).wf = true)) (w0_2_0 : (Lit.int .i64 a0_2).wf = true) (w0_3_0 : (Lit.int .i64 a0_3).wf = true) (w0_4_0 : (Lit.int .i64 a0_4).wf = true) (w1_0 : (Lit.int .i64 a1).wf = true) (w2_0 : (Lit.int .i64 a2).wf = true) :
    Calls Try.prog 16 #[.agg #[.slice A0_0 l0_0.length c0_0, .slice A0_1 l0_1.length c0_1, .int .i64 a0_2, .int .i64 a0_3, .int .i64 a0_4], .int .i64 a1, .int .i64 a2] w fun e w' => e = .returned (.bool true) ∧ Below w.heap.size w w' := by
  obtain ⟨k, h⟩ := P l0_0 l0_1 a0_2 a0_3 a0_4 a1 a2 w0_0_0 w0_0_1 w0_0_2 w0_1_0 w0_1_1 w0_1_2 w0_2_0 w0_3_0 w0_4_0 w1_0 w2_0
  refine (grafterlaw14_CheckUnlike.calls k _ _ l0_0 _ _ l0_1 a0_2 a0_3 a0_4 a1 a2 true w rfl hr0_0 hc0_0 hr0_1 hc0_1 h).mono ?_
  rintro e w' ⟨rfl, hd⟩
  exact ⟨rfl, hd⟩

end Go.Proofs.Ytbhkmgidokonkaa.PCheckUnlike
