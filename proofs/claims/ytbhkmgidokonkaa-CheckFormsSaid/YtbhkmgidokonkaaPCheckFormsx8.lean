-- Written by a program of this session (pprint.py) out of the translation, with hand-proved walks pasted in.
import Derived.Test.YtbhkmgidokonkaaPCheckFormsx0
import Derived.Test.YtbhkmgidokonkaaPCheckFormsx2
import Derived.Test.YtbhkmgidokonkaaPCheckFormsx3
import Derived.Test.YtbhkmgidokonkaaPCheckFormsx4
import Derived.Test.YtbhkmgidokonkaaPCheckFormsx6
import Derived.Test.YtbhkmgidokonkaaPCheckFormsx7
namespace Go.Proofs.Ytbhkmgidokonkaa.PCheckForms
open Go.RowKit Go.Proofs.YtbhkmgidokonkaaW.PrintWords Go.Proofs.YtbhkmgidokonkaaW.PrintLast Go.Proofs.YtbhkmgidokonkaaW.PrintMore
attribute [local go_sem] max2_int min2_int max_two min_two max_three min_three max_four min_four   -- for this text's walks alone
set_option linter.unusedVariables false
set_option linter.unusedSimpArgs false

/-! ### grafterlaw14_CheckForms: function 15 -/
mutual
def grafterlaw14_CheckForms.j0 : Nat → Int → List Int → List Int → Int → Int → Int → Option (Bool)
  | 0, _, _, _, _, _, _ => none
  | k + 1, x1, x248000, x248001, x248002, x248003, x248004 => (check_Put.f k x248000 x248001 x248002 x248003 x248004).bind fun bt259 => ((grafterlaw14_given.f).bind fun bt261 => ((check_Put.f k bt261.1 bt261.2.1 bt261.2.2.1 bt261.2.2.2.1 bt261.2.2.2.2).bind fun bt270 => ((grafterlaw0_Num.f bt270.2).bind fun t272 => (if t272 = 0 then (grafterlaw14_CheckForms.j1 k x1 bt259.1 bt259.2 bt270.1 ((bt270.1.size : Int) != 26) x248000 x248001 x248002 x248003 x248004) else (grafterlaw14_CheckForms.j1 k x1 bt259.1 bt259.2 bt270.1 true x248000 x248001 x248002 x248003 x248004)))))
def grafterlaw14_CheckForms.j1 : Nat → Int → ByteArray → Int → ByteArray → Bool → List Int → List Int → Int → Int → Int → Option (Bool)
  | 0, _, _, _, _, _, _, _, _, _, _ => none
  | k + 1, x1, x7, x8, x9, x101, x248000, x248001, x248002, x248003, x248004 => if x101 = true then (some false) else (if 0 ≤ (wrap64 (Int.tmod (IntKind.u64.wrap (x1)) 26)) then (if (wrap64 (Int.tmod (IntKind.u64.wrap (x1)) 26)) ≤ (x9.size : Int) then ((check_Get.f k (x9.extract 0 ((wrap64 (Int.tmod (IntKind.u64.wrap (x1)) 26)) : Int).toNat)).bind fun bt273 => (if x9.size + 1 ≤ 9223372036854775807 then ((check_Get.f k (x9 ++ (⟨#[120]⟩ : ByteArray))).bind fun bt284 => (if 1 ≤ (x9.size : Int) then (if 1 + (x9.extract 1 x9.size).size ≤ 9223372036854775807 then ((check_Get.f k ((⟨#[3]⟩ : ByteArray) ++ (x9.extract 1 x9.size))).bind fun bt295 => (if 0 ≤ 25 then (if 25 ≤ (x9.size : Int) then (if (x9.extract 0 25).size + 1 ≤ 9223372036854775807 then ((check_Get.f k ((x9.extract 0 25) ++ (⟨#[33]⟩ : ByteArray))).bind fun bt306 => (if 0 ≤ 4 then (if 4 ≤ (x9.size : Int) then (if (x9.extract 0 4).size + 1 ≤ 9223372036854775807 then (if 5 ≤ (x9.size : Int) then (if ((x9.extract 0 4) ++ (⟨#[127]⟩ : ByteArray)).size + (x9.extract 5 x9.size).size ≤ 9223372036854775807 then ((check_Get.f k (((x9.extract 0 4) ++ (⟨#[127]⟩ : ByteArray)) ++ (x9.extract 5 x9.size))).bind fun bt317 => (if x7.toList = ([] : List UInt8) then ((check_May.f k x248000 x248001 x248002 x248003 x248004).bind fun t328 => (if t328 = true then (some false) else ((grafterlaw0_Num.f x8).bind fun t329 => (if t329 = 1400 then ((grafterlaw0_Num.f bt273.2.2.2.2.2).bind fun t330 => (if t330 = 1400 then ((grafterlaw0_Num.f bt284.2.2.2.2.2).bind fun t331 => (if t331 = 1400 then ((grafterlaw0_Num.f bt295.2.2.2.2.2).bind fun t332 => (if t332 = 1400 then ((grafterlaw0_Num.f bt306.2.2.2.2.2).bind fun t333 => (if t333 = 1400 then ((grafterlaw0_Num.f bt317.2.2.2.2.2).bind fun t334 => (some (t334 == 1400))) else (some false))) else (some false))) else (some false))) else (some false))) else (some false))))) else (some false))) else (none)) else (none)) else (none)) else (none)) else (none))) else (none)) else (none)) else (none))) else (none)) else (none))) else (none))) else (none)) else (none))
end
def grafterlaw14_CheckForms.f (k : Nat) (a0 : Int) (a1 : Int) : Option (Bool) := (grafterlaw14_awake.f k).bind fun t237 => (if t237 = true then ((grafterlaw14_given.f).bind fun bt238 => (if (Int.tmod (IntKind.u64.wrap (a0)) 9) = 0 then (grafterlaw14_CheckForms.j0 k a1 ([] : List Int) ([] : List Int) bt238.2.2.1 bt238.2.2.2.1 bt238.2.2.2.2) else (if (Int.tmod (IntKind.u64.wrap (a0)) 9) = 1 then (if 1 ≤ (bt238.2.1.length : Int) then (grafterlaw14_CheckForms.j0 k a1 bt238.1 (bt238.2.1.drop (1 : Int).toNat) bt238.2.2.1 bt238.2.2.2.1 bt238.2.2.2.2) else (none)) else (if (Int.tmod (IntKind.u64.wrap (a0)) 9) = 2 then (if 0 < (bt238.1.length : Int) then (grafterlaw14_CheckForms.j0 k a1 (bt238.1.set (0 : Int).toNat (wrap64 (1073741824 + (wrap64 (1 + (Go.bits .and .i64 a1 1023)))))) bt238.2.1 bt238.2.2.1 bt238.2.2.2.1 bt238.2.2.2.2) else (none)) else (if (Int.tmod (IntKind.u64.wrap (a0)) 9) = 3 then (if 0 < (bt238.2.1.length : Int) then (grafterlaw14_CheckForms.j0 k a1 bt238.1 (bt238.2.1.set (0 : Int).toNat (wrap64 ((-1073741824) - (wrap64 (1 + (Go.bits .and .i64 a1 1023)))))) bt238.2.2.1 bt238.2.2.2.1 bt238.2.2.2.2) else (none)) else (if (Int.tmod (IntKind.u64.wrap (a0)) 9) = 4 then (grafterlaw14_CheckForms.j0 k a1 bt238.1 bt238.2.1 (wrap64 (64 - (wrap64 (1 + (Go.bits .and .i64 a1 1023))))) bt238.2.2.2.1 bt238.2.2.2.2) else (if (Int.tmod (IntKind.u64.wrap (a0)) 9) = 5 then (grafterlaw14_CheckForms.j0 k a1 bt238.1 bt238.2.1 bt238.2.2.1 (wrap64 (58982 + (wrap64 (1 + (Go.bits .and .i64 a1 1023))))) bt238.2.2.2.2) else (if (Int.tmod (IntKind.u64.wrap (a0)) 9) = 6 then (grafterlaw14_CheckForms.j0 k a1 bt238.1 bt238.2.1 bt238.2.2.1 bt238.2.2.2.1 (wrap64 (-(wrap64 (1 + (Go.bits .and .i64 a1 1023)))))) else (if (Int.tmod (IntKind.u64.wrap (a0)) 9) = 7 then (grafterlaw14_CheckForms.j0 k a1 bt238.1 bt238.2.1 bt238.2.2.1 bt238.2.2.2.1 (wrap64 (32 + (wrap64 (1 + (Go.bits .and .i64 a1 1023)))))) else (if 0 ≤ (wrap64 (16 + (wrap64 (1 + (Go.bits .and .i64 a1 1023))))) then (if (wrap64 (16 + (wrap64 (1 + (Go.bits .and .i64 a1 1023)))) : Int).toNat ≤ 35184372088832 then (grafterlaw14_CheckForms.j0 k a1 (List.replicate (wrap64 (16 + (wrap64 (1 + (Go.bits .and .i64 a1 1023)))) : Int).toNat 0) (List.replicate (wrap64 (16 + (wrap64 (1 + (Go.bits .and .i64 a1 1023)))) : Int).toNat 0) bt238.2.2.1 bt238.2.2.2.1 bt238.2.2.2.2) else (none)) else (none))))))))))) else (some false))
theorem grafterlaw14_CheckForms.mono_l : ∀ k, (∀ y0 y1 y2 y3 y4 y5, LeO (grafterlaw14_CheckForms.j0 k y0 y1 y2 y3 y4 y5) (grafterlaw14_CheckForms.j0 (k + 1) y0 y1 y2 y3 y4 y5)) ∧ (∀ y0 y1 y2 y3 y4 y5 y6 y7 y8 y9, LeO (grafterlaw14_CheckForms.j1 k y0 y1 y2 y3 y4 y5 y6 y7 y8 y9) (grafterlaw14_CheckForms.j1 (k + 1) y0 y1 y2 y3 y4 y5 y6 y7 y8 y9))
  | 0 => ⟨fun _ _ _ _ _ _ r h => by simp [grafterlaw14_CheckForms.j0] at h, fun _ _ _ _ _ _ _ _ _ _ r h => by simp [grafterlaw14_CheckForms.j1] at h⟩
  | k + 1 => by
    obtain ⟨ih0, ih1⟩ := grafterlaw14_CheckForms.mono_l k
    refine ⟨?_, ?_⟩
    · intro y0 y1 y2 y3 y4 y5
      unfold grafterlaw14_CheckForms.j0
      repeat' first
      | (with_reducible exact ih0 _ _ _ _ _ _)
      | (with_reducible exact ih1 _ _ _ _ _ _ _ _ _ _)
      | (with_reducible exact check_Get.mono _ _)
      | (with_reducible exact check_May.mono _ _ _ _ _ _)
      | (with_reducible exact check_Put.mono _ _ _ _ _ _)
      | (with_reducible exact grafterlaw14_awake.mono _)
      | (with_reducible exact LeO.refl _)
      | (with_reducible exact LeO.none _)
      | (with_reducible refine LeO.ite ?_ ?_)
      | (with_reducible refine LeO.bind ?_ (fun _ => ?_))
      | exact ih0 _ _ _ _ _ _
      | exact ih1 _ _ _ _ _ _ _ _ _ _
      | exact check_Get.mono _ _
      | exact check_May.mono _ _ _ _ _ _
      | exact check_Put.mono _ _ _ _ _ _
      | exact grafterlaw14_awake.mono _
      | exact LeO.none _
      | refine LeO.ite ?_ ?_
      | refine LeO.bind ?_ (fun _ => ?_)
    · intro y0 y1 y2 y3 y4 y5 y6 y7 y8 y9
      unfold grafterlaw14_CheckForms.j1
      repeat' first
      | (with_reducible exact ih0 _ _ _ _ _ _)
      | (with_reducible exact ih1 _ _ _ _ _ _ _ _ _ _)
      | (with_reducible exact check_Get.mono _ _)
      | (with_reducible exact check_May.mono _ _ _ _ _ _)
      | (with_reducible exact check_Put.mono _ _ _ _ _ _)
      | (with_reducible exact grafterlaw14_awake.mono _)
      | (with_reducible exact LeO.refl _)
      | (with_reducible exact LeO.none _)
      | (with_reducible refine LeO.ite ?_ ?_)
      | (with_reducible refine LeO.bind ?_ (fun _ => ?_))
      | exact ih0 _ _ _ _ _ _
      | exact ih1 _ _ _ _ _ _ _ _ _ _
      | exact check_Get.mono _ _
      | exact check_May.mono _ _ _ _ _ _
      | exact check_Put.mono _ _ _ _ _ _
      | exact grafterlaw14_awake.mono _
      | exact LeO.none _
      | refine LeO.ite ?_ ?_
      | refine LeO.bind ?_ (fun _ => ?_)
theorem grafterlaw14_CheckForms.mono : ∀ a0 a1 k, LeO (grafterlaw14_CheckForms.f k a0 a1) (grafterlaw14_CheckForms.f (k + 1) a0 a1) := by
  intro a0 a1 k
  obtain ⟨ih0, ih1⟩ := grafterlaw14_CheckForms.mono_l k
  unfold grafterlaw14_CheckForms.f
  repeat' first
      | (with_reducible exact ih0 _ _ _ _ _ _)
      | (with_reducible exact ih1 _ _ _ _ _ _ _ _ _ _)
      | (with_reducible exact check_Get.mono _ _)
      | (with_reducible exact check_May.mono _ _ _ _ _ _)
      | (with_reducible exact check_Put.mono _ _ _ _ _ _)
      | (with_reducible exact grafterlaw14_awake.mono _)
      | (with_reducible exact LeO.refl _)
      | (with_reducible exact LeO.none _)
      | (with_reducible refine LeO.ite ?_ ?_)
      | (with_reducible refine LeO.bind ?_ (fun _ => ?_))
      | exact ih0 _ _ _ _ _ _
      | exact ih1 _ _ _ _ _ _ _ _ _ _
      | exact check_Get.mono _ _
      | exact check_May.mono _ _ _ _ _ _
      | exact check_Put.mono _ _ _ _ _ _
      | exact grafterlaw14_awake.mono _
      | exact LeO.none _
      | refine LeO.ite ?_ ?_
      | refine LeO.bind ?_ (fun _ => ?_)
def grafterlaw14_CheckForms.T33 : Bool × List (List Nat × List Nat) := (true, [([], []), ([0], [0]), ([1], [1]), ([], []), ([3], [3]), ([2, 4], [2, 4]), ([5], [5]), ([6], [6]), ([7], [7]), ([7], [7]), ([], []), ([10, 8, 6, 0, 1, 2, 3, 4, 5, 6, 7, 8, 10], [8, 10]), ([9, 11, 0, 1, 2, 3, 4, 5, 6, 7, 8, 9, 10, 11], [9])])
def grafterlaw14_CheckForms.B33 : List Nat := [0, 1, 3, 0, 8, 31, 63, 127, 255, 255, 0, 1535, 4095]
theorem grafterlaw14_CheckForms.tab33 : rtab .any (opsOf Try.f15 33) = grafterlaw14_CheckForms.T33 := by kernel_rfl
theorem grafterlaw14_CheckForms.bits33 : waitsOk grafterlaw14_CheckForms.T33.2 grafterlaw14_CheckForms.B33 = true := by kernel_rfl
theorem hm79_lem (s : Nat) : (9223372036854775807 < min 4 s + 1) = False := eq_false (by omega)
theorem hm81_lem (s : Nat) (h : s + 1 ≤ 9223372036854775807) : (9223372036854775807 < min 4 s + 1 + (s - 5)) = False := eq_false (by omega)
theorem R_far5 {α : Type} {d : Kd α} {e base : Nat} {ok : Nat → Prop} {w : World} {v : Value} {xs : List α} {g : Nat} (h : Kd.R d e w base ok v xs) (hok : ∀ k, ok k → k ≠ g) (a b c x y : Value) : Kd.R d e (((((w.setCell ⟨g, 0, none⟩ a).setCell ⟨g, 1, none⟩ b).setCell ⟨g, 2, none⟩ c).setCell ⟨g, 3, none⟩ x).setCell ⟨g, 4, none⟩ y) base ok v xs := (Kd.R_far (p := ⟨g, 4, none⟩) (Kd.R_far (p := ⟨g, 3, none⟩) (Kd.R_far (p := ⟨g, 2, none⟩) (Kd.R_far (p := ⟨g, 1, none⟩) (Kd.R_far (p := ⟨g, 0, none⟩) h hok a) hok b) hok c) hok x) hok y)
theorem Q_far5 {α : Type} {d : Kd α} {e base : Nat} {ok : Nat → Prop} {w : World} {v : Value} {xs : List α} {g : Nat} (h : Kd.Q d e w base ok v xs) (hok : ∀ k, ok k → k ≠ g) (a b c x y : Value) : Kd.Q d e (((((w.setCell ⟨g, 0, none⟩ a).setCell ⟨g, 1, none⟩ b).setCell ⟨g, 2, none⟩ c).setCell ⟨g, 3, none⟩ x).setCell ⟨g, 4, none⟩ y) base ok v xs := (Kd.Q_far (p := ⟨g, 4, none⟩) (Kd.Q_far (p := ⟨g, 3, none⟩) (Kd.Q_far (p := ⟨g, 2, none⟩) (Kd.Q_far (p := ⟨g, 1, none⟩) (Kd.Q_far (p := ⟨g, 0, none⟩) h hok a) hok b) hok c) hok x) hok y)
theorem V_far5 {α : Type} {d : Kd α} {e base : Nat} {ok : Nat → Prop} {w : World} {v : Value} {xs : List α} {g : Nat} (h : Kd.V d e w base ok v xs) (hok : ∀ k, ok k → k ≠ g) (a b c x y : Value) : Kd.V d e (((((w.setCell ⟨g, 0, none⟩ a).setCell ⟨g, 1, none⟩ b).setCell ⟨g, 2, none⟩ c).setCell ⟨g, 3, none⟩ x).setCell ⟨g, 4, none⟩ y) base ok v xs := (Kd.V_far (p := ⟨g, 4, none⟩) (Kd.V_far (p := ⟨g, 3, none⟩) (Kd.V_far (p := ⟨g, 2, none⟩) (Kd.V_far (p := ⟨g, 1, none⟩) (Kd.V_far (p := ⟨g, 0, none⟩) h hok a) hok b) hok c) hok x) hok y)
theorem blk_far5 {w : World} {g G : Nat} {t : TypeId} {cs : Array Value} (h : w.heap[g]? = some (.cells cs t (0, 0))) (hp : g ≠ G) (a b c x y : Value) : (((((w.setCell ⟨G, 0, none⟩ a).setCell ⟨G, 1, none⟩ b).setCell ⟨G, 2, none⟩ c).setCell ⟨G, 3, none⟩ x).setCell ⟨G, 4, none⟩ y).heap[g]? = some (.cells cs t (0, 0)) := (blk_far (p := ⟨G, 4, none⟩) (blk_far (p := ⟨G, 3, none⟩) (blk_far (p := ⟨G, 2, none⟩) (blk_far (p := ⟨G, 1, none⟩) (blk_far (p := ⟨G, 0, none⟩) h hp a) hp b) hp c) hp x) hp y)
theorem blk_put5 {w : World} {G : Nat} {t : TypeId} {z0 z1 z2 z3 z4 : Value} (h : w.heap[G]? = some (.cells #[z0, z1, z2, z3, z4] t (0, 0))) (a b c x y : Value) : (((((w.setCell ⟨G, 0, none⟩ a).setCell ⟨G, 1, none⟩ b).setCell ⟨G, 2, none⟩ c).setCell ⟨G, 3, none⟩ x).setCell ⟨G, 4, none⟩ y).heap[G]? = some (.cells #[a, b, c, x, y] t (0, 0)) := (blk_put (cs := #[a, b, c, x, z4]) (cs' := #[a, b, c, x, y]) (blk_put (cs := #[a, b, c, z3, z4]) (cs' := #[a, b, c, x, z4]) (blk_put (cs := #[a, b, z2, z3, z4]) (cs' := #[a, b, c, z3, z4]) (blk_put (cs := #[a, z1, z2, z3, z4]) (cs' := #[a, b, z2, z3, z4]) (blk_put (cs := #[z0, z1, z2, z3, z4]) (cs' := #[a, z1, z2, z3, z4]) h 0 a rfl) 1 b rfl) 2 c rfl) 3 x rfl) 4 y rfl)

end Go.Proofs.Ytbhkmgidokonkaa.PCheckForms
