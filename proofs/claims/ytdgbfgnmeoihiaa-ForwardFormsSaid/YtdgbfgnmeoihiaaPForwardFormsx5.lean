-- Written by a program of this session (pprint.py) out of the translation, with hand-proved walks pasted in.
import Derived.Test.YtdgbfgnmeoihiaaPForwardFormsx0
import Derived.Test.YtdgbfgnmeoihiaaPForwardFormsx1
import Derived.Test.YtdgbfgnmeoihiaaPForwardFormsx2
import Derived.Test.YtdgbfgnmeoihiaaPForwardFormsx3
import Derived.Test.YtdgbfgnmeoihiaaPForwardFormsx4
namespace Go.Proofs.Ytdgbfgnmeoihiaa.PForwardForms
open Go.RowKit Go.Proofs.YtdgbfgnmeoihiaaW.PrintWords Go.Proofs.YtdgbfgnmeoihiaaW.PrintLast Go.Proofs.YtdgbfgnmeoihiaaW.PrintMore
attribute [local go_sem] max2_int min2_int max_two min_two max_three min_three max_four min_four   -- for this text's walks alone
set_option linter.unusedVariables false
set_option linter.unusedSimpArgs false

/-! ### grafterlaw6_ForwardForms: function 12 -/
def grafterlaw6_ForwardForms.j0 : Nat → List Int → List Int → Int → Int → Option (Bool)
  | 0, _, _, _, _ => none
  | k + 1, x7, x8, x209000, x209001 => (forward_Hidden.f k x209000 x209001 x7 x8).bind fun bt223 => ((forward_Out.f k x209000 x209001 x7 x8).bind fun bt227 => (if (bt223.1.length : Int) = 0 then ((grafterlaw0_Num.f bt223.2).bind fun t229 => (if t229 = 600 then (if bt227.1 = 0 then ((grafterlaw0_Num.f bt227.2).bind fun t230 => (some (t230 == 600))) else (some false)) else (some false))) else (some false)))
def grafterlaw6_ForwardForms.f (k : Nat) (a0 : Int) (a1 : Int) : Option (Bool) := (grafterlaw6_awake.f k).bind fun t202 => (if t202 = true then ((grafterlaw6_given.f).bind fun bt203 => ((some (([1, 2] : List Int) : List Int)).bind fun y209 => (if (Int.tmod (IntKind.u64.wrap (a0)) 8) = 0 then (grafterlaw6_ForwardForms.j0 k bt203.2.2 y209 1 bt203.2.1) else (if (Int.tmod (IntKind.u64.wrap (a0)) 8) = 1 then (grafterlaw6_ForwardForms.j0 k bt203.2.2 y209 bt203.1 3) else (if (Int.tmod (IntKind.u64.wrap (a0)) 8) = 2 then (grafterlaw6_ForwardForms.j0 k bt203.2.2 y209 (wrap64 (1 - (wrap64 (1 + (Go.bits .and .i64 a1 1023))))) bt203.2.1) else (if (Int.tmod (IntKind.u64.wrap (a0)) 8) = 3 then (if bt203.2.2.length < 17592186044416 then (grafterlaw6_ForwardForms.j0 k (bt203.2.2 ++ [0]) y209 bt203.1 bt203.2.1) else (none)) else (if (Int.tmod (IntKind.u64.wrap (a0)) 8) = 4 then (if 8 ≤ (bt203.2.2.length : Int) then (grafterlaw6_ForwardForms.j0 k (bt203.2.2.take (8 : Int).toNat) y209 bt203.1 bt203.2.1) else (none)) else (if (Int.tmod (IntKind.u64.wrap (a0)) 8) = 5 then (if 4 < (bt203.2.2.length : Int) then (grafterlaw6_ForwardForms.j0 k (bt203.2.2.set (4 : Int).toNat (wrap64 (1073741824 + (wrap64 (1 + (Go.bits .and .i64 a1 1023)))))) y209 bt203.1 bt203.2.1) else (none)) else (if (Int.tmod (IntKind.u64.wrap (a0)) 8) = 6 then (grafterlaw6_ForwardForms.j0 k bt203.2.2 (([1] : List Int)) bt203.1 bt203.2.1) else (if 1 < (y209.length : Int) then (grafterlaw6_ForwardForms.j0 k bt203.2.2 (y209.set (1 : Int).toNat (wrap64 ((-1073741824) - (wrap64 (1 + (Go.bits .and .i64 a1 1023)))))) bt203.1 bt203.2.1) else (none))))))))))) else (some false))
theorem grafterlaw6_ForwardForms.mono_l : ∀ k, (∀ y0 y1 y2 y3, LeO (grafterlaw6_ForwardForms.j0 k y0 y1 y2 y3) (grafterlaw6_ForwardForms.j0 (k + 1) y0 y1 y2 y3))
  | 0 => fun _ _ _ _ r h => by simp [grafterlaw6_ForwardForms.j0] at h
  | k + 1 => by
    have ih0 := grafterlaw6_ForwardForms.mono_l k
    · intro y0 y1 y2 y3
      unfold grafterlaw6_ForwardForms.j0
      repeat' first
      | (with_reducible exact ih0 _ _ _ _)
      | (with_reducible exact forward_Hidden.mono _ _ _ _ _)
      | (with_reducible exact forward_Out.mono _ _ _ _ _)
      | (with_reducible exact grafterlaw6_awake.mono _)
      | (with_reducible exact LeO.refl _)
      | (with_reducible exact LeO.none _)
      | (with_reducible refine LeO.ite ?_ ?_)
      | (with_reducible refine LeO.bind ?_ (fun _ => ?_))
      | exact ih0 _ _ _ _
      | exact forward_Hidden.mono _ _ _ _ _
      | exact forward_Out.mono _ _ _ _ _
      | exact grafterlaw6_awake.mono _
      | exact LeO.none _
      | refine LeO.ite ?_ ?_
      | refine LeO.bind ?_ (fun _ => ?_)
theorem grafterlaw6_ForwardForms.mono : ∀ a0 a1 k, LeO (grafterlaw6_ForwardForms.f k a0 a1) (grafterlaw6_ForwardForms.f (k + 1) a0 a1) := by
  intro a0 a1 k
  have ih0 := grafterlaw6_ForwardForms.mono_l k
  unfold grafterlaw6_ForwardForms.f
  repeat' first
      | (with_reducible exact ih0 _ _ _ _)
      | (with_reducible exact forward_Hidden.mono _ _ _ _ _)
      | (with_reducible exact forward_Out.mono _ _ _ _ _)
      | (with_reducible exact grafterlaw6_awake.mono _)
      | (with_reducible exact LeO.refl _)
      | (with_reducible exact LeO.none _)
      | (with_reducible refine LeO.ite ?_ ?_)
      | (with_reducible refine LeO.bind ?_ (fun _ => ?_))
      | exact ih0 _ _ _ _
      | exact forward_Hidden.mono _ _ _ _ _
      | exact forward_Out.mono _ _ _ _ _
      | exact grafterlaw6_awake.mono _
      | exact LeO.none _
      | refine LeO.ite ?_ ?_
      | refine LeO.bind ?_ (fun _ => ?_)
set_option maxHeartbeats 8000000 in
set_option maxRecDepth 100000 in
theorem grafterlaw6_ForwardForms.calls (k : Nat) (a0 : Int) (a1 : Int) (r : Bool) (w : World) (hrt : r = true) (h : grafterlaw6_ForwardForms.f k a0 a1 = some r) :
    Calls Try.prog 12 #[.int .i64 a0, .int .i64 a1] w fun e w' => e = .returned (.bool r) ∧ Below w.heap.size w w' := by
  have HRT := Aside0.mk hrt
  clear hrt
  have hu23 := Try.underlying23
  have HB := Aside0.mk (Below.refl w.heap.size w)
  have H : ((grafterlaw6_awake.f k).bind fun t202 => (if t202 = true then ((grafterlaw6_given.f).bind fun bt203 => ((some (([1, 2] : List Int) : List Int)).bind fun y209 => (if (Int.tmod (IntKind.u64.wrap (a0)) 8) = 0 then (grafterlaw6_ForwardForms.j0 k bt203.2.2 y209 1 bt203.2.1) else (if (Int.tmod (IntKind.u64.wrap (a0)) 8) = 1 then (grafterlaw6_ForwardForms.j0 k bt203.2.2 y209 bt203.1 3) else (if (Int.tmod (IntKind.u64.wrap (a0)) 8) = 2 then (grafterlaw6_ForwardForms.j0 k bt203.2.2 y209 (wrap64 (1 - (wrap64 (1 + (Go.bits .and .i64 a1 1023))))) bt203.2.1) else (if (Int.tmod (IntKind.u64.wrap (a0)) 8) = 3 then (if bt203.2.2.length < 17592186044416 then (grafterlaw6_ForwardForms.j0 k (bt203.2.2 ++ [0]) y209 bt203.1 bt203.2.1) else (none)) else (if (Int.tmod (IntKind.u64.wrap (a0)) 8) = 4 then (if 8 ≤ (bt203.2.2.length : Int) then (grafterlaw6_ForwardForms.j0 k (bt203.2.2.take (8 : Int).toNat) y209 bt203.1 bt203.2.1) else (none)) else (if (Int.tmod (IntKind.u64.wrap (a0)) 8) = 5 then (if 4 < (bt203.2.2.length : Int) then (grafterlaw6_ForwardForms.j0 k (bt203.2.2.set (4 : Int).toNat (wrap64 (1073741824 + (wrap64 (1 + (Go.bits .and .i64 a1 1023)))))) y209 bt203.1 bt203.2.1) else (none)) else (if (Int.tmod (IntKind.u64.wrap (a0)) 8) = 6 then (grafterlaw6_ForwardForms.j0 k bt203.2.2 (([1] : List Int)) bt203.1 bt203.2.1) else (if 1 < (y209.length : Int) then (grafterlaw6_ForwardForms.j0 k bt203.2.2 (y209.set (1 : Int).toNat (wrap64 ((-1073741824) - (wrap64 (1 + (Go.bits .and .i64 a1 1023)))))) bt203.1 bt203.2.1) else (none))))))))))) else (some false))) = some r := h
  clear h
  replace H := Option.bind_eq_some_iff.mp H
  obtain ⟨t202, A30, H⟩ := H
  replace H : (if t202 = true then ((grafterlaw6_given.f).bind fun bt203 => ((some (([1, 2] : List Int) : List Int)).bind fun y209 => (if (Int.tmod (IntKind.u64.wrap (a0)) 8) = 0 then (grafterlaw6_ForwardForms.j0 k bt203.2.2 y209 1 bt203.2.1) else (if (Int.tmod (IntKind.u64.wrap (a0)) 8) = 1 then (grafterlaw6_ForwardForms.j0 k bt203.2.2 y209 bt203.1 3) else (if (Int.tmod (IntKind.u64.wrap (a0)) 8) = 2 then (grafterlaw6_ForwardForms.j0 k bt203.2.2 y209 (wrap64 (1 - (wrap64 (1 + (Go.bits .and .i64 a1 1023))))) bt203.2.1) else (if (Int.tmod (IntKind.u64.wrap (a0)) 8) = 3 then (if bt203.2.2.length < 17592186044416 then (grafterlaw6_ForwardForms.j0 k (bt203.2.2 ++ [0]) y209 bt203.1 bt203.2.1) else (none)) else (if (Int.tmod (IntKind.u64.wrap (a0)) 8) = 4 then (if 8 ≤ (bt203.2.2.length : Int) then (grafterlaw6_ForwardForms.j0 k (bt203.2.2.take (8 : Int).toNat) y209 bt203.1 bt203.2.1) else (none)) else (if (Int.tmod (IntKind.u64.wrap (a0)) 8) = 5 then (if 4 < (bt203.2.2.length : Int) then (grafterlaw6_ForwardForms.j0 k (bt203.2.2.set (4 : Int).toNat (wrap64 (1073741824 + (wrap64 (1 + (Go.bits .and .i64 a1 1023)))))) y209 bt203.1 bt203.2.1) else (none)) else (if (Int.tmod (IntKind.u64.wrap (a0)) 8) = 6 then (grafterlaw6_ForwardForms.j0 k bt203.2.2 (([1] : List Int)) bt203.1 bt203.2.1) else (if 1 < (y209.length : Int) then (grafterlaw6_ForwardForms.j0 k bt203.2.2 (y209.set (1 : Int).toNat (wrap64 ((-1073741824) - (wrap64 (1 + (Go.bits .and .i64 a1 1023)))))) bt203.1 bt203.2.1) else (none))))))))))) else (some false)) = some r := H
  have A3 := Aside0.mk A30
  clear A30
  by_cases c4 : t202 = true
  · subst c4
    have H1 : ((grafterlaw6_given.f).bind fun bt203 => ((some (([1, 2] : List Int) : List Int)).bind fun y209 => (if (Int.tmod (IntKind.u64.wrap (a0)) 8) = 0 then (grafterlaw6_ForwardForms.j0 k bt203.2.2 y209 1 bt203.2.1) else (if (Int.tmod (IntKind.u64.wrap (a0)) 8) = 1 then (grafterlaw6_ForwardForms.j0 k bt203.2.2 y209 bt203.1 3) else (if (Int.tmod (IntKind.u64.wrap (a0)) 8) = 2 then (grafterlaw6_ForwardForms.j0 k bt203.2.2 y209 (wrap64 (1 - (wrap64 (1 + (Go.bits .and .i64 a1 1023))))) bt203.2.1) else (if (Int.tmod (IntKind.u64.wrap (a0)) 8) = 3 then (if bt203.2.2.length < 17592186044416 then (grafterlaw6_ForwardForms.j0 k (bt203.2.2 ++ [0]) y209 bt203.1 bt203.2.1) else (none)) else (if (Int.tmod (IntKind.u64.wrap (a0)) 8) = 4 then (if 8 ≤ (bt203.2.2.length : Int) then (grafterlaw6_ForwardForms.j0 k (bt203.2.2.take (8 : Int).toNat) y209 bt203.1 bt203.2.1) else (none)) else (if (Int.tmod (IntKind.u64.wrap (a0)) 8) = 5 then (if 4 < (bt203.2.2.length : Int) then (grafterlaw6_ForwardForms.j0 k (bt203.2.2.set (4 : Int).toNat (wrap64 (1073741824 + (wrap64 (1 + (Go.bits .and .i64 a1 1023)))))) y209 bt203.1 bt203.2.1) else (none)) else (if (Int.tmod (IntKind.u64.wrap (a0)) 8) = 6 then (grafterlaw6_ForwardForms.j0 k bt203.2.2 (([1] : List Int)) bt203.1 bt203.2.1) else (if 1 < (y209.length : Int) then (grafterlaw6_ForwardForms.j0 k bt203.2.2 (y209.set (1 : Int).toNat (wrap64 ((-1073741824) - (wrap64 (1 + (Go.bits .and .i64 a1 1023)))))) bt203.1 bt203.2.1) else (none))))))))))) = some r := by rw [if_pos rfl] at H; exact H
    clear H
    have H := H1
    clear H1
    replace H := Option.bind_eq_some_iff.mp H
    obtain ⟨⟨t203, t204, t205⟩, A50, H⟩ := H
    replace H : ((some (([1, 2] : List Int) : List Int)).bind fun y209 => (if (Int.tmod (IntKind.u64.wrap (a0)) 8) = 0 then (grafterlaw6_ForwardForms.j0 k t205 y209 1 t204) else (if (Int.tmod (IntKind.u64.wrap (a0)) 8) = 1 then (grafterlaw6_ForwardForms.j0 k t205 y209 t203 3) else (if (Int.tmod (IntKind.u64.wrap (a0)) 8) = 2 then (grafterlaw6_ForwardForms.j0 k t205 y209 (wrap64 (1 - (wrap64 (1 + (Go.bits .and .i64 a1 1023))))) t204) else (if (Int.tmod (IntKind.u64.wrap (a0)) 8) = 3 then (if t205.length < 17592186044416 then (grafterlaw6_ForwardForms.j0 k (t205 ++ [0]) y209 t203 t204) else (none)) else (if (Int.tmod (IntKind.u64.wrap (a0)) 8) = 4 then (if 8 ≤ (t205.length : Int) then (grafterlaw6_ForwardForms.j0 k (t205.take (8 : Int).toNat) y209 t203 t204) else (none)) else (if (Int.tmod (IntKind.u64.wrap (a0)) 8) = 5 then (if 4 < (t205.length : Int) then (grafterlaw6_ForwardForms.j0 k (t205.set (4 : Int).toNat (wrap64 (1073741824 + (wrap64 (1 + (Go.bits .and .i64 a1 1023)))))) y209 t203 t204) else (none)) else (if (Int.tmod (IntKind.u64.wrap (a0)) 8) = 6 then (grafterlaw6_ForwardForms.j0 k t205 (([1] : List Int)) t203 t204) else (if 1 < (y209.length : Int) then (grafterlaw6_ForwardForms.j0 k t205 (y209.set (1 : Int).toNat (wrap64 ((-1073741824) - (wrap64 (1 + (Go.bits .and .i64 a1 1023)))))) t203 t204) else (none)))))))))) = some r := H
    have A5 := Aside0.mk A50
    clear A50
    obtain ⟨y209, hy209⟩ : ∃ y_ : List Int, y_ = (([1, 2] : List Int)) := ⟨_, rfl⟩
    replace H : (if (Int.tmod (IntKind.u64.wrap (a0)) 8) = 0 then (grafterlaw6_ForwardForms.j0 k t205 y209 1 t204) else (if (Int.tmod (IntKind.u64.wrap (a0)) 8) = 1 then (grafterlaw6_ForwardForms.j0 k t205 y209 t203 3) else (if (Int.tmod (IntKind.u64.wrap (a0)) 8) = 2 then (grafterlaw6_ForwardForms.j0 k t205 y209 (wrap64 (1 - (wrap64 (1 + (Go.bits .and .i64 a1 1023))))) t204) else (if (Int.tmod (IntKind.u64.wrap (a0)) 8) = 3 then (if t205.length < 17592186044416 then (grafterlaw6_ForwardForms.j0 k (t205 ++ [0]) y209 t203 t204) else (none)) else (if (Int.tmod (IntKind.u64.wrap (a0)) 8) = 4 then (if 8 ≤ (t205.length : Int) then (grafterlaw6_ForwardForms.j0 k (t205.take (8 : Int).toNat) y209 t203 t204) else (none)) else (if (Int.tmod (IntKind.u64.wrap (a0)) 8) = 5 then (if 4 < (t205.length : Int) then (grafterlaw6_ForwardForms.j0 k (t205.set (4 : Int).toNat (wrap64 (1073741824 + (wrap64 (1 + (Go.bits .and .i64 a1 1023)))))) y209 t203 t204) else (none)) else (if (Int.tmod (IntKind.u64.wrap (a0)) 8) = 6 then (grafterlaw6_ForwardForms.j0 k t205 (([1] : List Int)) t203 t204) else (if 1 < (y209.length : Int) then (grafterlaw6_ForwardForms.j0 k t205 (y209.set (1 : Int).toNat (wrap64 ((-1073741824) - (wrap64 (1 + (Go.bits .and .i64 a1 1023)))))) t203 t204) else (none))))))))) = some r := by first | (rw [hy209]; with_reducible exact H) | (have H2_ := (Option.bind_some _ _).symm.trans H; rw [hy209]; with_reducible exact H2_) | (have H2_ := (Option.bind_some _ _).symm.trans H; with_reducible exact H2_) | with_reducible exact H | (rw [hy209]; exact H) | exact H
    have Ny209 := Aside0.mk hy209
    clear hy209
    have HC6 := Aside0.mk H
    clear H
    go_enter Try.func12, Try.ntmps12
    go_upto_block 0 with (first | ((with_reducible refine gate_callee (f := 40) rfl ?_); refine goesL_ (some 13) rfl rfl Try.func40 (by kernel_rfl) rfl #[] rfl (by (try simp only [List.map_toArray, List.map_cons, List.map_nil]); first | done | rfl | (simp only [List.length_drop, List.length_take]; rfl)) ?_; (with_reducible refine (grafterlaw6_awake.calls k  true _ rfl A3.out).mono ?_); rintro e w7 ⟨rfl, hb⟩; refine ⟨_, rfl, ?_⟩; have n0_ := Aside0.mk (below_step (by repeat (first | (with_reducible first | exact HB.out | apply below_alloc | apply pw_below_drewN | apply below_drew1) | exact HB.out)) hb); clear HB; have HB := n0_; clear n0_; (try clear hb); (try clear hb2); (try clear hk); (try clear hi)) | ((with_reducible refine gate_callee (f := 41) rfl ?_); refine goesL_ (some 19) rfl rfl Try.func41 (by kernel_rfl) rfl #[] rfl (by (try simp only [List.map_toArray, List.map_cons, List.map_nil]); first | done | rfl | (simp only [List.length_drop, List.length_take]; rfl)) ?_; (with_reducible refine (grafterlaw6_given.calls  t203 t204 t205 _ A5.out).mono ?_); rintro e w8 ⟨v206, rfl, ho0, hb⟩; refine ⟨_, rfl, ?_⟩; have n0_ := Aside0.mk (Kd.R_lower ho0 (below_size (by repeat (first | (with_reducible first | exact HB.out | apply below_alloc | apply pw_below_drewN | apply below_drew1) | exact HB.out)))); have n1_ := Aside0.mk (below_step (by repeat (first | (with_reducible first | exact HB.out | apply below_alloc | apply pw_below_drewN | apply below_drew1) | exact HB.out)) hb); clear HB; have HO207 := n0_; have HB := n1_; clear n0_ n1_; (try clear hb); (try clear hb2); (try clear hk); (try clear hi); (try clear ho0)) | ((with_reducible refine gate_dst (N := 6) rfl ?_); refine box_event ?hg (N := 6) ?hd (cs := #[.int .i64 0, .int .i64 0]) (t := 23) ?hr ?_; (case hd => rfl); (case hg => rfl); (case hr => first | (go_simp; done) | (go_simp; rfl)); intro gb208 hg w9 hbox hb; have n0_ := Aside0.mk (Kd.R_below (by (with_reducible repeat (first | apply Kd.R_alloc | apply Kd.R_drewN | apply Kd.R_drew)); exact HO207.out) hb); have n1_ := Aside0.mk (below_step (by repeat (first | (with_reducible first | exact HB.out | apply below_alloc | apply pw_below_drewN | apply below_drew1) | exact HB.out)) hb); have n2_ := Aside0.mk (hbox); have n3_ := Aside0.mk ((by rw [hg]; exact (below_size (by repeat (first | (with_reducible first | exact HB.out | apply below_alloc | apply pw_below_drewN | apply below_drew1) | exact HB.out))) : w.heap.size ≤ gb208)); have n4_ := Aside0.mk ((by rw [hg]; exact (below_size (by repeat (first | (with_reducible first | exact HB.out | apply below_alloc | apply pw_below_drewN | apply below_drew1) | exact HB.out))) : w.heap.size ≤ gb208)); clear HO207; clear HB; have HO207 := n0_; have HB := n1_; have BK208 := n2_; have GW208 := n3_; have GE208 := n4_; clear n0_ n1_ n2_ n3_ n4_; clear hb hbox hg; have hcz10_0 : w9.cell? ⟨gb208, 0, none⟩ = some (.int .i64 0) := (blk_cell BK208.out 0).trans rfl; have hcz10_1 : w9.cell? ⟨gb208, 1, none⟩ = some (.int .i64 0) := (blk_cell BK208.out 1).trans rfl; have hfz10_0 := blk_frozen BK208.out 0; have hfz10_1 := blk_frozen BK208.out 1) | ((with_reducible refine gate_dst (N := 22) rfl ?_); refine Kd.R_lit (Kd.int .i64) _ 3 ?hg (N := 22) ?hd (xs := ([1, 2] : List Int)) (inner := [.int .i64 1, .int .i64 2]) (ok := fun _ => True) (okp := fun _ => True) ?hr ?hp (fun _ hk => by first | exact hk | grind | (simp [Value.ownBlock] at hk ⊢; grind)) trivial (Below.refl _ _) (Nat.le_refl _) (by simp) ?_; (case hd => rfl); (case hg => rfl); (case hr => first | (go_simp; done) | (go_simp; rfl)); (case hp => exact (Reps.one (show Kd.M (Kd.int .i64) _ _ _ 1 [.int .i64 1] from rfl) (Reps.one (show Kd.M (Kd.int .i64) _ _ _ 2 [.int .i64 2] from rfl) (Reps.none _ _)))); intro v210 w11 ho12 hb hg_ hnew_; clear hg_ hnew_; (first | rw [← Ny209.out] at ho12 | (simp only [Int.reduceToNat] at ho12; rw [← Ny209.out] at ho12)); have n0_ := Aside0.mk (Kd.R_elder' (by (with_reducible repeat (first | apply Kd.R_alloc | apply Kd.R_drewN | apply Kd.R_drew)); exact (Kd.R_mono (Kd.R_far (p := ⟨gb208, 1, none⟩) (Kd.R_far (p := ⟨gb208, 0, none⟩) (Kd.R_types HO207.out BK208.out (by decide)) (fun _ hk => by first | exact hk.2 | grind | (simp [Value.ownBlock] at hk ⊢; grind)) (.int .i64 t203)) (fun _ hk => by first | exact hk.2 | grind | (simp [Value.ownBlock] at hk ⊢; grind)) (.int .i64 t204)) (fun _ h_ => h_.1))) (Kd.R_base ho12) hb); have n1_ := Aside0.mk (Kd.R_lower (Kd.R_new' ho12 (Kd.R_lt (by (with_reducible repeat (first | apply Kd.R_alloc | apply Kd.R_drewN | apply Kd.R_drew)); exact (Kd.R_mono (Kd.R_far (p := ⟨gb208, 1, none⟩) (Kd.R_far (p := ⟨gb208, 0, none⟩) (Kd.R_types HO207.out BK208.out (by decide)) (fun _ hk => by first | exact hk.2 | grind | (simp [Value.ownBlock] at hk ⊢; grind)) (.int .i64 t203)) (fun _ hk => by first | exact hk.2 | grind | (simp [Value.ownBlock] at hk ⊢; grind)) (.int .i64 t204)) (fun _ h_ => h_.1))))) (below_size (by repeat (first | (with_reducible first | exact HB.out | apply below_alloc | apply pw_below_drewN | apply below_drew1 | refine below_set ?_ GE208.out) | exact HB.out)))); have n2_ := Aside0.mk (blk_below (g := gb208) (o := .cells #[.int .i64 t203, .int .i64 t204] 23 (0, 0)) (by (with_reducible repeat (first | refine blk_drewN ?_ _ | refine blk_drew ?_ | refine blk_alloc ?_ _)); refine blk_put (cs := #[.int .i64 t203, .int .i64 0]) ?_ 1 _ rfl; (with_reducible repeat (first | refine blk_drewN ?_ _ | refine blk_drew ?_ | refine blk_alloc ?_ _)); refine blk_put (cs := #[.int .i64 0, .int .i64 0]) ?_ 0 _ rfl; (with_reducible repeat (first | refine blk_drewN ?_ _ | refine blk_drew ?_ | refine blk_alloc ?_ _)); exact BK208.out) hb); have n3_ := Aside0.mk (below_step (by repeat (first | (with_reducible first | exact HB.out | apply below_alloc | apply pw_below_drewN | apply below_drew1 | refine below_set ?_ GE208.out) | exact HB.out)) hb); clear HO207; clear BK208; clear HB; have HO207 := n0_; have HO211 := n1_; have BK208 := n2_; have HB := n3_; clear n0_ n1_ n2_ n3_; clear hb ho12))
    (try simp only [Act.put, List.setIfInBounds_toArray, List.set_cons_zero, List.set_cons_succ])
    go_cut [7, 8] (fun v7 v8 wc => ∃ (kq : Nat) (x7_5 : List Int) (x8_5 : List Int) (x209000_5 : Int) (x209001_5 : Int), Aside0 (grafterlaw6_ForwardForms.j0 kq x7_5 x8_5 x209000_5 x209001_5 = some r) ∧ Aside0 (kq ≤ k) ∧ Aside0 (Kd.R (Kd.int .i64) 3 wc w.heap.size (fun k_ => some k_ ≠ (v8 : Value).ownBlock) v7 x7_5) ∧ Aside0 (Kd.R (Kd.int .i64) 3 wc w.heap.size (fun k_ => some k_ ≠ (v7 : Value).ownBlock) v8 x8_5) ∧ Aside0 (wc.heap[gb208]? = some (.cells #[.int .i64 x209000_5, .int .i64 x209001_5] 23 (0, 0))) ∧ Aside0 (Below w.heap.size w wc))
    case first =>
      have H := HC6.out
      clear HC6
      by_cases c13 : (Int.tmod (IntKind.u64.wrap (a0)) 8) = 0
      · rw [if_pos c13] at H
        have c13b0 : ((Int.tmod (IntKind.u64.wrap (a0)) 8) == 0) = true := beq_iff_eq.mpr c13
        have c13b1 : ((Int.tmod (IntKind.u64.wrap (a0)) 8) != 0) = false := bne_eq_false_iff_eq.mpr c13
        clear c13
        (first | rw [c13b0] | (simp only [i64_w, i32_w]; rw [c13b0]) | skip)
        have H' := Aside0.mk H
        clear H
        have hcz14_0 : w11.cell? ⟨gb208, 0, none⟩ = some (.int .i64 t203) := (blk_cell BK208.out 0).trans rfl
        have hcz14_1 : w11.cell? ⟨gb208, 1, none⟩ = some (.int .i64 t204) := (blk_cell BK208.out 1).trans rfl
        have hfz14_0 := blk_frozen BK208.out 0
        have hfz14_1 := blk_frozen BK208.out 1
        go_wp2
        go_meet
        case rel => exact ⟨_, (t205), (y209), (1), (t204), H', ⟨by first | omega | exact Nat.le_refl _⟩, ⟨by (with_reducible repeat (first | apply Kd.R_alloc | apply Kd.R_drewN | apply Kd.R_drew)); exact Kd.R_mono (Kd.R_far (p := ⟨gb208, 0, none⟩) (Kd.R_types HO207.out BK208.out (by decide)) (fun _ hk => by first | exact hk.2 | grind | (simp [Value.ownBlock] at hk ⊢; grind)) (.int .i64 1)) (fun _ hk => by first | exact hk.1.2 | grind | (simp [Value.ownBlock] at hk ⊢; grind))⟩, ⟨by (with_reducible repeat (first | apply Kd.R_alloc | apply Kd.R_drewN | apply Kd.R_drew)); exact Kd.R_mono (Kd.R_far (p := ⟨gb208, 0, none⟩) (Kd.R_types HO211.out BK208.out (by decide)) (fun _ hk => by first | exact hk.2 | grind | (simp [Value.ownBlock] at hk ⊢; grind)) (.int .i64 1)) (fun _ hk => by first | exact hk.1.2 | grind | (simp [Value.ownBlock] at hk ⊢; grind))⟩, ⟨by (with_reducible repeat (first | refine blk_drewN ?_ _ | refine blk_drew ?_ | refine blk_alloc ?_ _)); refine blk_put (cs := #[.int .i64 t203, .int .i64 t204]) ?_ 0 _ rfl; (with_reducible repeat (first | refine blk_drewN ?_ _ | refine blk_drew ?_ | refine blk_alloc ?_ _)); exact BK208.out⟩, ⟨by repeat (first | (with_reducible first | exact HB.out | apply below_alloc | apply pw_below_drewN | apply below_drew1 | refine below_set ?_ GE208.out) | exact HB.out)⟩⟩
      · rw [if_neg c13] at H
        have c13b0 : ((Int.tmod (IntKind.u64.wrap (a0)) 8) == 0) = false := beq_eq_false_iff_ne.mpr c13
        have c13b1 : ((Int.tmod (IntKind.u64.wrap (a0)) 8) != 0) = true := bne_iff_ne.mpr c13
        (first | rw [c13b0] | (simp only [i64_w, i32_w]; rw [c13b0]) | skip)
        by_cases c15 : (Int.tmod (IntKind.u64.wrap (a0)) 8) = 1
        · rw [if_pos c15] at H
          have c15b0 : ((Int.tmod (IntKind.u64.wrap (a0)) 8) == 1) = true := beq_iff_eq.mpr c15
          have c15b1 : ((Int.tmod (IntKind.u64.wrap (a0)) 8) != 1) = false := bne_eq_false_iff_eq.mpr c15
          clear c15
          have H' := Aside0.mk H
          clear H
          have hcz16_0 : w11.cell? ⟨gb208, 0, none⟩ = some (.int .i64 t203) := (blk_cell BK208.out 0).trans rfl
          have hcz16_1 : w11.cell? ⟨gb208, 1, none⟩ = some (.int .i64 t204) := (blk_cell BK208.out 1).trans rfl
          have hfz16_0 := blk_frozen BK208.out 0
          have hfz16_1 := blk_frozen BK208.out 1
          go_wp2
          go_meet
          case rel => exact ⟨_, (t205), (y209), (t203), (3), H', ⟨by first | omega | exact Nat.le_refl _⟩, ⟨by (with_reducible repeat (first | apply Kd.R_alloc | apply Kd.R_drewN | apply Kd.R_drew)); exact Kd.R_mono (Kd.R_far (p := ⟨gb208, 1, none⟩) (Kd.R_types HO207.out BK208.out (by decide)) (fun _ hk => by first | exact hk.2 | grind | (simp [Value.ownBlock] at hk ⊢; grind)) (.int .i64 3)) (fun _ hk => by first | exact hk.1.2 | grind | (simp [Value.ownBlock] at hk ⊢; grind))⟩, ⟨by (with_reducible repeat (first | apply Kd.R_alloc | apply Kd.R_drewN | apply Kd.R_drew)); exact Kd.R_mono (Kd.R_far (p := ⟨gb208, 1, none⟩) (Kd.R_types HO211.out BK208.out (by decide)) (fun _ hk => by first | exact hk.2 | grind | (simp [Value.ownBlock] at hk ⊢; grind)) (.int .i64 3)) (fun _ hk => by first | exact hk.1.2 | grind | (simp [Value.ownBlock] at hk ⊢; grind))⟩, ⟨by (with_reducible repeat (first | refine blk_drewN ?_ _ | refine blk_drew ?_ | refine blk_alloc ?_ _)); refine blk_put (cs := #[.int .i64 t203, .int .i64 t204]) ?_ 1 _ rfl; (with_reducible repeat (first | refine blk_drewN ?_ _ | refine blk_drew ?_ | refine blk_alloc ?_ _)); exact BK208.out⟩, ⟨by repeat (first | (with_reducible first | exact HB.out | apply below_alloc | apply pw_below_drewN | apply below_drew1 | refine below_set ?_ GE208.out) | exact HB.out)⟩⟩
        · rw [if_neg c15] at H
          have c15b0 : ((Int.tmod (IntKind.u64.wrap (a0)) 8) == 1) = false := beq_eq_false_iff_ne.mpr c15
          have c15b1 : ((Int.tmod (IntKind.u64.wrap (a0)) 8) != 1) = true := bne_iff_ne.mpr c15
          by_cases c17 : (Int.tmod (IntKind.u64.wrap (a0)) 8) = 2
          · rw [if_pos c17] at H
            have c17b0 : ((Int.tmod (IntKind.u64.wrap (a0)) 8) == 2) = true := beq_iff_eq.mpr c17
            have c17b1 : ((Int.tmod (IntKind.u64.wrap (a0)) 8) != 2) = false := bne_eq_false_iff_eq.mpr c17
            clear c17
            have H' := Aside0.mk H
            clear H
            have hcz18_0 : w11.cell? ⟨gb208, 0, none⟩ = some (.int .i64 t203) := (blk_cell BK208.out 0).trans rfl
            have hcz18_1 : w11.cell? ⟨gb208, 1, none⟩ = some (.int .i64 t204) := (blk_cell BK208.out 1).trans rfl
            have hfz18_0 := blk_frozen BK208.out 0
            have hfz18_1 := blk_frozen BK208.out 1
            go_wp2
            go_meet
            case rel => exact ⟨_, (t205), (y209), (wrap64 (1 - (wrap64 (1 + (Go.bits .and .i64 a1 1023))))), (t204), H', ⟨by first | omega | exact Nat.le_refl _⟩, ⟨by (with_reducible repeat (first | apply Kd.R_alloc | apply Kd.R_drewN | apply Kd.R_drew)); exact Kd.R_mono (Kd.R_far (p := ⟨gb208, 0, none⟩) (Kd.R_types HO207.out BK208.out (by decide)) (fun _ hk => by first | exact hk.2 | grind | (simp [Value.ownBlock] at hk ⊢; grind)) (.int .i64 (wrap64 (1 - (wrap64 (1 + (Go.bits .and .i64 a1 1023))))))) (fun _ hk => by first | exact hk.1.2 | grind | (simp [Value.ownBlock] at hk ⊢; grind))⟩, ⟨by (with_reducible repeat (first | apply Kd.R_alloc | apply Kd.R_drewN | apply Kd.R_drew)); exact Kd.R_mono (Kd.R_far (p := ⟨gb208, 0, none⟩) (Kd.R_types HO211.out BK208.out (by decide)) (fun _ hk => by first | exact hk.2 | grind | (simp [Value.ownBlock] at hk ⊢; grind)) (.int .i64 (wrap64 (1 - (wrap64 (1 + (Go.bits .and .i64 a1 1023))))))) (fun _ hk => by first | exact hk.1.2 | grind | (simp [Value.ownBlock] at hk ⊢; grind))⟩, ⟨by (with_reducible repeat (first | refine blk_drewN ?_ _ | refine blk_drew ?_ | refine blk_alloc ?_ _)); refine blk_put (cs := #[.int .i64 t203, .int .i64 t204]) ?_ 0 _ rfl; (with_reducible repeat (first | refine blk_drewN ?_ _ | refine blk_drew ?_ | refine blk_alloc ?_ _)); exact BK208.out⟩, ⟨by repeat (first | (with_reducible first | exact HB.out | apply below_alloc | apply pw_below_drewN | apply below_drew1 | refine below_set ?_ GE208.out) | exact HB.out)⟩⟩
          · rw [if_neg c17] at H
            have c17b0 : ((Int.tmod (IntKind.u64.wrap (a0)) 8) == 2) = false := beq_eq_false_iff_ne.mpr c17
            have c17b1 : ((Int.tmod (IntKind.u64.wrap (a0)) 8) != 2) = true := bne_iff_ne.mpr c17
            by_cases c19 : (Int.tmod (IntKind.u64.wrap (a0)) 8) = 3
            · rw [if_pos c19] at H
              have c19b0 : ((Int.tmod (IntKind.u64.wrap (a0)) 8) == 3) = true := beq_iff_eq.mpr c19
              have c19b1 : ((Int.tmod (IntKind.u64.wrap (a0)) 8) != 3) = false := bne_eq_false_iff_eq.mpr c19
              clear c19
              by_cases c20 : t205.length < 17592186044416
              · rw [if_pos c20] at H
                have LMc20 := Aside0.mk c20
                clear c20
                obtain ⟨y212, hy212⟩ : ∃ y_ : List Int, y_ = (t205 ++ [0]) := ⟨_, rfl⟩
                replace H : (grafterlaw6_ForwardForms.j0 k y212 y209 t203 t204) = some r := by first | (rw [hy212]; with_reducible exact H) | (have H2_ := (Option.bind_some _ _).symm.trans H; rw [hy212]; with_reducible exact H2_) | (have H2_ := (Option.bind_some _ _).symm.trans H; with_reducible exact H2_) | with_reducible exact H | (rw [hy212]; exact H) | exact H
                have Ny212 := Aside0.mk hy212
                clear hy212
                have H' := Aside0.mk H
                clear H
                go_wp2_with (first | ((with_reducible refine gate_builtin (b := .append) (xs := #[.tmp 43, .tmp 44]) rfl ?_); at_builtin; refine Kd.R_append (Kd.int .i64) (w0 := w) w.heap.size rfl (.tmp 43) (.tmp 44) 33 3 (.int .i64 0) 8 rfl Try.underlying33 info3 rfl (by decide) (by omega) v206 t205 0 [.int .i64 0] (fun k_ => some k_ ≠ (v210 : Value).ownBlock) (fun _ => False) rfl rfl ?aP (fun _ hk => hk.elim) ?aF ?aO ?aB ?aS ?aL ?_; (case aP => exact rfl); (case aB => exact (by repeat (first | (with_reducible first | exact HB.out | apply below_alloc | apply pw_below_drewN | apply below_drew1 | refine below_set ?_ GE208.out) | exact HB.out))); (case aF => exact (fun k_ hk => Kd.fresh' (Kd.R_lt (by (with_reducible repeat (first | apply Kd.R_alloc | apply Kd.R_drewN | apply Kd.R_drew)); exact HO211.out)) k_ hk)); (case aO => exact (by (with_reducible repeat (first | apply Kd.R_alloc | apply Kd.R_drewN | apply Kd.R_drew)); exact Kd.R_mono HO207.out (fun _ hk => by first | exact hk.2 | grind | (simp [Value.ownBlock] at hk ⊢; grind)))); (case aS => exact (below_size (by repeat (first | (with_reducible first | exact HB.out | apply below_alloc | apply pw_below_drewN | apply below_drew1 | refine below_set ?_ GE208.out) | exact HB.out)))); (case aL => have := LMc20.out; omega); intro v213 w21 ho hb hg hat; rw [← Ny212.out] at ho; have n0_ := Aside0.mk (blk_grown (g := gb208) (o := .cells #[.int .i64 t203, .int .i64 t204] 23 (0, 0)) (by (with_reducible repeat (first | refine blk_drewN ?_ _ | refine blk_drew ?_ | refine blk_alloc ?_ _)); exact BK208.out) hg (Kd.R_ne HO207.out BK208.out (by decide))); have n1_ := Aside0.mk (Kd.R_after (ok := (fun _ => True)) (by (with_reducible repeat (first | apply Kd.R_alloc | apply Kd.R_drewN | apply Kd.R_drew)); exact HO211.out) hg hat); have n2_ := Aside0.mk (hb); have n3_ := Aside0.mk (ho); clear BK208; clear HO211; clear HB; clear HO207; have BK208 := n0_; have HO211 := n1_; have HB := n2_; have HO214 := n3_; clear n0_ n1_ n2_ n3_; clear ho hb hg hat))
                go_meet
                case rel => exact ⟨_, (y212), (y209), (t203), (t204), H', ⟨by first | omega | exact Nat.le_refl _⟩, ⟨by (with_reducible repeat (first | apply Kd.R_alloc | apply Kd.R_drewN | apply Kd.R_drew)); exact HO214.out⟩, ⟨by (with_reducible repeat (first | apply Kd.R_alloc | apply Kd.R_drewN | apply Kd.R_drew)); exact Kd.R_mono HO211.out (fun _ hk => by first | exact hk.2 | grind | (simp [Value.ownBlock] at hk ⊢; grind))⟩, ⟨by (with_reducible repeat (first | refine blk_drewN ?_ _ | refine blk_drew ?_ | refine blk_alloc ?_ _)); exact BK208.out⟩, ⟨by repeat (first | (with_reducible first | exact HB.out | apply below_alloc | apply pw_below_drewN | apply below_drew1 | refine below_set ?_ GE208.out) | exact HB.out)⟩⟩
              · rw [if_neg c20] at H
                exact absurd H (by simp)
            · rw [if_neg c19] at H
              have c19b0 : ((Int.tmod (IntKind.u64.wrap (a0)) 8) == 3) = false := beq_eq_false_iff_ne.mpr c19
              have c19b1 : ((Int.tmod (IntKind.u64.wrap (a0)) 8) != 3) = true := bne_iff_ne.mpr c19
              by_cases c22 : (Int.tmod (IntKind.u64.wrap (a0)) 8) = 4
              · rw [if_pos c22] at H
                have c22b0 : ((Int.tmod (IntKind.u64.wrap (a0)) 8) == 4) = true := beq_iff_eq.mpr c22
                have c22b1 : ((Int.tmod (IntKind.u64.wrap (a0)) 8) != 4) = false := bne_eq_false_iff_eq.mpr c22
                clear c22
                by_cases c23 : 8 ≤ (t205.length : Int)
                · rw [if_pos c23] at H
                  have c23b0 := eq_true c23
                  have c23b1 : decide (8 ≤ (t205.length : Int)) = true := decide_eq_true c23
                  clear c23
                  obtain ⟨y215, hy215⟩ : ∃ y_ : List Int, y_ = (t205.take (8 : Int).toNat) := ⟨_, rfl⟩
                  replace H : (grafterlaw6_ForwardForms.j0 k y215 y209 t203 t204) = some r := by first | (rw [hy215]; with_reducible exact H) | (have H2_ := (Option.bind_some _ _).symm.trans H; rw [hy215]; with_reducible exact H2_) | (have H2_ := (Option.bind_some _ _).symm.trans H; with_reducible exact H2_) | with_reducible exact H | (rw [hy215]; exact H) | exact H
                  have Ny215 := Aside0.mk hy215
                  clear hy215
                  have H' := Aside0.mk H
                  clear H
                  obtain ⟨Ao24, co24, eo24⟩ := Kd.R_slice HO207.out
                  subst eo24
                  have q25 : (8 : Int) ≤ ((t205.length : Int) : Int) := of_decide_eq_true (by first | (with_reducible assumption) | assumption)
                  obtain ⟨i025, hi025, _, hsz25, _⟩ := info_parts info3
                  have hcut25 := cut_to (P := Try.prog) 33 3 .i64 Try.underlying33 hi025 Ao24 t205.length co24 8 (by omega) q25 (Kd.R_reads' HO207.out).2.1
                  have hr25 := Kd.R_take (m := (8 : Int).toNat) HO207.out (by omega)
                  have hy25 : y215.length = (8 : Int).toNat := (by rw [Ny215.out, List.length_take]; omega)
                  rw [← Ny215.out] at hr25
                  rw [← hy25] at hr25 hcut25
                  clear hy25 hi025 hsz25 HO207
                  have HO217 := Aside0.mk hr25
                  clear hr25
                  replace q25 := eq_true q25
                  go_wp2
                  go_meet
                  case rel => exact ⟨_, (y215), (y209), (t203), (t204), H', ⟨by first | omega | exact Nat.le_refl _⟩, ⟨by (with_reducible repeat (first | apply Kd.R_alloc | apply Kd.R_drewN | apply Kd.R_drew)); exact Kd.R_mono HO217.out (fun _ hk => by first | exact hk.2 | grind | (simp [Value.ownBlock] at hk ⊢; grind))⟩, ⟨by (with_reducible repeat (first | apply Kd.R_alloc | apply Kd.R_drewN | apply Kd.R_drew)); exact Kd.R_mono HO211.out (fun _ hk => by first | exact hk.2 | grind | (simp [Value.ownBlock] at hk ⊢; grind))⟩, ⟨by (with_reducible repeat (first | refine blk_drewN ?_ _ | refine blk_drew ?_ | refine blk_alloc ?_ _)); exact BK208.out⟩, ⟨by repeat (first | (with_reducible first | exact HB.out | apply below_alloc | apply pw_below_drewN | apply below_drew1 | refine below_set ?_ GE208.out) | exact HB.out)⟩⟩
                · rw [if_neg c23] at H
                  exact absurd H (by simp)
              · rw [if_neg c22] at H
                have c22b0 : ((Int.tmod (IntKind.u64.wrap (a0)) 8) == 4) = false := beq_eq_false_iff_ne.mpr c22
                have c22b1 : ((Int.tmod (IntKind.u64.wrap (a0)) 8) != 4) = true := bne_iff_ne.mpr c22
                by_cases c26 : (Int.tmod (IntKind.u64.wrap (a0)) 8) = 5
                · rw [if_pos c26] at H
                  have c26b0 : ((Int.tmod (IntKind.u64.wrap (a0)) 8) == 5) = true := beq_iff_eq.mpr c26
                  have c26b1 : ((Int.tmod (IntKind.u64.wrap (a0)) 8) != 5) = false := bne_eq_false_iff_eq.mpr c26
                  clear c26
                  by_cases c27 : 4 < (t205.length : Int)
                  · rw [if_pos c27] at H
                    have c27b0 : decide (4 < (t205.length : Int)) = true := decide_eq_true c27
                    have c27b1 : decide (4 < t205.length) = true := decide_eq_true (by omega)
                    clear c27
                    obtain ⟨y218, hy218⟩ : ∃ y_ : List Int, y_ = (t205.set (4 : Int).toNat (wrap64 (1073741824 + (wrap64 (1 + (Go.bits .and .i64 a1 1023)))))) := ⟨_, rfl⟩
                    replace H : (grafterlaw6_ForwardForms.j0 k y218 y209 t203 t204) = some r := by first | (rw [hy218]; with_reducible exact H) | (have H2_ := (Option.bind_some _ _).symm.trans H; rw [hy218]; with_reducible exact H2_) | (have H2_ := (Option.bind_some _ _).symm.trans H; with_reducible exact H2_) | with_reducible exact H | (rw [hy218]; exact H) | exact H
                    have Ny218 := Aside0.mk hy218
                    clear hy218
                    have H' := Aside0.mk H
                    clear H
                    have p28 : 0 ≤ (4 : Int) := (by omega)
                    have q28 : (4 : Int) < ((t205.length : Int) : Int) := of_decide_eq_true (by first | (with_reducible assumption) | assumption)
                    have qi28 : (4 < t205.length) = True := eq_true (by omega)
                    obtain ⟨go28, co28, eo28, gb28, gl28, cl28, HG28⟩ := Kd.R_form HO207.out (by omega)
                    (first | cases eo28 | (injection eo28 with ea_ en_ ec_; (first | subst ea_ | (injection ea_ with ea_; subst ea_)); subst ec_; clear en_))
                    have GB28 := Aside0.mk gb28
                    have GG28 := Aside0.mk HG28
                    clear gb28 gl28 HG28
                    obtain ⟨hx28_0, hf28_0⟩ := Kd.R_celln 0 HO207.out (4 : Int) p28 q28
                    (try rw [show ((4 : Int)).toNat = 4 from rfl] at hx28_0)
                    (try simp only [Nat.reduceMul, Nat.zero_mul, Nat.zero_add, Nat.reduceAdd] at hx28_0)
                    (try rw [show ((4 : Int)).toNat = 4 from rfl] at hf28_0)
                    (try simp only [Nat.reduceMul, Nat.zero_mul, Nat.zero_add, Nat.reduceAdd] at hf28_0)
                    replace p28 := eq_true p28
                    replace q28 := eq_true q28
                    have n_ := Aside0.mk (Kd.R_mono (ok' := (fun k_ => some k_ ≠ (v210 : Value).ownBlock)) HO207.out (fun k_ hk => hk.2))
                    clear HO207
                    have HO207 := n_
                    clear n_
                    have HP29 := Kd.R_putg HO207.out (4 : Int) (wrap64 (1073741824 + (wrap64 (1 + (Go.bits .and .i64 a1 1023)))))
                    go_wp2_with (first | ((with_reducible refine gate_store (t := 3) (p := 55) rfl ?_); refine store_event (t := 3) (p := 55) (v := ?vo_w30) (w1 := (w11.setCell ⟨go28, (4 : Int).toNat, none⟩ (.int .i64 (wrap64 (1073741824 + (wrap64 (1 + (Go.bits .and .i64 a1 1023)))))))) ?hg ?ho ?hn ?hr ?_; (case ho => rfl); (case hg => rfl); (case hn => rfl); (case hr => first | (go_simp; done) | (go_simp; rfl)); intro w30 hw; have hg : w11.grownBy w30 (some go28) := (by rw [hw]; exact HP29.2); have hp_ : Kd.R (Kd.int .i64) 3 w30 w.heap.size (fun k_ => some k_ ≠ (v210 : Value).ownBlock) (.slice (some ⟨go28, 0, none⟩) t205.length co28) y218 := (by rw [hw, Ny218.out]; exact HP29.1); clear HP29; have n0_ := Aside0.mk (hp_); have n1_ := Aside0.mk (blk_grown (g := gb208) (o := .cells #[.int .i64 t203, .int .i64 t204] 23 (0, 0)) (by (with_reducible repeat (first | refine blk_drewN ?_ _ | refine blk_drew ?_ | refine blk_alloc ?_ _)); exact BK208.out) hg (Kd.R_ne HO207.out BK208.out (by decide))); have n2_ := Aside0.mk (Kd.R_after (v := (.slice (some ⟨go28, 0, none⟩) t205.length co28)) (v1 := (.slice (some ⟨go28, 0, none⟩) t205.length co28)) (ok := (fun _ => True)) (by (with_reducible repeat (first | apply Kd.R_alloc | apply Kd.R_drewN | apply Kd.R_drew)); exact HO211.out) hg (.inl rfl)); have n3_ := Aside0.mk ((by rw [hw]; exact below_set (HB.out) GB28.out : Below w.heap.size w w30)); clear HO207; clear BK208; clear HO211; clear HB; have HO207 := n0_; have BK208 := n1_; have HO211 := n2_; have HB := n3_; clear n0_ n1_ n2_ n3_; clear hg hw hp_))
                    go_meet
                    case rel => exact ⟨_, (y218), (y209), (t203), (t204), H', ⟨by first | omega | exact Nat.le_refl _⟩, ⟨by (with_reducible repeat (first | apply Kd.R_alloc | apply Kd.R_drewN | apply Kd.R_drew)); exact HO207.out⟩, ⟨by (with_reducible repeat (first | apply Kd.R_alloc | apply Kd.R_drewN | apply Kd.R_drew)); exact Kd.R_mono HO211.out (fun _ hk => by first | exact hk.2 | grind | (simp [Value.ownBlock] at hk ⊢; grind))⟩, ⟨by (with_reducible repeat (first | refine blk_drewN ?_ _ | refine blk_drew ?_ | refine blk_alloc ?_ _)); exact BK208.out⟩, ⟨by repeat (first | (with_reducible first | exact HB.out | apply below_alloc | apply pw_below_drewN | apply below_drew1 | refine below_set ?_ GE208.out) | exact HB.out)⟩⟩
                  · rw [if_neg c27] at H
                    exact absurd H (by simp)
                · rw [if_neg c26] at H
                  have c26b0 : ((Int.tmod (IntKind.u64.wrap (a0)) 8) == 5) = false := beq_eq_false_iff_ne.mpr c26
                  have c26b1 : ((Int.tmod (IntKind.u64.wrap (a0)) 8) != 5) = true := bne_iff_ne.mpr c26
                  by_cases c31 : (Int.tmod (IntKind.u64.wrap (a0)) 8) = 6
                  · rw [if_pos c31] at H
                    have c31b0 : ((Int.tmod (IntKind.u64.wrap (a0)) 8) == 6) = true := beq_iff_eq.mpr c31
                    have c31b1 : ((Int.tmod (IntKind.u64.wrap (a0)) 8) != 6) = false := bne_eq_false_iff_eq.mpr c31
                    clear c31
                    obtain ⟨y219, hy219⟩ : ∃ y_ : List Int, y_ = (([1] : List Int)) := ⟨_, rfl⟩
                    replace H : (grafterlaw6_ForwardForms.j0 k t205 y219 t203 t204) = some r := by first | (rw [hy219]; with_reducible exact H) | (have H2_ := (Option.bind_some _ _).symm.trans H; rw [hy219]; with_reducible exact H2_) | (have H2_ := (Option.bind_some _ _).symm.trans H; with_reducible exact H2_) | with_reducible exact H | (rw [hy219]; exact H) | exact H
                    have Ny219 := Aside0.mk hy219
                    clear hy219
                    have H' := Aside0.mk H
                    clear H
                    go_wp2_with (first | ((with_reducible refine gate_dst (N := 58) rfl ?_); refine Kd.R_lit (Kd.int .i64) _ 3 ?hg (N := 58) ?hd (xs := ([1] : List Int)) (inner := [.int .i64 1]) (ok := fun _ => True) (okp := fun _ => True) ?hr ?hp (fun _ hk => by first | exact hk | grind | (simp [Value.ownBlock] at hk ⊢; grind)) trivial (Below.refl _ _) (Nat.le_refl _) (by simp) ?_; (case hd => rfl); (case hg => rfl); (case hr => first | (go_simp; done) | (go_simp; rfl)); (case hp => exact (Reps.one (show Kd.M (Kd.int .i64) _ _ _ 1 [.int .i64 1] from rfl) (Reps.none _ _))); intro v220 w32 ho33 hb hg_ hnew_; clear hg_ hnew_; (first | rw [← Ny219.out] at ho33 | (simp only [Int.reduceToNat] at ho33; rw [← Ny219.out] at ho33)); have n0_ := Aside0.mk (Kd.R_elder' (by (with_reducible repeat (first | apply Kd.R_alloc | apply Kd.R_drewN | apply Kd.R_drew)); exact HO207.out) (Kd.R_base ho33) hb); have n1_ := Aside0.mk (Kd.R_elder' (by (with_reducible repeat (first | apply Kd.R_alloc | apply Kd.R_drewN | apply Kd.R_drew)); exact HO211.out) (Kd.R_base ho33) hb); have n2_ := Aside0.mk (Kd.R_lower (Kd.R_new' (Kd.R_new' ho33 (Kd.R_lt (by (with_reducible repeat (first | apply Kd.R_alloc | apply Kd.R_drewN | apply Kd.R_drew)); exact HO207.out))) (Kd.R_lt (by (with_reducible repeat (first | apply Kd.R_alloc | apply Kd.R_drewN | apply Kd.R_drew)); exact HO211.out))) (below_size (by repeat (first | (with_reducible first | exact HB.out | apply below_alloc | apply pw_below_drewN | apply below_drew1 | refine below_set ?_ GE208.out) | exact HB.out)))); have n3_ := Aside0.mk (blk_below (g := gb208) (o := .cells #[.int .i64 t203, .int .i64 t204] 23 (0, 0)) (by (with_reducible repeat (first | refine blk_drewN ?_ _ | refine blk_drew ?_ | refine blk_alloc ?_ _)); exact BK208.out) hb); have n4_ := Aside0.mk (below_step (by repeat (first | (with_reducible first | exact HB.out | apply below_alloc | apply pw_below_drewN | apply below_drew1 | refine below_set ?_ GE208.out) | exact HB.out)) hb); clear HO207; clear HO211; clear BK208; clear HB; have HO207 := n0_; have HO211 := n1_; have HO221 := n2_; have BK208 := n3_; have HB := n4_; clear n0_ n1_ n2_ n3_ n4_; clear hb ho33))
                    go_meet
                    case rel => exact ⟨_, (t205), (y219), (t203), (t204), H', ⟨by first | omega | exact Nat.le_refl _⟩, ⟨by (with_reducible repeat (first | apply Kd.R_alloc | apply Kd.R_drewN | apply Kd.R_drew)); exact Kd.R_mono HO207.out (fun _ hk => by first | exact hk.2 | grind | (simp [Value.ownBlock] at hk ⊢; grind))⟩, ⟨by (with_reducible repeat (first | apply Kd.R_alloc | apply Kd.R_drewN | apply Kd.R_drew)); exact Kd.R_mono HO221.out (fun _ hk => by first | exact hk.1.2 | grind | (simp [Value.ownBlock] at hk ⊢; grind))⟩, ⟨by (with_reducible repeat (first | refine blk_drewN ?_ _ | refine blk_drew ?_ | refine blk_alloc ?_ _)); exact BK208.out⟩, ⟨by repeat (first | (with_reducible first | exact HB.out | apply below_alloc | apply pw_below_drewN | apply below_drew1 | refine below_set ?_ GE208.out) | exact HB.out)⟩⟩
                  · rw [if_neg c31] at H
                    have c31b0 : ((Int.tmod (IntKind.u64.wrap (a0)) 8) == 6) = false := beq_eq_false_iff_ne.mpr c31
                    have c31b1 : ((Int.tmod (IntKind.u64.wrap (a0)) 8) != 6) = true := bne_iff_ne.mpr c31
                    by_cases c34 : 1 < (y209.length : Int)
                    · rw [if_pos c34] at H
                      have c34b0 : decide (1 < (y209.length : Int)) = true := decide_eq_true c34
                      have c34b1 : decide (1 < y209.length) = true := decide_eq_true (by omega)
                      clear c34
                      obtain ⟨y222, hy222⟩ : ∃ y_ : List Int, y_ = (y209.set (1 : Int).toNat (wrap64 ((-1073741824) - (wrap64 (1 + (Go.bits .and .i64 a1 1023)))))) := ⟨_, rfl⟩
                      replace H : (grafterlaw6_ForwardForms.j0 k t205 y222 t203 t204) = some r := by first | (rw [hy222]; with_reducible exact H) | (have H2_ := (Option.bind_some _ _).symm.trans H; rw [hy222]; with_reducible exact H2_) | (have H2_ := (Option.bind_some _ _).symm.trans H; with_reducible exact H2_) | with_reducible exact H | (rw [hy222]; exact H) | exact H
                      have Ny222 := Aside0.mk hy222
                      clear hy222
                      have H' := Aside0.mk H
                      clear H
                      have p35 : 0 ≤ (1 : Int) := (by omega)
                      have q35 : (1 : Int) < ((y209.length : Int) : Int) := of_decide_eq_true (by first | (with_reducible assumption) | assumption)
                      have qi35 : (1 < y209.length) = True := eq_true (by omega)
                      obtain ⟨go35, co35, eo35, gb35, gl35, cl35, HG35⟩ := Kd.R_form HO211.out (by omega)
                      (first | cases eo35 | (injection eo35 with ea_ en_ ec_; (first | subst ea_ | (injection ea_ with ea_; subst ea_)); subst ec_; clear en_))
                      have GB35 := Aside0.mk gb35
                      have GG35 := Aside0.mk HG35
                      clear gb35 gl35 HG35
                      obtain ⟨hx35_0, hf35_0⟩ := Kd.R_celln 0 HO211.out (1 : Int) p35 q35
                      (try rw [show ((1 : Int)).toNat = 1 from rfl] at hx35_0)
                      (try simp only [Nat.reduceMul, Nat.zero_mul, Nat.zero_add, Nat.reduceAdd] at hx35_0)
                      (try rw [show ((1 : Int)).toNat = 1 from rfl] at hf35_0)
                      (try simp only [Nat.reduceMul, Nat.zero_mul, Nat.zero_add, Nat.reduceAdd] at hf35_0)
                      replace p35 := eq_true p35
                      replace q35 := eq_true q35
                      have n_ := Aside0.mk (Kd.R_mono (ok' := (fun k_ => some k_ ≠ (v206 : Value).ownBlock)) HO211.out (fun k_ hk => hk.2))
                      clear HO211
                      have HO211 := n_
                      clear n_
                      have HP36 := Kd.R_putg HO211.out (1 : Int) (wrap64 ((-1073741824) - (wrap64 (1 + (Go.bits .and .i64 a1 1023)))))
                      go_wp2_with (first | ((with_reducible refine gate_store (t := 3) (p := 29) rfl ?_); refine store_event (t := 3) (p := 29) (v := ?vo_w37) (w1 := (w11.setCell ⟨go35, (1 : Int).toNat, none⟩ (.int .i64 (wrap64 ((-1073741824) - (wrap64 (1 + (Go.bits .and .i64 a1 1023)))))))) ?hg ?ho ?hn ?hr ?_; (case ho => rfl); (case hg => rfl); (case hn => rfl); (case hr => first | (go_simp; done) | (go_simp; rfl)); intro w37 hw; have hg : w11.grownBy w37 (some go35) := (by rw [hw]; exact HP36.2); have hp_ : Kd.R (Kd.int .i64) 3 w37 w.heap.size (fun k_ => some k_ ≠ (v206 : Value).ownBlock) (.slice (some ⟨go35, 0, none⟩) y209.length co35) y222 := (by rw [hw, Ny222.out]; exact HP36.1); clear HP36; have n0_ := Aside0.mk (Kd.R_after (v := (.slice (some ⟨go35, 0, none⟩) y209.length co35)) (v1 := (.slice (some ⟨go35, 0, none⟩) y209.length co35)) (ok := (fun _ => True)) (by (with_reducible repeat (first | apply Kd.R_alloc | apply Kd.R_drewN | apply Kd.R_drew)); exact HO207.out) hg (.inl rfl)); have n1_ := Aside0.mk (blk_grown (g := gb208) (o := .cells #[.int .i64 t203, .int .i64 t204] 23 (0, 0)) (by (with_reducible repeat (first | refine blk_drewN ?_ _ | refine blk_drew ?_ | refine blk_alloc ?_ _)); exact BK208.out) hg (Kd.R_ne HO211.out BK208.out (by decide))); have n2_ := Aside0.mk (hp_); have n3_ := Aside0.mk ((by rw [hw]; exact below_set (HB.out) GB35.out : Below w.heap.size w w37)); clear HO207; clear BK208; clear HO211; clear HB; have HO207 := n0_; have BK208 := n1_; have HO211 := n2_; have HB := n3_; clear n0_ n1_ n2_ n3_; clear hg hw hp_))
                      go_meet
                      case rel => exact ⟨_, (t205), (y222), (t203), (t204), H', ⟨by first | omega | exact Nat.le_refl _⟩, ⟨by (with_reducible repeat (first | apply Kd.R_alloc | apply Kd.R_drewN | apply Kd.R_drew)); exact Kd.R_mono HO207.out (fun _ hk => by first | exact hk.2 | grind | (simp [Value.ownBlock] at hk ⊢; grind))⟩, ⟨by (with_reducible repeat (first | apply Kd.R_alloc | apply Kd.R_drewN | apply Kd.R_drew)); exact HO211.out⟩, ⟨by (with_reducible repeat (first | refine blk_drewN ?_ _ | refine blk_drew ?_ | refine blk_alloc ?_ _)); exact BK208.out⟩, ⟨by repeat (first | (with_reducible first | exact HB.out | apply below_alloc | apply pw_below_drewN | apply below_drew1 | refine below_set ?_ GE208.out) | exact HB.out)⟩⟩
                    · rw [if_neg c34] at H
                      exact absurd H (by simp)
    case rest =>
      clear HC6
      try clear c1
      try clear c2
      try clear p2
      try clear q2
      try clear hx2
      try clear qi2
      try clear hf2
      try clear c3
      try clear p3
      try clear q3
      try clear hx3
      try clear qi3
      try clear hf3
      try clear c4
      try clear p6
      try clear c12
      try clear c13
      try clear c13b0
      try clear c13b1
      try clear c15
      try clear c15b0
      try clear c15b1
      try clear c17
      try clear c17b0
      try clear c17b1
      try clear c19
      try clear c19b0
      try clear c19b1
      try clear c20
      try clear c22
      try clear c22b0
      try clear c22b1
      try clear c23
      try clear c23b0
      try clear c23b1
      try clear q25
      try clear c26
      try clear c26b0
      try clear c26b1
      try clear c27
      try clear c27b0
      try clear c27b1
      try clear p28
      try clear q28
      try clear hx28
      try clear qi28
      try clear hf28
      try clear c31
      try clear c31b0
      try clear c31b1
      try clear c34
      try clear c34b0
      try clear c34b1
      try clear p35
      try clear q35
      try clear hx35
      try clear qi35
      try clear hf35
      try clear hcz10_0
      try clear hcz10_1
      try clear hcz14_0
      try clear hcz14_1
      try clear hcz16_0
      try clear hcz16_1
      try clear hcz18_0
      try clear hcz18_1
      try clear hfz10_0
      try clear hfz10_1
      try clear hfz14_0
      try clear hfz14_1
      try clear hfz16_0
      try clear hfz16_1
      try clear hfz18_0
      try clear hfz18_1
      try clear hx28_0
      try clear hx35_0
      try clear p28
      try clear p35
      try clear q25
      try clear q28
      try clear q35
      obtain ⟨kq, x7_5, x8_5, x209000_5, x209001_5, HA, HJ5, HO_7, HO_8, BK208, HB⟩ := hcut
      cases kq with
      | zero => exact absurd HA.out (by simp [grafterlaw6_ForwardForms.j0])
      | succ kj5 =>
        have H := HA.out
        clear HA
        simp only [grafterlaw6_ForwardForms.j0] at H
        replace H := Option.bind_eq_some_iff.mp H
        obtain ⟨⟨t223, t226⟩, A380, H⟩ := H
        replace H : ((forward_Out.f kj5 x209000_5 x209001_5 x7_5 x8_5).bind fun bt227 => (if (t223.length : Int) = 0 then ((grafterlaw0_Num.f t226).bind fun t229 => (if t229 = 600 then (if bt227.1 = 0 then ((grafterlaw0_Num.f bt227.2).bind fun t230 => (some (t230 == 600))) else (some false)) else (some false))) else (some false))) = some r := H
        have A38 := Aside0.mk A380
        clear A380
        replace H := Option.bind_eq_some_iff.mp H
        obtain ⟨⟨t227, t228⟩, A390, H⟩ := H
        replace H : (if (t223.length : Int) = 0 then ((grafterlaw0_Num.f t226).bind fun t229 => (if t229 = 600 then (if t227 = 0 then ((grafterlaw0_Num.f t228).bind fun t230 => (some (t230 == 600))) else (some false)) else (some false))) else (some false)) = some r := H
        have A39 := Aside0.mk A390
        clear A390
        by_cases c40 : (t223.length : Int) = 0
        · rw [if_pos c40] at H
          have c40b0 : ((t223.length : Int) == 0) = true := beq_iff_eq.mpr c40
          have c40b1 : ((t223.length : Int) != 0) = false := bne_eq_false_iff_eq.mpr c40
          clear c40
          replace H := Option.bind_eq_some_iff.mp H
          obtain ⟨t229, A410, H⟩ := H
          replace H : (if t229 = 600 then (if t227 = 0 then ((grafterlaw0_Num.f t228).bind fun t230 => (some (t230 == 600))) else (some false)) else (some false)) = some r := H
          have A41 := Aside0.mk A410
          clear A410
          by_cases c42 : t229 = 600
          · rw [if_pos c42] at H
            have c42b0 : (t229 == 600) = true := beq_iff_eq.mpr c42
            have c42b1 : (t229 != 600) = false := bne_eq_false_iff_eq.mpr c42
            clear c42
            by_cases c43 : t227 = 0
            · rw [if_pos c43] at H
              have c43b0 : (t227 == 0) = true := beq_iff_eq.mpr c43
              have c43b1 : (t227 != 0) = false := bne_eq_false_iff_eq.mpr c43
              clear c43
              replace H := Option.bind_eq_some_iff.mp H
              obtain ⟨t230, A440, H⟩ := H
              replace H : (some (t230 == 600)) = some r := H
              have A44 := Aside0.mk A440
              clear A440
              obtain rfl := Option.some.inj H
              have hcz45_0 : wc.cell? ⟨gb208, 0, none⟩ = some (.int .i64 x209000_5) := (blk_cell BK208.out 0).trans rfl
              have hcz45_1 : wc.cell? ⟨gb208, 1, none⟩ = some (.int .i64 x209001_5) := (blk_cell BK208.out 1).trans rfl
              have hfz45_0 := blk_frozen BK208.out 0
              have hfz45_1 := blk_frozen BK208.out 1
              obtain ⟨Ao46, co46, eo46⟩ := Kd.R_slice HO_7.out
              subst eo46
              obtain ⟨Ao47, co47, eo47⟩ := Kd.R_slice HO_8.out
              subst eo47
              go_wp2_with (first | ((with_reducible refine gate_callee (f := 35) rfl ?_); refine goesL_ (some 63) rfl rfl Try.func35 (by kernel_rfl) rfl #[.agg #[.int .i64 x209000_5, .int .i64 x209001_5], .slice Ao46 x7_5.length co46, .slice Ao47 x8_5.length co47] rfl (by (try simp only [List.map_toArray, List.map_cons, List.map_nil]); first | done | rfl | (simp only [List.length_drop, List.length_take]; rfl)) ?_; (with_reducible refine (forward_Hidden.calls kj5 x209000_5 x209001_5 _ _ x7_5 _ _ x8_5 t223 t226 _ ?side1 ?side2 ?side3 ?side4 A38.out).mono ?_); (case side1 => repeat (first | exact (Kd.R_reads' HO_7.out).2.2 | (with_reducible refine Kd.C_alloc ?_ _) | (with_reducible refine Kd.C_drewN ?_ _) | (with_reducible refine Kd.C_drew ?_))); (case side2 => exact (Kd.R_reads' HO_7.out).2.1); (case side3 => repeat (first | exact (Kd.R_reads' HO_8.out).2.2 | (with_reducible refine Kd.C_alloc ?_ _) | (with_reducible refine Kd.C_drewN ?_ _) | (with_reducible refine Kd.C_drew ?_))); (case side4 => exact (Kd.R_reads' HO_8.out).2.1); rintro e w48 ⟨v224, rfl, ho0, hb⟩; refine ⟨_, rfl, ?_⟩; have n0_ := Aside0.mk (Kd.R_elder' (by (with_reducible repeat (first | apply Kd.R_alloc | apply Kd.R_drewN | apply Kd.R_drew)); exact HO_7.out) (Kd.R_base ho0) hb); have n1_ := Aside0.mk (Kd.R_elder' (by (with_reducible repeat (first | apply Kd.R_alloc | apply Kd.R_drewN | apply Kd.R_drew)); exact HO_8.out) (Kd.R_base ho0) hb); have n2_ := Aside0.mk (Kd.R_lower (Kd.R_new' (Kd.R_new' ho0 (Kd.R_lt (by (with_reducible repeat (first | apply Kd.R_alloc | apply Kd.R_drewN | apply Kd.R_drew)); exact HO_7.out))) (Kd.R_lt (by (with_reducible repeat (first | apply Kd.R_alloc | apply Kd.R_drewN | apply Kd.R_drew)); exact HO_8.out))) (below_size (by repeat (first | (with_reducible first | exact HB.out | apply below_alloc | apply pw_below_drewN | apply below_drew1 | refine below_set ?_ GE208.out) | exact HB.out)))); have n3_ := Aside0.mk (blk_below (g := gb208) (o := .cells #[.int .i64 x209000_5, .int .i64 x209001_5] 23 (0, 0)) (by (with_reducible repeat (first | refine blk_drewN ?_ _ | refine blk_drew ?_ | refine blk_alloc ?_ _)); exact BK208.out) hb); have n4_ := Aside0.mk (below_step (by repeat (first | (with_reducible first | exact HB.out | apply below_alloc | apply pw_below_drewN | apply below_drew1 | refine below_set ?_ GE208.out) | exact HB.out)) hb); clear HO_7; clear HO_8; clear BK208; clear HB; have HO_7 := n0_; have HO_8 := n1_; have HO225 := n2_; have BK208 := n3_; have HB := n4_; clear n0_ n1_ n2_ n3_ n4_; (try clear hb); (try clear hb2); (try clear hk); (try clear hi); (try clear ho0); have hcz49_0 : w48.cell? ⟨gb208, 0, none⟩ = some (.int .i64 x209000_5) := (blk_cell BK208.out 0).trans rfl; have hcz49_1 : w48.cell? ⟨gb208, 1, none⟩ = some (.int .i64 x209001_5) := (blk_cell BK208.out 1).trans rfl; have hfz49_0 := blk_frozen BK208.out 0; have hfz49_1 := blk_frozen BK208.out 1) | ((with_reducible refine gate_callee (f := 37) rfl ?_); refine goesL_ (some 70) rfl rfl Try.func37 (by kernel_rfl) rfl #[.agg #[.int .i64 x209000_5, .int .i64 x209001_5], .slice Ao46 x7_5.length co46, .slice Ao47 x8_5.length co47] rfl (by (try simp only [List.map_toArray, List.map_cons, List.map_nil]); first | done | rfl | (simp only [List.length_drop, List.length_take]; rfl)) ?_; (with_reducible refine (forward_Out.calls kj5 x209000_5 x209001_5 _ _ x7_5 _ _ x8_5 t227 t228 _ ?side1 ?side2 ?side3 ?side4 A39.out).mono ?_); (case side1 => repeat (first | exact (Kd.R_reads' HO_7.out).2.2 | (with_reducible refine Kd.C_alloc ?_ _) | (with_reducible refine Kd.C_drewN ?_ _) | (with_reducible refine Kd.C_drew ?_))); (case side2 => exact (Kd.R_reads' HO_7.out).2.1); (case side3 => repeat (first | exact (Kd.R_reads' HO_8.out).2.2 | (with_reducible refine Kd.C_alloc ?_ _) | (with_reducible refine Kd.C_drewN ?_ _) | (with_reducible refine Kd.C_drew ?_))); (case side4 => exact (Kd.R_reads' HO_8.out).2.1); rintro e w50 ⟨rfl, hb⟩; refine ⟨_, rfl, ?_⟩; have n0_ := Aside0.mk (Kd.R_below (by (with_reducible repeat (first | apply Kd.R_alloc | apply Kd.R_drewN | apply Kd.R_drew)); exact HO_7.out) hb); have n1_ := Aside0.mk (Kd.R_below (by (with_reducible repeat (first | apply Kd.R_alloc | apply Kd.R_drewN | apply Kd.R_drew)); exact HO_8.out) hb); have n2_ := Aside0.mk (Kd.R_below (by (with_reducible repeat (first | apply Kd.R_alloc | apply Kd.R_drewN | apply Kd.R_drew)); exact HO225.out) hb); have n3_ := Aside0.mk (blk_below (g := gb208) (o := .cells #[.int .i64 x209000_5, .int .i64 x209001_5] 23 (0, 0)) (by (with_reducible repeat (first | refine blk_drewN ?_ _ | refine blk_drew ?_ | refine blk_alloc ?_ _)); exact BK208.out) hb); have n4_ := Aside0.mk (below_step (by repeat (first | (with_reducible first | exact HB.out | apply below_alloc | apply pw_below_drewN | apply below_drew1 | refine below_set ?_ GE208.out) | exact HB.out)) hb); clear HO_7; clear HO_8; clear HO225; clear BK208; clear HB; have HO_7 := n0_; have HO_8 := n1_; have HO225 := n2_; have BK208 := n3_; have HB := n4_; clear n0_ n1_ n2_ n3_ n4_; (try clear hb); (try clear hb2); (try clear hk); (try clear hi); obtain ⟨Ao51, co51, eo51⟩ := Kd.R_slice HO225.out; subst eo51) | (go_at_call 22; (with_reducible refine (grafterlaw0_Num.calls t226 t229 _ A41.out).mono ?_); rintro e w' ⟨rfl, ⟨nd, rfl⟩⟩; (try clear A41)) | (go_at_call 22; (with_reducible refine (grafterlaw0_Num.calls t228 t230 _ A44.out).mono ?_); rintro e w' ⟨rfl, ⟨nd, rfl⟩⟩; (try clear A44)))
              go_ret
              exact ⟨by first | rfl | (simp [errW_none, errW_some] <;> rfl) | (simp [*, errW_none, errW_some] <;> rfl), by repeat (first | (with_reducible first | exact HB.out | apply below_alloc | apply pw_below_drewN | apply below_drew1 | refine below_set ?_ GE208.out) | exact HB.out)⟩
            · rw [if_neg c43] at H
              have c43b0 : (t227 == 0) = false := beq_eq_false_iff_ne.mpr c43
              have c43b1 : (t227 != 0) = true := bne_iff_ne.mpr c43
              exact absurd ((Option.some.inj H).trans HRT.out) Bool.false_ne_true
          · rw [if_neg c42] at H
            have c42b0 : (t229 == 600) = false := beq_eq_false_iff_ne.mpr c42
            have c42b1 : (t229 != 600) = true := bne_iff_ne.mpr c42
            exact absurd ((Option.some.inj H).trans HRT.out) Bool.false_ne_true
        · rw [if_neg c40] at H
          have c40b0 : ((t223.length : Int) == 0) = false := beq_eq_false_iff_ne.mpr c40
          have c40b1 : ((t223.length : Int) != 0) = true := bne_iff_ne.mpr c40
          have c40b2 : ¬ (t223 = []) := fun h_ => c40 (by rw [h_]; rfl)
          exact absurd ((Option.some.inj H).trans HRT.out) Bool.false_ne_true
  · replace c4 := Bool.eq_false_iff.mpr c4
    subst c4
    have H1 : (some false) = some r := by rw [if_neg (show ¬ (false = true) by decide)] at H; exact H
    clear H
    have H := H1
    clear H1
    exact absurd ((Option.some.inj H).trans HRT.out) Bool.false_ne_true

/-- THE ONE PURE STATEMENT of grafterlaw6_ForwardForms: yours. -/
def grafterlaw6_ForwardForms.Pure : Prop := ∀ (a0 : Int) (a1 : Int), (Lit.int .i64 a0).wf = true → (Lit.int .i64 a1).wf = true → ∃ k, grafterlaw6_ForwardForms.f k a0 a1 = some true
theorem grafterlaw6_ForwardForms.walk (P : grafterlaw6_ForwardForms.Pure) (a0 : Int) (a1 : Int) (w : World) (w0 : (Lit.int .i64 a0).wf = true) (w1 : (Lit.int .i64 a1).wf = true) :
    Calls Try.prog 12 #[.int .i64 a0, .int .i64 a1] w fun e w' => e = .returned (.bool true) ∧ Below w.heap.size w w' := by
  obtain ⟨k, h⟩ := P a0 a1 w0 w1
  refine (grafterlaw6_ForwardForms.calls k a0 a1 true w rfl h).mono ?_
  rintro e w' ⟨rfl, hd⟩
  exact ⟨rfl, hd⟩

end Go.Proofs.Ytdgbfgnmeoihiaa.PForwardForms
