-- Written by a program of this session (pprint.py) out of the translation, with hand-proved walks pasted in.
import Derived.Test.YtbhkmgidokonkaaPCheckFormsx0
import Derived.Test.YtbhkmgidokonkaaPCheckFormsx2
import Derived.Test.YtbhkmgidokonkaaPCheckFormsx3
import Derived.Test.YtbhkmgidokonkaaPCheckFormsx4
import Derived.Test.YtbhkmgidokonkaaPCheckFormsx6
import Derived.Test.YtbhkmgidokonkaaPCheckFormsx7
import Derived.Test.YtbhkmgidokonkaaPCheckFormsx8
namespace Go.Proofs.Ytbhkmgidokonkaa.PCheckForms
open Go.RowKit Go.Proofs.YtbhkmgidokonkaaW.PrintWords Go.Proofs.YtbhkmgidokonkaaW.PrintLast Go.Proofs.YtbhkmgidokonkaaW.PrintMore
attribute [local go_sem] max2_int min2_int max_two min_two max_three min_three max_four min_four   -- for this text's walks alone
set_option linter.unusedVariables false
set_option linter.unusedSimpArgs false

set_option maxHeartbeats 8000000 in
set_option maxRecDepth 100000 in
theorem grafterlaw14_CheckForms.calls (k : Nat) (a0 : Int) (a1 : Int) (r : Bool) (w : World) (hrt : r = true) (h : grafterlaw14_CheckForms.f k a0 a1 = some r) :
  Calls Try.prog 15 #[.int .i64 a0, .int .i64 a1] w fun e w' => e = .returned (.bool r) ∧ Below w.heap.size w w' := by
 have HRT := Aside0.mk hrt
 clear hrt
 have hu56 := Try.underlying56
 have HB := Aside0.mk (Below.refl w.heap.size w)
 have H := h
 clear h
 unfold grafterlaw14_CheckForms.f at H
 replace H := Option.bind_eq_some_iff.mp H
 obtain ⟨t237, A30, H⟩ := H
 (try dsimp only at H)
 have A3 := Aside0.mk A30
 clear A30
 by_cases c4 : t237 = true
 ·
  subst c4
  rw [if_pos rfl] at H
  replace H := Option.bind_eq_some_iff.mp H
  obtain ⟨⟨t238, t241, t244, t245, t246⟩, A50, H⟩ := H
  (try dsimp only at H)
  have A5 := Aside0.mk A50
  clear A50
  have HC6 := Aside0.mk H
  clear H
  go_enter Try.func15, Try.ntmps15
  go_upto_block 0 with (first | ((with_reducible refine gate_callee (f := 47) rfl ?_); refine goesL_ (some 21) rfl rfl Try.func47 (by kernel_rfl) rfl #[] rfl (by (try simp only [List.map_toArray, List.map_cons, List.map_nil]); first | done | rfl | (simp only [List.length_drop, List.length_take]; rfl)) ?_; (with_reducible refine (grafterlaw14_awake.calls k  true _ rfl A3.out).mono ?_); rintro e w7 ⟨rfl, hb⟩; refine ⟨_, rfl, ?_⟩; have n0_ := Aside0.mk (below_step (by repeat (first | (with_reducible first | exact HB.out | apply below_alloc | apply pw_below_drewN | apply below_drew1) | exact HB.out)) hb); clear HB; have HB := n0_; clear n0_; (try clear hb); (try clear hb2); (try clear hk); (try clear hi)) | ((with_reducible refine gate_callee (f := 48) rfl ?_); refine goesL_ (some 26) rfl rfl Try.func48 (by kernel_rfl) rfl #[] rfl (by (try simp only [List.map_toArray, List.map_cons, List.map_nil]); first | done | rfl | (simp only [List.length_drop, List.length_take]; rfl)) ?_; (with_reducible refine (grafterlaw14_given.calls  t238 t241 t244 t245 t246 _ A5.out).mono ?_); rintro e w8 ⟨v239, v242, rfl, ho0, ho1, hb⟩; refine ⟨_, rfl, ?_⟩; have n0_ := Aside0.mk (Kd.R_lower ho0 (below_size (by repeat (first | (with_reducible first | exact HB.out | apply below_alloc | apply pw_below_drewN | apply below_drew1) | exact HB.out)))); have n1_ := Aside0.mk (Kd.R_lower ho1 (below_size (by repeat (first | (with_reducible first | exact HB.out | apply below_alloc | apply pw_below_drewN | apply below_drew1) | exact HB.out)))); have n2_ := Aside0.mk (below_step (by repeat (first | (with_reducible first | exact HB.out | apply below_alloc | apply pw_below_drewN | apply below_drew1) | exact HB.out)) hb); clear HB; have HO240 := n0_; have HO243 := n1_; have HB := n2_; clear n0_ n1_ n2_; (try clear hb); (try clear hb2); (try clear hk); (try clear hi); (try clear ho0); (try clear ho1); obtain ⟨Ao9, co9, eo9⟩ := Kd.R_slice HO240.out; subst eo9; obtain ⟨Ao10, co10, eo10⟩ := Kd.R_slice HO243.out; subst eo10) | ((with_reducible refine gate_dst (N := 6) rfl ?_); (try (refine gate_guard (by rfl) ?_; dsimp only)); refine box_event ?hg (N := 6) ?hd (cs := #[.slice none 0 0, .slice none 0 0, .int .i64 0, .int .i64 0, .int .i64 0]) (t := 56) ?hr ?_; (case hd => rfl); (case hg => rfl); (case hr => first | (go_simp; done) | (go_simp; rfl)); intro gb247 hg w11a hbox hb; have hgA := Aside0.mk hg; have hbA := Aside0.mk hb; have BKA := Aside0.mk hbox; clear hg hb hbox; have hca_0 : w11a.cell? ⟨gb247, 0, none⟩ = some (.slice none 0 0) := (blk_cell BKA.out 0).trans rfl; have hfa_0 := blk_frozen BKA.out 0; have hca_1 : w11a.cell? ⟨gb247, 1, none⟩ = some (.slice none 0 0) := (blk_cell BKA.out 1).trans rfl; have hfa_1 := blk_frozen BKA.out 1; have hca_2 : w11a.cell? ⟨gb247, 2, none⟩ = some (.int .i64 0) := (blk_cell BKA.out 2).trans rfl; have hfa_2 := blk_frozen BKA.out 2; have hca_3 : w11a.cell? ⟨gb247, 3, none⟩ = some (.int .i64 0) := (blk_cell BKA.out 3).trans rfl; have hfa_3 := blk_frozen BKA.out 3; have hca_4 : w11a.cell? ⟨gb247, 4, none⟩ = some (.int .i64 0) := (blk_cell BKA.out 4).trans rfl; have hfa_4 := blk_frozen BKA.out 4) | ((with_reducible refine gate_store (t := 56) (p := 6) rfl ?_); refine store_event (t := 56) (p := 6) (v := ?vo_w) (w1 := (((((w11a.setCell ⟨gb247, 0, none⟩ (.slice Ao9 t238.length co9)).setCell ⟨gb247, 1, none⟩ (.slice Ao10 t241.length co10)).setCell ⟨gb247, 2, none⟩ (.int .i64 t244)).setCell ⟨gb247, 3, none⟩ (.int .i64 t245)).setCell ⟨gb247, 4, none⟩ (.int .i64 t246))) ?hg ?ho ?hn ?hr ?_; (case ho => rfl); (case hg => rfl); (case hn => rfl); (case hr => first | (go_simp; done) | (go_simp; rfl)); intro w11 hw; have hb : Below _ _ w11 := (by rw [hw]; exact (below_set (below_set (below_set (below_set (below_set hbA.out (Nat.le_of_eq hgA.out.symm)) (Nat.le_of_eq hgA.out.symm)) (Nat.le_of_eq hgA.out.symm)) (Nat.le_of_eq hgA.out.symm)) (Nat.le_of_eq hgA.out.symm))); have hbox : w11.heap[gb247]? = some (.cells #[.slice Ao9 t238.length co9, .slice Ao10 t241.length co10, .int .i64 t244, .int .i64 t245, .int .i64 t246] 56 (0, 0)) := (by rw [hw]; refine blk_put (cs := #[.slice Ao9 t238.length co9, .slice Ao10 t241.length co10, .int .i64 t244, .int .i64 t245, .int .i64 0]) ?_ 4 _ rfl; refine blk_put (cs := #[.slice Ao9 t238.length co9, .slice Ao10 t241.length co10, .int .i64 t244, .int .i64 0, .int .i64 0]) ?_ 3 _ rfl; refine blk_put (cs := #[.slice Ao9 t238.length co9, .slice Ao10 t241.length co10, .int .i64 0, .int .i64 0, .int .i64 0]) ?_ 2 _ rfl; refine blk_put (cs := #[.slice Ao9 t238.length co9, .slice none 0 0, .int .i64 0, .int .i64 0, .int .i64 0]) ?_ 1 _ rfl; refine blk_put (cs := #[.slice none 0 0, .slice none 0 0, .int .i64 0, .int .i64 0, .int .i64 0]) ?_ 0 _ rfl; exact BKA.out); have hg := hgA.out; have n0_ := Aside0.mk (Kd.R_below (by (with_reducible repeat (first | apply Kd.R_alloc | apply Kd.R_drewN | apply Kd.R_drew)); exact HO240.out) hb); have n1_ := Aside0.mk (Kd.R_below (by (with_reducible repeat (first | apply Kd.R_alloc | apply Kd.R_drewN | apply Kd.R_drew)); exact HO243.out) hb); have n2_ := Aside0.mk (below_step (by repeat (first | (with_reducible first | exact HB.out | apply below_alloc | apply pw_below_drewN | apply below_drew1) | exact HB.out)) hb); have n3_ := Aside0.mk (hbox); have n4_ := Aside0.mk ((by rw [hg]; exact (below_size (by repeat (first | (with_reducible first | exact HB.out | apply below_alloc | apply pw_below_drewN | apply below_drew1) | exact HB.out))) : w.heap.size ≤ gb247)); have n5_ := Aside0.mk ((by rw [hg]; exact (below_size (by repeat (first | (with_reducible first | exact HB.out | apply below_alloc | apply pw_below_drewN | apply below_drew1) | exact HB.out))) : w.heap.size ≤ gb247)); clear HO240; clear HO243; clear HB; have HO240 := n0_; have HO243 := n1_; have HB := n2_; have BK247 := n3_; have GW247 := n4_; have GE247 := n5_; clear n0_ n1_ n2_ n3_ n4_ n5_; clear hb hbox hg; clear hgA hbA BKA hw hca_0 hfa_0 hca_1 hfa_1 hca_2 hfa_2 hca_3 hfa_3 hca_4 hfa_4))
  (try simp only [Act.put, List.setIfInBounds_toArray, List.set_cons_zero, List.set_cons_succ])
  go_cut [] (fun wc => ∃ (kq : Nat) (x248000_5 : List Int) (x248001_5 : List Int) (x248002_5 : Int) (x248003_5 : Int) (x248004_5 : Int) (u248000 : Value) (u248001 : Value), Aside0 (grafterlaw14_CheckForms.j0 kq a1 x248000_5 x248001_5 x248002_5 x248003_5 x248004_5 = some r) ∧ Aside0 (kq ≤ k) ∧ Aside0 (Kd.R (Kd.int .i64) 3 wc w.heap.size (fun k_ => some k_ ≠ (u248001 : Value).ownBlock) u248000 x248000_5) ∧ Aside0 (Kd.Q (Kd.int .i64) 3 wc w.heap.size (fun k_ => some k_ ≠ (u248000 : Value).ownBlock) u248001 x248001_5) ∧ Aside0 (wc.heap[gb247]? = some (.cells #[u248000, u248001, .int .i64 x248002_5, .int .i64 x248003_5, .int .i64 x248004_5] 56 (0, 0))) ∧ Aside0 (Below w.heap.size w wc))
  case first =>
   have H := HC6.out
   clear HC6
   by_cases c12 : (Int.tmod (IntKind.u64.wrap (a0)) 9) = 0
   ·
    rw [if_pos c12] at H
    have c12b0 : ((Int.tmod (IntKind.u64.wrap (a0)) 9) == 0) = true := beq_iff_eq.mpr c12
    have c12b1 : ((Int.tmod (IntKind.u64.wrap (a0)) 9) != 0) = false := bne_eq_false_iff_eq.mpr c12
    clear c12
    (first | rw [c12b0] | (simp only [i64_w, i32_w]; rw [c12b0]) | skip)
    have H' := Aside0.mk H
    clear H
    have hcz13_0 : w11.cell? ⟨gb247, 0, none⟩ = some (.slice Ao9 t238.length co9) := (blk_cell BK247.out 0).trans rfl
    have hcz13_1 : w11.cell? ⟨gb247, 1, none⟩ = some (.slice Ao10 t241.length co10) := (blk_cell BK247.out 1).trans rfl
    have hcz13_2 : w11.cell? ⟨gb247, 2, none⟩ = some (.int .i64 t244) := (blk_cell BK247.out 2).trans rfl
    have hcz13_3 : w11.cell? ⟨gb247, 3, none⟩ = some (.int .i64 t245) := (blk_cell BK247.out 3).trans rfl
    have hcz13_4 : w11.cell? ⟨gb247, 4, none⟩ = some (.int .i64 t246) := (blk_cell BK247.out 4).trans rfl
    have hfz13_0 := blk_frozen BK247.out 0
    have hfz13_1 := blk_frozen BK247.out 1
    have hfz13_2 := blk_frozen BK247.out 2
    have hfz13_3 := blk_frozen BK247.out 3
    have hfz13_4 := blk_frozen BK247.out 4
    go_wp2
    go_meet
    case rel => exact ⟨_, (([] : List Int)), (([] : List Int)), (t244), (t245), (t246), (.slice none 0 0), (.slice none 0 0), H', ⟨by first | omega | exact Nat.le_refl _⟩, ⟨by first | exact Kd.R_nil _ _ _ _ _ | exact Kd.N_nil _ _ _ _ _ | exact Kd.V_nil _ _ _ _ _ | exact Kd.Q_nil _ _ _ _ _ | exact Kd.S_nil _ _ _ _ _⟩, ⟨Kd.Q_of_R (by first | exact Kd.R_nil _ _ _ _ _ | exact Kd.N_nil _ _ _ _ _ | exact Kd.V_nil _ _ _ _ _ | exact Kd.Q_nil _ _ _ _ _ | exact Kd.S_nil _ _ _ _ _)⟩, ⟨by (with_reducible repeat (first | refine blk_drewN ?_ _ | refine blk_drew ?_ | refine blk_alloc ?_ _)); refine blk_put (cs := #[.slice none 0 0, .slice Ao10 t241.length co10, .int .i64 t244, .int .i64 t245, .int .i64 t246]) ?_ 1 _ rfl; (with_reducible repeat (first | refine blk_drewN ?_ _ | refine blk_drew ?_ | refine blk_alloc ?_ _)); refine blk_put (cs := #[.slice Ao9 t238.length co9, .slice Ao10 t241.length co10, .int .i64 t244, .int .i64 t245, .int .i64 t246]) ?_ 0 _ rfl; (with_reducible repeat (first | refine blk_drewN ?_ _ | refine blk_drew ?_ | refine blk_alloc ?_ _)); exact BK247.out⟩, ⟨by repeat (first | (with_reducible first | exact HB.out | apply below_alloc | apply pw_below_drewN | apply below_drew1 | refine below_set ?_ GE247.out) | exact HB.out)⟩⟩
   ·
    rw [if_neg c12] at H
    have c12b0 : ((Int.tmod (IntKind.u64.wrap (a0)) 9) == 0) = false := beq_eq_false_iff_ne.mpr c12
    have c12b1 : ((Int.tmod (IntKind.u64.wrap (a0)) 9) != 0) = true := bne_iff_ne.mpr c12
    (first | rw [c12b0] | (simp only [i64_w, i32_w]; rw [c12b0]) | skip)
    by_cases c14 : (Int.tmod (IntKind.u64.wrap (a0)) 9) = 1
    ·
     rw [if_pos c14] at H
     have c14b0 : ((Int.tmod (IntKind.u64.wrap (a0)) 9) == 1) = true := beq_iff_eq.mpr c14
     have c14b1 : ((Int.tmod (IntKind.u64.wrap (a0)) 9) != 1) = false := bne_eq_false_iff_eq.mpr c14
     clear c14
     by_cases c15 : 1 ≤ (t241.length : Int)
     ·
      rw [if_pos c15] at H
      have c15b0 := eq_true c15
      have c15b1 : decide (1 ≤ (t241.length : Int)) = true := decide_eq_true c15
      clear c15
      obtain ⟨y248, hy248⟩ : ∃ y_ : List Int, y_ = (t241.drop (1 : Int).toNat) := ⟨_, rfl⟩
      replace H : (grafterlaw14_CheckForms.j0 k a1 t238 y248 t244 t245 t246) = some r := by first | (rw [hy248]; with_reducible exact H) | (have H2_ := (Option.bind_some _ _).symm.trans H; rw [hy248]; with_reducible exact H2_) | (have H2_ := (Option.bind_some _ _).symm.trans H; with_reducible exact H2_) | with_reducible exact H | (rw [hy248]; exact H) | exact H
      have Ny248 := Aside0.mk hy248
      clear hy248
      have H' := Aside0.mk H
      clear H
      have hcz16_0 : w11.cell? ⟨gb247, 0, none⟩ = some (.slice Ao9 t238.length co9) := (blk_cell BK247.out 0).trans rfl
      have hcz16_1 : w11.cell? ⟨gb247, 1, none⟩ = some (.slice Ao10 t241.length co10) := (blk_cell BK247.out 1).trans rfl
      have hcz16_2 : w11.cell? ⟨gb247, 2, none⟩ = some (.int .i64 t244) := (blk_cell BK247.out 2).trans rfl
      have hcz16_3 : w11.cell? ⟨gb247, 3, none⟩ = some (.int .i64 t245) := (blk_cell BK247.out 3).trans rfl
      have hcz16_4 : w11.cell? ⟨gb247, 4, none⟩ = some (.int .i64 t246) := (blk_cell BK247.out 4).trans rfl
      have hfz16_0 := blk_frozen BK247.out 0
      have hfz16_1 := blk_frozen BK247.out 1
      have hfz16_2 := blk_frozen BK247.out 2
      have hfz16_3 := blk_frozen BK247.out 3
      have hfz16_4 := blk_frozen BK247.out 4
      have q17 : (1 : Int) ≤ ((t241.length : Int) : Int) := of_decide_eq_true (by first | (with_reducible assumption) | assumption)
      obtain ⟨i017, hi017, _, hsz17, _⟩ := info_parts info3
      have hcut17 := cut_from (P := Try.prog) 37 3 .i64 Try.underlying37 hi017 1 hsz17 Ao10 t241.length co10 1 (by omega) q17
      have hr17 := Kd.Q_drop (k := (1 : Int).toNat) (Kd.Q_of_R HO243.out) (by omega)
      obtain ⟨A17, hA17⟩ : ∃ A1, A1 = (if co10 = (1 : Int).toNat then Ao10 else (Ao10 : Option Addr).map (·.add ((1 : Int).toNat * 1))) := ⟨_, rfl⟩
      obtain ⟨c17, hc17⟩ : ∃ c1, c1 = co10 - (1 : Int).toNat := ⟨_, rfl⟩
      have hy17 : y248.length = t241.length - (1 : Int).toNat := (by rw [Ny248.out, List.length_drop])
      rw [← Ny248.out] at hr17
      rw [← hy17, ← hA17, ← hc17] at hcut17
      replace hr17 : Kd.Q (Kd.int .i64) 3 w11 w.heap.size (fun k_ => some k_ ≠ (.slice Ao9 t238.length co9 : Value).ownBlock) (.slice A17 y248.length c17) y248 := (by rw [hA17, hc17, hy17]; exact hr17)
      have HE17 : Aside0 ((Value.slice A17 y248.length c17).ownBlock = (.slice Ao10 t241.length co10 : Value).ownBlock) := ⟨by rw [hA17]; split <;> (cases (Ao10 : Option Addr) <;> rfl)⟩
      clear hy17 hi017 hsz17 HO243 hA17 hc17
      have HO250 := Aside0.mk hr17
      clear hr17
      replace q17 := eq_true q17
      have n_ := Aside0.mk (Kd.R_mono (ok' := fun k_ => some k_ ≠ (.slice A17 y248.length c17 : Value).ownBlock) HO240.out (fun k_ hk => (by rw [HE17.out]; exact hk)))
      clear HO240
      have HO240 := n_
      clear n_
      go_wp2
      go_meet
      case rel => exact ⟨_, (t238), (y248), (t244), (t245), (t246), (.slice Ao9 t238.length co9), (.slice A17 y248.length c17), H', ⟨by first | omega | exact Nat.le_refl _⟩, ⟨by (with_reducible repeat (first | apply Kd.R_alloc | apply Kd.R_drewN | apply Kd.R_drew)); exact Kd.R_mono (Kd.R_far (p := ⟨gb247, 1, none⟩) (Kd.R_types HO240.out BK247.out (by decide)) (fun _ hk => hk.2) (.slice A17 y248.length c17)) (fun _ hk => hk.1)⟩, ⟨by (with_reducible repeat (first | apply Kd.Q_alloc | apply Kd.Q_drewN | apply Kd.Q_drew)); exact Kd.Q_mono (Kd.Q_far (p := ⟨gb247, 1, none⟩) (Kd.Q_types HO250.out BK247.out (by decide)) (fun _ hk => hk.2) (.slice A17 y248.length c17)) (fun _ hk => hk.1)⟩, ⟨by (with_reducible repeat (first | refine blk_drewN ?_ _ | refine blk_drew ?_ | refine blk_alloc ?_ _)); refine blk_put (cs := #[.slice Ao9 t238.length co9, .slice Ao10 t241.length co10, .int .i64 t244, .int .i64 t245, .int .i64 t246]) ?_ 1 _ rfl; (with_reducible repeat (first | refine blk_drewN ?_ _ | refine blk_drew ?_ | refine blk_alloc ?_ _)); exact BK247.out⟩, ⟨by repeat (first | (with_reducible first | exact HB.out | apply below_alloc | apply pw_below_drewN | apply below_drew1 | refine below_set ?_ GE247.out) | exact HB.out)⟩⟩
     ·
      rw [if_neg c15] at H
      exact absurd H (by simp)
    ·
     rw [if_neg c14] at H
     have c14b0 : ((Int.tmod (IntKind.u64.wrap (a0)) 9) == 1) = false := beq_eq_false_iff_ne.mpr c14
     have c14b1 : ((Int.tmod (IntKind.u64.wrap (a0)) 9) != 1) = true := bne_iff_ne.mpr c14
     by_cases c18 : (Int.tmod (IntKind.u64.wrap (a0)) 9) = 2
     ·
      rw [if_pos c18] at H
      have c18b0 : ((Int.tmod (IntKind.u64.wrap (a0)) 9) == 2) = true := beq_iff_eq.mpr c18
      have c18b1 : ((Int.tmod (IntKind.u64.wrap (a0)) 9) != 2) = false := bne_eq_false_iff_eq.mpr c18
      clear c18
      by_cases c19 : 0 < (t238.length : Int)
      ·
       rw [if_pos c19] at H
       have c19b0 : decide (0 < (t238.length : Int)) = true := decide_eq_true c19
       have c19b1 : decide (0 < t238.length) = true := decide_eq_true (by omega)
       clear c19
       obtain ⟨y251, hy251⟩ : ∃ y_ : List Int, y_ = (t238.set (0 : Int).toNat (wrap64 (1073741824 + (wrap64 (1 + (Go.bits .and .i64 a1 1023)))))) := ⟨_, rfl⟩
       replace H : (grafterlaw14_CheckForms.j0 k a1 y251 t241 t244 t245 t246) = some r := by first | (rw [hy251]; with_reducible exact H) | (have H2_ := (Option.bind_some _ _).symm.trans H; rw [hy251]; with_reducible exact H2_) | (have H2_ := (Option.bind_some _ _).symm.trans H; with_reducible exact H2_) | with_reducible exact H | (rw [hy251]; exact H) | exact H
       have Ny251 := Aside0.mk hy251
       clear hy251
       have H' := Aside0.mk H
       clear H
       have hcz21_0 : w11.cell? ⟨gb247, 0, none⟩ = some (.slice Ao9 t238.length co9) := (blk_cell BK247.out 0).trans rfl
       have hcz21_1 : w11.cell? ⟨gb247, 1, none⟩ = some (.slice Ao10 t241.length co10) := (blk_cell BK247.out 1).trans rfl
       have hcz21_2 : w11.cell? ⟨gb247, 2, none⟩ = some (.int .i64 t244) := (blk_cell BK247.out 2).trans rfl
       have hcz21_3 : w11.cell? ⟨gb247, 3, none⟩ = some (.int .i64 t245) := (blk_cell BK247.out 3).trans rfl
       have hcz21_4 : w11.cell? ⟨gb247, 4, none⟩ = some (.int .i64 t246) := (blk_cell BK247.out 4).trans rfl
       have hfz21_0 := blk_frozen BK247.out 0
       have hfz21_1 := blk_frozen BK247.out 1
       have hfz21_2 := blk_frozen BK247.out 2
       have hfz21_3 := blk_frozen BK247.out 3
       have hfz21_4 := blk_frozen BK247.out 4
       have p20 : 0 ≤ (0 : Int) := (by omega)
       have q20 : (0 : Int) < ((t238.length : Int) : Int) := of_decide_eq_true (by first | (with_reducible assumption) | assumption)
       have qi20 : (0 < t238.length) = True := eq_true (by omega)
       obtain ⟨go20, co20, eo20, gb20, gl20, cl20, HG20⟩ := Kd.R_form HO240.out (by omega)
       (first | cases eo20 | (injection eo20 with ea_ en_ ec_; (first | subst ea_ | (injection ea_ with ea_; subst ea_)); subst ec_; clear en_))
       have GB20 := Aside0.mk gb20
       have GG20 := Aside0.mk HG20
       clear gb20 gl20 HG20
       obtain ⟨hx20_0, hf20_0⟩ := Kd.R_celln 0 HO240.out (0 : Int) p20 q20
       (try rw [show ((0 : Int)).toNat = 0 from rfl] at hx20_0)
       (try simp only [Nat.reduceMul, Nat.zero_mul, Nat.zero_add, Nat.reduceAdd] at hx20_0)
       (try rw [show ((0 : Int)).toNat = 0 from rfl] at hf20_0)
       (try simp only [Nat.reduceMul, Nat.zero_mul, Nat.zero_add, Nat.reduceAdd] at hf20_0)
       replace p20 := eq_true p20
       replace q20 := eq_true q20
       have HP22 := Kd.R_putg HO240.out (0 : Int) (wrap64 (1073741824 + (wrap64 (1 + (Go.bits .and .i64 a1 1023)))))
       go_wp2_with (first | ((with_reducible refine gate_store (t := 3) (p := 54) rfl ?_); refine store_event (t := 3) (p := 54) (v := ?vo_w23) (w1 := (w11.setCell ⟨go20, (0 : Int).toNat, none⟩ (.int .i64 (wrap64 (1073741824 + (wrap64 (1 + (Go.bits .and .i64 a1 1023)))))))) ?hg ?ho ?hn ?hr ?_; (case ho => rfl); (case hg => rfl); (case hn => rfl); (case hr => first | (go_simp; done) | (go_simp; rfl)); intro w23 hw; have hg : w11.grownBy w23 (some go20) := (by rw [hw]; exact HP22.2); have hp_ : Kd.R (Kd.int .i64) 3 w23 w.heap.size (fun k_ => some k_ ≠ (.slice Ao10 t241.length co10 : Value).ownBlock) (.slice (some ⟨go20, 0, none⟩) t238.length co9) y251 := (by rw [hw, Ny251.out]; exact HP22.1); clear HP22; have n0_ := Aside0.mk (hp_); have n1_ := Aside0.mk (Kd.R_after (v := (.slice (some ⟨go20, 0, none⟩) t238.length co9)) (v1 := (.slice (some ⟨go20, 0, none⟩) t238.length co9)) (ok := (fun _ => True)) (by (with_reducible repeat (first | apply Kd.R_alloc | apply Kd.R_drewN | apply Kd.R_drew)); exact Kd.R_mono HO243.out (fun _ hk => ⟨trivial, hk⟩)) hg (.inl rfl)); have n2_ := Aside0.mk (blk_grown (g := gb247) (o := .cells #[.slice (some ⟨go20, 0, none⟩) t238.length co9, .slice Ao10 t241.length co10, .int .i64 t244, .int .i64 t245, .int .i64 t246] 56 (0, 0)) (by (with_reducible repeat (first | refine blk_drewN ?_ _ | refine blk_drew ?_ | refine blk_alloc ?_ _)); exact BK247.out) hg (Kd.R_ne HO240.out BK247.out (by decide))); have n3_ := Aside0.mk ((by rw [hw]; exact below_set (HB.out) GB20.out : Below w.heap.size w w23)); clear HO240; clear HO243; clear BK247; clear HB; have HO240 := n0_; have HO243 := n1_; have BK247 := n2_; have HB := n3_; clear n0_ n1_ n2_ n3_; clear hg hw hp_))
       go_meet
       case rel => exact ⟨_, (y251), (t241), (t244), (t245), (t246), (.slice (some ⟨go20, 0, none⟩) t238.length co9), (.slice Ao10 t241.length co10), H', ⟨by first | omega | exact Nat.le_refl _⟩, ⟨by (with_reducible repeat (first | apply Kd.R_alloc | apply Kd.R_drewN | apply Kd.R_drew)); exact HO240.out⟩, ⟨Kd.Q_of_R (by (with_reducible repeat (first | apply Kd.R_alloc | apply Kd.R_drewN | apply Kd.R_drew)); exact Kd.R_mono HO243.out (fun _ hk => hk.2))⟩, ⟨by (with_reducible repeat (first | refine blk_drewN ?_ _ | refine blk_drew ?_ | refine blk_alloc ?_ _)); exact BK247.out⟩, ⟨by repeat (first | (with_reducible first | exact HB.out | apply below_alloc | apply pw_below_drewN | apply below_drew1 | refine below_set ?_ GE247.out) | exact HB.out)⟩⟩
      ·
       rw [if_neg c19] at H
       exact absurd H (by simp)
     ·
      rw [if_neg c18] at H
      have c18b0 : ((Int.tmod (IntKind.u64.wrap (a0)) 9) == 2) = false := beq_eq_false_iff_ne.mpr c18
      have c18b1 : ((Int.tmod (IntKind.u64.wrap (a0)) 9) != 2) = true := bne_iff_ne.mpr c18
      by_cases c24 : (Int.tmod (IntKind.u64.wrap (a0)) 9) = 3
      ·
       rw [if_pos c24] at H
       have c24b0 : ((Int.tmod (IntKind.u64.wrap (a0)) 9) == 3) = true := beq_iff_eq.mpr c24
       have c24b1 : ((Int.tmod (IntKind.u64.wrap (a0)) 9) != 3) = false := bne_eq_false_iff_eq.mpr c24
       clear c24
       by_cases c25 : 0 < (t241.length : Int)
       ·
        rw [if_pos c25] at H
        have c25b0 : decide (0 < (t241.length : Int)) = true := decide_eq_true c25
        have c25b1 : decide (0 < t241.length) = true := decide_eq_true (by omega)
        clear c25
        obtain ⟨y252, hy252⟩ : ∃ y_ : List Int, y_ = (t241.set (0 : Int).toNat (wrap64 ((-1073741824) - (wrap64 (1 + (Go.bits .and .i64 a1 1023)))))) := ⟨_, rfl⟩
        replace H : (grafterlaw14_CheckForms.j0 k a1 t238 y252 t244 t245 t246) = some r := by first | (rw [hy252]; with_reducible exact H) | (have H2_ := (Option.bind_some _ _).symm.trans H; rw [hy252]; with_reducible exact H2_) | (have H2_ := (Option.bind_some _ _).symm.trans H; with_reducible exact H2_) | with_reducible exact H | (rw [hy252]; exact H) | exact H
        have Ny252 := Aside0.mk hy252
        clear hy252
        have H' := Aside0.mk H
        clear H
        have hcz27_0 : w11.cell? ⟨gb247, 0, none⟩ = some (.slice Ao9 t238.length co9) := (blk_cell BK247.out 0).trans rfl
        have hcz27_1 : w11.cell? ⟨gb247, 1, none⟩ = some (.slice Ao10 t241.length co10) := (blk_cell BK247.out 1).trans rfl
        have hcz27_2 : w11.cell? ⟨gb247, 2, none⟩ = some (.int .i64 t244) := (blk_cell BK247.out 2).trans rfl
        have hcz27_3 : w11.cell? ⟨gb247, 3, none⟩ = some (.int .i64 t245) := (blk_cell BK247.out 3).trans rfl
        have hcz27_4 : w11.cell? ⟨gb247, 4, none⟩ = some (.int .i64 t246) := (blk_cell BK247.out 4).trans rfl
        have hfz27_0 := blk_frozen BK247.out 0
        have hfz27_1 := blk_frozen BK247.out 1
        have hfz27_2 := blk_frozen BK247.out 2
        have hfz27_3 := blk_frozen BK247.out 3
        have hfz27_4 := blk_frozen BK247.out 4
        have p26 : 0 ≤ (0 : Int) := (by omega)
        have q26 : (0 : Int) < ((t241.length : Int) : Int) := of_decide_eq_true (by first | (with_reducible assumption) | assumption)
        have qi26 : (0 < t241.length) = True := eq_true (by omega)
        obtain ⟨go26, co26, eo26, gb26, gl26, cl26, HG26⟩ := Kd.R_form HO243.out (by omega)
        (first | cases eo26 | (injection eo26 with ea_ en_ ec_; (first | subst ea_ | (injection ea_ with ea_; subst ea_)); subst ec_; clear en_))
        have GB26 := Aside0.mk gb26
        have GG26 := Aside0.mk HG26
        clear gb26 gl26 HG26
        obtain ⟨hx26_0, hf26_0⟩ := Kd.R_celln 0 HO243.out (0 : Int) p26 q26
        (try rw [show ((0 : Int)).toNat = 0 from rfl] at hx26_0)
        (try simp only [Nat.reduceMul, Nat.zero_mul, Nat.zero_add, Nat.reduceAdd] at hx26_0)
        (try rw [show ((0 : Int)).toNat = 0 from rfl] at hf26_0)
        (try simp only [Nat.reduceMul, Nat.zero_mul, Nat.zero_add, Nat.reduceAdd] at hf26_0)
        replace p26 := eq_true p26
        replace q26 := eq_true q26
        have HP28 := Kd.R_putg HO243.out (0 : Int) (wrap64 ((-1073741824) - (wrap64 (1 + (Go.bits .and .i64 a1 1023)))))
        go_wp2_with (first | ((with_reducible refine gate_store (t := 3) (p := 61) rfl ?_); refine store_event (t := 3) (p := 61) (v := ?vo_w29) (w1 := (w11.setCell ⟨go26, (0 : Int).toNat, none⟩ (.int .i64 (wrap64 ((-1073741824) - (wrap64 (1 + (Go.bits .and .i64 a1 1023)))))))) ?hg ?ho ?hn ?hr ?_; (case ho => rfl); (case hg => rfl); (case hn => rfl); (case hr => first | (go_simp; done) | (go_simp; rfl)); intro w29 hw; have hg : w11.grownBy w29 (some go26) := (by rw [hw]; exact HP28.2); have hp_ : Kd.R (Kd.int .i64) 3 w29 w.heap.size (fun k_ => some k_ ≠ (.slice Ao9 t238.length co9 : Value).ownBlock) (.slice (some ⟨go26, 0, none⟩) t241.length co10) y252 := (by rw [hw, Ny252.out]; exact HP28.1); clear HP28; have n0_ := Aside0.mk (Kd.R_after (v := (.slice (some ⟨go26, 0, none⟩) t241.length co10)) (v1 := (.slice (some ⟨go26, 0, none⟩) t241.length co10)) (ok := (fun _ => True)) (by (with_reducible repeat (first | apply Kd.R_alloc | apply Kd.R_drewN | apply Kd.R_drew)); exact Kd.R_mono HO240.out (fun _ hk => ⟨trivial, hk⟩)) hg (.inl rfl)); have n1_ := Aside0.mk (hp_); have n2_ := Aside0.mk (blk_grown (g := gb247) (o := .cells #[.slice Ao9 t238.length co9, .slice (some ⟨go26, 0, none⟩) t241.length co10, .int .i64 t244, .int .i64 t245, .int .i64 t246] 56 (0, 0)) (by (with_reducible repeat (first | refine blk_drewN ?_ _ | refine blk_drew ?_ | refine blk_alloc ?_ _)); exact BK247.out) hg (Kd.R_ne HO243.out BK247.out (by decide))); have n3_ := Aside0.mk ((by rw [hw]; exact below_set (HB.out) GB26.out : Below w.heap.size w w29)); clear HO240; clear HO243; clear BK247; clear HB; have HO240 := n0_; have HO243 := n1_; have BK247 := n2_; have HB := n3_; clear n0_ n1_ n2_ n3_; clear hg hw hp_))
        go_meet
        case rel => exact ⟨_, (t238), (y252), (t244), (t245), (t246), (.slice Ao9 t238.length co9), (.slice (some ⟨go26, 0, none⟩) t241.length co10), H', ⟨by first | omega | exact Nat.le_refl _⟩, ⟨by (with_reducible repeat (first | apply Kd.R_alloc | apply Kd.R_drewN | apply Kd.R_drew)); exact Kd.R_mono HO240.out (fun _ hk => hk.2)⟩, ⟨Kd.Q_of_R (by (with_reducible repeat (first | apply Kd.R_alloc | apply Kd.R_drewN | apply Kd.R_drew)); exact HO243.out)⟩, ⟨by (with_reducible repeat (first | refine blk_drewN ?_ _ | refine blk_drew ?_ | refine blk_alloc ?_ _)); exact BK247.out⟩, ⟨by repeat (first | (with_reducible first | exact HB.out | apply below_alloc | apply pw_below_drewN | apply below_drew1 | refine below_set ?_ GE247.out) | exact HB.out)⟩⟩
       ·
        rw [if_neg c25] at H
        exact absurd H (by simp)
      ·
       rw [if_neg c24] at H
       have c24b0 : ((Int.tmod (IntKind.u64.wrap (a0)) 9) == 3) = false := beq_eq_false_iff_ne.mpr c24
       have c24b1 : ((Int.tmod (IntKind.u64.wrap (a0)) 9) != 3) = true := bne_iff_ne.mpr c24
       by_cases c30 : (Int.tmod (IntKind.u64.wrap (a0)) 9) = 4
       ·
        rw [if_pos c30] at H
        have c30b0 : ((Int.tmod (IntKind.u64.wrap (a0)) 9) == 4) = true := beq_iff_eq.mpr c30
        have c30b1 : ((Int.tmod (IntKind.u64.wrap (a0)) 9) != 4) = false := bne_eq_false_iff_eq.mpr c30
        clear c30
        have H' := Aside0.mk H
        clear H
        have hcz31_0 : w11.cell? ⟨gb247, 0, none⟩ = some (.slice Ao9 t238.length co9) := (blk_cell BK247.out 0).trans rfl
        have hcz31_1 : w11.cell? ⟨gb247, 1, none⟩ = some (.slice Ao10 t241.length co10) := (blk_cell BK247.out 1).trans rfl
        have hcz31_2 : w11.cell? ⟨gb247, 2, none⟩ = some (.int .i64 t244) := (blk_cell BK247.out 2).trans rfl
        have hcz31_3 : w11.cell? ⟨gb247, 3, none⟩ = some (.int .i64 t245) := (blk_cell BK247.out 3).trans rfl
        have hcz31_4 : w11.cell? ⟨gb247, 4, none⟩ = some (.int .i64 t246) := (blk_cell BK247.out 4).trans rfl
        have hfz31_0 := blk_frozen BK247.out 0
        have hfz31_1 := blk_frozen BK247.out 1
        have hfz31_2 := blk_frozen BK247.out 2
        have hfz31_3 := blk_frozen BK247.out 3
        have hfz31_4 := blk_frozen BK247.out 4
        go_wp2
        go_meet
        case rel => exact ⟨_, (t238), (t241), (wrap64 (64 - (wrap64 (1 + (Go.bits .and .i64 a1 1023))))), (t245), (t246), (.slice Ao9 t238.length co9), (.slice Ao10 t241.length co10), H', ⟨by first | omega | exact Nat.le_refl _⟩, ⟨by (with_reducible repeat (first | apply Kd.R_alloc | apply Kd.R_drewN | apply Kd.R_drew)); exact Kd.R_mono (Kd.R_far (p := ⟨gb247, 2, none⟩) (Kd.R_types HO240.out BK247.out (by decide)) (fun _ hk => hk.2) (.int .i64 (wrap64 (64 - (wrap64 (1 + (Go.bits .and .i64 a1 1023))))))) (fun _ hk => hk.1)⟩, ⟨Kd.Q_of_R (by (with_reducible repeat (first | apply Kd.R_alloc | apply Kd.R_drewN | apply Kd.R_drew)); exact Kd.R_mono (Kd.R_far (p := ⟨gb247, 2, none⟩) (Kd.R_types HO243.out BK247.out (by decide)) (fun _ hk => hk.2) (.int .i64 (wrap64 (64 - (wrap64 (1 + (Go.bits .and .i64 a1 1023))))))) (fun _ hk => hk.1))⟩, ⟨by (with_reducible repeat (first | refine blk_drewN ?_ _ | refine blk_drew ?_ | refine blk_alloc ?_ _)); refine blk_put (cs := #[.slice Ao9 t238.length co9, .slice Ao10 t241.length co10, .int .i64 t244, .int .i64 t245, .int .i64 t246]) ?_ 2 _ rfl; (with_reducible repeat (first | refine blk_drewN ?_ _ | refine blk_drew ?_ | refine blk_alloc ?_ _)); exact BK247.out⟩, ⟨by repeat (first | (with_reducible first | exact HB.out | apply below_alloc | apply pw_below_drewN | apply below_drew1 | refine below_set ?_ GE247.out) | exact HB.out)⟩⟩
       ·
        rw [if_neg c30] at H
        have c30b0 : ((Int.tmod (IntKind.u64.wrap (a0)) 9) == 4) = false := beq_eq_false_iff_ne.mpr c30
        have c30b1 : ((Int.tmod (IntKind.u64.wrap (a0)) 9) != 4) = true := bne_iff_ne.mpr c30
        by_cases c32 : (Int.tmod (IntKind.u64.wrap (a0)) 9) = 5
        ·
         rw [if_pos c32] at H
         have c32b0 : ((Int.tmod (IntKind.u64.wrap (a0)) 9) == 5) = true := beq_iff_eq.mpr c32
         have c32b1 : ((Int.tmod (IntKind.u64.wrap (a0)) 9) != 5) = false := bne_eq_false_iff_eq.mpr c32
         clear c32
         have H' := Aside0.mk H
         clear H
         have hcz33_0 : w11.cell? ⟨gb247, 0, none⟩ = some (.slice Ao9 t238.length co9) := (blk_cell BK247.out 0).trans rfl
         have hcz33_1 : w11.cell? ⟨gb247, 1, none⟩ = some (.slice Ao10 t241.length co10) := (blk_cell BK247.out 1).trans rfl
         have hcz33_2 : w11.cell? ⟨gb247, 2, none⟩ = some (.int .i64 t244) := (blk_cell BK247.out 2).trans rfl
         have hcz33_3 : w11.cell? ⟨gb247, 3, none⟩ = some (.int .i64 t245) := (blk_cell BK247.out 3).trans rfl
         have hcz33_4 : w11.cell? ⟨gb247, 4, none⟩ = some (.int .i64 t246) := (blk_cell BK247.out 4).trans rfl
         have hfz33_0 := blk_frozen BK247.out 0
         have hfz33_1 := blk_frozen BK247.out 1
         have hfz33_2 := blk_frozen BK247.out 2
         have hfz33_3 := blk_frozen BK247.out 3
         have hfz33_4 := blk_frozen BK247.out 4
         go_wp2
         go_meet
         case rel => exact ⟨_, (t238), (t241), (t244), (wrap64 (58982 + (wrap64 (1 + (Go.bits .and .i64 a1 1023))))), (t246), (.slice Ao9 t238.length co9), (.slice Ao10 t241.length co10), H', ⟨by first | omega | exact Nat.le_refl _⟩, ⟨by (with_reducible repeat (first | apply Kd.R_alloc | apply Kd.R_drewN | apply Kd.R_drew)); exact Kd.R_mono (Kd.R_far (p := ⟨gb247, 3, none⟩) (Kd.R_types HO240.out BK247.out (by decide)) (fun _ hk => hk.2) (.int .i64 (wrap64 (58982 + (wrap64 (1 + (Go.bits .and .i64 a1 1023))))))) (fun _ hk => hk.1)⟩, ⟨Kd.Q_of_R (by (with_reducible repeat (first | apply Kd.R_alloc | apply Kd.R_drewN | apply Kd.R_drew)); exact Kd.R_mono (Kd.R_far (p := ⟨gb247, 3, none⟩) (Kd.R_types HO243.out BK247.out (by decide)) (fun _ hk => hk.2) (.int .i64 (wrap64 (58982 + (wrap64 (1 + (Go.bits .and .i64 a1 1023))))))) (fun _ hk => hk.1))⟩, ⟨by (with_reducible repeat (first | refine blk_drewN ?_ _ | refine blk_drew ?_ | refine blk_alloc ?_ _)); refine blk_put (cs := #[.slice Ao9 t238.length co9, .slice Ao10 t241.length co10, .int .i64 t244, .int .i64 t245, .int .i64 t246]) ?_ 3 _ rfl; (with_reducible repeat (first | refine blk_drewN ?_ _ | refine blk_drew ?_ | refine blk_alloc ?_ _)); exact BK247.out⟩, ⟨by repeat (first | (with_reducible first | exact HB.out | apply below_alloc | apply pw_below_drewN | apply below_drew1 | refine below_set ?_ GE247.out) | exact HB.out)⟩⟩
        ·
         rw [if_neg c32] at H
         have c32b0 : ((Int.tmod (IntKind.u64.wrap (a0)) 9) == 5) = false := beq_eq_false_iff_ne.mpr c32
         have c32b1 : ((Int.tmod (IntKind.u64.wrap (a0)) 9) != 5) = true := bne_iff_ne.mpr c32
         by_cases c34 : (Int.tmod (IntKind.u64.wrap (a0)) 9) = 6
         ·
          rw [if_pos c34] at H
          have c34b0 : ((Int.tmod (IntKind.u64.wrap (a0)) 9) == 6) = true := beq_iff_eq.mpr c34
          have c34b1 : ((Int.tmod (IntKind.u64.wrap (a0)) 9) != 6) = false := bne_eq_false_iff_eq.mpr c34
          clear c34
          have H' := Aside0.mk H
          clear H
          have hcz35_0 : w11.cell? ⟨gb247, 0, none⟩ = some (.slice Ao9 t238.length co9) := (blk_cell BK247.out 0).trans rfl
          have hcz35_1 : w11.cell? ⟨gb247, 1, none⟩ = some (.slice Ao10 t241.length co10) := (blk_cell BK247.out 1).trans rfl
          have hcz35_2 : w11.cell? ⟨gb247, 2, none⟩ = some (.int .i64 t244) := (blk_cell BK247.out 2).trans rfl
          have hcz35_3 : w11.cell? ⟨gb247, 3, none⟩ = some (.int .i64 t245) := (blk_cell BK247.out 3).trans rfl
          have hcz35_4 : w11.cell? ⟨gb247, 4, none⟩ = some (.int .i64 t246) := (blk_cell BK247.out 4).trans rfl
          have hfz35_0 := blk_frozen BK247.out 0
          have hfz35_1 := blk_frozen BK247.out 1
          have hfz35_2 := blk_frozen BK247.out 2
          have hfz35_3 := blk_frozen BK247.out 3
          have hfz35_4 := blk_frozen BK247.out 4
          go_wp2
          go_meet
          case rel => exact ⟨_, (t238), (t241), (t244), (t245), (wrap64 (-(wrap64 (1 + (Go.bits .and .i64 a1 1023))))), (.slice Ao9 t238.length co9), (.slice Ao10 t241.length co10), H', ⟨by first | omega | exact Nat.le_refl _⟩, ⟨by (with_reducible repeat (first | apply Kd.R_alloc | apply Kd.R_drewN | apply Kd.R_drew)); exact Kd.R_mono (Kd.R_far (p := ⟨gb247, 4, none⟩) (Kd.R_types HO240.out BK247.out (by decide)) (fun _ hk => hk.2) (.int .i64 (wrap64 (-(wrap64 (1 + (Go.bits .and .i64 a1 1023))))))) (fun _ hk => hk.1)⟩, ⟨Kd.Q_of_R (by (with_reducible repeat (first | apply Kd.R_alloc | apply Kd.R_drewN | apply Kd.R_drew)); exact Kd.R_mono (Kd.R_far (p := ⟨gb247, 4, none⟩) (Kd.R_types HO243.out BK247.out (by decide)) (fun _ hk => hk.2) (.int .i64 (wrap64 (-(wrap64 (1 + (Go.bits .and .i64 a1 1023))))))) (fun _ hk => hk.1))⟩, ⟨by (with_reducible repeat (first | refine blk_drewN ?_ _ | refine blk_drew ?_ | refine blk_alloc ?_ _)); refine blk_put (cs := #[.slice Ao9 t238.length co9, .slice Ao10 t241.length co10, .int .i64 t244, .int .i64 t245, .int .i64 t246]) ?_ 4 _ rfl; (with_reducible repeat (first | refine blk_drewN ?_ _ | refine blk_drew ?_ | refine blk_alloc ?_ _)); exact BK247.out⟩, ⟨by repeat (first | (with_reducible first | exact HB.out | apply below_alloc | apply pw_below_drewN | apply below_drew1 | refine below_set ?_ GE247.out) | exact HB.out)⟩⟩
         ·
          rw [if_neg c34] at H
          have c34b0 : ((Int.tmod (IntKind.u64.wrap (a0)) 9) == 6) = false := beq_eq_false_iff_ne.mpr c34
          have c34b1 : ((Int.tmod (IntKind.u64.wrap (a0)) 9) != 6) = true := bne_iff_ne.mpr c34
          by_cases c36 : (Int.tmod (IntKind.u64.wrap (a0)) 9) = 7
          ·
           rw [if_pos c36] at H
           have c36b0 : ((Int.tmod (IntKind.u64.wrap (a0)) 9) == 7) = true := beq_iff_eq.mpr c36
           have c36b1 : ((Int.tmod (IntKind.u64.wrap (a0)) 9) != 7) = false := bne_eq_false_iff_eq.mpr c36
           clear c36
           have H' := Aside0.mk H
           clear H
           have hcz37_0 : w11.cell? ⟨gb247, 0, none⟩ = some (.slice Ao9 t238.length co9) := (blk_cell BK247.out 0).trans rfl
           have hcz37_1 : w11.cell? ⟨gb247, 1, none⟩ = some (.slice Ao10 t241.length co10) := (blk_cell BK247.out 1).trans rfl
           have hcz37_2 : w11.cell? ⟨gb247, 2, none⟩ = some (.int .i64 t244) := (blk_cell BK247.out 2).trans rfl
           have hcz37_3 : w11.cell? ⟨gb247, 3, none⟩ = some (.int .i64 t245) := (blk_cell BK247.out 3).trans rfl
           have hcz37_4 : w11.cell? ⟨gb247, 4, none⟩ = some (.int .i64 t246) := (blk_cell BK247.out 4).trans rfl
           have hfz37_0 := blk_frozen BK247.out 0
           have hfz37_1 := blk_frozen BK247.out 1
           have hfz37_2 := blk_frozen BK247.out 2
           have hfz37_3 := blk_frozen BK247.out 3
           have hfz37_4 := blk_frozen BK247.out 4
           go_wp2
           go_meet
           case rel => exact ⟨_, (t238), (t241), (t244), (t245), (wrap64 (32 + (wrap64 (1 + (Go.bits .and .i64 a1 1023))))), (.slice Ao9 t238.length co9), (.slice Ao10 t241.length co10), H', ⟨by first | omega | exact Nat.le_refl _⟩, ⟨by (with_reducible repeat (first | apply Kd.R_alloc | apply Kd.R_drewN | apply Kd.R_drew)); exact Kd.R_mono (Kd.R_far (p := ⟨gb247, 4, none⟩) (Kd.R_types HO240.out BK247.out (by decide)) (fun _ hk => hk.2) (.int .i64 (wrap64 (32 + (wrap64 (1 + (Go.bits .and .i64 a1 1023))))))) (fun _ hk => hk.1)⟩, ⟨Kd.Q_of_R (by (with_reducible repeat (first | apply Kd.R_alloc | apply Kd.R_drewN | apply Kd.R_drew)); exact Kd.R_mono (Kd.R_far (p := ⟨gb247, 4, none⟩) (Kd.R_types HO243.out BK247.out (by decide)) (fun _ hk => hk.2) (.int .i64 (wrap64 (32 + (wrap64 (1 + (Go.bits .and .i64 a1 1023))))))) (fun _ hk => hk.1))⟩, ⟨by (with_reducible repeat (first | refine blk_drewN ?_ _ | refine blk_drew ?_ | refine blk_alloc ?_ _)); refine blk_put (cs := #[.slice Ao9 t238.length co9, .slice Ao10 t241.length co10, .int .i64 t244, .int .i64 t245, .int .i64 t246]) ?_ 4 _ rfl; (with_reducible repeat (first | refine blk_drewN ?_ _ | refine blk_drew ?_ | refine blk_alloc ?_ _)); exact BK247.out⟩, ⟨by repeat (first | (with_reducible first | exact HB.out | apply below_alloc | apply pw_below_drewN | apply below_drew1 | refine below_set ?_ GE247.out) | exact HB.out)⟩⟩
          ·
           rw [if_neg c36] at H
           have c36b0 : ((Int.tmod (IntKind.u64.wrap (a0)) 9) == 7) = false := beq_eq_false_iff_ne.mpr c36
           have c36b1 : ((Int.tmod (IntKind.u64.wrap (a0)) 9) != 7) = true := bne_iff_ne.mpr c36
           obtain ⟨ji38, hji38⟩ : ∃ j_ : Int, (wrap64 (16 + (wrap64 (1 + (Go.bits .and .i64 a1 1023))))) = j_ := ⟨_, rfl⟩
           replace H : (if 0 ≤ (ji38) then (if (ji38 : Int).toNat ≤ 35184372088832 then (grafterlaw14_CheckForms.j0 k a1 (List.replicate (ji38 : Int).toNat 0) (List.replicate (ji38 : Int).toNat 0) t244 t245 t246) else (none)) else (none)) = some r := by first | (rw [hji38] at H; exact H) | (simp only [hji38] at H ⊢; exact H)
           have hji38w : (IntKind.i64.wrap (16 + (wrap64 (1 + (Go.bits .and .i64 a1 1023))))) = ji38 := (i64_w _).trans hji38
           by_cases c39 : 0 ≤ (ji38)
           ·
            rw [if_pos c39] at H
            have c39b0 := eq_true c39
            have c39b1 : decide (0 ≤ (ji38)) = true := decide_eq_true c39
            clear c39
            by_cases c40 : (ji38 : Int).toNat ≤ 35184372088832
            ·
             rw [if_pos c40] at H
             have c40b0 := eq_true c40
             have c40b1 : decide ((ji38 : Int).toNat ≤ 35184372088832) = true := decide_eq_true c40
             clear c40
             obtain ⟨y253, hy253⟩ : ∃ y_ : List Int, y_ = (List.replicate (ji38 : Int).toNat 0) := ⟨_, rfl⟩
             replace H : (grafterlaw14_CheckForms.j0 k a1 y253 (List.replicate (ji38 : Int).toNat 0) t244 t245 t246) = some r := by first | (rw [hy253]; with_reducible exact H) | (have H2_ := (Option.bind_some _ _).symm.trans H; rw [hy253]; with_reducible exact H2_) | (have H2_ := (Option.bind_some _ _).symm.trans H; with_reducible exact H2_) | with_reducible exact H | (rw [hy253]; exact H) | exact H
             have Ny253 := Aside0.mk hy253
             clear hy253
             obtain ⟨y256, hy256⟩ : ∃ y_ : List Int, y_ = (List.replicate (ji38 : Int).toNat 0) := ⟨_, rfl⟩
             replace H : (grafterlaw14_CheckForms.j0 k a1 y253 y256 t244 t245 t246) = some r := by first | (rw [hy256]; with_reducible exact H) | (have H2_ := (Option.bind_some _ _).symm.trans H; rw [hy256]; with_reducible exact H2_) | (have H2_ := (Option.bind_some _ _).symm.trans H; with_reducible exact H2_) | with_reducible exact H | (rw [hy256]; exact H) | exact H
             have Ny256 := Aside0.mk hy256
             clear hy256
             have H' := Aside0.mk H
             clear H
             go_wp2_with (first | ((with_reducible refine gate_dst (N := 32) rfl ?_); (try (refine gate_guard (by rfl) ?_; dsimp only)); refine Kd.R_make (Kd.int .i64) _ 3 rfl (N := 32) rfl 37 _ _ rfl ji38 rfl rfl Try.underlying37 (.int .i64 0) 8 info3 rfl (by decide) (by omega) 0 (ok := fun _ => True) (okp := fun _ => True) rfl (fun _ hk => hk) trivial (of_decide_eq_true (by first | (with_reducible assumption) | assumption)) (Nat.le_trans (Nat.mul_le_mul_right _ (of_decide_eq_true (by first | (with_reducible assumption) | assumption) : ji38.toNat ≤ 35184372088832)) (by omega)) (Below.refl _ _) (Nat.le_refl _) ?_; intro v254 w41 ho42 hb hg_ hnew_; clear hg_ hnew_; (first | rw [← Ny253.out] at ho42 | (simp only [Int.reduceToNat] at ho42; rw [← Ny253.out] at ho42)); have n0_ := Aside0.mk (Kd.R_elder' (by (with_reducible repeat (first | apply Kd.R_alloc | apply Kd.R_drewN | apply Kd.R_drew)); exact HO240.out) (Kd.R_base ho42) hb); have n1_ := Aside0.mk (Kd.R_elder' (by (with_reducible repeat (first | apply Kd.R_alloc | apply Kd.R_drewN | apply Kd.R_drew)); exact HO243.out) (Kd.R_base ho42) hb); have n2_ := Aside0.mk (Kd.R_lower (Kd.R_new' (Kd.R_new' ho42 (Kd.R_lt (by (with_reducible repeat (first | apply Kd.R_alloc | apply Kd.R_drewN | apply Kd.R_drew)); exact HO240.out))) (Kd.R_lt (by (with_reducible repeat (first | apply Kd.R_alloc | apply Kd.R_drewN | apply Kd.R_drew)); exact HO243.out))) (below_size (by repeat (first | (with_reducible first | exact HB.out | apply below_alloc | apply pw_below_drewN | apply below_drew1 | refine below_set ?_ GE247.out) | exact HB.out)))); have n3_ := Aside0.mk (blk_below (g := gb247) (o := .cells #[.slice Ao9 t238.length co9, .slice Ao10 t241.length co10, .int .i64 t244, .int .i64 t245, .int .i64 t246] 56 (0, 0)) (by (with_reducible repeat (first | refine blk_drewN ?_ _ | refine blk_drew ?_ | refine blk_alloc ?_ _)); exact BK247.out) hb); have n4_ := Aside0.mk (below_step (by repeat (first | (with_reducible first | exact HB.out | apply below_alloc | apply pw_below_drewN | apply below_drew1 | refine below_set ?_ GE247.out) | exact HB.out)) hb); clear HO240; clear HO243; clear BK247; clear HB; have HO240 := n0_; have HO243 := n1_; have HO255 := n2_; have BK247 := n3_; have HB := n4_; clear n0_ n1_ n2_ n3_ n4_; clear hb ho42; obtain ⟨Ao43, co43, eo43⟩ := Kd.R_slice HO255.out; subst eo43; have hcz44_0 : w41.cell? ⟨gb247, 0, none⟩ = some (.slice Ao9 t238.length co9) := (blk_cell BK247.out 0).trans rfl; have hcz44_1 : w41.cell? ⟨gb247, 1, none⟩ = some (.slice Ao10 t241.length co10) := (blk_cell BK247.out 1).trans rfl; have hcz44_2 : w41.cell? ⟨gb247, 2, none⟩ = some (.int .i64 t244) := (blk_cell BK247.out 2).trans rfl; have hcz44_3 : w41.cell? ⟨gb247, 3, none⟩ = some (.int .i64 t245) := (blk_cell BK247.out 3).trans rfl; have hcz44_4 : w41.cell? ⟨gb247, 4, none⟩ = some (.int .i64 t246) := (blk_cell BK247.out 4).trans rfl; have hfz44_0 := blk_frozen BK247.out 0; have hfz44_1 := blk_frozen BK247.out 1; have hfz44_2 := blk_frozen BK247.out 2; have hfz44_3 := blk_frozen BK247.out 3; have hfz44_4 := blk_frozen BK247.out 4) | ((with_reducible refine gate_dst (N := 36) rfl ?_); (try (refine gate_guard (by rfl) ?_; dsimp only)); refine Kd.R_make (Kd.int .i64) _ 3 rfl (N := 36) rfl 37 _ _ rfl ji38 rfl rfl Try.underlying37 (.int .i64 0) 8 info3 rfl (by decide) (by omega) 0 (ok := fun _ => True) (okp := fun _ => True) rfl (fun _ hk => hk) trivial (of_decide_eq_true (by first | (with_reducible assumption) | assumption)) (Nat.le_trans (Nat.mul_le_mul_right _ (of_decide_eq_true (by first | (with_reducible assumption) | assumption) : ji38.toNat ≤ 35184372088832)) (by omega)) (Below.refl _ _) (Nat.le_refl _) ?_; intro v257 w45 ho46 hb hg_ hnew_; clear hg_ hnew_; (first | rw [← Ny256.out] at ho46 | (simp only [Int.reduceToNat] at ho46; rw [← Ny256.out] at ho46)); have n0_ := Aside0.mk (Kd.R_elder' (by (with_reducible repeat (first | apply Kd.R_alloc | apply Kd.R_drewN | apply Kd.R_drew)); exact (Kd.R_mono (Kd.R_far (p := ⟨gb247, 0, none⟩) (Kd.R_types HO240.out BK247.out (by decide)) (fun _ hk => hk.2) (.slice Ao43 y253.length co43)) (fun _ h_ => h_.1))) (Kd.R_base ho46) hb); have n1_ := Aside0.mk (Kd.R_elder' (by (with_reducible repeat (first | apply Kd.R_alloc | apply Kd.R_drewN | apply Kd.R_drew)); exact (Kd.R_mono (Kd.R_far (p := ⟨gb247, 0, none⟩) (Kd.R_types HO243.out BK247.out (by decide)) (fun _ hk => hk.2) (.slice Ao43 y253.length co43)) (fun _ h_ => h_.1))) (Kd.R_base ho46) hb); have n2_ := Aside0.mk (Kd.R_elder' (by (with_reducible repeat (first | apply Kd.R_alloc | apply Kd.R_drewN | apply Kd.R_drew)); exact (Kd.R_mono (Kd.R_far (p := ⟨gb247, 0, none⟩) (Kd.R_types HO255.out BK247.out (by decide)) (fun _ hk => hk.2) (.slice Ao43 y253.length co43)) (fun _ h_ => h_.1))) (Kd.R_base ho46) hb); have n3_ := Aside0.mk (Kd.R_lower (Kd.R_new' (Kd.R_new' (Kd.R_new' ho46 (Kd.R_lt (by (with_reducible repeat (first | apply Kd.R_alloc | apply Kd.R_drewN | apply Kd.R_drew)); exact (Kd.R_mono (Kd.R_far (p := ⟨gb247, 0, none⟩) (Kd.R_types HO240.out BK247.out (by decide)) (fun _ hk => hk.2) (.slice Ao43 y253.length co43)) (fun _ h_ => h_.1))))) (Kd.R_lt (by (with_reducible repeat (first | apply Kd.R_alloc | apply Kd.R_drewN | apply Kd.R_drew)); exact (Kd.R_mono (Kd.R_far (p := ⟨gb247, 0, none⟩) (Kd.R_types HO243.out BK247.out (by decide)) (fun _ hk => hk.2) (.slice Ao43 y253.length co43)) (fun _ h_ => h_.1))))) (Kd.R_lt (by (with_reducible repeat (first | apply Kd.R_alloc | apply Kd.R_drewN | apply Kd.R_drew)); exact (Kd.R_mono (Kd.R_far (p := ⟨gb247, 0, none⟩) (Kd.R_types HO255.out BK247.out (by decide)) (fun _ hk => hk.2) (.slice Ao43 y253.length co43)) (fun _ h_ => h_.1))))) (below_size (by repeat (first | (with_reducible first | exact HB.out | apply below_alloc | apply pw_below_drewN | apply below_drew1 | refine below_set ?_ GE247.out) | exact HB.out)))); have n4_ := Aside0.mk (blk_below (g := gb247) (o := .cells #[.slice Ao43 y253.length co43, .slice Ao10 t241.length co10, .int .i64 t244, .int .i64 t245, .int .i64 t246] 56 (0, 0)) (by (with_reducible repeat (first | refine blk_drewN ?_ _ | refine blk_drew ?_ | refine blk_alloc ?_ _)); refine blk_put (cs := #[.slice Ao9 t238.length co9, .slice Ao10 t241.length co10, .int .i64 t244, .int .i64 t245, .int .i64 t246]) ?_ 0 _ rfl; (with_reducible repeat (first | refine blk_drewN ?_ _ | refine blk_drew ?_ | refine blk_alloc ?_ _)); exact BK247.out) hb); have n5_ := Aside0.mk (below_step (by repeat (first | (with_reducible first | exact HB.out | apply below_alloc | apply pw_below_drewN | apply below_drew1 | refine below_set ?_ GE247.out) | exact HB.out)) hb); clear HO240; clear HO243; clear HO255; clear BK247; clear HB; have HO240 := n0_; have HO243 := n1_; have HO255 := n2_; have HO258 := n3_; have BK247 := n4_; have HB := n5_; clear n0_ n1_ n2_ n3_ n4_ n5_; clear hb ho46; obtain ⟨Ao47, co47, eo47⟩ := Kd.R_slice HO258.out; subst eo47; have hcz48_0 : w45.cell? ⟨gb247, 0, none⟩ = some (.slice Ao43 y253.length co43) := (blk_cell BK247.out 0).trans rfl; have hcz48_1 : w45.cell? ⟨gb247, 1, none⟩ = some (.slice Ao10 t241.length co10) := (blk_cell BK247.out 1).trans rfl; have hcz48_2 : w45.cell? ⟨gb247, 2, none⟩ = some (.int .i64 t244) := (blk_cell BK247.out 2).trans rfl; have hcz48_3 : w45.cell? ⟨gb247, 3, none⟩ = some (.int .i64 t245) := (blk_cell BK247.out 3).trans rfl; have hcz48_4 : w45.cell? ⟨gb247, 4, none⟩ = some (.int .i64 t246) := (blk_cell BK247.out 4).trans rfl; have hfz48_0 := blk_frozen BK247.out 0; have hfz48_1 := blk_frozen BK247.out 1; have hfz48_2 := blk_frozen BK247.out 2; have hfz48_3 := blk_frozen BK247.out 3; have hfz48_4 := blk_frozen BK247.out 4))
             go_meet
             case rel => exact ⟨_, (y253), (y256), (t244), (t245), (t246), (.slice Ao43 y253.length co43), (.slice Ao47 y256.length co47), H', ⟨by first | omega | exact Nat.le_refl _⟩, ⟨by (with_reducible repeat (first | apply Kd.R_alloc | apply Kd.R_drewN | apply Kd.R_drew)); exact Kd.R_mono (Kd.R_far (p := ⟨gb247, 1, none⟩) (Kd.R_types HO255.out BK247.out (by decide)) (fun _ hk => hk.2) (.slice Ao47 y256.length co47)) (fun _ hk => hk.1.2)⟩, ⟨Kd.Q_of_R (by (with_reducible repeat (first | apply Kd.R_alloc | apply Kd.R_drewN | apply Kd.R_drew)); exact Kd.R_mono (Kd.R_far (p := ⟨gb247, 1, none⟩) (Kd.R_types HO258.out BK247.out (by decide)) (fun _ hk => hk.2) (.slice Ao47 y256.length co47)) (fun _ hk => hk.1.2))⟩, ⟨by (with_reducible repeat (first | refine blk_drewN ?_ _ | refine blk_drew ?_ | refine blk_alloc ?_ _)); refine blk_put (cs := #[.slice Ao43 y253.length co43, .slice Ao10 t241.length co10, .int .i64 t244, .int .i64 t245, .int .i64 t246]) ?_ 1 _ rfl; (with_reducible repeat (first | refine blk_drewN ?_ _ | refine blk_drew ?_ | refine blk_alloc ?_ _)); exact BK247.out⟩, ⟨by repeat (first | (with_reducible first | exact HB.out | apply below_alloc | apply pw_below_drewN | apply below_drew1 | refine below_set ?_ GE247.out) | exact HB.out)⟩⟩
            ·
             rw [if_neg c40] at H
             exact absurd H (by simp)
           ·
            rw [if_neg c39] at H
            exact absurd H (by simp)
  case rest =>
   clear HC6
   try clear c1
   try clear q1
   try clear c2
   try clear p2
   try clear q2
   try clear hx2
   try clear qi2
   try clear hf2
   try clear c3
   try clear c4
   try clear p6
   try clear c12
   try clear c12b0
   try clear c12b1
   try clear c14
   try clear c14b0
   try clear c14b1
   try clear c15
   try clear c15b0
   try clear c15b1
   try clear c17
   try clear q17
   try clear c18
   try clear c18b0
   try clear c18b1
   try clear c19
   try clear c19b0
   try clear c19b1
   try clear p20
   try clear q20
   try clear hx20
   try clear qi20
   try clear hf20
   try clear c24
   try clear c24b0
   try clear c24b1
   try clear c25
   try clear c25b0
   try clear c25b1
   try clear p26
   try clear q26
   try clear hx26
   try clear qi26
   try clear hf26
   try clear c30
   try clear c30b0
   try clear c30b1
   try clear c32
   try clear c32b0
   try clear c32b1
   try clear c34
   try clear c34b0
   try clear c34b1
   try clear c36
   try clear c36b0
   try clear c36b1
   try clear c39
   try clear c39b0
   try clear c39b1
   try clear c40
   try clear c40b0
   try clear c40b1
   try clear c47
   try clear c48
   try clear hcz13_0
   try clear hcz13_1
   try clear hcz13_2
   try clear hcz13_3
   try clear hcz13_4
   try clear hcz16_0
   try clear hcz16_1
   try clear hcz16_2
   try clear hcz16_3
   try clear hcz16_4
   try clear hcz21_0
   try clear hcz21_1
   try clear hcz21_2
   try clear hcz21_3
   try clear hcz21_4
   try clear hcz27_0
   try clear hcz27_1
   try clear hcz27_2
   try clear hcz27_3
   try clear hcz27_4
   try clear hcz31_0
   try clear hcz31_1
   try clear hcz31_2
   try clear hcz31_3
   try clear hcz31_4
   try clear hcz33_0
   try clear hcz33_1
   try clear hcz33_2
   try clear hcz33_3
   try clear hcz33_4
   try clear hcz35_0
   try clear hcz35_1
   try clear hcz35_2
   try clear hcz35_3
   try clear hcz35_4
   try clear hcz37_0
   try clear hcz37_1
   try clear hcz37_2
   try clear hcz37_3
   try clear hcz37_4
   try clear hcz44_0
   try clear hcz44_1
   try clear hcz44_2
   try clear hcz44_3
   try clear hcz44_4
   try clear hcz48_0
   try clear hcz48_1
   try clear hcz48_2
   try clear hcz48_3
   try clear hcz48_4
   try clear hfz13_0
   try clear hfz13_1
   try clear hfz13_2
   try clear hfz13_3
   try clear hfz13_4
   try clear hfz16_0
   try clear hfz16_1
   try clear hfz16_2
   try clear hfz16_3
   try clear hfz16_4
   try clear hfz21_0
   try clear hfz21_1
   try clear hfz21_2
   try clear hfz21_3
   try clear hfz21_4
   try clear hfz27_0
   try clear hfz27_1
   try clear hfz27_2
   try clear hfz27_3
   try clear hfz27_4
   try clear hfz31_0
   try clear hfz31_1
   try clear hfz31_2
   try clear hfz31_3
   try clear hfz31_4
   try clear hfz33_0
   try clear hfz33_1
   try clear hfz33_2
   try clear hfz33_3
   try clear hfz33_4
   try clear hfz35_0
   try clear hfz35_1
   try clear hfz35_2
   try clear hfz35_3
   try clear hfz35_4
   try clear hfz37_0
   try clear hfz37_1
   try clear hfz37_2
   try clear hfz37_3
   try clear hfz37_4
   try clear hfz44_0
   try clear hfz44_1
   try clear hfz44_2
   try clear hfz44_3
   try clear hfz44_4
   try clear hfz48_0
   try clear hfz48_1
   try clear hfz48_2
   try clear hfz48_3
   try clear hfz48_4
   try clear hx20_0
   try clear hx26_0
   try clear p20
   try clear p26
   try clear q17
   try clear q20
   try clear q26
   obtain ⟨kq, x248000_5, x248001_5, x248002_5, x248003_5, x248004_5, u248000, u248001, HA, HJ5, HO_248000, HO_248001, BK247, HB⟩ := hcut
   cases kq with
   | zero => exact absurd HA.out (by simp [grafterlaw14_CheckForms.j0])
   | succ kj5 =>
    have H := HA.out
    clear HA
    simp only [grafterlaw14_CheckForms.j0] at H
    replace H := Option.bind_eq_some_iff.mp H
    obtain ⟨⟨t259, t260⟩, A490, H⟩ := H
    (try dsimp only at H)
    have A49 := Aside0.mk A490
    clear A490
    replace H := Option.bind_eq_some_iff.mp H
    obtain ⟨⟨t261, t264, t267, t268, t269⟩, A500, H⟩ := H
    (try dsimp only at H)
    have A50 := Aside0.mk A500
    clear A500
    replace H := Option.bind_eq_some_iff.mp H
    obtain ⟨⟨t270, t271⟩, A510, H⟩ := H
    (try dsimp only at H)
    have A51 := Aside0.mk A510
    clear A510
    have HC52 := Aside0.mk H
    clear H
    have hcz53_0 : wc.cell? ⟨gb247, 0, none⟩ = some (u248000) := (blk_cell BK247.out 0).trans rfl
    have hcz53_1 : wc.cell? ⟨gb247, 1, none⟩ = some (u248001) := (blk_cell BK247.out 1).trans rfl
    have hcz53_2 : wc.cell? ⟨gb247, 2, none⟩ = some (.int .i64 x248002_5) := (blk_cell BK247.out 2).trans rfl
    have hcz53_3 : wc.cell? ⟨gb247, 3, none⟩ = some (.int .i64 x248003_5) := (blk_cell BK247.out 3).trans rfl
    have hcz53_4 : wc.cell? ⟨gb247, 4, none⟩ = some (.int .i64 x248004_5) := (blk_cell BK247.out 4).trans rfl
    have hfz53_0 := blk_frozen BK247.out 0
    have hfz53_1 := blk_frozen BK247.out 1
    have hfz53_2 := blk_frozen BK247.out 2
    have hfz53_3 := blk_frozen BK247.out 3
    have hfz53_4 := blk_frozen BK247.out 4
    obtain ⟨Ao54, co54, eo54⟩ := Kd.R_slice HO_248000.out
    subst eo54
    obtain ⟨Ao55, co55, eo55, _⟩ := Kd.Q_slice HO_248001.out
    subst eo55
    go_upto_region 27 with (first | ((with_reducible refine gate_callee (f := 39) rfl ?_); refine goesL_ (some 86) rfl rfl Try.func39 (by kernel_rfl) rfl #[.agg #[.slice Ao54 x248000_5.length co54, .slice Ao55 x248001_5.length co55, .int .i64 x248002_5, .int .i64 x248003_5, .int .i64 x248004_5]] rfl (by (try simp only [List.map_toArray, List.map_cons, List.map_nil]); first | done | rfl | (simp only [List.length_drop, List.length_take]; rfl)) ?_; (with_reducible refine (check_Put.calls kj5 (fun k_ => some k_ = (.slice Ao54 x248000_5.length co54 : Value).ownBlock) _ _ x248000_5 (fun k_ => some k_ = (.slice Ao55 x248001_5.length co55 : Value).ownBlock) _ _ x248001_5 x248002_5 x248003_5 x248004_5 t259 t260 _ ?side1 ?side2 A49.out).mono ?_); (case side1 => exact Kd.R_V (Kd.R_tight rfl (Kd.R_types (HO_248000.out) BK247.out (by decide)))); (case side2 => exact Kd.Q_V (Kd.Q_tight rfl (Kd.Q_types (HO_248001.out) BK247.out (by decide)))); rintro e w56 ⟨rfl, hb⟩; refine ⟨_, rfl, ?_⟩; have n0_ := Aside0.mk (Kd.R_below (by (with_reducible repeat (first | apply Kd.R_alloc | apply Kd.R_drewN | apply Kd.R_drew)); exact HO_248000.out) hb); have n1_ := Aside0.mk (Kd.Q_below (by (with_reducible repeat (first | apply Kd.Q_alloc | apply Kd.Q_drewN | apply Kd.Q_drew)); exact HO_248001.out) hb); have n2_ := Aside0.mk (blk_below (g := gb247) (o := .cells #[.slice Ao54 x248000_5.length co54, .slice Ao55 x248001_5.length co55, .int .i64 x248002_5, .int .i64 x248003_5, .int .i64 x248004_5] 56 (0, 0)) (by (with_reducible repeat (first | refine blk_drewN ?_ _ | refine blk_drew ?_ | refine blk_alloc ?_ _)); exact BK247.out) hb); have n3_ := Aside0.mk (below_step (by repeat (first | (with_reducible first | exact HB.out | apply below_alloc | apply pw_below_drewN | apply below_drew1 | refine below_set ?_ GE247.out) | exact HB.out)) hb); clear HO_248000; clear HO_248001; clear BK247; clear HB; have HO_248000 := n0_; have HO_248001 := n1_; have BK247 := n2_; have HB := n3_; clear n0_ n1_ n2_ n3_; (try clear hb); (try clear hb2); (try clear hk); (try clear hi)) | ((with_reducible refine gate_callee (f := 48) rfl ?_); refine goesL_ (some 90) rfl rfl Try.func48 (by kernel_rfl) rfl #[] rfl (by (try simp only [List.map_toArray, List.map_cons, List.map_nil]); first | done | rfl | (simp only [List.length_drop, List.length_take]; rfl)) ?_; (with_reducible refine (grafterlaw14_given.calls  t261 t264 t267 t268 t269 _ A50.out).mono ?_); rintro e w57 ⟨v262, v265, rfl, ho0, ho1, hb⟩; refine ⟨_, rfl, ?_⟩; have n0_ := Aside0.mk (Kd.R_mono (Kd.R_told (Kd.R_told (Kd.R_old (by (with_reducible repeat (first | apply Kd.R_alloc | apply Kd.R_drewN | apply Kd.R_drew)); exact HO_248000.out) hb) (Kd.R_base ho0)) (Kd.R_base ho1)) (fun _ h_ => h_.1)); have n1_ := Aside0.mk (Kd.Q_mono (Kd.Q_told (Kd.Q_told (Kd.Q_old (by (with_reducible repeat (first | apply Kd.Q_alloc | apply Kd.Q_drewN | apply Kd.Q_drew)); exact HO_248001.out) hb) (Kd.R_base ho0)) (Kd.R_base ho1)) (fun _ h_ => h_.1)); have n2_ := Aside0.mk (Kd.R_lower (Kd.R_new' (Kd.R_new' ho0 (Kd.R_lt (by (with_reducible repeat (first | apply Kd.R_alloc | apply Kd.R_drewN | apply Kd.R_drew)); exact HO_248000.out))) (Kd.Q_lt (by (with_reducible repeat (first | apply Kd.Q_alloc | apply Kd.Q_drewN | apply Kd.Q_drew)); exact HO_248001.out))) (below_size (by repeat (first | (with_reducible first | exact HB.out | apply below_alloc | apply pw_below_drewN | apply below_drew1 | refine below_set ?_ GE247.out) | exact HB.out)))); have n3_ := Aside0.mk (Kd.R_lower (Kd.R_new' (Kd.R_new' ho1 (Kd.R_lt (by (with_reducible repeat (first | apply Kd.R_alloc | apply Kd.R_drewN | apply Kd.R_drew)); exact HO_248000.out))) (Kd.Q_lt (by (with_reducible repeat (first | apply Kd.Q_alloc | apply Kd.Q_drewN | apply Kd.Q_drew)); exact HO_248001.out))) (below_size (by repeat (first | (with_reducible first | exact HB.out | apply below_alloc | apply pw_below_drewN | apply below_drew1 | refine below_set ?_ GE247.out) | exact HB.out)))); have n4_ := Aside0.mk (blk_below (g := gb247) (o := .cells #[.slice Ao54 x248000_5.length co54, .slice Ao55 x248001_5.length co55, .int .i64 x248002_5, .int .i64 x248003_5, .int .i64 x248004_5] 56 (0, 0)) (by (with_reducible repeat (first | refine blk_drewN ?_ _ | refine blk_drew ?_ | refine blk_alloc ?_ _)); exact BK247.out) hb); have n5_ := Aside0.mk (below_step (by repeat (first | (with_reducible first | exact HB.out | apply below_alloc | apply pw_below_drewN | apply below_drew1 | refine below_set ?_ GE247.out) | exact HB.out)) hb); clear HO_248000; clear HO_248001; clear BK247; clear HB; have HO_248000 := n0_; have HO_248001 := n1_; have HO263 := n2_; have HO266 := n3_; have BK247 := n4_; have HB := n5_; clear n0_ n1_ n2_ n3_ n4_ n5_; (try clear hb); (try clear hb2); (try clear hk); (try clear hi); (try clear ho0); (try clear ho1); obtain ⟨Ao58, co58, eo58⟩ := Kd.R_slice HO263.out; subst eo58; obtain ⟨Ao59, co59, eo59⟩ := Kd.R_slice HO266.out; subst eo59) | ((with_reducible refine gate_callee (f := 39) rfl ?_); refine goesL_ (some 91) rfl rfl Try.func39 (by kernel_rfl) rfl #[.agg #[.slice Ao58 t261.length co58, .slice Ao59 t264.length co59, .int .i64 t267, .int .i64 t268, .int .i64 t269]] rfl (by (try simp only [List.map_toArray, List.map_cons, List.map_nil]); first | done | rfl | (simp only [List.length_drop, List.length_take]; rfl)) ?_; (with_reducible refine (check_Put.calls kj5 (fun k_ => some k_ = (.slice Ao58 t261.length co58 : Value).ownBlock) _ _ t261 (fun k_ => some k_ = (.slice Ao59 t264.length co59 : Value).ownBlock) _ _ t264 t267 t268 t269 t270 t271 _ ?side1 ?side2 A51.out).mono ?_); (case side1 => exact Kd.R_V (Kd.R_tight rfl (Kd.R_types (HO263.out) BK247.out (by decide)))); (case side2 => exact Kd.R_V (Kd.R_tight rfl (Kd.R_types (HO266.out) BK247.out (by decide)))); rintro e w60 ⟨rfl, hb⟩; refine ⟨_, rfl, ?_⟩; have n0_ := Aside0.mk (Kd.R_below (by (with_reducible repeat (first | apply Kd.R_alloc | apply Kd.R_drewN | apply Kd.R_drew)); exact HO_248000.out) hb); have n1_ := Aside0.mk (Kd.Q_below (by (with_reducible repeat (first | apply Kd.Q_alloc | apply Kd.Q_drewN | apply Kd.Q_drew)); exact HO_248001.out) hb); have n2_ := Aside0.mk (Kd.R_below (by (with_reducible repeat (first | apply Kd.R_alloc | apply Kd.R_drewN | apply Kd.R_drew)); exact HO263.out) hb); have n3_ := Aside0.mk (Kd.R_below (by (with_reducible repeat (first | apply Kd.R_alloc | apply Kd.R_drewN | apply Kd.R_drew)); exact HO266.out) hb); have n4_ := Aside0.mk (blk_below (g := gb247) (o := .cells #[.slice Ao54 x248000_5.length co54, .slice Ao55 x248001_5.length co55, .int .i64 x248002_5, .int .i64 x248003_5, .int .i64 x248004_5] 56 (0, 0)) (by (with_reducible repeat (first | refine blk_drewN ?_ _ | refine blk_drew ?_ | refine blk_alloc ?_ _)); exact BK247.out) hb); have n5_ := Aside0.mk (below_step (by repeat (first | (with_reducible first | exact HB.out | apply below_alloc | apply pw_below_drewN | apply below_drew1 | refine below_set ?_ GE247.out) | exact HB.out)) hb); clear HO_248000; clear HO_248001; clear HO263; clear HO266; clear BK247; clear HB; have HO_248000 := n0_; have HO_248001 := n1_; have HO263 := n2_; have HO266 := n3_; have BK247 := n4_; have HB := n5_; clear n0_ n1_ n2_ n3_ n4_ n5_; (try clear hb); (try clear hb2); (try clear hk); (try clear hi)))
    (try simp only [Act.put, List.setIfInBounds_toArray, List.set_cons_zero, List.set_cons_succ])
    go_cut [101] (fun v101 wc => ∃ (kq : Nat) (x101_51 : Bool), v101 = .bool x101_51 ∧ Aside0 (grafterlaw14_CheckForms.j1 kq a1 t259 t260 t270 x101_51 x248000_5 x248001_5 x248002_5 x248003_5 x248004_5 = some r) ∧ Aside0 (kq ≤ kj5) ∧ Aside0 (Kd.R (Kd.int .i64) 3 wc w.heap.size (fun k_ => some k_ ≠ ((.slice Ao55 x248001_5.length co55) : Value).ownBlock) (.slice Ao54 x248000_5.length co54) x248000_5) ∧ Aside0 (Kd.Q (Kd.int .i64) 3 wc w.heap.size (fun k_ => some k_ ≠ ((.slice Ao54 x248000_5.length co54) : Value).ownBlock) (.slice Ao55 x248001_5.length co55) x248001_5) ∧ Aside0 (wc.heap[gb247]? = some (.cells #[(.slice Ao54 x248000_5.length co54), (.slice Ao55 x248001_5.length co55), .int .i64 x248002_5, .int .i64 x248003_5, .int .i64 x248004_5] 56 (0, 0))) ∧ Aside0 (Below w.heap.size w wc))
    case first =>
     have H := HC52.out
     clear HC52
     replace H := Option.bind_eq_some_iff.mp H
     obtain ⟨t272, A610, H⟩ := H
     (try dsimp only at H)
     have A61 := Aside0.mk A610
     clear A610
     by_cases c62 : t272 = 0
     ·
      rw [if_pos c62] at H
      have c62b0 : (t272 == 0) = true := beq_iff_eq.mpr c62
      have c62b1 : (t272 != 0) = false := bne_eq_false_iff_eq.mpr c62
      clear c62
      (first | rw [c62b0] | (simp only [i64_w, i32_w]; rw [c62b0]) | skip)
      have H' := Aside0.mk H
      clear H
      go_wp2_with (first | ((with_reducible refine gate_callee (f := 26) rfl ?_); refine goesL_ (some 95) rfl rfl Try.func26 (by kernel_rfl) rfl #[.int .i64 t271] rfl (by (try simp only [List.map_toArray, List.map_cons, List.map_nil]); first | done | rfl | (simp only [List.length_drop, List.length_take]; rfl)) ?_; (with_reducible refine (grafterlaw0_Num.calls t271 t272 _ A61.out).mono ?_); rintro e w' ⟨rfl, ⟨nd, rfl⟩⟩; refine ⟨_, rfl, ?_⟩))
      go_meet
      case rel => exact ⟨_, (((t270.size : Int) != 26)), (by first | rfl | (simp; done) | (simp [*]; done)), H', ⟨by have := HJ5.out; first | omega | exact Nat.le_refl _⟩, ⟨by (with_reducible repeat (first | apply Kd.R_alloc | apply Kd.R_drewN | apply Kd.R_drew)); exact Kd.R_mono HO_248000.out (fun _ hk => hk.1.1)⟩, ⟨by (with_reducible repeat (first | apply Kd.Q_alloc | apply Kd.Q_drewN | apply Kd.Q_drew)); exact Kd.Q_mono HO_248001.out (fun _ hk => hk.1.1)⟩, ⟨by (with_reducible repeat (first | refine blk_drewN ?_ _ | refine blk_drew ?_ | refine blk_alloc ?_ _)); exact BK247.out⟩, ⟨by repeat (first | (with_reducible first | exact HB.out | apply below_alloc | apply pw_below_drewN | apply below_drew1 | refine below_set ?_ GE247.out) | exact HB.out)⟩⟩
     ·
      rw [if_neg c62] at H
      have c62b0 : (t272 == 0) = false := beq_eq_false_iff_ne.mpr c62
      have c62b1 : (t272 != 0) = true := bne_iff_ne.mpr c62
      (first | rw [c62b0] | (simp only [i64_w, i32_w]; rw [c62b0]) | skip)
      have H' := Aside0.mk H
      clear H
      go_wp2_with (first | ((with_reducible refine gate_callee (f := 26) rfl ?_); refine goesL_ (some 95) rfl rfl Try.func26 (by kernel_rfl) rfl #[.int .i64 t271] rfl (by (try simp only [List.map_toArray, List.map_cons, List.map_nil]); first | done | rfl | (simp only [List.length_drop, List.length_take]; rfl)) ?_; (with_reducible refine (grafterlaw0_Num.calls t271 t272 _ A61.out).mono ?_); rintro e w' ⟨rfl, ⟨nd, rfl⟩⟩; refine ⟨_, rfl, ?_⟩))
      go_meet
      case rel => exact ⟨_, (true), (by first | rfl | (simp; done) | (simp [*]; done)), H', ⟨by have := HJ5.out; first | omega | exact Nat.le_refl _⟩, ⟨by (with_reducible repeat (first | apply Kd.R_alloc | apply Kd.R_drewN | apply Kd.R_drew)); exact Kd.R_mono HO_248000.out (fun _ hk => hk.1.1)⟩, ⟨by (with_reducible repeat (first | apply Kd.Q_alloc | apply Kd.Q_drewN | apply Kd.Q_drew)); exact Kd.Q_mono HO_248001.out (fun _ hk => hk.1.1)⟩, ⟨by (with_reducible repeat (first | refine blk_drewN ?_ _ | refine blk_drew ?_ | refine blk_alloc ?_ _)); exact BK247.out⟩, ⟨by repeat (first | (with_reducible first | exact HB.out | apply below_alloc | apply pw_below_drewN | apply below_drew1 | refine below_set ?_ GE247.out) | exact HB.out)⟩⟩
    case rest =>
     clear HC52
     try clear c1
     try clear q1
     try clear c2
     try clear p2
     try clear q2
     try clear hx2
     try clear qi2
     try clear hf2
     try clear c3
     try clear c4
     try clear c6
     try clear p6
     try clear c12
     try clear c12b0
     try clear c12b1
     try clear c14
     try clear c14b0
     try clear c14b1
     try clear c15
     try clear c15b0
     try clear c15b1
     try clear c17
     try clear q17
     try clear c18
     try clear c18b0
     try clear c18b1
     try clear c19
     try clear c19b0
     try clear c19b1
     try clear p20
     try clear q20
     try clear hx20
     try clear qi20
     try clear hf20
     try clear c24
     try clear c24b0
     try clear c24b1
     try clear c25
     try clear c25b0
     try clear c25b1
     try clear c26
     try clear p26
     try clear q26
     try clear hx26
     try clear qi26
     try clear hf26
     try clear c30
     try clear c30b0
     try clear c30b1
     try clear c32
     try clear c32b0
     try clear c32b1
     try clear c34
     try clear c34b0
     try clear c34b1
     try clear c36
     try clear c36b0
     try clear c36b1
     try clear c39
     try clear c39b0
     try clear c39b1
     try clear c40
     try clear c40b0
     try clear c40b1
     try clear c47
     try clear c48
     try clear c62
     try clear c62b0
     try clear c62b1
     try clear hcz13_0
     try clear hcz13_1
     try clear hcz13_2
     try clear hcz13_3
     try clear hcz13_4
     try clear hcz16_0
     try clear hcz16_1
     try clear hcz16_2
     try clear hcz16_3
     try clear hcz16_4
     try clear hcz21_0
     try clear hcz21_1
     try clear hcz21_2
     try clear hcz21_3
     try clear hcz21_4
     try clear hcz27_0
     try clear hcz27_1
     try clear hcz27_2
     try clear hcz27_3
     try clear hcz27_4
     try clear hcz31_0
     try clear hcz31_1
     try clear hcz31_2
     try clear hcz31_3
     try clear hcz31_4
     try clear hcz33_0
     try clear hcz33_1
     try clear hcz33_2
     try clear hcz33_3
     try clear hcz33_4
     try clear hcz35_0
     try clear hcz35_1
     try clear hcz35_2
     try clear hcz35_3
     try clear hcz35_4
     try clear hcz37_0
     try clear hcz37_1
     try clear hcz37_2
     try clear hcz37_3
     try clear hcz37_4
     try clear hcz44_0
     try clear hcz44_1
     try clear hcz44_2
     try clear hcz44_3
     try clear hcz44_4
     try clear hcz48_0
     try clear hcz48_1
     try clear hcz48_2
     try clear hcz48_3
     try clear hcz48_4
     try clear hcz53_0
     try clear hcz53_1
     try clear hcz53_2
     try clear hcz53_3
     try clear hcz53_4
     try clear hfz13_0
     try clear hfz13_1
     try clear hfz13_2
     try clear hfz13_3
     try clear hfz13_4
     try clear hfz16_0
     try clear hfz16_1
     try clear hfz16_2
     try clear hfz16_3
     try clear hfz16_4
     try clear hfz21_0
     try clear hfz21_1
     try clear hfz21_2
     try clear hfz21_3
     try clear hfz21_4
     try clear hfz27_0
     try clear hfz27_1
     try clear hfz27_2
     try clear hfz27_3
     try clear hfz27_4
     try clear hfz31_0
     try clear hfz31_1
     try clear hfz31_2
     try clear hfz31_3
     try clear hfz31_4
     try clear hfz33_0
     try clear hfz33_1
     try clear hfz33_2
     try clear hfz33_3
     try clear hfz33_4
     try clear hfz35_0
     try clear hfz35_1
     try clear hfz35_2
     try clear hfz35_3
     try clear hfz35_4
     try clear hfz37_0
     try clear hfz37_1
     try clear hfz37_2
     try clear hfz37_3
     try clear hfz37_4
     try clear hfz44_0
     try clear hfz44_1
     try clear hfz44_2
     try clear hfz44_3
     try clear hfz44_4
     try clear hfz48_0
     try clear hfz48_1
     try clear hfz48_2
     try clear hfz48_3
     try clear hfz48_4
     try clear hfz53_0
     try clear hfz53_1
     try clear hfz53_2
     try clear hfz53_3
     try clear hfz53_4
     try clear hx20_0
     try clear hx26_0
     try clear p2
     try clear p20
     try clear p26
     try clear p6
     try clear q1
     try clear q17
     try clear q2
     try clear q20
     try clear q26
     obtain ⟨kq, x101_51, rfl, HA, HJ51, HO_248000, HO_248001, BK247, HB⟩ := hcut
     cases kq with
     | zero => exact absurd HA.out (by simp [grafterlaw14_CheckForms.j1])
     | succ kj51 =>
      have H := HA.out
      clear HA
      simp only [grafterlaw14_CheckForms.j1] at H
      by_cases c63 : x101_51 = true
      ·
       subst c63
       have H1 : (some false) = some r := by rw [if_pos rfl] at H; exact H
       clear H
       have H := H1
       clear H1
       exact absurd ((Option.some.inj H).trans HRT.out) Bool.false_ne_true
      ·
       replace c63 := Bool.eq_false_iff.mpr c63
       subst c63
       rw [if_neg (show ¬ (false = true) by decide)] at H
       obtain ⟨ji64, hji64⟩ : ∃ j_ : Int, (wrap64 (Int.tmod (IntKind.u64.wrap (a1)) 26)) = j_ := ⟨_, rfl⟩
       replace H : (if 0 ≤ (ji64) then (if (ji64) ≤ (t270.size : Int) then ((check_Get.f kj51 (t270.extract 0 ((ji64) : Int).toNat)).bind fun bt273 => (if t270.size + 1 ≤ 9223372036854775807 then ((check_Get.f kj51 (t270 ++ (⟨#[120]⟩ : ByteArray))).bind fun bt284 => (if 1 ≤ (t270.size : Int) then (if 1 + (t270.extract 1 t270.size).size ≤ 9223372036854775807 then ((check_Get.f kj51 ((⟨#[3]⟩ : ByteArray) ++ (t270.extract 1 t270.size))).bind fun bt295 => (if 0 ≤ 25 then (if 25 ≤ (t270.size : Int) then (if (t270.extract 0 25).size + 1 ≤ 9223372036854775807 then ((check_Get.f kj51 ((t270.extract 0 25) ++ (⟨#[33]⟩ : ByteArray))).bind fun bt306 => (if 0 ≤ 4 then (if 4 ≤ (t270.size : Int) then (if (t270.extract 0 4).size + 1 ≤ 9223372036854775807 then (if 5 ≤ (t270.size : Int) then (if ((t270.extract 0 4) ++ (⟨#[127]⟩ : ByteArray)).size + (t270.extract 5 t270.size).size ≤ 9223372036854775807 then ((check_Get.f kj51 (((t270.extract 0 4) ++ (⟨#[127]⟩ : ByteArray)) ++ (t270.extract 5 t270.size))).bind fun bt317 => (if t259.toList = ([] : List UInt8) then ((check_May.f kj51 x248000_5 x248001_5 x248002_5 x248003_5 x248004_5).bind fun t328 => (if t328 = true then (some false) else ((grafterlaw0_Num.f t260).bind fun t329 => (if t329 = 1400 then ((grafterlaw0_Num.f bt273.2.2.2.2.2).bind fun t330 => (if t330 = 1400 then ((grafterlaw0_Num.f bt284.2.2.2.2.2).bind fun t331 => (if t331 = 1400 then ((grafterlaw0_Num.f bt295.2.2.2.2.2).bind fun t332 => (if t332 = 1400 then ((grafterlaw0_Num.f bt306.2.2.2.2.2).bind fun t333 => (if t333 = 1400 then ((grafterlaw0_Num.f bt317.2.2.2.2.2).bind fun t334 => (some (t334 == 1400))) else (some false))) else (some false))) else (some false))) else (some false))) else (some false))))) else (some false))) else (none)) else (none)) else (none)) else (none)) else (none))) else (none)) else (none)) else (none))) else (none)) else (none))) else (none))) else (none)) else (none)) = some r := by first | (rw [hji64] at H; exact H) | (simp only [hji64] at H ⊢; exact H)
       have hji64w : (IntKind.i64.wrap (Int.tmod (IntKind.u64.wrap (a1)) 26)) = ji64 := (i64_w _).trans hji64
       by_cases c65 : 0 ≤ (ji64)
       ·
        rw [if_pos c65] at H
        have c65b0 := eq_true c65
        have c65b1 : decide (0 ≤ (ji64)) = true := decide_eq_true c65
        clear c65
        by_cases c66 : (ji64) ≤ (t270.size : Int)
        ·
         rw [if_pos c66] at H
         have c66b0 := eq_true c66
         have c66b1 : decide ((ji64) ≤ (t270.size : Int)) = true := decide_eq_true c66
         clear c66
         replace H := Option.bind_eq_some_iff.mp H
         obtain ⟨⟨t273, t276, t279, t280, t281, t282⟩, A670, H⟩ := H
         (try dsimp only at H)
         have A67 := Aside0.mk A670
         clear A670
         by_cases c68 : t270.size + 1 ≤ 9223372036854775807
         ·
          rw [if_pos c68] at H
          have c68b0 := eq_true c68
          have c68b1 : decide (t270.size + 1 ≤ 9223372036854775807) = true := decide_eq_true c68
          try have c68b2 : (9223372036854775807 < t270.size + 1) = False := eq_false (Nat.not_lt.2 c68)
          try simp only [ByteArray.size_append] at c68b2
          replace H := Option.bind_eq_some_iff.mp H
          obtain ⟨⟨t284, t287, t290, t291, t292, t293⟩, A690, H⟩ := H
          (try dsimp only at H)
          have A69 := Aside0.mk A690
          clear A690
          by_cases c70 : 1 ≤ (t270.size : Int)
          ·
           rw [if_pos c70] at H
           have c70b0 := eq_true c70
           have c70b1 : decide (1 ≤ (t270.size : Int)) = true := decide_eq_true c70
           clear c70
           by_cases c71 : 1 + (t270.extract 1 t270.size).size ≤ 9223372036854775807
           ·
            rw [if_pos c71] at H
            have c71b0 := eq_true c71
            have c71b1 : decide (1 + (t270.extract 1 t270.size).size ≤ 9223372036854775807) = true := decide_eq_true c71
            try have c71b2 : (9223372036854775807 < 1 + (t270.extract 1 t270.size).size) = False := eq_false (Nat.not_lt.2 c71)
            try simp only [ByteArray.size_append] at c71b2
            try have c71b3 : (9223372036854775807 < 1 + (t270.size - 1)) = False := by (have h_ := c71b2; rw [ByteArray.size_extract, Nat.min_self] at h_; exact h_)
            replace H := Option.bind_eq_some_iff.mp H
            obtain ⟨⟨t295, t298, t301, t302, t303, t304⟩, A720, H⟩ := H
            (try dsimp only at H)
            have A72 := Aside0.mk A720
            clear A720
            by_cases c73 : 0 ≤ 25
            ·
             rw [if_pos c73] at H
             have c73b0 := eq_true c73
             have c73b1 : decide (0 ≤ 25) = true := decide_eq_true c73
             clear c73
             by_cases c74 : 25 ≤ (t270.size : Int)
             ·
              rw [if_pos c74] at H
              have c74b0 := eq_true c74
              have c74b1 : decide (25 ≤ (t270.size : Int)) = true := decide_eq_true c74
              clear c74
              by_cases c75 : (t270.extract 0 25).size + 1 ≤ 9223372036854775807
              ·
               rw [if_pos c75] at H
               have c75b0 := eq_true c75
               have c75b1 : decide ((t270.extract 0 25).size + 1 ≤ 9223372036854775807) = true := decide_eq_true c75
               try have c75b2 : (9223372036854775807 < (t270.extract 0 25).size + 1) = False := eq_false (Nat.not_lt.2 c75)
               try simp only [ByteArray.size_append] at c75b2
               replace H := Option.bind_eq_some_iff.mp H
               obtain ⟨⟨t306, t309, t312, t313, t314, t315⟩, A760, H⟩ := H
               (try dsimp only at H)
               have A76 := Aside0.mk A760
               clear A760
               by_cases c77 : 0 ≤ 4
               ·
                rw [if_pos c77] at H
                have c77b0 := eq_true c77
                have c77b1 : decide (0 ≤ 4) = true := decide_eq_true c77
                clear c77
                by_cases c78 : 4 ≤ (t270.size : Int)
                ·
                 rw [if_pos c78] at H
                 have c78b0 := eq_true c78
                 have c78b1 : decide (4 ≤ (t270.size : Int)) = true := decide_eq_true c78
                 clear c78
                 by_cases c79 : (t270.extract 0 4).size + 1 ≤ 9223372036854775807
                 ·
                  rw [if_pos c79] at H
                  have c79b0 := eq_true c79
                  have c79b1 : decide ((t270.extract 0 4).size + 1 ≤ 9223372036854775807) = true := decide_eq_true c79
                  try have c79b2 : (9223372036854775807 < (t270.extract 0 4).size + 1) = False := eq_false (Nat.not_lt.2 c79)
                  try simp only [ByteArray.size_append] at c79b2
                  by_cases c80 : 5 ≤ (t270.size : Int)
                  ·
                   rw [if_pos c80] at H
                   have c80b0 := eq_true c80
                   have c80b1 : decide (5 ≤ (t270.size : Int)) = true := decide_eq_true c80
                   clear c80
                   by_cases c81 : ((t270.extract 0 4) ++ (⟨#[127]⟩ : ByteArray)).size + (t270.extract 5 t270.size).size ≤ 9223372036854775807
                   ·
                    rw [if_pos c81] at H
                    have c81b0 := eq_true c81
                    have c81b1 : decide (((t270.extract 0 4) ++ (⟨#[127]⟩ : ByteArray)).size + (t270.extract 5 t270.size).size ≤ 9223372036854775807) = true := decide_eq_true c81
                    have hm79_ := hm79_lem t270.size
                    have hm81_ := hm81_lem t270.size c68
                    try have c81b2 : (9223372036854775807 < ((t270.extract 0 4) ++ (⟨#[127]⟩ : ByteArray)).size + (t270.extract 5 t270.size).size) = False := eq_false (Nat.not_lt.2 c81)
                    try simp only [ByteArray.size_append] at c81b2
                    try have c81b3 : (9223372036854775807 < ((t270.extract 0 4) ++ (⟨#[127]⟩ : ByteArray)).size + (t270.size - 5)) = False := by (have h_ := c81b2; rw [ByteArray.size_extract, Nat.min_self] at h_; exact h_)
                    replace H := Option.bind_eq_some_iff.mp H
                    obtain ⟨⟨t317, t320, t323, t324, t325, t326⟩, A820, H⟩ := H
                    (try dsimp only at H)
                    have A82 := Aside0.mk A820
                    clear A820
                    by_cases c83 : t259.toList = ([] : List UInt8)
                    ·
                     rw [if_pos c83] at H
                     have c83b0 : (t259.toList == ([] : List UInt8)) = true := beq_iff_eq.mpr c83
                     have c83b1 : (t259.toList != ([] : List UInt8)) = false := bne_eq_false_iff_eq.mpr c83
                     clear c83
                     replace H := Option.bind_eq_some_iff.mp H
                     obtain ⟨t328, A840, H⟩ := H
                     (try dsimp only at H)
                     have A84 := Aside0.mk A840
                     clear A840
                     by_cases c85 : t328 = true
                     ·
                      subst c85
                      have H1 : (some false) = some r := by rw [if_pos rfl] at H; exact H
                      clear H
                      have H := H1
                      clear H1
                      exact absurd ((Option.some.inj H).trans HRT.out) Bool.false_ne_true
                     ·
                      replace c85 := Bool.eq_false_iff.mpr c85
                      subst c85
                      rw [if_neg (show ¬ (false = true) by decide)] at H
                      replace H := Option.bind_eq_some_iff.mp H
                      obtain ⟨t329, A1320, H⟩ := H
                      (try dsimp only at H)
                      have A132 := Aside0.mk A1320
                      clear A1320
                      by_cases c133 : t329 = 1400
                      ·
                       rw [if_pos c133] at H
                       have c133b0 : (t329 == 1400) = true := beq_iff_eq.mpr c133
                       have c133b1 : (t329 != 1400) = false := bne_eq_false_iff_eq.mpr c133
                       clear c133
                       replace H := Option.bind_eq_some_iff.mp H
                       obtain ⟨t330, A1340, H⟩ := H
                       (try dsimp only at H)
                       have A134 := Aside0.mk A1340
                       clear A1340
                       by_cases c135 : t330 = 1400
                       ·
                        rw [if_pos c135] at H
                        have c135b0 : (t330 == 1400) = true := beq_iff_eq.mpr c135
                        have c135b1 : (t330 != 1400) = false := bne_eq_false_iff_eq.mpr c135
                        clear c135
                        replace H := Option.bind_eq_some_iff.mp H
                        obtain ⟨t331, A1360, H⟩ := H
                        (try dsimp only at H)
                        have A136 := Aside0.mk A1360
                        clear A1360
                        by_cases c137 : t331 = 1400
                        ·
                         rw [if_pos c137] at H
                         have c137b0 : (t331 == 1400) = true := beq_iff_eq.mpr c137
                         have c137b1 : (t331 != 1400) = false := bne_eq_false_iff_eq.mpr c137
                         clear c137
                         replace H := Option.bind_eq_some_iff.mp H
                         obtain ⟨t332, A1380, H⟩ := H
                         (try dsimp only at H)
                         have A138 := Aside0.mk A1380
                         clear A1380
                         by_cases c139 : t332 = 1400
                         ·
                          rw [if_pos c139] at H
                          have c139b0 : (t332 == 1400) = true := beq_iff_eq.mpr c139
                          have c139b1 : (t332 != 1400) = false := bne_eq_false_iff_eq.mpr c139
                          clear c139
                          replace H := Option.bind_eq_some_iff.mp H
                          obtain ⟨t333, A1400, H⟩ := H
                          replace H : (if t333 = 1400 then ((grafterlaw0_Num.f t326).bind fun t334 => (some (t334 == 1400))) else (some false)) = some r := H
                          have A140 := Aside0.mk A1400
                          clear A1400
                          by_cases c141 : t333 = 1400
                          ·
                           rw [if_pos c141] at H
                           have c141b0 : (t333 == 1400) = true := beq_iff_eq.mpr c141
                           have c141b1 : (t333 != 1400) = false := bne_eq_false_iff_eq.mpr c141
                           clear c141
                           replace H := Option.bind_eq_some_iff.mp H
                           obtain ⟨t334, A1420, H⟩ := H
                           replace H : (some (t334 == 1400)) = some r := H
                           have A142 := Aside0.mk A1420
                           clear A1420
                           obtain rfl := Option.some.inj H
                           try go_wp2_with (first | ((with_reducible refine gate_callee (f := 41) rfl ?_); refine goesL_ (some 109) rfl rfl Try.func41 (by kernel_rfl) rfl #[.string (t270.extract 0 ((ji64) : Int).toNat)] rfl (by (try simp only [List.map_toArray, List.map_cons, List.map_nil]); first | done | (simp only [hji64]; rfl) | rfl | (simp only [List.length_drop, List.length_take]; rfl)) ?_; (with_reducible refine (check_Get.calls kj51 (t270.extract 0 ((ji64) : Int).toNat) t273 t276 t279 t280 t281 t282 _ A67.out).mono ?_); rintro e w143 ⟨v274, v277, rfl, ho0, ho1, hb⟩; refine ⟨_, rfl, ?_⟩; have n0_ := Aside0.mk (Kd.R_elder' (by (with_reducible repeat (first | apply Kd.R_alloc | apply Kd.R_drewN | apply Kd.R_drew)); exact HO_248000.out) (Kd.R_base ho1) hb); have n1_ := Aside0.mk (Kd.Q_elder' (by (with_reducible repeat (first | apply Kd.Q_alloc | apply Kd.Q_drewN | apply Kd.Q_drew)); exact HO_248001.out) (Kd.R_base ho1) hb); have n2_ := Aside0.mk (Kd.V_lower (Kd.V_mono (ok' := fun k_ => some k_ ≠ (v277 : Value).ownBlock ∧ some k_ ≠ (.slice Ao54 x248000_5.length co54 : Value).ownBlock ∧ some k_ ≠ (.slice Ao55 x248001_5.length co55 : Value).ownBlock ∧ k_ ≠ gb247) ho0 (fun k_ hk_ => ⟨hk_.2, (Kd.fresh' (Kd.R_lt (by (with_reducible repeat (first | apply Kd.R_alloc | apply Kd.R_drewN | apply Kd.R_drew)); exact HO_248000.out)) k_ hk_.1), (Kd.fresh' (Kd.Q_lt (by (with_reducible repeat (first | apply Kd.Q_alloc | apply Kd.Q_drewN | apply Kd.Q_drew)); exact HO_248001.out)) k_ hk_.1), (Kd.freshB (g := gb247) (o := .cells #[.slice Ao54 x248000_5.length co54, .slice Ao55 x248001_5.length co55, .int .i64 x248002_5, .int .i64 x248003_5, .int .i64 x248004_5] 56 (0, 0)) (by (with_reducible repeat (first | refine blk_drewN ?_ _ | refine blk_drew ?_ | refine blk_alloc ?_ _)); exact BK247.out) k_ hk_.1)⟩)) (below_size (by repeat (first | (with_reducible first | exact HB.out | apply below_alloc | apply pw_below_drewN | apply below_drew1 | refine below_set ?_ GE247.out) | exact HB.out)))); have n3_ := Aside0.mk (Kd.R_lower (Kd.R_new' (Kd.R_new' (Kd.R_mono (ok' := fun k_ => True) ho1 (fun _ hk_ => trivial)) (Kd.R_lt (by (with_reducible repeat (first | apply Kd.R_alloc | apply Kd.R_drewN | apply Kd.R_drew)); exact HO_248000.out))) (Kd.Q_lt (by (with_reducible repeat (first | apply Kd.Q_alloc | apply Kd.Q_drewN | apply Kd.Q_drew)); exact HO_248001.out))) (below_size (by repeat (first | (with_reducible first | exact HB.out | apply below_alloc | apply pw_below_drewN | apply below_drew1 | refine below_set ?_ GE247.out) | exact HB.out)))); have n4_ := Aside0.mk (blk_below (g := gb247) (o := .cells #[.slice Ao54 x248000_5.length co54, .slice Ao55 x248001_5.length co55, .int .i64 x248002_5, .int .i64 x248003_5, .int .i64 x248004_5] 56 (0, 0)) (by (with_reducible repeat (first | refine blk_drewN ?_ _ | refine blk_drew ?_ | refine blk_alloc ?_ _)); exact BK247.out) hb); have n5_ := Aside0.mk (below_step (by repeat (first | (with_reducible first | exact HB.out | apply below_alloc | apply pw_below_drewN | apply below_drew1 | refine below_set ?_ GE247.out) | exact HB.out)) hb); clear HO_248000; clear HO_248001; clear BK247; clear HB; have HO_248000 := n0_; have HO_248001 := n1_; have HO275 := n2_; have HO278 := n3_; have BK247 := n4_; have HB := n5_; clear n0_ n1_ n2_ n3_ n4_ n5_; (try clear hb); (try clear hb2); (try clear hk); (try clear hi); (try clear ho0); (try clear ho1); (try clear A67)) | ((with_reducible refine gate_dst (N := 11) rfl ?_); (try (refine gate_guard (by rfl) ?_; dsimp only)); refine box_event ?hg (N := 11) ?hd (cs := #[.slice none 0 0, .slice none 0 0, .int .i64 0, .int .i64 0, .int .i64 0]) (t := 56) ?hr ?_; (case hd => rfl); (case hg => rfl); (case hr => first | (go_simp; done) | (go_simp; rfl)); intro gb283 hg w144 hbox hb; have n0_ := Aside0.mk (Kd.R_below (by (with_reducible repeat (first | apply Kd.R_alloc | apply Kd.R_drewN | apply Kd.R_drew)); exact HO_248000.out) hb); have n1_ := Aside0.mk (Kd.Q_below (by (with_reducible repeat (first | apply Kd.Q_alloc | apply Kd.Q_drewN | apply Kd.Q_drew)); exact HO_248001.out) hb); have n2_ := Aside0.mk (Kd.V_below (Kd.V_elderB (by (with_reducible repeat (first | apply Kd.V_alloc | apply Kd.V_drewN | apply Kd.V_drew)); exact HO275.out) gb283 (Nat.le_of_eq hg.symm)) hb); have n3_ := Aside0.mk (Kd.R_below (by (with_reducible repeat (first | apply Kd.R_alloc | apply Kd.R_drewN | apply Kd.R_drew)); exact HO278.out) hb); have n4_ := Aside0.mk (blk_below (g := gb247) (o := .cells #[.slice Ao54 x248000_5.length co54, .slice Ao55 x248001_5.length co55, .int .i64 x248002_5, .int .i64 x248003_5, .int .i64 x248004_5] 56 (0, 0)) (by (with_reducible repeat (first | refine blk_drewN ?_ _ | refine blk_drew ?_ | refine blk_alloc ?_ _)); exact BK247.out) hb); have n5_ := Aside0.mk (below_step (by repeat (first | (with_reducible first | exact HB.out | apply below_alloc | apply pw_below_drewN | apply below_drew1 | refine below_set ?_ GE247.out) | exact HB.out)) hb); have n6_ := Aside0.mk (hbox); have n7_ := Aside0.mk ((by rw [hg]; exact (below_size (by repeat (first | (with_reducible first | exact HB.out | apply below_alloc | apply pw_below_drewN | apply below_drew1 | refine below_set ?_ GE247.out) | exact HB.out))) : w.heap.size ≤ gb283)); have n8_ := Aside0.mk ((by rw [hg]; exact (below_size (by repeat (first | (with_reducible first | exact HB.out | apply below_alloc | apply pw_below_drewN | apply below_drew1 | refine below_set ?_ GE247.out) | exact HB.out))) : w.heap.size ≤ gb283)); have n9_ := Aside0.mk ((by rw [hg]; exact Nat.ne_of_lt (blk_lt (g := gb247) (o := .cells #[.slice Ao54 x248000_5.length co54, .slice Ao55 x248001_5.length co55, .int .i64 x248002_5, .int .i64 x248003_5, .int .i64 x248004_5] 56 (0, 0)) (by (with_reducible repeat (first | refine blk_drewN ?_ _ | refine blk_drew ?_ | refine blk_alloc ?_ _)); exact BK247.out)) : gb247 ≠ gb283)); have n10_ := Aside0.mk ((by rw [hg]; exact Nat.ne_of_gt (blk_lt (g := gb247) (o := .cells #[.slice Ao54 x248000_5.length co54, .slice Ao55 x248001_5.length co55, .int .i64 x248002_5, .int .i64 x248003_5, .int .i64 x248004_5] 56 (0, 0)) (by (with_reducible repeat (first | refine blk_drewN ?_ _ | refine blk_drew ?_ | refine blk_alloc ?_ _)); exact BK247.out)) : gb283 ≠ gb247)); clear HO_248000; clear HO_248001; clear HO275; clear HO278; clear BK247; clear HB; have HO_248000 := n0_; have HO_248001 := n1_; have HO275 := n2_; have HO278 := n3_; have BK247 := n4_; have HB := n5_; have BK283 := n6_; have GW283 := n7_; have GE283 := n8_; have NB247_283 := n9_; have NB283_247 := n10_; clear n0_ n1_ n2_ n3_ n4_ n5_ n6_ n7_ n8_ n9_ n10_; clear hb hbox hg; obtain ⟨Ao145, co145, eo145⟩ := Kd.V_slice HO275.out; subst eo145; have hnb146 := NB283_247.out; have hnc146 := NB247_283.out; have hcz147_0 : w144.cell? ⟨gb283, 0, none⟩ = some (.slice none 0 0) := (blk_cell BK283.out 0).trans rfl; have hcz147_1 : w144.cell? ⟨gb283, 1, none⟩ = some (.slice none 0 0) := (blk_cell BK283.out 1).trans rfl; have hcz147_2 : w144.cell? ⟨gb283, 2, none⟩ = some (.int .i64 0) := (blk_cell BK283.out 2).trans rfl; have hcz147_3 : w144.cell? ⟨gb283, 3, none⟩ = some (.int .i64 0) := (blk_cell BK283.out 3).trans rfl; have hcz147_4 : w144.cell? ⟨gb283, 4, none⟩ = some (.int .i64 0) := (blk_cell BK283.out 4).trans rfl; have hfz147_0 := blk_frozen BK283.out 0; have hfz147_1 := blk_frozen BK283.out 1; have hfz147_2 := blk_frozen BK283.out 2; have hfz147_3 := blk_frozen BK283.out 3; have hfz147_4 := blk_frozen BK283.out 4; obtain ⟨Ao148, co148, eo148⟩ := Kd.R_slice HO278.out; subst eo148) | ((with_reducible refine gate_callee (f := 41) rfl ?_); refine goesL_ (some 115) rfl rfl Try.func41 (by kernel_rfl) rfl #[.string (t270 ++ (⟨#[120]⟩ : ByteArray))] rfl (by (try simp only [List.map_toArray, List.map_cons, List.map_nil]); first | done | rfl | (simp only [List.length_drop, List.length_take]; rfl)) ?_; (with_reducible refine (check_Get.calls kj51 (t270 ++ (⟨#[120]⟩ : ByteArray)) t284 t287 t290 t291 t292 t293 _ A69.out).mono ?_); rintro e w149 ⟨v285, v288, rfl, ho0, ho1, hb⟩; refine ⟨_, rfl, ?_⟩; have n0_ := Aside0.mk (Kd.R_elder' (by (with_reducible repeat (first | apply Kd.R_alloc | apply Kd.R_drewN | apply Kd.R_drew)); exact (Kd.R_mono (R_far5 (g := gb283) (Kd.R_types HO_248000.out BK283.out (by decide)) (fun _ hk => hk.2) _ _ _ _ _) (fun _ h_ => h_.1))) (Kd.R_base ho1) hb); have n1_ := Aside0.mk (Kd.Q_elder' (by (with_reducible repeat (first | apply Kd.Q_alloc | apply Kd.Q_drewN | apply Kd.Q_drew)); exact (Kd.Q_mono (Q_far5 (g := gb283) (Kd.Q_types HO_248001.out BK283.out (by decide)) (fun _ hk => hk.2) _ _ _ _ _) (fun _ h_ => h_.1))) (Kd.R_base ho1) hb); have n2_ := Aside0.mk (Kd.V_elder' (by (with_reducible repeat (first | apply Kd.V_alloc | apply Kd.V_drewN | apply Kd.V_drew)); exact (Kd.V_mono (V_far5 (g := gb283) (Kd.V_mono HO275.out (fun k_ hk => (⟨hk, hk.2⟩ : _ ∧ k_ ≠ gb283))) (fun _ hk => hk.2) _ _ _ _ _) (fun _ h_ => h_.1))) (Kd.R_base ho1) hb); have n3_ := Aside0.mk (Kd.R_elder' (by (with_reducible repeat (first | apply Kd.R_alloc | apply Kd.R_drewN | apply Kd.R_drew)); exact (Kd.R_mono (R_far5 (g := gb283) (Kd.R_types HO278.out BK283.out (by decide)) (fun _ hk => hk.2) _ _ _ _ _) (fun _ h_ => h_.1))) (Kd.R_base ho1) hb); have n4_ := Aside0.mk (Kd.V_lower (Kd.V_mono (ok' := fun k_ => some k_ ≠ (v288 : Value).ownBlock ∧ some k_ ≠ (.slice Ao54 x248000_5.length co54 : Value).ownBlock ∧ some k_ ≠ (.slice Ao55 x248001_5.length co55 : Value).ownBlock ∧ some k_ ≠ (.slice Ao148 t276.length co148 : Value).ownBlock ∧ k_ ≠ gb247 ∧ k_ ≠ gb283) ho0 (fun k_ hk_ => ⟨hk_.2, (Kd.fresh' (Kd.R_lt (by (with_reducible repeat (first | apply Kd.R_alloc | apply Kd.R_drewN | apply Kd.R_drew)); exact (Kd.R_mono (R_far5 (g := gb283) (Kd.R_types HO_248000.out BK283.out (by decide)) (fun _ hk => hk.2) _ _ _ _ _) (fun _ h_ => h_.1)))) k_ hk_.1), (Kd.fresh' (Kd.Q_lt (by (with_reducible repeat (first | apply Kd.Q_alloc | apply Kd.Q_drewN | apply Kd.Q_drew)); exact (Kd.Q_mono (Q_far5 (g := gb283) (Kd.Q_types HO_248001.out BK283.out (by decide)) (fun _ hk => hk.2) _ _ _ _ _) (fun _ h_ => h_.1)))) k_ hk_.1), (Kd.fresh' (Kd.R_lt (by (with_reducible repeat (first | apply Kd.R_alloc | apply Kd.R_drewN | apply Kd.R_drew)); exact (Kd.R_mono (R_far5 (g := gb283) (Kd.R_types HO278.out BK283.out (by decide)) (fun _ hk => hk.2) _ _ _ _ _) (fun _ h_ => h_.1)))) k_ hk_.1), (Kd.freshB (g := gb247) (o := .cells #[.slice Ao54 x248000_5.length co54, .slice Ao55 x248001_5.length co55, .int .i64 x248002_5, .int .i64 x248003_5, .int .i64 x248004_5] 56 (0, 0)) (by (with_reducible repeat (first | refine blk_drewN ?_ _ | refine blk_drew ?_ | refine blk_alloc ?_ _)); refine blk_far5 ?_ NB247_283.out _ _ _ _ _; (with_reducible repeat (first | refine blk_drewN ?_ _ | refine blk_drew ?_ | refine blk_alloc ?_ _)); exact BK247.out) k_ hk_.1), (Kd.freshB (g := gb283) (o := .cells #[.slice Ao145 t273.length co145, .slice Ao148 t276.length co148, .int .i64 t279, .int .i64 t280, .int .i64 t281] 56 (0, 0)) (by (with_reducible repeat (first | refine blk_drewN ?_ _ | refine blk_drew ?_ | refine blk_alloc ?_ _)); refine blk_put5 (z0 := (.slice none 0 0)) (z1 := (.slice none 0 0)) (z2 := (.int .i64 0)) (z3 := (.int .i64 0)) (z4 := (.int .i64 0)) ?_ _ _ _ _ _; (with_reducible repeat (first | refine blk_drewN ?_ _ | refine blk_drew ?_ | refine blk_alloc ?_ _)); exact BK283.out) k_ hk_.1)⟩)) (below_size (by repeat (first | (with_reducible first | exact HB.out | apply below_alloc | apply pw_below_drewN | apply below_drew1 | refine below_set ?_ GE247.out | refine below_set ?_ GE283.out) | exact HB.out)))); have n5_ := Aside0.mk (Kd.R_lower (Kd.R_new' (Kd.R_new' (Kd.R_new' (Kd.R_mono (ok' := fun k_ => True) ho1 (fun _ hk_ => trivial)) (Kd.R_lt (by (with_reducible repeat (first | apply Kd.R_alloc | apply Kd.R_drewN | apply Kd.R_drew)); exact (Kd.R_mono (R_far5 (g := gb283) (Kd.R_types HO_248000.out BK283.out (by decide)) (fun _ hk => hk.2) _ _ _ _ _) (fun _ h_ => h_.1))))) (Kd.Q_lt (by (with_reducible repeat (first | apply Kd.Q_alloc | apply Kd.Q_drewN | apply Kd.Q_drew)); exact (Kd.Q_mono (Q_far5 (g := gb283) (Kd.Q_types HO_248001.out BK283.out (by decide)) (fun _ hk => hk.2) _ _ _ _ _) (fun _ h_ => h_.1))))) (Kd.R_lt (by (with_reducible repeat (first | apply Kd.R_alloc | apply Kd.R_drewN | apply Kd.R_drew)); exact (Kd.R_mono (R_far5 (g := gb283) (Kd.R_types HO278.out BK283.out (by decide)) (fun _ hk => hk.2) _ _ _ _ _) (fun _ h_ => h_.1))))) (below_size (by repeat (first | (with_reducible first | exact HB.out | apply below_alloc | apply pw_below_drewN | apply below_drew1 | refine below_set ?_ GE247.out | refine below_set ?_ GE283.out) | exact HB.out)))); have n6_ := Aside0.mk (blk_below (g := gb247) (o := .cells #[.slice Ao54 x248000_5.length co54, .slice Ao55 x248001_5.length co55, .int .i64 x248002_5, .int .i64 x248003_5, .int .i64 x248004_5] 56 (0, 0)) (by (with_reducible repeat (first | refine blk_drewN ?_ _ | refine blk_drew ?_ | refine blk_alloc ?_ _)); refine blk_far5 ?_ NB247_283.out _ _ _ _ _; (with_reducible repeat (first | refine blk_drewN ?_ _ | refine blk_drew ?_ | refine blk_alloc ?_ _)); exact BK247.out) hb); have n7_ := Aside0.mk (blk_below (g := gb283) (o := .cells #[.slice Ao145 t273.length co145, .slice Ao148 t276.length co148, .int .i64 t279, .int .i64 t280, .int .i64 t281] 56 (0, 0)) (by (with_reducible repeat (first | refine blk_drewN ?_ _ | refine blk_drew ?_ | refine blk_alloc ?_ _)); refine blk_put5 (z0 := (.slice none 0 0)) (z1 := (.slice none 0 0)) (z2 := (.int .i64 0)) (z3 := (.int .i64 0)) (z4 := (.int .i64 0)) ?_ _ _ _ _ _; (with_reducible repeat (first | refine blk_drewN ?_ _ | refine blk_drew ?_ | refine blk_alloc ?_ _)); exact BK283.out) hb); have n8_ := Aside0.mk (below_step (by repeat (first | (with_reducible first | exact HB.out | apply below_alloc | apply pw_below_drewN | apply below_drew1 | refine below_set ?_ GE247.out | refine below_set ?_ GE283.out) | exact HB.out)) hb); clear HO_248000; clear HO_248001; clear HO275; clear HO278; clear BK247; clear BK283; clear HB; have HO_248000 := n0_; have HO_248001 := n1_; have HO275 := n2_; have HO278 := n3_; have HO286 := n4_; have HO289 := n5_; have BK247 := n6_; have BK283 := n7_; have HB := n8_; clear n0_ n1_ n2_ n3_ n4_ n5_ n6_ n7_ n8_; (try clear hb); (try clear hb2); (try clear hk); (try clear hi); (try clear ho0); (try clear ho1); (try clear A69)) | ((with_reducible refine gate_dst (N := 13) rfl ?_); (try (refine gate_guard (by rfl) ?_; dsimp only)); refine box_event ?hg (N := 13) ?hd (cs := #[.slice none 0 0, .slice none 0 0, .int .i64 0, .int .i64 0, .int .i64 0]) (t := 56) ?hr ?_; (case hd => rfl); (case hg => rfl); (case hr => first | (go_simp; done) | (go_simp; rfl)); intro gb294 hg w150 hbox hb; have n0_ := Aside0.mk (Kd.R_below (by (with_reducible repeat (first | apply Kd.R_alloc | apply Kd.R_drewN | apply Kd.R_drew)); exact HO_248000.out) hb); have n1_ := Aside0.mk (Kd.Q_below (by (with_reducible repeat (first | apply Kd.Q_alloc | apply Kd.Q_drewN | apply Kd.Q_drew)); exact HO_248001.out) hb); have n2_ := Aside0.mk (Kd.V_below (Kd.V_elderB (by (with_reducible repeat (first | apply Kd.V_alloc | apply Kd.V_drewN | apply Kd.V_drew)); exact HO275.out) gb294 (Nat.le_of_eq hg.symm)) hb); have n3_ := Aside0.mk (Kd.R_below (by (with_reducible repeat (first | apply Kd.R_alloc | apply Kd.R_drewN | apply Kd.R_drew)); exact HO278.out) hb); have n4_ := Aside0.mk (Kd.V_below (Kd.V_elderB (by (with_reducible repeat (first | apply Kd.V_alloc | apply Kd.V_drewN | apply Kd.V_drew)); exact HO286.out) gb294 (Nat.le_of_eq hg.symm)) hb); have n5_ := Aside0.mk (Kd.R_below (by (with_reducible repeat (first | apply Kd.R_alloc | apply Kd.R_drewN | apply Kd.R_drew)); exact HO289.out) hb); have n6_ := Aside0.mk (blk_below (g := gb247) (o := .cells #[.slice Ao54 x248000_5.length co54, .slice Ao55 x248001_5.length co55, .int .i64 x248002_5, .int .i64 x248003_5, .int .i64 x248004_5] 56 (0, 0)) (by (with_reducible repeat (first | refine blk_drewN ?_ _ | refine blk_drew ?_ | refine blk_alloc ?_ _)); exact BK247.out) hb); have n7_ := Aside0.mk (blk_below (g := gb283) (o := .cells #[.slice Ao145 t273.length co145, .slice Ao148 t276.length co148, .int .i64 t279, .int .i64 t280, .int .i64 t281] 56 (0, 0)) (by (with_reducible repeat (first | refine blk_drewN ?_ _ | refine blk_drew ?_ | refine blk_alloc ?_ _)); exact BK283.out) hb); have n8_ := Aside0.mk (below_step (by repeat (first | (with_reducible first | exact HB.out | apply below_alloc | apply pw_below_drewN | apply below_drew1 | refine below_set ?_ GE247.out | refine below_set ?_ GE283.out) | exact HB.out)) hb); have n9_ := Aside0.mk (hbox); have n10_ := Aside0.mk ((by rw [hg]; exact (below_size (by repeat (first | (with_reducible first | exact HB.out | apply below_alloc | apply pw_below_drewN | apply below_drew1 | refine below_set ?_ GE247.out | refine below_set ?_ GE283.out) | exact HB.out))) : w.heap.size ≤ gb294)); have n11_ := Aside0.mk ((by rw [hg]; exact (below_size (by repeat (first | (with_reducible first | exact HB.out | apply below_alloc | apply pw_below_drewN | apply below_drew1 | refine below_set ?_ GE247.out | refine below_set ?_ GE283.out) | exact HB.out))) : w.heap.size ≤ gb294)); have n12_ := Aside0.mk ((by rw [hg]; exact Nat.ne_of_lt (blk_lt (g := gb247) (o := .cells #[.slice Ao54 x248000_5.length co54, .slice Ao55 x248001_5.length co55, .int .i64 x248002_5, .int .i64 x248003_5, .int .i64 x248004_5] 56 (0, 0)) (by (with_reducible repeat (first | refine blk_drewN ?_ _ | refine blk_drew ?_ | refine blk_alloc ?_ _)); exact BK247.out)) : gb247 ≠ gb294)); have n13_ := Aside0.mk ((by rw [hg]; exact Nat.ne_of_gt (blk_lt (g := gb247) (o := .cells #[.slice Ao54 x248000_5.length co54, .slice Ao55 x248001_5.length co55, .int .i64 x248002_5, .int .i64 x248003_5, .int .i64 x248004_5] 56 (0, 0)) (by (with_reducible repeat (first | refine blk_drewN ?_ _ | refine blk_drew ?_ | refine blk_alloc ?_ _)); exact BK247.out)) : gb294 ≠ gb247)); have n14_ := Aside0.mk ((by rw [hg]; exact Nat.ne_of_lt (blk_lt (g := gb283) (o := .cells #[.slice Ao145 t273.length co145, .slice Ao148 t276.length co148, .int .i64 t279, .int .i64 t280, .int .i64 t281] 56 (0, 0)) (by (with_reducible repeat (first | refine blk_drewN ?_ _ | refine blk_drew ?_ | refine blk_alloc ?_ _)); exact BK283.out)) : gb283 ≠ gb294)); have n15_ := Aside0.mk ((by rw [hg]; exact Nat.ne_of_gt (blk_lt (g := gb283) (o := .cells #[.slice Ao145 t273.length co145, .slice Ao148 t276.length co148, .int .i64 t279, .int .i64 t280, .int .i64 t281] 56 (0, 0)) (by (with_reducible repeat (first | refine blk_drewN ?_ _ | refine blk_drew ?_ | refine blk_alloc ?_ _)); exact BK283.out)) : gb294 ≠ gb283)); clear HO_248000; clear HO_248001; clear HO275; clear HO278; clear HO286; clear HO289; clear BK247; clear BK283; clear HB; have HO_248000 := n0_; have HO_248001 := n1_; have HO275 := n2_; have HO278 := n3_; have HO286 := n4_; have HO289 := n5_; have BK247 := n6_; have BK283 := n7_; have HB := n8_; have BK294 := n9_; have GW294 := n10_; have GE294 := n11_; have NB247_294 := n12_; have NB294_247 := n13_; have NB283_294 := n14_; have NB294_283 := n15_; clear n0_ n1_ n2_ n3_ n4_ n5_ n6_ n7_ n8_ n9_ n10_ n11_ n12_ n13_ n14_ n15_; clear hb hbox hg; obtain ⟨Ao151, co151, eo151⟩ := Kd.V_slice HO286.out; subst eo151; have hnb152 := NB294_247.out; have hnc152 := NB247_294.out; have hnb153 := NB294_283.out; have hnc153 := NB283_294.out; have hcz154_0 : w150.cell? ⟨gb294, 0, none⟩ = some (.slice none 0 0) := (blk_cell BK294.out 0).trans rfl; have hcz154_1 : w150.cell? ⟨gb294, 1, none⟩ = some (.slice none 0 0) := (blk_cell BK294.out 1).trans rfl; have hcz154_2 : w150.cell? ⟨gb294, 2, none⟩ = some (.int .i64 0) := (blk_cell BK294.out 2).trans rfl; have hcz154_3 : w150.cell? ⟨gb294, 3, none⟩ = some (.int .i64 0) := (blk_cell BK294.out 3).trans rfl; have hcz154_4 : w150.cell? ⟨gb294, 4, none⟩ = some (.int .i64 0) := (blk_cell BK294.out 4).trans rfl; have hfz154_0 := blk_frozen BK294.out 0; have hfz154_1 := blk_frozen BK294.out 1; have hfz154_2 := blk_frozen BK294.out 2; have hfz154_3 := blk_frozen BK294.out 3; have hfz154_4 := blk_frozen BK294.out 4; obtain ⟨Ao155, co155, eo155⟩ := Kd.R_slice HO289.out; subst eo155) | ((with_reducible refine gate_callee (f := 41) rfl ?_); refine goesL_ (some 122) rfl rfl Try.func41 (by kernel_rfl) rfl #[.string ((⟨#[3]⟩ : ByteArray) ++ (t270.extract 1 t270.size))] rfl (by (try simp only [List.map_toArray, List.map_cons, List.map_nil]); first | done | rfl | (simp only [List.length_drop, List.length_take]; rfl)) ?_; (with_reducible refine (check_Get.calls kj51 ((⟨#[3]⟩ : ByteArray) ++ (t270.extract 1 t270.size)) t295 t298 t301 t302 t303 t304 _ A72.out).mono ?_); rintro e w156 ⟨v296, v299, rfl, ho0, ho1, hb⟩; refine ⟨_, rfl, ?_⟩; have n0_ := Aside0.mk (Kd.R_elder' (by (with_reducible repeat (first | apply Kd.R_alloc | apply Kd.R_drewN | apply Kd.R_drew)); exact (Kd.R_mono (R_far5 (g := gb294) (Kd.R_types HO_248000.out BK294.out (by decide)) (fun _ hk => hk.2) _ _ _ _ _) (fun _ h_ => h_.1))) (Kd.R_base ho1) hb); have n1_ := Aside0.mk (Kd.Q_elder' (by (with_reducible repeat (first | apply Kd.Q_alloc | apply Kd.Q_drewN | apply Kd.Q_drew)); exact (Kd.Q_mono (Q_far5 (g := gb294) (Kd.Q_types HO_248001.out BK294.out (by decide)) (fun _ hk => hk.2) _ _ _ _ _) (fun _ h_ => h_.1))) (Kd.R_base ho1) hb); have n2_ := Aside0.mk (Kd.V_elder' (by (with_reducible repeat (first | apply Kd.V_alloc | apply Kd.V_drewN | apply Kd.V_drew)); exact (Kd.V_mono (V_far5 (g := gb294) (Kd.V_mono HO275.out (fun k_ hk => (⟨hk, hk.2⟩ : _ ∧ k_ ≠ gb294))) (fun _ hk => hk.2) _ _ _ _ _) (fun _ h_ => h_.1))) (Kd.R_base ho1) hb); have n3_ := Aside0.mk (Kd.R_elder' (by (with_reducible repeat (first | apply Kd.R_alloc | apply Kd.R_drewN | apply Kd.R_drew)); exact (Kd.R_mono (R_far5 (g := gb294) (Kd.R_types HO278.out BK294.out (by decide)) (fun _ hk => hk.2) _ _ _ _ _) (fun _ h_ => h_.1))) (Kd.R_base ho1) hb); have n4_ := Aside0.mk (Kd.V_elder' (by (with_reducible repeat (first | apply Kd.V_alloc | apply Kd.V_drewN | apply Kd.V_drew)); exact (Kd.V_mono (V_far5 (g := gb294) (Kd.V_mono HO286.out (fun k_ hk => (⟨hk, hk.2⟩ : _ ∧ k_ ≠ gb294))) (fun _ hk => hk.2) _ _ _ _ _) (fun _ h_ => h_.1))) (Kd.R_base ho1) hb); have n5_ := Aside0.mk (Kd.R_elder' (by (with_reducible repeat (first | apply Kd.R_alloc | apply Kd.R_drewN | apply Kd.R_drew)); exact (Kd.R_mono (R_far5 (g := gb294) (Kd.R_types HO289.out BK294.out (by decide)) (fun _ hk => hk.2) _ _ _ _ _) (fun _ h_ => h_.1))) (Kd.R_base ho1) hb); have n6_ := Aside0.mk (Kd.V_lower (Kd.V_mono (ok' := fun k_ => some k_ ≠ (v299 : Value).ownBlock ∧ some k_ ≠ (.slice Ao54 x248000_5.length co54 : Value).ownBlock ∧ some k_ ≠ (.slice Ao55 x248001_5.length co55 : Value).ownBlock ∧ some k_ ≠ (.slice Ao148 t276.length co148 : Value).ownBlock ∧ some k_ ≠ (.slice Ao155 t287.length co155 : Value).ownBlock ∧ k_ ≠ gb247 ∧ k_ ≠ gb283 ∧ k_ ≠ gb294) ho0 (fun k_ hk_ => ⟨hk_.2, (Kd.fresh' (Kd.R_lt (by (with_reducible repeat (first | apply Kd.R_alloc | apply Kd.R_drewN | apply Kd.R_drew)); exact (Kd.R_mono (R_far5 (g := gb294) (Kd.R_types HO_248000.out BK294.out (by decide)) (fun _ hk => hk.2) _ _ _ _ _) (fun _ h_ => h_.1)))) k_ hk_.1), (Kd.fresh' (Kd.Q_lt (by (with_reducible repeat (first | apply Kd.Q_alloc | apply Kd.Q_drewN | apply Kd.Q_drew)); exact (Kd.Q_mono (Q_far5 (g := gb294) (Kd.Q_types HO_248001.out BK294.out (by decide)) (fun _ hk => hk.2) _ _ _ _ _) (fun _ h_ => h_.1)))) k_ hk_.1), (Kd.fresh' (Kd.R_lt (by (with_reducible repeat (first | apply Kd.R_alloc | apply Kd.R_drewN | apply Kd.R_drew)); exact (Kd.R_mono (R_far5 (g := gb294) (Kd.R_types HO278.out BK294.out (by decide)) (fun _ hk => hk.2) _ _ _ _ _) (fun _ h_ => h_.1)))) k_ hk_.1), (Kd.fresh' (Kd.R_lt (by (with_reducible repeat (first | apply Kd.R_alloc | apply Kd.R_drewN | apply Kd.R_drew)); exact (Kd.R_mono (R_far5 (g := gb294) (Kd.R_types HO289.out BK294.out (by decide)) (fun _ hk => hk.2) _ _ _ _ _) (fun _ h_ => h_.1)))) k_ hk_.1), (Kd.freshB (g := gb247) (o := .cells #[.slice Ao54 x248000_5.length co54, .slice Ao55 x248001_5.length co55, .int .i64 x248002_5, .int .i64 x248003_5, .int .i64 x248004_5] 56 (0, 0)) (by (with_reducible repeat (first | refine blk_drewN ?_ _ | refine blk_drew ?_ | refine blk_alloc ?_ _)); refine blk_far5 ?_ NB247_294.out _ _ _ _ _; (with_reducible repeat (first | refine blk_drewN ?_ _ | refine blk_drew ?_ | refine blk_alloc ?_ _)); exact BK247.out) k_ hk_.1), (Kd.freshB (g := gb283) (o := .cells #[.slice Ao145 t273.length co145, .slice Ao148 t276.length co148, .int .i64 t279, .int .i64 t280, .int .i64 t281] 56 (0, 0)) (by (with_reducible repeat (first | refine blk_drewN ?_ _ | refine blk_drew ?_ | refine blk_alloc ?_ _)); refine blk_far5 ?_ NB283_294.out _ _ _ _ _; (with_reducible repeat (first | refine blk_drewN ?_ _ | refine blk_drew ?_ | refine blk_alloc ?_ _)); exact BK283.out) k_ hk_.1), (Kd.freshB (g := gb294) (o := .cells #[.slice Ao151 t284.length co151, .slice Ao155 t287.length co155, .int .i64 t290, .int .i64 t291, .int .i64 t292] 56 (0, 0)) (by (with_reducible repeat (first | refine blk_drewN ?_ _ | refine blk_drew ?_ | refine blk_alloc ?_ _)); refine blk_put5 (z0 := (.slice none 0 0)) (z1 := (.slice none 0 0)) (z2 := (.int .i64 0)) (z3 := (.int .i64 0)) (z4 := (.int .i64 0)) ?_ _ _ _ _ _; (with_reducible repeat (first | refine blk_drewN ?_ _ | refine blk_drew ?_ | refine blk_alloc ?_ _)); exact BK294.out) k_ hk_.1)⟩)) (below_size (by repeat (first | (with_reducible first | exact HB.out | apply below_alloc | apply pw_below_drewN | apply below_drew1 | refine below_set ?_ GE247.out | refine below_set ?_ GE283.out | refine below_set ?_ GE294.out) | exact HB.out)))); have n7_ := Aside0.mk (Kd.R_lower (Kd.R_new' (Kd.R_new' (Kd.R_new' (Kd.R_new' (Kd.R_mono (ok' := fun k_ => True) ho1 (fun _ hk_ => trivial)) (Kd.R_lt (by (with_reducible repeat (first | apply Kd.R_alloc | apply Kd.R_drewN | apply Kd.R_drew)); exact (Kd.R_mono (R_far5 (g := gb294) (Kd.R_types HO_248000.out BK294.out (by decide)) (fun _ hk => hk.2) _ _ _ _ _) (fun _ h_ => h_.1))))) (Kd.Q_lt (by (with_reducible repeat (first | apply Kd.Q_alloc | apply Kd.Q_drewN | apply Kd.Q_drew)); exact (Kd.Q_mono (Q_far5 (g := gb294) (Kd.Q_types HO_248001.out BK294.out (by decide)) (fun _ hk => hk.2) _ _ _ _ _) (fun _ h_ => h_.1))))) (Kd.R_lt (by (with_reducible repeat (first | apply Kd.R_alloc | apply Kd.R_drewN | apply Kd.R_drew)); exact (Kd.R_mono (R_far5 (g := gb294) (Kd.R_types HO278.out BK294.out (by decide)) (fun _ hk => hk.2) _ _ _ _ _) (fun _ h_ => h_.1))))) (Kd.R_lt (by (with_reducible repeat (first | apply Kd.R_alloc | apply Kd.R_drewN | apply Kd.R_drew)); exact (Kd.R_mono (R_far5 (g := gb294) (Kd.R_types HO289.out BK294.out (by decide)) (fun _ hk => hk.2) _ _ _ _ _) (fun _ h_ => h_.1))))) (below_size (by repeat (first | (with_reducible first | exact HB.out | apply below_alloc | apply pw_below_drewN | apply below_drew1 | refine below_set ?_ GE247.out | refine below_set ?_ GE283.out | refine below_set ?_ GE294.out) | exact HB.out)))); have n8_ := Aside0.mk (blk_below (g := gb247) (o := .cells #[.slice Ao54 x248000_5.length co54, .slice Ao55 x248001_5.length co55, .int .i64 x248002_5, .int .i64 x248003_5, .int .i64 x248004_5] 56 (0, 0)) (by (with_reducible repeat (first | refine blk_drewN ?_ _ | refine blk_drew ?_ | refine blk_alloc ?_ _)); refine blk_far5 ?_ NB247_294.out _ _ _ _ _; (with_reducible repeat (first | refine blk_drewN ?_ _ | refine blk_drew ?_ | refine blk_alloc ?_ _)); exact BK247.out) hb); have n9_ := Aside0.mk (blk_below (g := gb283) (o := .cells #[.slice Ao145 t273.length co145, .slice Ao148 t276.length co148, .int .i64 t279, .int .i64 t280, .int .i64 t281] 56 (0, 0)) (by (with_reducible repeat (first | refine blk_drewN ?_ _ | refine blk_drew ?_ | refine blk_alloc ?_ _)); refine blk_far5 ?_ NB283_294.out _ _ _ _ _; (with_reducible repeat (first | refine blk_drewN ?_ _ | refine blk_drew ?_ | refine blk_alloc ?_ _)); exact BK283.out) hb); have n10_ := Aside0.mk (blk_below (g := gb294) (o := .cells #[.slice Ao151 t284.length co151, .slice Ao155 t287.length co155, .int .i64 t290, .int .i64 t291, .int .i64 t292] 56 (0, 0)) (by (with_reducible repeat (first | refine blk_drewN ?_ _ | refine blk_drew ?_ | refine blk_alloc ?_ _)); refine blk_put5 (z0 := (.slice none 0 0)) (z1 := (.slice none 0 0)) (z2 := (.int .i64 0)) (z3 := (.int .i64 0)) (z4 := (.int .i64 0)) ?_ _ _ _ _ _; (with_reducible repeat (first | refine blk_drewN ?_ _ | refine blk_drew ?_ | refine blk_alloc ?_ _)); exact BK294.out) hb); have n11_ := Aside0.mk (below_step (by repeat (first | (with_reducible first | exact HB.out | apply below_alloc | apply pw_below_drewN | apply below_drew1 | refine below_set ?_ GE247.out | refine below_set ?_ GE283.out | refine below_set ?_ GE294.out) | exact HB.out)) hb); clear HO_248000; clear HO_248001; clear HO275; clear HO278; clear HO286; clear HO289; clear BK247; clear BK283; clear BK294; clear HB; have HO_248000 := n0_; have HO_248001 := n1_; have HO275 := n2_; have HO278 := n3_; have HO286 := n4_; have HO289 := n5_; have HO297 := n6_; have HO300 := n7_; have BK247 := n8_; have BK283 := n9_; have BK294 := n10_; have HB := n11_; clear n0_ n1_ n2_ n3_ n4_ n5_ n6_ n7_ n8_ n9_ n10_ n11_; (try clear hb); (try clear hb2); (try clear hk); (try clear hi); (try clear ho0); (try clear ho1); (try clear A72)) | ((with_reducible refine gate_dst (N := 15) rfl ?_); (try (refine gate_guard (by rfl) ?_; dsimp only)); refine box_event ?hg (N := 15) ?hd (cs := #[.slice none 0 0, .slice none 0 0, .int .i64 0, .int .i64 0, .int .i64 0]) (t := 56) ?hr ?_; (case hd => rfl); (case hg => rfl); (case hr => first | (go_simp; done) | (go_simp; rfl)); intro gb305 hg w157 hbox hb; have n0_ := Aside0.mk (Kd.R_below (by (with_reducible repeat (first | apply Kd.R_alloc | apply Kd.R_drewN | apply Kd.R_drew)); exact HO_248000.out) hb); have n1_ := Aside0.mk (Kd.Q_below (by (with_reducible repeat (first | apply Kd.Q_alloc | apply Kd.Q_drewN | apply Kd.Q_drew)); exact HO_248001.out) hb); have n2_ := Aside0.mk (Kd.V_below (Kd.V_elderB (by (with_reducible repeat (first | apply Kd.V_alloc | apply Kd.V_drewN | apply Kd.V_drew)); exact HO275.out) gb305 (Nat.le_of_eq hg.symm)) hb); have n3_ := Aside0.mk (Kd.R_below (by (with_reducible repeat (first | apply Kd.R_alloc | apply Kd.R_drewN | apply Kd.R_drew)); exact HO278.out) hb); have n4_ := Aside0.mk (Kd.V_below (Kd.V_elderB (by (with_reducible repeat (first | apply Kd.V_alloc | apply Kd.V_drewN | apply Kd.V_drew)); exact HO286.out) gb305 (Nat.le_of_eq hg.symm)) hb); have n5_ := Aside0.mk (Kd.R_below (by (with_reducible repeat (first | apply Kd.R_alloc | apply Kd.R_drewN | apply Kd.R_drew)); exact HO289.out) hb); have n6_ := Aside0.mk (Kd.V_below (Kd.V_elderB (by (with_reducible repeat (first | apply Kd.V_alloc | apply Kd.V_drewN | apply Kd.V_drew)); exact HO297.out) gb305 (Nat.le_of_eq hg.symm)) hb); have n7_ := Aside0.mk (Kd.R_below (by (with_reducible repeat (first | apply Kd.R_alloc | apply Kd.R_drewN | apply Kd.R_drew)); exact HO300.out) hb); have n8_ := Aside0.mk (blk_below (g := gb247) (o := .cells #[.slice Ao54 x248000_5.length co54, .slice Ao55 x248001_5.length co55, .int .i64 x248002_5, .int .i64 x248003_5, .int .i64 x248004_5] 56 (0, 0)) (by (with_reducible repeat (first | refine blk_drewN ?_ _ | refine blk_drew ?_ | refine blk_alloc ?_ _)); exact BK247.out) hb); have n9_ := Aside0.mk (blk_below (g := gb283) (o := .cells #[.slice Ao145 t273.length co145, .slice Ao148 t276.length co148, .int .i64 t279, .int .i64 t280, .int .i64 t281] 56 (0, 0)) (by (with_reducible repeat (first | refine blk_drewN ?_ _ | refine blk_drew ?_ | refine blk_alloc ?_ _)); exact BK283.out) hb); have n10_ := Aside0.mk (blk_below (g := gb294) (o := .cells #[.slice Ao151 t284.length co151, .slice Ao155 t287.length co155, .int .i64 t290, .int .i64 t291, .int .i64 t292] 56 (0, 0)) (by (with_reducible repeat (first | refine blk_drewN ?_ _ | refine blk_drew ?_ | refine blk_alloc ?_ _)); exact BK294.out) hb); have n11_ := Aside0.mk (below_step (by repeat (first | (with_reducible first | exact HB.out | apply below_alloc | apply pw_below_drewN | apply below_drew1 | refine below_set ?_ GE247.out | refine below_set ?_ GE283.out | refine below_set ?_ GE294.out) | exact HB.out)) hb); have n12_ := Aside0.mk (hbox); have n13_ := Aside0.mk ((by rw [hg]; exact (below_size (by repeat (first | (with_reducible first | exact HB.out | apply below_alloc | apply pw_below_drewN | apply below_drew1 | refine below_set ?_ GE247.out | refine below_set ?_ GE283.out | refine below_set ?_ GE294.out) | exact HB.out))) : w.heap.size ≤ gb305)); have n14_ := Aside0.mk ((by rw [hg]; exact (below_size (by repeat (first | (with_reducible first | exact HB.out | apply below_alloc | apply pw_below_drewN | apply below_drew1 | refine below_set ?_ GE247.out | refine below_set ?_ GE283.out | refine below_set ?_ GE294.out) | exact HB.out))) : w.heap.size ≤ gb305)); have n15_ := Aside0.mk ((by rw [hg]; exact Nat.ne_of_lt (blk_lt (g := gb247) (o := .cells #[.slice Ao54 x248000_5.length co54, .slice Ao55 x248001_5.length co55, .int .i64 x248002_5, .int .i64 x248003_5, .int .i64 x248004_5] 56 (0, 0)) (by (with_reducible repeat (first | refine blk_drewN ?_ _ | refine blk_drew ?_ | refine blk_alloc ?_ _)); exact BK247.out)) : gb247 ≠ gb305)); have n16_ := Aside0.mk ((by rw [hg]; exact Nat.ne_of_gt (blk_lt (g := gb247) (o := .cells #[.slice Ao54 x248000_5.length co54, .slice Ao55 x248001_5.length co55, .int .i64 x248002_5, .int .i64 x248003_5, .int .i64 x248004_5] 56 (0, 0)) (by (with_reducible repeat (first | refine blk_drewN ?_ _ | refine blk_drew ?_ | refine blk_alloc ?_ _)); exact BK247.out)) : gb305 ≠ gb247)); have n17_ := Aside0.mk ((by rw [hg]; exact Nat.ne_of_lt (blk_lt (g := gb283) (o := .cells #[.slice Ao145 t273.length co145, .slice Ao148 t276.length co148, .int .i64 t279, .int .i64 t280, .int .i64 t281] 56 (0, 0)) (by (with_reducible repeat (first | refine blk_drewN ?_ _ | refine blk_drew ?_ | refine blk_alloc ?_ _)); exact BK283.out)) : gb283 ≠ gb305)); have n18_ := Aside0.mk ((by rw [hg]; exact Nat.ne_of_gt (blk_lt (g := gb283) (o := .cells #[.slice Ao145 t273.length co145, .slice Ao148 t276.length co148, .int .i64 t279, .int .i64 t280, .int .i64 t281] 56 (0, 0)) (by (with_reducible repeat (first | refine blk_drewN ?_ _ | refine blk_drew ?_ | refine blk_alloc ?_ _)); exact BK283.out)) : gb305 ≠ gb283)); have n19_ := Aside0.mk ((by rw [hg]; exact Nat.ne_of_lt (blk_lt (g := gb294) (o := .cells #[.slice Ao151 t284.length co151, .slice Ao155 t287.length co155, .int .i64 t290, .int .i64 t291, .int .i64 t292] 56 (0, 0)) (by (with_reducible repeat (first | refine blk_drewN ?_ _ | refine blk_drew ?_ | refine blk_alloc ?_ _)); exact BK294.out)) : gb294 ≠ gb305)); have n20_ := Aside0.mk ((by rw [hg]; exact Nat.ne_of_gt (blk_lt (g := gb294) (o := .cells #[.slice Ao151 t284.length co151, .slice Ao155 t287.length co155, .int .i64 t290, .int .i64 t291, .int .i64 t292] 56 (0, 0)) (by (with_reducible repeat (first | refine blk_drewN ?_ _ | refine blk_drew ?_ | refine blk_alloc ?_ _)); exact BK294.out)) : gb305 ≠ gb294)); clear HO_248000; clear HO_248001; clear HO275; clear HO278; clear HO286; clear HO289; clear HO297; clear HO300; clear BK247; clear BK283; clear BK294; clear HB; have HO_248000 := n0_; have HO_248001 := n1_; have HO275 := n2_; have HO278 := n3_; have HO286 := n4_; have HO289 := n5_; have HO297 := n6_; have HO300 := n7_; have BK247 := n8_; have BK283 := n9_; have BK294 := n10_; have HB := n11_; have BK305 := n12_; have GW305 := n13_; have GE305 := n14_; have NB247_305 := n15_; have NB305_247 := n16_; have NB283_305 := n17_; have NB305_283 := n18_; have NB294_305 := n19_; have NB305_294 := n20_; clear n0_ n1_ n2_ n3_ n4_ n5_ n6_ n7_ n8_ n9_ n10_ n11_ n12_ n13_ n14_ n15_ n16_ n17_ n18_ n19_ n20_; clear hb hbox hg; obtain ⟨Ao158, co158, eo158⟩ := Kd.V_slice HO297.out; subst eo158; have hnb159 := NB305_247.out; have hnc159 := NB247_305.out; have hnb160 := NB305_283.out; have hnc160 := NB283_305.out; have hnb161 := NB305_294.out; have hnc161 := NB294_305.out; have hcz162_0 : w157.cell? ⟨gb305, 0, none⟩ = some (.slice none 0 0) := (blk_cell BK305.out 0).trans rfl; have hcz162_1 : w157.cell? ⟨gb305, 1, none⟩ = some (.slice none 0 0) := (blk_cell BK305.out 1).trans rfl; have hcz162_2 : w157.cell? ⟨gb305, 2, none⟩ = some (.int .i64 0) := (blk_cell BK305.out 2).trans rfl; have hcz162_3 : w157.cell? ⟨gb305, 3, none⟩ = some (.int .i64 0) := (blk_cell BK305.out 3).trans rfl; have hcz162_4 : w157.cell? ⟨gb305, 4, none⟩ = some (.int .i64 0) := (blk_cell BK305.out 4).trans rfl; have hfz162_0 := blk_frozen BK305.out 0; have hfz162_1 := blk_frozen BK305.out 1; have hfz162_2 := blk_frozen BK305.out 2; have hfz162_3 := blk_frozen BK305.out 3; have hfz162_4 := blk_frozen BK305.out 4; obtain ⟨Ao163, co163, eo163⟩ := Kd.R_slice HO300.out; subst eo163) | ((with_reducible refine gate_callee (f := 41) rfl ?_); refine goesL_ (some 129) rfl rfl Try.func41 (by kernel_rfl) rfl #[.string ((t270.extract 0 25) ++ (⟨#[33]⟩ : ByteArray))] rfl (by (try simp only [List.map_toArray, List.map_cons, List.map_nil]); first | done | rfl | (simp only [List.length_drop, List.length_take]; rfl)) ?_; (with_reducible refine (check_Get.calls kj51 ((t270.extract 0 25) ++ (⟨#[33]⟩ : ByteArray)) t306 t309 t312 t313 t314 t315 _ A76.out).mono ?_); rintro e w164 ⟨v307, v310, rfl, ho0, ho1, hb⟩; refine ⟨_, rfl, ?_⟩; have n0_ := Aside0.mk (Kd.R_elder' (by (with_reducible repeat (first | apply Kd.R_alloc | apply Kd.R_drewN | apply Kd.R_drew)); exact (Kd.R_mono (R_far5 (g := gb305) (Kd.R_types HO_248000.out BK305.out (by decide)) (fun _ hk => hk.2) _ _ _ _ _) (fun _ h_ => h_.1))) (Kd.R_base ho1) hb); have n1_ := Aside0.mk (Kd.Q_elder' (by (with_reducible repeat (first | apply Kd.Q_alloc | apply Kd.Q_drewN | apply Kd.Q_drew)); exact (Kd.Q_mono (Q_far5 (g := gb305) (Kd.Q_types HO_248001.out BK305.out (by decide)) (fun _ hk => hk.2) _ _ _ _ _) (fun _ h_ => h_.1))) (Kd.R_base ho1) hb); have n2_ := Aside0.mk (Kd.V_elder' (by (with_reducible repeat (first | apply Kd.V_alloc | apply Kd.V_drewN | apply Kd.V_drew)); exact (Kd.V_mono (V_far5 (g := gb305) (Kd.V_mono HO275.out (fun k_ hk => (⟨hk, hk.2⟩ : _ ∧ k_ ≠ gb305))) (fun _ hk => hk.2) _ _ _ _ _) (fun _ h_ => h_.1))) (Kd.R_base ho1) hb); have n3_ := Aside0.mk (Kd.R_elder' (by (with_reducible repeat (first | apply Kd.R_alloc | apply Kd.R_drewN | apply Kd.R_drew)); exact (Kd.R_mono (R_far5 (g := gb305) (Kd.R_types HO278.out BK305.out (by decide)) (fun _ hk => hk.2) _ _ _ _ _) (fun _ h_ => h_.1))) (Kd.R_base ho1) hb); have n4_ := Aside0.mk (Kd.V_elder' (by (with_reducible repeat (first | apply Kd.V_alloc | apply Kd.V_drewN | apply Kd.V_drew)); exact (Kd.V_mono (V_far5 (g := gb305) (Kd.V_mono HO286.out (fun k_ hk => (⟨hk, hk.2⟩ : _ ∧ k_ ≠ gb305))) (fun _ hk => hk.2) _ _ _ _ _) (fun _ h_ => h_.1))) (Kd.R_base ho1) hb); have n5_ := Aside0.mk (Kd.R_elder' (by (with_reducible repeat (first | apply Kd.R_alloc | apply Kd.R_drewN | apply Kd.R_drew)); exact (Kd.R_mono (R_far5 (g := gb305) (Kd.R_types HO289.out BK305.out (by decide)) (fun _ hk => hk.2) _ _ _ _ _) (fun _ h_ => h_.1))) (Kd.R_base ho1) hb); have n6_ := Aside0.mk (Kd.V_elder' (by (with_reducible repeat (first | apply Kd.V_alloc | apply Kd.V_drewN | apply Kd.V_drew)); exact (Kd.V_mono (V_far5 (g := gb305) (Kd.V_mono HO297.out (fun k_ hk => (⟨hk, hk.2⟩ : _ ∧ k_ ≠ gb305))) (fun _ hk => hk.2) _ _ _ _ _) (fun _ h_ => h_.1))) (Kd.R_base ho1) hb); have n7_ := Aside0.mk (Kd.R_elder' (by (with_reducible repeat (first | apply Kd.R_alloc | apply Kd.R_drewN | apply Kd.R_drew)); exact (Kd.R_mono (R_far5 (g := gb305) (Kd.R_types HO300.out BK305.out (by decide)) (fun _ hk => hk.2) _ _ _ _ _) (fun _ h_ => h_.1))) (Kd.R_base ho1) hb); have n8_ := Aside0.mk (Kd.V_lower (Kd.V_mono (ok' := fun k_ => some k_ ≠ (v310 : Value).ownBlock ∧ some k_ ≠ (.slice Ao54 x248000_5.length co54 : Value).ownBlock ∧ some k_ ≠ (.slice Ao55 x248001_5.length co55 : Value).ownBlock ∧ some k_ ≠ (.slice Ao148 t276.length co148 : Value).ownBlock ∧ some k_ ≠ (.slice Ao155 t287.length co155 : Value).ownBlock ∧ some k_ ≠ (.slice Ao163 t298.length co163 : Value).ownBlock ∧ k_ ≠ gb247 ∧ k_ ≠ gb283 ∧ k_ ≠ gb294 ∧ k_ ≠ gb305) ho0 (fun k_ hk_ => ⟨hk_.2, (Kd.fresh' (Kd.R_lt (by (with_reducible repeat (first | apply Kd.R_alloc | apply Kd.R_drewN | apply Kd.R_drew)); exact (Kd.R_mono (R_far5 (g := gb305) (Kd.R_types HO_248000.out BK305.out (by decide)) (fun _ hk => hk.2) _ _ _ _ _) (fun _ h_ => h_.1)))) k_ hk_.1), (Kd.fresh' (Kd.Q_lt (by (with_reducible repeat (first | apply Kd.Q_alloc | apply Kd.Q_drewN | apply Kd.Q_drew)); exact (Kd.Q_mono (Q_far5 (g := gb305) (Kd.Q_types HO_248001.out BK305.out (by decide)) (fun _ hk => hk.2) _ _ _ _ _) (fun _ h_ => h_.1)))) k_ hk_.1), (Kd.fresh' (Kd.R_lt (by (with_reducible repeat (first | apply Kd.R_alloc | apply Kd.R_drewN | apply Kd.R_drew)); exact (Kd.R_mono (R_far5 (g := gb305) (Kd.R_types HO278.out BK305.out (by decide)) (fun _ hk => hk.2) _ _ _ _ _) (fun _ h_ => h_.1)))) k_ hk_.1), (Kd.fresh' (Kd.R_lt (by (with_reducible repeat (first | apply Kd.R_alloc | apply Kd.R_drewN | apply Kd.R_drew)); exact (Kd.R_mono (R_far5 (g := gb305) (Kd.R_types HO289.out BK305.out (by decide)) (fun _ hk => hk.2) _ _ _ _ _) (fun _ h_ => h_.1)))) k_ hk_.1), (Kd.fresh' (Kd.R_lt (by (with_reducible repeat (first | apply Kd.R_alloc | apply Kd.R_drewN | apply Kd.R_drew)); exact (Kd.R_mono (R_far5 (g := gb305) (Kd.R_types HO300.out BK305.out (by decide)) (fun _ hk => hk.2) _ _ _ _ _) (fun _ h_ => h_.1)))) k_ hk_.1), (Kd.freshB (g := gb247) (o := .cells #[.slice Ao54 x248000_5.length co54, .slice Ao55 x248001_5.length co55, .int .i64 x248002_5, .int .i64 x248003_5, .int .i64 x248004_5] 56 (0, 0)) (by (with_reducible repeat (first | refine blk_drewN ?_ _ | refine blk_drew ?_ | refine blk_alloc ?_ _)); refine blk_far5 ?_ NB247_305.out _ _ _ _ _; (with_reducible repeat (first | refine blk_drewN ?_ _ | refine blk_drew ?_ | refine blk_alloc ?_ _)); exact BK247.out) k_ hk_.1), (Kd.freshB (g := gb283) (o := .cells #[.slice Ao145 t273.length co145, .slice Ao148 t276.length co148, .int .i64 t279, .int .i64 t280, .int .i64 t281] 56 (0, 0)) (by (with_reducible repeat (first | refine blk_drewN ?_ _ | refine blk_drew ?_ | refine blk_alloc ?_ _)); refine blk_far5 ?_ NB283_305.out _ _ _ _ _; (with_reducible repeat (first | refine blk_drewN ?_ _ | refine blk_drew ?_ | refine blk_alloc ?_ _)); exact BK283.out) k_ hk_.1), (Kd.freshB (g := gb294) (o := .cells #[.slice Ao151 t284.length co151, .slice Ao155 t287.length co155, .int .i64 t290, .int .i64 t291, .int .i64 t292] 56 (0, 0)) (by (with_reducible repeat (first | refine blk_drewN ?_ _ | refine blk_drew ?_ | refine blk_alloc ?_ _)); refine blk_far5 ?_ NB294_305.out _ _ _ _ _; (with_reducible repeat (first | refine blk_drewN ?_ _ | refine blk_drew ?_ | refine blk_alloc ?_ _)); exact BK294.out) k_ hk_.1), (Kd.freshB (g := gb305) (o := .cells #[.slice Ao158 t295.length co158, .slice Ao163 t298.length co163, .int .i64 t301, .int .i64 t302, .int .i64 t303] 56 (0, 0)) (by (with_reducible repeat (first | refine blk_drewN ?_ _ | refine blk_drew ?_ | refine blk_alloc ?_ _)); refine blk_put5 (z0 := (.slice none 0 0)) (z1 := (.slice none 0 0)) (z2 := (.int .i64 0)) (z3 := (.int .i64 0)) (z4 := (.int .i64 0)) ?_ _ _ _ _ _; (with_reducible repeat (first | refine blk_drewN ?_ _ | refine blk_drew ?_ | refine blk_alloc ?_ _)); exact BK305.out) k_ hk_.1)⟩)) (below_size (by repeat (first | (with_reducible first | exact HB.out | apply below_alloc | apply pw_below_drewN | apply below_drew1 | refine below_set ?_ GE247.out | refine below_set ?_ GE283.out | refine below_set ?_ GE294.out | refine below_set ?_ GE305.out) | exact HB.out)))); have n9_ := Aside0.mk (Kd.R_lower (Kd.R_new' (Kd.R_new' (Kd.R_new' (Kd.R_new' (Kd.R_new' (Kd.R_mono (ok' := fun k_ => True) ho1 (fun _ hk_ => trivial)) (Kd.R_lt (by (with_reducible repeat (first | apply Kd.R_alloc | apply Kd.R_drewN | apply Kd.R_drew)); exact (Kd.R_mono (R_far5 (g := gb305) (Kd.R_types HO_248000.out BK305.out (by decide)) (fun _ hk => hk.2) _ _ _ _ _) (fun _ h_ => h_.1))))) (Kd.Q_lt (by (with_reducible repeat (first | apply Kd.Q_alloc | apply Kd.Q_drewN | apply Kd.Q_drew)); exact (Kd.Q_mono (Q_far5 (g := gb305) (Kd.Q_types HO_248001.out BK305.out (by decide)) (fun _ hk => hk.2) _ _ _ _ _) (fun _ h_ => h_.1))))) (Kd.R_lt (by (with_reducible repeat (first | apply Kd.R_alloc | apply Kd.R_drewN | apply Kd.R_drew)); exact (Kd.R_mono (R_far5 (g := gb305) (Kd.R_types HO278.out BK305.out (by decide)) (fun _ hk => hk.2) _ _ _ _ _) (fun _ h_ => h_.1))))) (Kd.R_lt (by (with_reducible repeat (first | apply Kd.R_alloc | apply Kd.R_drewN | apply Kd.R_drew)); exact (Kd.R_mono (R_far5 (g := gb305) (Kd.R_types HO289.out BK305.out (by decide)) (fun _ hk => hk.2) _ _ _ _ _) (fun _ h_ => h_.1))))) (Kd.R_lt (by (with_reducible repeat (first | apply Kd.R_alloc | apply Kd.R_drewN | apply Kd.R_drew)); exact (Kd.R_mono (R_far5 (g := gb305) (Kd.R_types HO300.out BK305.out (by decide)) (fun _ hk => hk.2) _ _ _ _ _) (fun _ h_ => h_.1))))) (below_size (by repeat (first | (with_reducible first | exact HB.out | apply below_alloc | apply pw_below_drewN | apply below_drew1 | refine below_set ?_ GE247.out | refine below_set ?_ GE283.out | refine below_set ?_ GE294.out | refine below_set ?_ GE305.out) | exact HB.out)))); have n10_ := Aside0.mk (blk_below (g := gb247) (o := .cells #[.slice Ao54 x248000_5.length co54, .slice Ao55 x248001_5.length co55, .int .i64 x248002_5, .int .i64 x248003_5, .int .i64 x248004_5] 56 (0, 0)) (by (with_reducible repeat (first | refine blk_drewN ?_ _ | refine blk_drew ?_ | refine blk_alloc ?_ _)); refine blk_far5 ?_ NB247_305.out _ _ _ _ _; (with_reducible repeat (first | refine blk_drewN ?_ _ | refine blk_drew ?_ | refine blk_alloc ?_ _)); exact BK247.out) hb); have n11_ := Aside0.mk (blk_below (g := gb283) (o := .cells #[.slice Ao145 t273.length co145, .slice Ao148 t276.length co148, .int .i64 t279, .int .i64 t280, .int .i64 t281] 56 (0, 0)) (by (with_reducible repeat (first | refine blk_drewN ?_ _ | refine blk_drew ?_ | refine blk_alloc ?_ _)); refine blk_far5 ?_ NB283_305.out _ _ _ _ _; (with_reducible repeat (first | refine blk_drewN ?_ _ | refine blk_drew ?_ | refine blk_alloc ?_ _)); exact BK283.out) hb); have n12_ := Aside0.mk (blk_below (g := gb294) (o := .cells #[.slice Ao151 t284.length co151, .slice Ao155 t287.length co155, .int .i64 t290, .int .i64 t291, .int .i64 t292] 56 (0, 0)) (by (with_reducible repeat (first | refine blk_drewN ?_ _ | refine blk_drew ?_ | refine blk_alloc ?_ _)); refine blk_far5 ?_ NB294_305.out _ _ _ _ _; (with_reducible repeat (first | refine blk_drewN ?_ _ | refine blk_drew ?_ | refine blk_alloc ?_ _)); exact BK294.out) hb); have n13_ := Aside0.mk (blk_below (g := gb305) (o := .cells #[.slice Ao158 t295.length co158, .slice Ao163 t298.length co163, .int .i64 t301, .int .i64 t302, .int .i64 t303] 56 (0, 0)) (by (with_reducible repeat (first | refine blk_drewN ?_ _ | refine blk_drew ?_ | refine blk_alloc ?_ _)); refine blk_put5 (z0 := (.slice none 0 0)) (z1 := (.slice none 0 0)) (z2 := (.int .i64 0)) (z3 := (.int .i64 0)) (z4 := (.int .i64 0)) ?_ _ _ _ _ _; (with_reducible repeat (first | refine blk_drewN ?_ _ | refine blk_drew ?_ | refine blk_alloc ?_ _)); exact BK305.out) hb); have n14_ := Aside0.mk (below_step (by repeat (first | (with_reducible first | exact HB.out | apply below_alloc | apply pw_below_drewN | apply below_drew1 | refine below_set ?_ GE247.out | refine below_set ?_ GE283.out | refine below_set ?_ GE294.out | refine below_set ?_ GE305.out) | exact HB.out)) hb); clear HO_248000; clear HO_248001; clear HO275; clear HO278; clear HO286; clear HO289; clear HO297; clear HO300; clear BK247; clear BK283; clear BK294; clear BK305; clear HB; have HO_248000 := n0_; have HO_248001 := n1_; have HO275 := n2_; have HO278 := n3_; have HO286 := n4_; have HO289 := n5_; have HO297 := n6_; have HO300 := n7_; have HO308 := n8_; have HO311 := n9_; have BK247 := n10_; have BK283 := n11_; have BK294 := n12_; have BK305 := n13_; have HB := n14_; clear n0_ n1_ n2_ n3_ n4_ n5_ n6_ n7_ n8_ n9_ n10_ n11_ n12_ n13_ n14_; (try clear hb); (try clear hb2); (try clear hk); (try clear hi); (try clear ho0); (try clear ho1); (try clear A76)) | ((with_reducible refine gate_dst (N := 17) rfl ?_); (try (refine gate_guard (by rfl) ?_; dsimp only)); refine box_event ?hg (N := 17) ?hd (cs := #[.slice none 0 0, .slice none 0 0, .int .i64 0, .int .i64 0, .int .i64 0]) (t := 56) ?hr ?_; (case hd => rfl); (case hg => rfl); (case hr => first | (go_simp; done) | (go_simp; rfl)); intro gb316 hg w165 hbox hb; have n0_ := Aside0.mk (Kd.R_below (by (with_reducible repeat (first | apply Kd.R_alloc | apply Kd.R_drewN | apply Kd.R_drew)); exact HO_248000.out) hb); have n1_ := Aside0.mk (Kd.Q_below (by (with_reducible repeat (first | apply Kd.Q_alloc | apply Kd.Q_drewN | apply Kd.Q_drew)); exact HO_248001.out) hb); have n2_ := Aside0.mk (Kd.V_below (Kd.V_elderB (by (with_reducible repeat (first | apply Kd.V_alloc | apply Kd.V_drewN | apply Kd.V_drew)); exact HO275.out) gb316 (Nat.le_of_eq hg.symm)) hb); have n3_ := Aside0.mk (Kd.R_below (by (with_reducible repeat (first | apply Kd.R_alloc | apply Kd.R_drewN | apply Kd.R_drew)); exact HO278.out) hb); have n4_ := Aside0.mk (Kd.V_below (Kd.V_elderB (by (with_reducible repeat (first | apply Kd.V_alloc | apply Kd.V_drewN | apply Kd.V_drew)); exact HO286.out) gb316 (Nat.le_of_eq hg.symm)) hb); have n5_ := Aside0.mk (Kd.R_below (by (with_reducible repeat (first | apply Kd.R_alloc | apply Kd.R_drewN | apply Kd.R_drew)); exact HO289.out) hb); have n6_ := Aside0.mk (Kd.V_below (Kd.V_elderB (by (with_reducible repeat (first | apply Kd.V_alloc | apply Kd.V_drewN | apply Kd.V_drew)); exact HO297.out) gb316 (Nat.le_of_eq hg.symm)) hb); have n7_ := Aside0.mk (Kd.R_below (by (with_reducible repeat (first | apply Kd.R_alloc | apply Kd.R_drewN | apply Kd.R_drew)); exact HO300.out) hb); have n8_ := Aside0.mk (Kd.V_below (Kd.V_elderB (by (with_reducible repeat (first | apply Kd.V_alloc | apply Kd.V_drewN | apply Kd.V_drew)); exact HO308.out) gb316 (Nat.le_of_eq hg.symm)) hb); have n9_ := Aside0.mk (Kd.R_below (by (with_reducible repeat (first | apply Kd.R_alloc | apply Kd.R_drewN | apply Kd.R_drew)); exact HO311.out) hb); have n10_ := Aside0.mk (blk_below (g := gb247) (o := .cells #[.slice Ao54 x248000_5.length co54, .slice Ao55 x248001_5.length co55, .int .i64 x248002_5, .int .i64 x248003_5, .int .i64 x248004_5] 56 (0, 0)) (by (with_reducible repeat (first | refine blk_drewN ?_ _ | refine blk_drew ?_ | refine blk_alloc ?_ _)); exact BK247.out) hb); have n11_ := Aside0.mk (blk_below (g := gb283) (o := .cells #[.slice Ao145 t273.length co145, .slice Ao148 t276.length co148, .int .i64 t279, .int .i64 t280, .int .i64 t281] 56 (0, 0)) (by (with_reducible repeat (first | refine blk_drewN ?_ _ | refine blk_drew ?_ | refine blk_alloc ?_ _)); exact BK283.out) hb); have n12_ := Aside0.mk (blk_below (g := gb294) (o := .cells #[.slice Ao151 t284.length co151, .slice Ao155 t287.length co155, .int .i64 t290, .int .i64 t291, .int .i64 t292] 56 (0, 0)) (by (with_reducible repeat (first | refine blk_drewN ?_ _ | refine blk_drew ?_ | refine blk_alloc ?_ _)); exact BK294.out) hb); have n13_ := Aside0.mk (blk_below (g := gb305) (o := .cells #[.slice Ao158 t295.length co158, .slice Ao163 t298.length co163, .int .i64 t301, .int .i64 t302, .int .i64 t303] 56 (0, 0)) (by (with_reducible repeat (first | refine blk_drewN ?_ _ | refine blk_drew ?_ | refine blk_alloc ?_ _)); exact BK305.out) hb); have n14_ := Aside0.mk (below_step (by repeat (first | (with_reducible first | exact HB.out | apply below_alloc | apply pw_below_drewN | apply below_drew1 | refine below_set ?_ GE247.out | refine below_set ?_ GE283.out | refine below_set ?_ GE294.out | refine below_set ?_ GE305.out) | exact HB.out)) hb); have n15_ := Aside0.mk (hbox); have n16_ := Aside0.mk ((by rw [hg]; exact (below_size (by repeat (first | (with_reducible first | exact HB.out | apply below_alloc | apply pw_below_drewN | apply below_drew1 | refine below_set ?_ GE247.out | refine below_set ?_ GE283.out | refine below_set ?_ GE294.out | refine below_set ?_ GE305.out) | exact HB.out))) : w.heap.size ≤ gb316)); have n17_ := Aside0.mk ((by rw [hg]; exact (below_size (by repeat (first | (with_reducible first | exact HB.out | apply below_alloc | apply pw_below_drewN | apply below_drew1 | refine below_set ?_ GE247.out | refine below_set ?_ GE283.out | refine below_set ?_ GE294.out | refine below_set ?_ GE305.out) | exact HB.out))) : w.heap.size ≤ gb316)); have n18_ := Aside0.mk ((by rw [hg]; exact Nat.ne_of_lt (blk_lt (g := gb247) (o := .cells #[.slice Ao54 x248000_5.length co54, .slice Ao55 x248001_5.length co55, .int .i64 x248002_5, .int .i64 x248003_5, .int .i64 x248004_5] 56 (0, 0)) (by (with_reducible repeat (first | refine blk_drewN ?_ _ | refine blk_drew ?_ | refine blk_alloc ?_ _)); exact BK247.out)) : gb247 ≠ gb316)); have n19_ := Aside0.mk ((by rw [hg]; exact Nat.ne_of_gt (blk_lt (g := gb247) (o := .cells #[.slice Ao54 x248000_5.length co54, .slice Ao55 x248001_5.length co55, .int .i64 x248002_5, .int .i64 x248003_5, .int .i64 x248004_5] 56 (0, 0)) (by (with_reducible repeat (first | refine blk_drewN ?_ _ | refine blk_drew ?_ | refine blk_alloc ?_ _)); exact BK247.out)) : gb316 ≠ gb247)); have n20_ := Aside0.mk ((by rw [hg]; exact Nat.ne_of_lt (blk_lt (g := gb283) (o := .cells #[.slice Ao145 t273.length co145, .slice Ao148 t276.length co148, .int .i64 t279, .int .i64 t280, .int .i64 t281] 56 (0, 0)) (by (with_reducible repeat (first | refine blk_drewN ?_ _ | refine blk_drew ?_ | refine blk_alloc ?_ _)); exact BK283.out)) : gb283 ≠ gb316)); have n21_ := Aside0.mk ((by rw [hg]; exact Nat.ne_of_gt (blk_lt (g := gb283) (o := .cells #[.slice Ao145 t273.length co145, .slice Ao148 t276.length co148, .int .i64 t279, .int .i64 t280, .int .i64 t281] 56 (0, 0)) (by (with_reducible repeat (first | refine blk_drewN ?_ _ | refine blk_drew ?_ | refine blk_alloc ?_ _)); exact BK283.out)) : gb316 ≠ gb283)); have n22_ := Aside0.mk ((by rw [hg]; exact Nat.ne_of_lt (blk_lt (g := gb294) (o := .cells #[.slice Ao151 t284.length co151, .slice Ao155 t287.length co155, .int .i64 t290, .int .i64 t291, .int .i64 t292] 56 (0, 0)) (by (with_reducible repeat (first | refine blk_drewN ?_ _ | refine blk_drew ?_ | refine blk_alloc ?_ _)); exact BK294.out)) : gb294 ≠ gb316)); have n23_ := Aside0.mk ((by rw [hg]; exact Nat.ne_of_gt (blk_lt (g := gb294) (o := .cells #[.slice Ao151 t284.length co151, .slice Ao155 t287.length co155, .int .i64 t290, .int .i64 t291, .int .i64 t292] 56 (0, 0)) (by (with_reducible repeat (first | refine blk_drewN ?_ _ | refine blk_drew ?_ | refine blk_alloc ?_ _)); exact BK294.out)) : gb316 ≠ gb294)); have n24_ := Aside0.mk ((by rw [hg]; exact Nat.ne_of_lt (blk_lt (g := gb305) (o := .cells #[.slice Ao158 t295.length co158, .slice Ao163 t298.length co163, .int .i64 t301, .int .i64 t302, .int .i64 t303] 56 (0, 0)) (by (with_reducible repeat (first | refine blk_drewN ?_ _ | refine blk_drew ?_ | refine blk_alloc ?_ _)); exact BK305.out)) : gb305 ≠ gb316)); have n25_ := Aside0.mk ((by rw [hg]; exact Nat.ne_of_gt (blk_lt (g := gb305) (o := .cells #[.slice Ao158 t295.length co158, .slice Ao163 t298.length co163, .int .i64 t301, .int .i64 t302, .int .i64 t303] 56 (0, 0)) (by (with_reducible repeat (first | refine blk_drewN ?_ _ | refine blk_drew ?_ | refine blk_alloc ?_ _)); exact BK305.out)) : gb316 ≠ gb305)); clear HO_248000; clear HO_248001; clear HO275; clear HO278; clear HO286; clear HO289; clear HO297; clear HO300; clear HO308; clear HO311; clear BK247; clear BK283; clear BK294; clear BK305; clear HB; have HO_248000 := n0_; have HO_248001 := n1_; have HO275 := n2_; have HO278 := n3_; have HO286 := n4_; have HO289 := n5_; have HO297 := n6_; have HO300 := n7_; have HO308 := n8_; have HO311 := n9_; have BK247 := n10_; have BK283 := n11_; have BK294 := n12_; have BK305 := n13_; have HB := n14_; have BK316 := n15_; have GW316 := n16_; have GE316 := n17_; have NB247_316 := n18_; have NB316_247 := n19_; have NB283_316 := n20_; have NB316_283 := n21_; have NB294_316 := n22_; have NB316_294 := n23_; have NB305_316 := n24_; have NB316_305 := n25_; clear n0_ n1_ n2_ n3_ n4_ n5_ n6_ n7_ n8_ n9_ n10_ n11_ n12_ n13_ n14_ n15_ n16_ n17_ n18_ n19_ n20_ n21_ n22_ n23_ n24_ n25_; clear hb hbox hg; obtain ⟨Ao166, co166, eo166⟩ := Kd.V_slice HO308.out; subst eo166; have hnb167 := NB316_247.out; have hnc167 := NB247_316.out; have hnb168 := NB316_283.out; have hnc168 := NB283_316.out; have hnb169 := NB316_294.out; have hnc169 := NB294_316.out; have hnb170 := NB316_305.out; have hnc170 := NB305_316.out; have hcz171_0 : w165.cell? ⟨gb316, 0, none⟩ = some (.slice none 0 0) := (blk_cell BK316.out 0).trans rfl; have hcz171_1 : w165.cell? ⟨gb316, 1, none⟩ = some (.slice none 0 0) := (blk_cell BK316.out 1).trans rfl; have hcz171_2 : w165.cell? ⟨gb316, 2, none⟩ = some (.int .i64 0) := (blk_cell BK316.out 2).trans rfl; have hcz171_3 : w165.cell? ⟨gb316, 3, none⟩ = some (.int .i64 0) := (blk_cell BK316.out 3).trans rfl; have hcz171_4 : w165.cell? ⟨gb316, 4, none⟩ = some (.int .i64 0) := (blk_cell BK316.out 4).trans rfl; have hfz171_0 := blk_frozen BK316.out 0; have hfz171_1 := blk_frozen BK316.out 1; have hfz171_2 := blk_frozen BK316.out 2; have hfz171_3 := blk_frozen BK316.out 3; have hfz171_4 := blk_frozen BK316.out 4; obtain ⟨Ao172, co172, eo172⟩ := Kd.R_slice HO311.out; subst eo172))
                           have n0_ : Aside0 (Kd.R (Kd.int .i64) 3 (((((w165.setCell ⟨gb316, 0, none⟩ (.slice Ao166 t306.length co166)).setCell ⟨gb316, 1, none⟩ (.slice Ao172 t309.length co172)).setCell ⟨gb316, 2, none⟩ (.int .i64 t312)).setCell ⟨gb316, 3, none⟩ (.int .i64 t313)).setCell ⟨gb316, 4, none⟩ (.int .i64 t314)) w.heap.size (fun k_ => some k_ ≠ (.slice Ao55 x248001_5.length co55 : Value).ownBlock ∧ some k_ ≠ (.slice Ao148 t276.length co148 : Value).ownBlock ∧ some k_ ≠ (.slice Ao155 t287.length co155 : Value).ownBlock ∧ some k_ ≠ (.slice Ao163 t298.length co163 : Value).ownBlock ∧ some k_ ≠ (.slice Ao172 t309.length co172 : Value).ownBlock) (.slice Ao54 x248000_5.length co54) x248000_5) := ⟨by (with_reducible repeat (first | apply Kd.R_alloc | apply Kd.R_drewN | apply Kd.R_drew)); exact Kd.R_mono (R_far5 (g := gb316) (Kd.R_types HO_248000.out BK316.out (by decide)) (fun _ hk => hk.2) _ _ _ _ _) (fun _ hk => ⟨hk.1.1.1.1.1, ⟨hk.1.1.1.1.2, ⟨hk.1.1.1.2, ⟨hk.1.1.2, hk.1.2⟩⟩⟩⟩)⟩
                           have n1_ : Aside0 (Kd.Q (Kd.int .i64) 3 (((((w165.setCell ⟨gb316, 0, none⟩ (.slice Ao166 t306.length co166)).setCell ⟨gb316, 1, none⟩ (.slice Ao172 t309.length co172)).setCell ⟨gb316, 2, none⟩ (.int .i64 t312)).setCell ⟨gb316, 3, none⟩ (.int .i64 t313)).setCell ⟨gb316, 4, none⟩ (.int .i64 t314)) w.heap.size (fun k_ => some k_ ≠ (.slice Ao54 x248000_5.length co54 : Value).ownBlock ∧ some k_ ≠ (.slice Ao148 t276.length co148 : Value).ownBlock ∧ some k_ ≠ (.slice Ao155 t287.length co155 : Value).ownBlock ∧ some k_ ≠ (.slice Ao163 t298.length co163 : Value).ownBlock ∧ some k_ ≠ (.slice Ao172 t309.length co172 : Value).ownBlock) (.slice Ao55 x248001_5.length co55) x248001_5) := ⟨by (with_reducible repeat (first | apply Kd.Q_alloc | apply Kd.Q_drewN | apply Kd.Q_drew)); exact Kd.Q_mono (Q_far5 (g := gb316) (Kd.Q_types HO_248001.out BK316.out (by decide)) (fun _ hk => hk.2) _ _ _ _ _) (fun _ hk => ⟨hk.1.1.1.1.1, ⟨hk.1.1.1.1.2, ⟨hk.1.1.1.2, ⟨hk.1.1.2, hk.1.2⟩⟩⟩⟩)⟩
                           have n2_ : Aside0 (Kd.V (Kd.int .i64) 3 (((((w165.setCell ⟨gb316, 0, none⟩ (.slice Ao166 t306.length co166)).setCell ⟨gb316, 1, none⟩ (.slice Ao172 t309.length co172)).setCell ⟨gb316, 2, none⟩ (.int .i64 t312)).setCell ⟨gb316, 3, none⟩ (.int .i64 t313)).setCell ⟨gb316, 4, none⟩ (.int .i64 t314)) w.heap.size (fun k_ => some k_ ≠ (.slice Ao54 x248000_5.length co54 : Value).ownBlock ∧ some k_ ≠ (.slice Ao55 x248001_5.length co55 : Value).ownBlock ∧ some k_ ≠ (.slice Ao148 t276.length co148 : Value).ownBlock ∧ some k_ ≠ (.slice Ao155 t287.length co155 : Value).ownBlock ∧ some k_ ≠ (.slice Ao163 t298.length co163 : Value).ownBlock ∧ some k_ ≠ (.slice Ao172 t309.length co172 : Value).ownBlock ∧ k_ ≠ gb247 ∧ k_ ≠ gb283 ∧ k_ ≠ gb294 ∧ k_ ≠ gb305 ∧ k_ ≠ gb316) (.slice Ao145 t273.length co145) t273) := ⟨by (with_reducible repeat (first | apply Kd.V_alloc | apply Kd.V_drewN | apply Kd.V_drew)); exact Kd.V_mono (V_far5 (g := gb316) (Kd.V_mono HO275.out (fun k_ hk => (⟨hk, hk.2⟩ : _ ∧ k_ ≠ gb316))) (fun _ hk => hk.2) _ _ _ _ _) (fun _ hk => ⟨hk.1.1.1.1.1.1.1.1.2.1, ⟨hk.1.1.1.1.1.1.1.1.2.2.1, ⟨hk.1.1.1.1.1.1.1.1.1, ⟨hk.1.1.1.1.1.1.2, ⟨hk.1.1.1.1.2, ⟨hk.1.1.2, ⟨hk.1.1.1.1.1.1.1.1.2.2.2, ⟨hk.1.1.1.1.1.1.1.2, ⟨hk.1.1.1.1.1.2, ⟨hk.1.1.1.2, hk.1.2⟩⟩⟩⟩⟩⟩⟩⟩⟩⟩)⟩
                           have n3_ : Aside0 (Kd.R (Kd.int .i64) 3 (((((w165.setCell ⟨gb316, 0, none⟩ (.slice Ao166 t306.length co166)).setCell ⟨gb316, 1, none⟩ (.slice Ao172 t309.length co172)).setCell ⟨gb316, 2, none⟩ (.int .i64 t312)).setCell ⟨gb316, 3, none⟩ (.int .i64 t313)).setCell ⟨gb316, 4, none⟩ (.int .i64 t314)) w.heap.size (fun k_ => some k_ ≠ (.slice Ao54 x248000_5.length co54 : Value).ownBlock ∧ some k_ ≠ (.slice Ao55 x248001_5.length co55 : Value).ownBlock ∧ some k_ ≠ (.slice Ao155 t287.length co155 : Value).ownBlock ∧ some k_ ≠ (.slice Ao163 t298.length co163 : Value).ownBlock ∧ some k_ ≠ (.slice Ao172 t309.length co172 : Value).ownBlock) (.slice Ao148 t276.length co148) t276) := ⟨by (with_reducible repeat (first | apply Kd.R_alloc | apply Kd.R_drewN | apply Kd.R_drew)); exact Kd.R_mono (R_far5 (g := gb316) (Kd.R_types HO278.out BK316.out (by decide)) (fun _ hk => hk.2) _ _ _ _ _) (fun _ hk => ⟨hk.1.1.1.1.1.2, ⟨hk.1.1.1.1.2, ⟨hk.1.1.1.2, ⟨hk.1.1.2, hk.1.2⟩⟩⟩⟩)⟩
                           have n4_ : Aside0 (Kd.V (Kd.int .i64) 3 (((((w165.setCell ⟨gb316, 0, none⟩ (.slice Ao166 t306.length co166)).setCell ⟨gb316, 1, none⟩ (.slice Ao172 t309.length co172)).setCell ⟨gb316, 2, none⟩ (.int .i64 t312)).setCell ⟨gb316, 3, none⟩ (.int .i64 t313)).setCell ⟨gb316, 4, none⟩ (.int .i64 t314)) w.heap.size (fun k_ => some k_ ≠ (.slice Ao54 x248000_5.length co54 : Value).ownBlock ∧ some k_ ≠ (.slice Ao55 x248001_5.length co55 : Value).ownBlock ∧ some k_ ≠ (.slice Ao148 t276.length co148 : Value).ownBlock ∧ some k_ ≠ (.slice Ao155 t287.length co155 : Value).ownBlock ∧ some k_ ≠ (.slice Ao163 t298.length co163 : Value).ownBlock ∧ some k_ ≠ (.slice Ao172 t309.length co172 : Value).ownBlock ∧ k_ ≠ gb247 ∧ k_ ≠ gb283 ∧ k_ ≠ gb294 ∧ k_ ≠ gb305 ∧ k_ ≠ gb316) (.slice Ao151 t284.length co151) t284) := ⟨by (with_reducible repeat (first | apply Kd.V_alloc | apply Kd.V_drewN | apply Kd.V_drew)); exact Kd.V_mono (V_far5 (g := gb316) (Kd.V_mono HO286.out (fun k_ hk => (⟨hk, hk.2⟩ : _ ∧ k_ ≠ gb316))) (fun _ hk => hk.2) _ _ _ _ _) (fun _ hk => ⟨hk.1.1.1.1.1.1.2.1, ⟨hk.1.1.1.1.1.1.2.2.1, ⟨hk.1.1.1.1.1.1.2.2.2.1, ⟨hk.1.1.1.1.1.1.1, ⟨hk.1.1.1.1.2, ⟨hk.1.1.2, ⟨hk.1.1.1.1.1.1.2.2.2.2.1, ⟨hk.1.1.1.1.1.1.2.2.2.2.2, ⟨hk.1.1.1.1.1.2, ⟨hk.1.1.1.2, hk.1.2⟩⟩⟩⟩⟩⟩⟩⟩⟩⟩)⟩
                           have n5_ : Aside0 (Kd.R (Kd.int .i64) 3 (((((w165.setCell ⟨gb316, 0, none⟩ (.slice Ao166 t306.length co166)).setCell ⟨gb316, 1, none⟩ (.slice Ao172 t309.length co172)).setCell ⟨gb316, 2, none⟩ (.int .i64 t312)).setCell ⟨gb316, 3, none⟩ (.int .i64 t313)).setCell ⟨gb316, 4, none⟩ (.int .i64 t314)) w.heap.size (fun k_ => some k_ ≠ (.slice Ao54 x248000_5.length co54 : Value).ownBlock ∧ some k_ ≠ (.slice Ao55 x248001_5.length co55 : Value).ownBlock ∧ some k_ ≠ (.slice Ao148 t276.length co148 : Value).ownBlock ∧ some k_ ≠ (.slice Ao163 t298.length co163 : Value).ownBlock ∧ some k_ ≠ (.slice Ao172 t309.length co172 : Value).ownBlock) (.slice Ao155 t287.length co155) t287) := ⟨by (with_reducible repeat (first | apply Kd.R_alloc | apply Kd.R_drewN | apply Kd.R_drew)); exact Kd.R_mono (R_far5 (g := gb316) (Kd.R_types HO289.out BK316.out (by decide)) (fun _ hk => hk.2) _ _ _ _ _) (fun _ hk => ⟨hk.1.1.1.1.1.2, ⟨hk.1.1.1.1.2, ⟨hk.1.1.1.2, ⟨hk.1.1.2, hk.1.2⟩⟩⟩⟩)⟩
                           have n6_ : Aside0 (Kd.V (Kd.int .i64) 3 (((((w165.setCell ⟨gb316, 0, none⟩ (.slice Ao166 t306.length co166)).setCell ⟨gb316, 1, none⟩ (.slice Ao172 t309.length co172)).setCell ⟨gb316, 2, none⟩ (.int .i64 t312)).setCell ⟨gb316, 3, none⟩ (.int .i64 t313)).setCell ⟨gb316, 4, none⟩ (.int .i64 t314)) w.heap.size (fun k_ => some k_ ≠ (.slice Ao54 x248000_5.length co54 : Value).ownBlock ∧ some k_ ≠ (.slice Ao55 x248001_5.length co55 : Value).ownBlock ∧ some k_ ≠ (.slice Ao148 t276.length co148 : Value).ownBlock ∧ some k_ ≠ (.slice Ao155 t287.length co155 : Value).ownBlock ∧ some k_ ≠ (.slice Ao163 t298.length co163 : Value).ownBlock ∧ some k_ ≠ (.slice Ao172 t309.length co172 : Value).ownBlock ∧ k_ ≠ gb247 ∧ k_ ≠ gb283 ∧ k_ ≠ gb294 ∧ k_ ≠ gb305 ∧ k_ ≠ gb316) (.slice Ao158 t295.length co158) t295) := ⟨by (with_reducible repeat (first | apply Kd.V_alloc | apply Kd.V_drewN | apply Kd.V_drew)); exact Kd.V_mono (V_far5 (g := gb316) (Kd.V_mono HO297.out (fun k_ hk => (⟨hk, hk.2⟩ : _ ∧ k_ ≠ gb316))) (fun _ hk => hk.2) _ _ _ _ _) (fun _ hk => ⟨hk.1.1.1.1.2.1, ⟨hk.1.1.1.1.2.2.1, ⟨hk.1.1.1.1.2.2.2.1, ⟨hk.1.1.1.1.2.2.2.2.1, ⟨hk.1.1.1.1.1, ⟨hk.1.1.2, ⟨hk.1.1.1.1.2.2.2.2.2.1, ⟨hk.1.1.1.1.2.2.2.2.2.2.1, ⟨hk.1.1.1.1.2.2.2.2.2.2.2, ⟨hk.1.1.1.2, hk.1.2⟩⟩⟩⟩⟩⟩⟩⟩⟩⟩)⟩
                           have n7_ : Aside0 (Kd.R (Kd.int .i64) 3 (((((w165.setCell ⟨gb316, 0, none⟩ (.slice Ao166 t306.length co166)).setCell ⟨gb316, 1, none⟩ (.slice Ao172 t309.length co172)).setCell ⟨gb316, 2, none⟩ (.int .i64 t312)).setCell ⟨gb316, 3, none⟩ (.int .i64 t313)).setCell ⟨gb316, 4, none⟩ (.int .i64 t314)) w.heap.size (fun k_ => some k_ ≠ (.slice Ao54 x248000_5.length co54 : Value).ownBlock ∧ some k_ ≠ (.slice Ao55 x248001_5.length co55 : Value).ownBlock ∧ some k_ ≠ (.slice Ao148 t276.length co148 : Value).ownBlock ∧ some k_ ≠ (.slice Ao155 t287.length co155 : Value).ownBlock ∧ some k_ ≠ (.slice Ao172 t309.length co172 : Value).ownBlock) (.slice Ao163 t298.length co163) t298) := ⟨by (with_reducible repeat (first | apply Kd.R_alloc | apply Kd.R_drewN | apply Kd.R_drew)); exact Kd.R_mono (R_far5 (g := gb316) (Kd.R_types HO300.out BK316.out (by decide)) (fun _ hk => hk.2) _ _ _ _ _) (fun _ hk => ⟨hk.1.1.1.1.1.2, ⟨hk.1.1.1.1.2, ⟨hk.1.1.1.2, ⟨hk.1.1.2, hk.1.2⟩⟩⟩⟩)⟩
                           have n8_ : Aside0 (Kd.V (Kd.int .i64) 3 (((((w165.setCell ⟨gb316, 0, none⟩ (.slice Ao166 t306.length co166)).setCell ⟨gb316, 1, none⟩ (.slice Ao172 t309.length co172)).setCell ⟨gb316, 2, none⟩ (.int .i64 t312)).setCell ⟨gb316, 3, none⟩ (.int .i64 t313)).setCell ⟨gb316, 4, none⟩ (.int .i64 t314)) w.heap.size (fun k_ => some k_ ≠ (.slice Ao54 x248000_5.length co54 : Value).ownBlock ∧ some k_ ≠ (.slice Ao55 x248001_5.length co55 : Value).ownBlock ∧ some k_ ≠ (.slice Ao148 t276.length co148 : Value).ownBlock ∧ some k_ ≠ (.slice Ao155 t287.length co155 : Value).ownBlock ∧ some k_ ≠ (.slice Ao163 t298.length co163 : Value).ownBlock ∧ some k_ ≠ (.slice Ao172 t309.length co172 : Value).ownBlock ∧ k_ ≠ gb247 ∧ k_ ≠ gb283 ∧ k_ ≠ gb294 ∧ k_ ≠ gb305 ∧ k_ ≠ gb316) (.slice Ao166 t306.length co166) t306) := ⟨by (with_reducible repeat (first | apply Kd.V_alloc | apply Kd.V_drewN | apply Kd.V_drew)); exact Kd.V_mono (V_far5 (g := gb316) (Kd.V_mono HO308.out (fun k_ hk => (⟨hk, hk.2⟩ : _ ∧ k_ ≠ gb316))) (fun _ hk => hk.2) _ _ _ _ _) (fun _ hk => ⟨hk.1.1.2.1, ⟨hk.1.1.2.2.1, ⟨hk.1.1.2.2.2.1, ⟨hk.1.1.2.2.2.2.1, ⟨hk.1.1.2.2.2.2.2.1, ⟨hk.1.1.1, ⟨hk.1.1.2.2.2.2.2.2.1, ⟨hk.1.1.2.2.2.2.2.2.2.1, ⟨hk.1.1.2.2.2.2.2.2.2.2.1, ⟨hk.1.1.2.2.2.2.2.2.2.2.2, hk.1.2⟩⟩⟩⟩⟩⟩⟩⟩⟩⟩)⟩
                           have n9_ : Aside0 (Kd.R (Kd.int .i64) 3 (((((w165.setCell ⟨gb316, 0, none⟩ (.slice Ao166 t306.length co166)).setCell ⟨gb316, 1, none⟩ (.slice Ao172 t309.length co172)).setCell ⟨gb316, 2, none⟩ (.int .i64 t312)).setCell ⟨gb316, 3, none⟩ (.int .i64 t313)).setCell ⟨gb316, 4, none⟩ (.int .i64 t314)) w.heap.size (fun k_ => some k_ ≠ (.slice Ao54 x248000_5.length co54 : Value).ownBlock ∧ some k_ ≠ (.slice Ao55 x248001_5.length co55 : Value).ownBlock ∧ some k_ ≠ (.slice Ao148 t276.length co148 : Value).ownBlock ∧ some k_ ≠ (.slice Ao155 t287.length co155 : Value).ownBlock ∧ some k_ ≠ (.slice Ao163 t298.length co163 : Value).ownBlock) (.slice Ao172 t309.length co172) t309) := ⟨by (with_reducible repeat (first | apply Kd.R_alloc | apply Kd.R_drewN | apply Kd.R_drew)); exact Kd.R_mono (R_far5 (g := gb316) (Kd.R_types HO311.out BK316.out (by decide)) (fun _ hk => hk.2) _ _ _ _ _) (fun _ hk => ⟨hk.1.1.1.1.1.2, ⟨hk.1.1.1.1.2, ⟨hk.1.1.1.2, ⟨hk.1.1.2, hk.1.2⟩⟩⟩⟩)⟩
                           have n10_ : Aside0 ((((((w165.setCell ⟨gb316, 0, none⟩ (.slice Ao166 t306.length co166)).setCell ⟨gb316, 1, none⟩ (.slice Ao172 t309.length co172)).setCell ⟨gb316, 2, none⟩ (.int .i64 t312)).setCell ⟨gb316, 3, none⟩ (.int .i64 t313)).setCell ⟨gb316, 4, none⟩ (.int .i64 t314)).heap[gb247]? = some (.cells #[.slice Ao54 x248000_5.length co54, .slice Ao55 x248001_5.length co55, .int .i64 x248002_5, .int .i64 x248003_5, .int .i64 x248004_5] 56 (0, 0))) := ⟨by (with_reducible repeat (first | refine blk_drewN ?_ _ | refine blk_drew ?_ | refine blk_alloc ?_ _)); refine blk_far5 ?_ NB247_316.out _ _ _ _ _; (with_reducible repeat (first | refine blk_drewN ?_ _ | refine blk_drew ?_ | refine blk_alloc ?_ _)); exact BK247.out⟩
                           have n11_ : Aside0 ((((((w165.setCell ⟨gb316, 0, none⟩ (.slice Ao166 t306.length co166)).setCell ⟨gb316, 1, none⟩ (.slice Ao172 t309.length co172)).setCell ⟨gb316, 2, none⟩ (.int .i64 t312)).setCell ⟨gb316, 3, none⟩ (.int .i64 t313)).setCell ⟨gb316, 4, none⟩ (.int .i64 t314)).heap[gb283]? = some (.cells #[.slice Ao145 t273.length co145, .slice Ao148 t276.length co148, .int .i64 t279, .int .i64 t280, .int .i64 t281] 56 (0, 0))) := ⟨by (with_reducible repeat (first | refine blk_drewN ?_ _ | refine blk_drew ?_ | refine blk_alloc ?_ _)); refine blk_far5 ?_ NB283_316.out _ _ _ _ _; (with_reducible repeat (first | refine blk_drewN ?_ _ | refine blk_drew ?_ | refine blk_alloc ?_ _)); exact BK283.out⟩
                           have n12_ : Aside0 ((((((w165.setCell ⟨gb316, 0, none⟩ (.slice Ao166 t306.length co166)).setCell ⟨gb316, 1, none⟩ (.slice Ao172 t309.length co172)).setCell ⟨gb316, 2, none⟩ (.int .i64 t312)).setCell ⟨gb316, 3, none⟩ (.int .i64 t313)).setCell ⟨gb316, 4, none⟩ (.int .i64 t314)).heap[gb294]? = some (.cells #[.slice Ao151 t284.length co151, .slice Ao155 t287.length co155, .int .i64 t290, .int .i64 t291, .int .i64 t292] 56 (0, 0))) := ⟨by (with_reducible repeat (first | refine blk_drewN ?_ _ | refine blk_drew ?_ | refine blk_alloc ?_ _)); refine blk_far5 ?_ NB294_316.out _ _ _ _ _; (with_reducible repeat (first | refine blk_drewN ?_ _ | refine blk_drew ?_ | refine blk_alloc ?_ _)); exact BK294.out⟩
                           have n13_ : Aside0 ((((((w165.setCell ⟨gb316, 0, none⟩ (.slice Ao166 t306.length co166)).setCell ⟨gb316, 1, none⟩ (.slice Ao172 t309.length co172)).setCell ⟨gb316, 2, none⟩ (.int .i64 t312)).setCell ⟨gb316, 3, none⟩ (.int .i64 t313)).setCell ⟨gb316, 4, none⟩ (.int .i64 t314)).heap[gb305]? = some (.cells #[.slice Ao158 t295.length co158, .slice Ao163 t298.length co163, .int .i64 t301, .int .i64 t302, .int .i64 t303] 56 (0, 0))) := ⟨by (with_reducible repeat (first | refine blk_drewN ?_ _ | refine blk_drew ?_ | refine blk_alloc ?_ _)); refine blk_far5 ?_ NB305_316.out _ _ _ _ _; (with_reducible repeat (first | refine blk_drewN ?_ _ | refine blk_drew ?_ | refine blk_alloc ?_ _)); exact BK305.out⟩
                           have n14_ : Aside0 ((((((w165.setCell ⟨gb316, 0, none⟩ (.slice Ao166 t306.length co166)).setCell ⟨gb316, 1, none⟩ (.slice Ao172 t309.length co172)).setCell ⟨gb316, 2, none⟩ (.int .i64 t312)).setCell ⟨gb316, 3, none⟩ (.int .i64 t313)).setCell ⟨gb316, 4, none⟩ (.int .i64 t314)).heap[gb316]? = some (.cells #[.slice Ao166 t306.length co166, .slice Ao172 t309.length co172, .int .i64 t312, .int .i64 t313, .int .i64 t314] 56 (0, 0))) := ⟨by (with_reducible repeat (first | refine blk_drewN ?_ _ | refine blk_drew ?_ | refine blk_alloc ?_ _)); refine blk_put5 (z0 := (.slice none 0 0)) (z1 := (.slice none 0 0)) (z2 := (.int .i64 0)) (z3 := (.int .i64 0)) (z4 := (.int .i64 0)) ?_ _ _ _ _ _; (with_reducible repeat (first | refine blk_drewN ?_ _ | refine blk_drew ?_ | refine blk_alloc ?_ _)); exact BK316.out⟩
                           have n15_ : Aside0 (Below w.heap.size w (((((w165.setCell ⟨gb316, 0, none⟩ (.slice Ao166 t306.length co166)).setCell ⟨gb316, 1, none⟩ (.slice Ao172 t309.length co172)).setCell ⟨gb316, 2, none⟩ (.int .i64 t312)).setCell ⟨gb316, 3, none⟩ (.int .i64 t313)).setCell ⟨gb316, 4, none⟩ (.int .i64 t314))) := ⟨by repeat (first | (with_reducible first | exact HB.out | apply below_alloc | apply pw_below_drewN | apply below_drew1 | refine below_set ?_ GE247.out | refine below_set ?_ GE283.out | refine below_set ?_ GE294.out | refine below_set ?_ GE305.out | refine below_set ?_ GE316.out) | exact HB.out)⟩
                           (try clear HO_248000)
                           (try clear HO_248001)
                           (try clear HO275)
                           (try clear HO278)
                           (try clear HO286)
                           (try clear HO289)
                           (try clear HO297)
                           (try clear HO300)
                           (try clear HO308)
                           (try clear HO311)
                           (try clear BK247)
                           (try clear BK283)
                           (try clear BK294)
                           (try clear BK305)
                           (try clear BK316)
                           (try clear HB)
                           generalize (((((w165.setCell ⟨gb316, 0, none⟩ (.slice Ao166 t306.length co166)).setCell ⟨gb316, 1, none⟩ (.slice Ao172 t309.length co172)).setCell ⟨gb316, 2, none⟩ (.int .i64 t312)).setCell ⟨gb316, 3, none⟩ (.int .i64 t313)).setCell ⟨gb316, 4, none⟩ (.int .i64 t314)) = w173 at n0_ n1_ n2_ n3_ n4_ n5_ n6_ n7_ n8_ n9_ n10_ n11_ n12_ n13_ n14_ n15_ ⊢
                           have HO_248000 := n0_
                           have HO_248001 := n1_
                           have HO275 := n2_
                           have HO278 := n3_
                           have HO286 := n4_
                           have HO289 := n5_
                           have HO297 := n6_
                           have HO300 := n7_
                           have HO308 := n8_
                           have HO311 := n9_
                           have BK247 := n10_
                           have BK283 := n11_
                           have BK294 := n12_
                           have BK305 := n13_
                           have BK316 := n14_
                           have HB := n15_
                           clear n0_ n1_ n2_ n3_ n4_ n5_ n6_ n7_ n8_ n9_ n10_ n11_ n12_ n13_ n14_ n15_
                           have n0_ := Aside0.mk (Kd.R_drew HO_248000.out)
                           have n1_ := Aside0.mk (Kd.Q_drew HO_248001.out)
                           have n2_ := Aside0.mk (Kd.V_drew HO275.out)
                           have n3_ := Aside0.mk (Kd.R_drew HO278.out)
                           have n4_ := Aside0.mk (Kd.V_drew HO286.out)
                           have n5_ := Aside0.mk (Kd.R_drew HO289.out)
                           have n6_ := Aside0.mk (Kd.V_drew HO297.out)
                           have n7_ := Aside0.mk (Kd.R_drew HO300.out)
                           have n8_ := Aside0.mk (Kd.V_drew HO308.out)
                           have n9_ := Aside0.mk (Kd.R_drew HO311.out)
                           have n10_ := Aside0.mk (blk_drew BK247.out)
                           have n11_ := Aside0.mk (blk_drew BK283.out)
                           have n12_ := Aside0.mk (blk_drew BK294.out)
                           have n13_ := Aside0.mk (blk_drew BK305.out)
                           have n14_ := Aside0.mk (blk_drew BK316.out)
                           have n15_ := Aside0.mk (below_drew1 HB.out)
                           clear HO_248000
                           clear HO_248001
                           clear HO275
                           clear HO278
                           clear HO286
                           clear HO289
                           clear HO297
                           clear HO300
                           clear HO308
                           clear HO311
                           clear BK247
                           clear BK283
                           clear BK294
                           clear BK305
                           clear BK316
                           clear HB
                           have HO_248000 := n0_
                           have HO_248001 := n1_
                           have HO275 := n2_
                           have HO278 := n3_
                           have HO286 := n4_
                           have HO289 := n5_
                           have HO297 := n6_
                           have HO300 := n7_
                           have HO308 := n8_
                           have HO311 := n9_
                           have BK247 := n10_
                           have BK283 := n11_
                           have BK294 := n12_
                           have BK305 := n13_
                           have BK316 := n14_
                           have HB := n15_
                           clear n0_ n1_ n2_ n3_ n4_ n5_ n6_ n7_ n8_ n9_ n10_ n11_ n12_ n13_ n14_ n15_
                           refine start_ (n := 13) (S := fun w' => True) (ds := []) #[false, false, false, false, false, false, false, false, false, false, false, false, false] (by kernel_rfl) rfl rfl trivial (fun hHeld => ?_); refine with_tabW grafterlaw14_CheckForms.tab33 grafterlaw14_CheckForms.bits33 (fun HT_ HW_ => ?_)
                           generalize w173.drew = w174 at HO_248000 HO_248001 HO275 HO278 HO286 HO289 HO297 HO300 HO308 HO311 BK247 BK283 BK294 BK305 BK316 HB hHeld ⊢
                           refine pure_ (i := 0) (N := some 133) (v := ?_) (a' := ?_) #[true, false, false, false, false, false, false, false, false, false, false, false, false] rfl rfl (any_of HT_.out (by kernel_rfl)) (fun _ _ _ h => h) (Or.inl ⟨by rfl, ?_⟩) ?_ ?_
                           rotate_left
                           ·
                            intro w'
                            go_simp
                            with_reducible rfl
                           rotate_left
                           ·
                            simp only [Act.put, List.setIfInBounds_toArray, List.set_cons_zero, List.set_cons_succ, i64_w, i32_w]
                            rfl
                           refine pure_ (i := 1) (N := some 134) (v := ?_) (a' := ?_) #[true, true, false, false, false, false, false, false, false, false, false, false, false] rfl rfl (any_of HT_.out (by kernel_rfl)) (fun _ _ _ h => h) (Or.inl ⟨by rfl, ?_⟩) ?_ ?_
                           rotate_left
                           ·
                            intro w'
                            go_simp
                            with_reducible rfl
                           rotate_left
                           ·
                            simp only [Act.put, List.setIfInBounds_toArray, List.set_cons_zero, List.set_cons_succ, i64_w, i32_w]
                            rfl
                           refine pure_ (i := 2) (N := some 135) (v := ?_) (a' := ?_) #[true, true, true, false, false, false, false, false, false, false, false, false, false] rfl rfl (any_of HT_.out (by kernel_rfl)) (fun _ _ _ h => h) (Or.inl ⟨by rfl, ?_⟩) ?_ ?_
                           rotate_left
                           ·
                            intro w'
                            go_simp
                            with_reducible rfl
                           rotate_left
                           ·
                            simp only [Act.put, List.setIfInBounds_toArray, List.set_cons_zero, List.set_cons_succ, i64_w, i32_w]
                            rfl
                           refine pure_ (i := 3) (N := some 136) (v := ?_) (a' := ?_) #[true, true, true, true, false, false, false, false, false, false, false, false, false] rfl rfl (any_of HT_.out (by kernel_rfl)) (fun _ _ _ h => h) (Or.inl ⟨by rfl, ?_⟩) ?_ ?_
                           rotate_left
                           ·
                            intro w'
                            go_simp
                            with_reducible rfl
                           rotate_left
                           ·
                            simp only [Act.put, List.setIfInBounds_toArray, List.set_cons_zero, List.set_cons_succ, i64_w, i32_w]
                            rfl
                           refine pure_ (i := 4) (N := some 137) (v := ?_) (a' := ?_) #[true, true, true, true, true, false, false, false, false, false, false, false, false] rfl rfl (any_of HT_.out (by kernel_rfl)) (fun _ _ _ h => h) (Or.inl ⟨by rfl, ?_⟩) ?_ ?_
                           rotate_left
                           ·
                            intro w'
                            go_simp
                            with_reducible rfl
                           rotate_left
                           ·
                            simp only [Act.put, List.setIfInBounds_toArray, List.set_cons_zero, List.set_cons_succ, i64_w, i32_w]
                            rfl
                           refine pure_ (i := 5) (N := some 138) (v := ?_) (a' := ?_) #[true, true, true, true, true, true, false, false, false, false, false, false, false] rfl rfl (any_of HT_.out (by kernel_rfl)) (fun _ _ _ h => h) (Or.inl ⟨by rfl, ?_⟩) ?_ ?_
                           rotate_left
                           ·
                            intro w'
                            go_simp
                            with_reducible rfl
                           rotate_left
                           ·
                            simp only [Act.put, List.setIfInBounds_toArray, List.set_cons_zero, List.set_cons_succ, i64_w, i32_w]
                            rfl
                           refine join_ (σ := Value × Value × Nat) 2 #[true, true, true, true, true, true, true, true, true, true, true, false, false] (fun s_ => [(139, .tuple #[.agg #[s_.1, s_.2.1, .int .i64 t323, .int .i64 t324, .int .i64 t325], .int .i64 t326]), (19, .pointer (some ⟨s_.2.2, 0, none⟩)), (132, .tuple #[.agg #[s_.1, s_.2.1, .int .i64 t323, .int .i64 t324, .int .i64 t325], .int .i64 t326]), (140, .agg #[s_.1, s_.2.1, .int .i64 t323, .int .i64 t324, .int .i64 t325]), (141, .int .i64 t326)]) (fun s_ w' => (Kd.V (Kd.int .i64) 3 w' w.heap.size (fun k_ => some k_ ≠ (.slice Ao148 t276.length co148 : Value).ownBlock ∧ some k_ ≠ (.slice Ao155 t287.length co155 : Value).ownBlock ∧ some k_ ≠ (.slice Ao163 t298.length co163 : Value).ownBlock ∧ some k_ ≠ (.slice Ao172 t309.length co172 : Value).ownBlock ∧ some k_ ≠ (s_.2.1 : Value).ownBlock ∧ some k_ ≠ (.slice Ao54 x248000_5.length co54 : Value).ownBlock ∧ some k_ ≠ (.slice Ao55 x248001_5.length co55 : Value).ownBlock ∧ k_ ≠ gb247 ∧ k_ ≠ gb283 ∧ k_ ≠ gb294 ∧ k_ ≠ gb305 ∧ k_ ≠ gb316 ∧ k_ ≠ s_.2.2) (.slice Ao145 t273.length co145) t273) ∧ (Kd.R (Kd.int .i64) 3 w' w.heap.size (fun k_ => some k_ ≠ (.slice Ao155 t287.length co155 : Value).ownBlock ∧ some k_ ≠ (.slice Ao163 t298.length co163 : Value).ownBlock ∧ some k_ ≠ (.slice Ao172 t309.length co172 : Value).ownBlock ∧ some k_ ≠ (s_.2.1 : Value).ownBlock ∧ some k_ ≠ (.slice Ao54 x248000_5.length co54 : Value).ownBlock ∧ some k_ ≠ (.slice Ao55 x248001_5.length co55 : Value).ownBlock) (.slice Ao148 t276.length co148) t276) ∧ (Kd.V (Kd.int .i64) 3 w' w.heap.size (fun k_ => some k_ ≠ (.slice Ao148 t276.length co148 : Value).ownBlock ∧ some k_ ≠ (.slice Ao155 t287.length co155 : Value).ownBlock ∧ some k_ ≠ (.slice Ao163 t298.length co163 : Value).ownBlock ∧ some k_ ≠ (.slice Ao172 t309.length co172 : Value).ownBlock ∧ some k_ ≠ (s_.2.1 : Value).ownBlock ∧ some k_ ≠ (.slice Ao54 x248000_5.length co54 : Value).ownBlock ∧ some k_ ≠ (.slice Ao55 x248001_5.length co55 : Value).ownBlock ∧ k_ ≠ gb247 ∧ k_ ≠ gb283 ∧ k_ ≠ gb294 ∧ k_ ≠ gb305 ∧ k_ ≠ gb316 ∧ k_ ≠ s_.2.2) (.slice Ao151 t284.length co151) t284) ∧ (Kd.R (Kd.int .i64) 3 w' w.heap.size (fun k_ => some k_ ≠ (.slice Ao148 t276.length co148 : Value).ownBlock ∧ some k_ ≠ (.slice Ao163 t298.length co163 : Value).ownBlock ∧ some k_ ≠ (.slice Ao172 t309.length co172 : Value).ownBlock ∧ some k_ ≠ (s_.2.1 : Value).ownBlock ∧ some k_ ≠ (.slice Ao54 x248000_5.length co54 : Value).ownBlock ∧ some k_ ≠ (.slice Ao55 x248001_5.length co55 : Value).ownBlock) (.slice Ao155 t287.length co155) t287) ∧ (Kd.V (Kd.int .i64) 3 w' w.heap.size (fun k_ => some k_ ≠ (.slice Ao148 t276.length co148 : Value).ownBlock ∧ some k_ ≠ (.slice Ao155 t287.length co155 : Value).ownBlock ∧ some k_ ≠ (.slice Ao163 t298.length co163 : Value).ownBlock ∧ some k_ ≠ (.slice Ao172 t309.length co172 : Value).ownBlock ∧ some k_ ≠ (s_.2.1 : Value).ownBlock ∧ some k_ ≠ (.slice Ao54 x248000_5.length co54 : Value).ownBlock ∧ some k_ ≠ (.slice Ao55 x248001_5.length co55 : Value).ownBlock ∧ k_ ≠ gb247 ∧ k_ ≠ gb283 ∧ k_ ≠ gb294 ∧ k_ ≠ gb305 ∧ k_ ≠ gb316 ∧ k_ ≠ s_.2.2) (.slice Ao158 t295.length co158) t295) ∧ (Kd.R (Kd.int .i64) 3 w' w.heap.size (fun k_ => some k_ ≠ (.slice Ao148 t276.length co148 : Value).ownBlock ∧ some k_ ≠ (.slice Ao155 t287.length co155 : Value).ownBlock ∧ some k_ ≠ (.slice Ao172 t309.length co172 : Value).ownBlock ∧ some k_ ≠ (s_.2.1 : Value).ownBlock ∧ some k_ ≠ (.slice Ao54 x248000_5.length co54 : Value).ownBlock ∧ some k_ ≠ (.slice Ao55 x248001_5.length co55 : Value).ownBlock) (.slice Ao163 t298.length co163) t298) ∧ (Kd.V (Kd.int .i64) 3 w' w.heap.size (fun k_ => some k_ ≠ (.slice Ao148 t276.length co148 : Value).ownBlock ∧ some k_ ≠ (.slice Ao155 t287.length co155 : Value).ownBlock ∧ some k_ ≠ (.slice Ao163 t298.length co163 : Value).ownBlock ∧ some k_ ≠ (.slice Ao172 t309.length co172 : Value).ownBlock ∧ some k_ ≠ (s_.2.1 : Value).ownBlock ∧ some k_ ≠ (.slice Ao54 x248000_5.length co54 : Value).ownBlock ∧ some k_ ≠ (.slice Ao55 x248001_5.length co55 : Value).ownBlock ∧ k_ ≠ gb247 ∧ k_ ≠ gb283 ∧ k_ ≠ gb294 ∧ k_ ≠ gb305 ∧ k_ ≠ gb316 ∧ k_ ≠ s_.2.2) (.slice Ao166 t306.length co166) t306) ∧ (Kd.R (Kd.int .i64) 3 w' w.heap.size (fun k_ => some k_ ≠ (.slice Ao148 t276.length co148 : Value).ownBlock ∧ some k_ ≠ (.slice Ao155 t287.length co155 : Value).ownBlock ∧ some k_ ≠ (.slice Ao163 t298.length co163 : Value).ownBlock ∧ some k_ ≠ (s_.2.1 : Value).ownBlock ∧ some k_ ≠ (.slice Ao54 x248000_5.length co54 : Value).ownBlock ∧ some k_ ≠ (.slice Ao55 x248001_5.length co55 : Value).ownBlock) (.slice Ao172 t309.length co172) t309) ∧ (Kd.V (Kd.int .i64) 3 w' w.heap.size (fun k_ => some k_ ≠ (.slice Ao148 t276.length co148 : Value).ownBlock ∧ some k_ ≠ (.slice Ao155 t287.length co155 : Value).ownBlock ∧ some k_ ≠ (.slice Ao163 t298.length co163 : Value).ownBlock ∧ some k_ ≠ (.slice Ao172 t309.length co172 : Value).ownBlock ∧ some k_ ≠ (s_.2.1 : Value).ownBlock ∧ some k_ ≠ (.slice Ao54 x248000_5.length co54 : Value).ownBlock ∧ some k_ ≠ (.slice Ao55 x248001_5.length co55 : Value).ownBlock ∧ k_ ≠ gb247 ∧ k_ ≠ gb283 ∧ k_ ≠ gb294 ∧ k_ ≠ gb305 ∧ k_ ≠ gb316 ∧ k_ ≠ s_.2.2) s_.1 t317) ∧ (Kd.R (Kd.int .i64) 3 w' w.heap.size (fun k_ => some k_ ≠ (.slice Ao148 t276.length co148 : Value).ownBlock ∧ some k_ ≠ (.slice Ao155 t287.length co155 : Value).ownBlock ∧ some k_ ≠ (.slice Ao163 t298.length co163 : Value).ownBlock ∧ some k_ ≠ (.slice Ao172 t309.length co172 : Value).ownBlock ∧ some k_ ≠ (.slice Ao54 x248000_5.length co54 : Value).ownBlock ∧ some k_ ≠ (.slice Ao55 x248001_5.length co55 : Value).ownBlock) s_.2.1 t320) ∧ (Kd.R (Kd.int .i64) 3 w' w.heap.size (fun k_ => some k_ ≠ (.slice Ao148 t276.length co148 : Value).ownBlock ∧ some k_ ≠ (.slice Ao155 t287.length co155 : Value).ownBlock ∧ some k_ ≠ (.slice Ao163 t298.length co163 : Value).ownBlock ∧ some k_ ≠ (.slice Ao172 t309.length co172 : Value).ownBlock ∧ some k_ ≠ (s_.2.1 : Value).ownBlock ∧ some k_ ≠ (.slice Ao55 x248001_5.length co55 : Value).ownBlock) (.slice Ao54 x248000_5.length co54) x248000_5) ∧ (Kd.Q (Kd.int .i64) 3 w' w.heap.size (fun k_ => some k_ ≠ (.slice Ao148 t276.length co148 : Value).ownBlock ∧ some k_ ≠ (.slice Ao155 t287.length co155 : Value).ownBlock ∧ some k_ ≠ (.slice Ao163 t298.length co163 : Value).ownBlock ∧ some k_ ≠ (.slice Ao172 t309.length co172 : Value).ownBlock ∧ some k_ ≠ (s_.2.1 : Value).ownBlock ∧ some k_ ≠ (.slice Ao54 x248000_5.length co54 : Value).ownBlock) (.slice Ao55 x248001_5.length co55) x248001_5) ∧ (w'.heap[gb247]? = some (.cells #[.slice Ao54 x248000_5.length co54, .slice Ao55 x248001_5.length co55, .int .i64 x248002_5, .int .i64 x248003_5, .int .i64 x248004_5] 56 (0, 0))) ∧ (w'.heap[gb283]? = some (.cells #[.slice Ao145 t273.length co145, .slice Ao148 t276.length co148, .int .i64 t279, .int .i64 t280, .int .i64 t281] 56 (0, 0))) ∧ (w'.heap[gb294]? = some (.cells #[.slice Ao151 t284.length co151, .slice Ao155 t287.length co155, .int .i64 t290, .int .i64 t291, .int .i64 t292] 56 (0, 0))) ∧ (w'.heap[gb305]? = some (.cells #[.slice Ao158 t295.length co158, .slice Ao163 t298.length co163, .int .i64 t301, .int .i64 t302, .int .i64 t303] 56 (0, 0))) ∧ (w'.heap[gb316]? = some (.cells #[.slice Ao166 t306.length co166, .slice Ao172 t309.length co172, .int .i64 t312, .int .i64 t313, .int .i64 t314] 56 (0, 0))) ∧ (w'.heap[s_.2.2]? = some (.cells #[.slice none 0 0, .slice none 0 0, .int .i64 0, .int .i64 0, .int .i64 0] 56 (0, 0))) ∧ (w.heap.size ≤ s_.2.2) ∧ (w.heap.size ≤ s_.2.2) ∧ (gb247 ≠ s_.2.2) ∧ (s_.2.2 ≠ gb247) ∧ (gb283 ≠ s_.2.2) ∧ (s_.2.2 ≠ gb283) ∧ (gb294 ≠ s_.2.2) ∧ (s_.2.2 ≠ gb294) ∧ (gb305 ≠ s_.2.2) ∧ (s_.2.2 ≠ gb305) ∧ (gb316 ≠ s_.2.2) ∧ (s_.2.2 ≠ gb316) ∧ (Below w.heap.size w w')) ?_ ?_
                           rotate_left
                           ·
                            intro hCont
                            refine two_ (i := 6) (j := 10) (Ni := some 139) (Nj := some 19) #[true, true, true, true, true, true, true, false, false, false, false, false, false] #[true, true, true, true, true, true, false, false, false, false, true, false, false] rfl rfl rfl rfl (two_of HT_.out (by kernel_rfl)) (by decide) (by decide) (fun K hK => ?_) (fun K hK => ?_)
                            ·
                             skip
                             refine goes_ Try.func41 (by kernel_rfl) rfl #[.string (((t270.extract 0 4) ++ (⟨#[127]⟩ : ByteArray)) ++ (t270.extract 5 t270.size))] (by rfl) rfl rfl (by (try simp only [List.map_toArray, List.map_cons, List.map_nil]); first | done | rfl | (simp only [List.length_drop, List.length_take]; rfl)) ?_
                             with_reducible refine (check_Get.calls kj51 (((t270.extract 0 4) ++ (⟨#[127]⟩ : ByteArray)) ++ (t270.extract 5 t270.size)) t317 t320 t323 t324 t325 t326 _ A82.out).mono ?_
                             rintro e w175 ⟨v318, v321, rfl, ho0, ho1, hb⟩
                             refine ⟨_, rfl, ?_⟩
                             have n0_ := Aside0.mk (Kd.R_elder' (by (with_reducible repeat (first | apply Kd.R_alloc | apply Kd.R_drewN | apply Kd.R_drew)); exact HO_248000.out) (Kd.R_base ho1) hb)
                             have n1_ := Aside0.mk (Kd.Q_elder' (by (with_reducible repeat (first | apply Kd.Q_alloc | apply Kd.Q_drewN | apply Kd.Q_drew)); exact HO_248001.out) (Kd.R_base ho1) hb)
                             have n2_ := Aside0.mk (Kd.V_elder' (by (with_reducible repeat (first | apply Kd.V_alloc | apply Kd.V_drewN | apply Kd.V_drew)); exact HO275.out) (Kd.R_base ho1) hb)
                             have n3_ := Aside0.mk (Kd.R_elder' (by (with_reducible repeat (first | apply Kd.R_alloc | apply Kd.R_drewN | apply Kd.R_drew)); exact HO278.out) (Kd.R_base ho1) hb)
                             have n4_ := Aside0.mk (Kd.V_elder' (by (with_reducible repeat (first | apply Kd.V_alloc | apply Kd.V_drewN | apply Kd.V_drew)); exact HO286.out) (Kd.R_base ho1) hb)
                             have n5_ := Aside0.mk (Kd.R_elder' (by (with_reducible repeat (first | apply Kd.R_alloc | apply Kd.R_drewN | apply Kd.R_drew)); exact HO289.out) (Kd.R_base ho1) hb)
                             have n6_ := Aside0.mk (Kd.V_elder' (by (with_reducible repeat (first | apply Kd.V_alloc | apply Kd.V_drewN | apply Kd.V_drew)); exact HO297.out) (Kd.R_base ho1) hb)
                             have n7_ := Aside0.mk (Kd.R_elder' (by (with_reducible repeat (first | apply Kd.R_alloc | apply Kd.R_drewN | apply Kd.R_drew)); exact HO300.out) (Kd.R_base ho1) hb)
                             have n8_ := Aside0.mk (Kd.V_elder' (by (with_reducible repeat (first | apply Kd.V_alloc | apply Kd.V_drewN | apply Kd.V_drew)); exact HO308.out) (Kd.R_base ho1) hb)
                             have n9_ := Aside0.mk (Kd.R_elder' (by (with_reducible repeat (first | apply Kd.R_alloc | apply Kd.R_drewN | apply Kd.R_drew)); exact HO311.out) (Kd.R_base ho1) hb)
                             have n10_ := Aside0.mk (Kd.V_lower (Kd.V_mono (ok' := fun k_ => some k_ ≠ (v321 : Value).ownBlock ∧ some k_ ≠ (.slice Ao54 x248000_5.length co54 : Value).ownBlock ∧ some k_ ≠ (.slice Ao55 x248001_5.length co55 : Value).ownBlock ∧ some k_ ≠ (.slice Ao148 t276.length co148 : Value).ownBlock ∧ some k_ ≠ (.slice Ao155 t287.length co155 : Value).ownBlock ∧ some k_ ≠ (.slice Ao163 t298.length co163 : Value).ownBlock ∧ some k_ ≠ (.slice Ao172 t309.length co172 : Value).ownBlock ∧ k_ ≠ gb247 ∧ k_ ≠ gb283 ∧ k_ ≠ gb294 ∧ k_ ≠ gb305 ∧ k_ ≠ gb316) ho0 (fun k_ hk_ => ⟨hk_.2, (Kd.fresh' (Kd.R_lt (by (with_reducible repeat (first | apply Kd.R_alloc | apply Kd.R_drewN | apply Kd.R_drew)); exact HO_248000.out)) k_ hk_.1), (Kd.fresh' (Kd.Q_lt (by (with_reducible repeat (first | apply Kd.Q_alloc | apply Kd.Q_drewN | apply Kd.Q_drew)); exact HO_248001.out)) k_ hk_.1), (Kd.fresh' (Kd.R_lt (by (with_reducible repeat (first | apply Kd.R_alloc | apply Kd.R_drewN | apply Kd.R_drew)); exact HO278.out)) k_ hk_.1), (Kd.fresh' (Kd.R_lt (by (with_reducible repeat (first | apply Kd.R_alloc | apply Kd.R_drewN | apply Kd.R_drew)); exact HO289.out)) k_ hk_.1), (Kd.fresh' (Kd.R_lt (by (with_reducible repeat (first | apply Kd.R_alloc | apply Kd.R_drewN | apply Kd.R_drew)); exact HO300.out)) k_ hk_.1), (Kd.fresh' (Kd.R_lt (by (with_reducible repeat (first | apply Kd.R_alloc | apply Kd.R_drewN | apply Kd.R_drew)); exact HO311.out)) k_ hk_.1), (Kd.freshB (g := gb247) (o := .cells #[.slice Ao54 x248000_5.length co54, .slice Ao55 x248001_5.length co55, .int .i64 x248002_5, .int .i64 x248003_5, .int .i64 x248004_5] 56 (0, 0)) (by (with_reducible repeat (first | refine blk_drewN ?_ _ | refine blk_drew ?_ | refine blk_alloc ?_ _)); exact BK247.out) k_ hk_.1), (Kd.freshB (g := gb283) (o := .cells #[.slice Ao145 t273.length co145, .slice Ao148 t276.length co148, .int .i64 t279, .int .i64 t280, .int .i64 t281] 56 (0, 0)) (by (with_reducible repeat (first | refine blk_drewN ?_ _ | refine blk_drew ?_ | refine blk_alloc ?_ _)); exact BK283.out) k_ hk_.1), (Kd.freshB (g := gb294) (o := .cells #[.slice Ao151 t284.length co151, .slice Ao155 t287.length co155, .int .i64 t290, .int .i64 t291, .int .i64 t292] 56 (0, 0)) (by (with_reducible repeat (first | refine blk_drewN ?_ _ | refine blk_drew ?_ | refine blk_alloc ?_ _)); exact BK294.out) k_ hk_.1), (Kd.freshB (g := gb305) (o := .cells #[.slice Ao158 t295.length co158, .slice Ao163 t298.length co163, .int .i64 t301, .int .i64 t302, .int .i64 t303] 56 (0, 0)) (by (with_reducible repeat (first | refine blk_drewN ?_ _ | refine blk_drew ?_ | refine blk_alloc ?_ _)); exact BK305.out) k_ hk_.1), (Kd.freshB (g := gb316) (o := .cells #[.slice Ao166 t306.length co166, .slice Ao172 t309.length co172, .int .i64 t312, .int .i64 t313, .int .i64 t314] 56 (0, 0)) (by (with_reducible repeat (first | refine blk_drewN ?_ _ | refine blk_drew ?_ | refine blk_alloc ?_ _)); exact BK316.out) k_ hk_.1)⟩)) (below_size (by repeat (first | (with_reducible first | exact HB.out | apply below_alloc | apply pw_below_drewN | apply below_drew1 | refine below_set ?_ GE247.out | refine below_set ?_ GE283.out | refine below_set ?_ GE294.out | refine below_set ?_ GE305.out | refine below_set ?_ GE316.out) | exact HB.out))))
                             have n11_ := Aside0.mk (Kd.R_lower (Kd.R_new' (Kd.R_new' (Kd.R_new' (Kd.R_new' (Kd.R_new' (Kd.R_new' (Kd.R_mono (ok' := fun k_ => True) ho1 (fun _ hk_ => trivial)) (Kd.R_lt (by (with_reducible repeat (first | apply Kd.R_alloc | apply Kd.R_drewN | apply Kd.R_drew)); exact HO_248000.out))) (Kd.Q_lt (by (with_reducible repeat (first | apply Kd.Q_alloc | apply Kd.Q_drewN | apply Kd.Q_drew)); exact HO_248001.out))) (Kd.R_lt (by (with_reducible repeat (first | apply Kd.R_alloc | apply Kd.R_drewN | apply Kd.R_drew)); exact HO278.out))) (Kd.R_lt (by (with_reducible repeat (first | apply Kd.R_alloc | apply Kd.R_drewN | apply Kd.R_drew)); exact HO289.out))) (Kd.R_lt (by (with_reducible repeat (first | apply Kd.R_alloc | apply Kd.R_drewN | apply Kd.R_drew)); exact HO300.out))) (Kd.R_lt (by (with_reducible repeat (first | apply Kd.R_alloc | apply Kd.R_drewN | apply Kd.R_drew)); exact HO311.out))) (below_size (by repeat (first | (with_reducible first | exact HB.out | apply below_alloc | apply pw_below_drewN | apply below_drew1 | refine below_set ?_ GE247.out | refine below_set ?_ GE283.out | refine below_set ?_ GE294.out | refine below_set ?_ GE305.out | refine below_set ?_ GE316.out) | exact HB.out))))
                             have n12_ := Aside0.mk (blk_below (g := gb247) (o := .cells #[.slice Ao54 x248000_5.length co54, .slice Ao55 x248001_5.length co55, .int .i64 x248002_5, .int .i64 x248003_5, .int .i64 x248004_5] 56 (0, 0)) (by (with_reducible repeat (first | refine blk_drewN ?_ _ | refine blk_drew ?_ | refine blk_alloc ?_ _)); exact BK247.out) hb)
                             have n13_ := Aside0.mk (blk_below (g := gb283) (o := .cells #[.slice Ao145 t273.length co145, .slice Ao148 t276.length co148, .int .i64 t279, .int .i64 t280, .int .i64 t281] 56 (0, 0)) (by (with_reducible repeat (first | refine blk_drewN ?_ _ | refine blk_drew ?_ | refine blk_alloc ?_ _)); exact BK283.out) hb)
                             have n14_ := Aside0.mk (blk_below (g := gb294) (o := .cells #[.slice Ao151 t284.length co151, .slice Ao155 t287.length co155, .int .i64 t290, .int .i64 t291, .int .i64 t292] 56 (0, 0)) (by (with_reducible repeat (first | refine blk_drewN ?_ _ | refine blk_drew ?_ | refine blk_alloc ?_ _)); exact BK294.out) hb)
                             have n15_ := Aside0.mk (blk_below (g := gb305) (o := .cells #[.slice Ao158 t295.length co158, .slice Ao163 t298.length co163, .int .i64 t301, .int .i64 t302, .int .i64 t303] 56 (0, 0)) (by (with_reducible repeat (first | refine blk_drewN ?_ _ | refine blk_drew ?_ | refine blk_alloc ?_ _)); exact BK305.out) hb)
                             have n16_ := Aside0.mk (blk_below (g := gb316) (o := .cells #[.slice Ao166 t306.length co166, .slice Ao172 t309.length co172, .int .i64 t312, .int .i64 t313, .int .i64 t314] 56 (0, 0)) (by (with_reducible repeat (first | refine blk_drewN ?_ _ | refine blk_drew ?_ | refine blk_alloc ?_ _)); exact BK316.out) hb)
                             have n17_ := Aside0.mk (below_step (by repeat (first | (with_reducible first | exact HB.out | apply below_alloc | apply pw_below_drewN | apply below_drew1 | refine below_set ?_ GE247.out | refine below_set ?_ GE283.out | refine below_set ?_ GE294.out | refine below_set ?_ GE305.out | refine below_set ?_ GE316.out) | exact HB.out)) hb)
                             clear HO_248000
                             clear HO_248001
                             clear HO275
                             clear HO278
                             clear HO286
                             clear HO289
                             clear HO297
                             clear HO300
                             clear HO308
                             clear HO311
                             clear BK247
                             clear BK283
                             clear BK294
                             clear BK305
                             clear BK316
                             clear HB
                             have HO_248000 := n0_
                             have HO_248001 := n1_
                             have HO275 := n2_
                             have HO278 := n3_
                             have HO286 := n4_
                             have HO289 := n5_
                             have HO297 := n6_
                             have HO300 := n7_
                             have HO308 := n8_
                             have HO311 := n9_
                             have HO319 := n10_
                             have HO322 := n11_
                             have BK247 := n12_
                             have BK283 := n13_
                             have BK294 := n14_
                             have BK305 := n15_
                             have BK316 := n16_
                             have HB := n17_
                             clear n0_ n1_ n2_ n3_ n4_ n5_ n6_ n7_ n8_ n9_ n10_ n11_ n12_ n13_ n14_ n15_ n16_ n17_
                             (try clear hb)
                             (try clear hb2)
                             (try clear hk)
                             (try clear hi)
                             (try clear ho0)
                             (try clear ho1)
                             refine hK.out _ _ trivial (fun hHeld => ?_)
                             clear hK K
                             refine norm_ (a' := ?_) ?_ ?_
                             rotate_left
                             ·
                              show Act.put _ (some 139) _ = _
                              simp only [Act.put, List.setIfInBounds_toArray, List.set_cons_zero, List.set_cons_succ, i64_w, i32_w]
                              rfl
                             refine pure_ (i := 7) (N := some 132) (v := ?_) (a' := ?_) #[true, true, true, true, true, true, true, true, false, false, false, false, false] rfl rfl (any_of HT_.out (by kernel_rfl)) (fun _ _ _ h => h) (Or.inl ⟨by rfl, ?_⟩) ?_ ?_
                             rotate_left
                             ·
                              intro w'
                              go_simp
                              with_reducible rfl
                             rotate_left
                             ·
                              simp only [Act.put, List.setIfInBounds_toArray, List.set_cons_zero, List.set_cons_succ, i64_w, i32_w]
                              rfl
                             refine pure_ (i := 8) (N := some 140) (v := ?_) (a' := ?_) #[true, true, true, true, true, true, true, true, true, false, false, false, false] rfl rfl (any_of HT_.out (by kernel_rfl)) (fun _ _ _ h => h) (Or.inl ⟨by rfl, ?_⟩) ?_ ?_
                             rotate_left
                             ·
                              intro w'
                              go_simp
                              with_reducible rfl
                             rotate_left
                             ·
                              simp only [Act.put, List.setIfInBounds_toArray, List.set_cons_zero, List.set_cons_succ, i64_w, i32_w]
                              rfl
                             refine pure_ (i := 9) (N := some 141) (v := ?_) (a' := ?_) #[true, true, true, true, true, true, true, true, true, true, false, false, false] rfl rfl (any_of HT_.out (by kernel_rfl)) (fun _ _ _ h => h) (Or.inl ⟨by rfl, ?_⟩) ?_ ?_
                             rotate_left
                             ·
                              intro w'
                              go_simp
                              with_reducible rfl
                             rotate_left
                             ·
                              simp only [Act.put, List.setIfInBounds_toArray, List.set_cons_zero, List.set_cons_succ, i64_w, i32_w]
                              rfl
                             refine one_ (i := 10) (N := some 19) #[true, true, true, true, true, true, true, true, true, true, true, false, false] rfl rfl (one_of HT_.out (by kernel_rfl)) (by decide) (fun K hK => ?_)
                             refine box_step ?hg (N := 19) ?hd (cs := #[.slice none 0 0, .slice none 0 0, .int .i64 0, .int .i64 0, .int .i64 0]) (t := 56) ?hr ?_; (case hd => rfl); (case hg => rfl); (case hr => first | (go_simp; done) | (go_simp; rfl))
                             intro gb327 hg w176 hbox hb
                             have n0_ := Aside0.mk (Kd.R_below (by (with_reducible repeat (first | apply Kd.R_alloc | apply Kd.R_drewN | apply Kd.R_drew)); exact HO_248000.out) hb)
                             have n1_ := Aside0.mk (Kd.Q_below (by (with_reducible repeat (first | apply Kd.Q_alloc | apply Kd.Q_drewN | apply Kd.Q_drew)); exact HO_248001.out) hb)
                             have n2_ := Aside0.mk (Kd.V_below (Kd.V_elderB (by (with_reducible repeat (first | apply Kd.V_alloc | apply Kd.V_drewN | apply Kd.V_drew)); exact HO275.out) gb327 (Nat.le_of_eq hg.symm)) hb)
                             have n3_ := Aside0.mk (Kd.R_below (by (with_reducible repeat (first | apply Kd.R_alloc | apply Kd.R_drewN | apply Kd.R_drew)); exact HO278.out) hb)
                             have n4_ := Aside0.mk (Kd.V_below (Kd.V_elderB (by (with_reducible repeat (first | apply Kd.V_alloc | apply Kd.V_drewN | apply Kd.V_drew)); exact HO286.out) gb327 (Nat.le_of_eq hg.symm)) hb)
                             have n5_ := Aside0.mk (Kd.R_below (by (with_reducible repeat (first | apply Kd.R_alloc | apply Kd.R_drewN | apply Kd.R_drew)); exact HO289.out) hb)
                             have n6_ := Aside0.mk (Kd.V_below (Kd.V_elderB (by (with_reducible repeat (first | apply Kd.V_alloc | apply Kd.V_drewN | apply Kd.V_drew)); exact HO297.out) gb327 (Nat.le_of_eq hg.symm)) hb)
                             have n7_ := Aside0.mk (Kd.R_below (by (with_reducible repeat (first | apply Kd.R_alloc | apply Kd.R_drewN | apply Kd.R_drew)); exact HO300.out) hb)
                             have n8_ := Aside0.mk (Kd.V_below (Kd.V_elderB (by (with_reducible repeat (first | apply Kd.V_alloc | apply Kd.V_drewN | apply Kd.V_drew)); exact HO308.out) gb327 (Nat.le_of_eq hg.symm)) hb)
                             have n9_ := Aside0.mk (Kd.R_below (by (with_reducible repeat (first | apply Kd.R_alloc | apply Kd.R_drewN | apply Kd.R_drew)); exact HO311.out) hb)
                             have n10_ := Aside0.mk (Kd.V_below (Kd.V_elderB (by (with_reducible repeat (first | apply Kd.V_alloc | apply Kd.V_drewN | apply Kd.V_drew)); exact HO319.out) gb327 (Nat.le_of_eq hg.symm)) hb)
                             have n11_ := Aside0.mk (Kd.R_below (by (with_reducible repeat (first | apply Kd.R_alloc | apply Kd.R_drewN | apply Kd.R_drew)); exact HO322.out) hb)
                             have n12_ := Aside0.mk (blk_below (g := gb247) (o := .cells #[.slice Ao54 x248000_5.length co54, .slice Ao55 x248001_5.length co55, .int .i64 x248002_5, .int .i64 x248003_5, .int .i64 x248004_5] 56 (0, 0)) (by (with_reducible repeat (first | refine blk_drewN ?_ _ | refine blk_drew ?_ | refine blk_alloc ?_ _)); exact BK247.out) hb)
                             have n13_ := Aside0.mk (blk_below (g := gb283) (o := .cells #[.slice Ao145 t273.length co145, .slice Ao148 t276.length co148, .int .i64 t279, .int .i64 t280, .int .i64 t281] 56 (0, 0)) (by (with_reducible repeat (first | refine blk_drewN ?_ _ | refine blk_drew ?_ | refine blk_alloc ?_ _)); exact BK283.out) hb)
                             have n14_ := Aside0.mk (blk_below (g := gb294) (o := .cells #[.slice Ao151 t284.length co151, .slice Ao155 t287.length co155, .int .i64 t290, .int .i64 t291, .int .i64 t292] 56 (0, 0)) (by (with_reducible repeat (first | refine blk_drewN ?_ _ | refine blk_drew ?_ | refine blk_alloc ?_ _)); exact BK294.out) hb)
                             have n15_ := Aside0.mk (blk_below (g := gb305) (o := .cells #[.slice Ao158 t295.length co158, .slice Ao163 t298.length co163, .int .i64 t301, .int .i64 t302, .int .i64 t303] 56 (0, 0)) (by (with_reducible repeat (first | refine blk_drewN ?_ _ | refine blk_drew ?_ | refine blk_alloc ?_ _)); exact BK305.out) hb)
                             have n16_ := Aside0.mk (blk_below (g := gb316) (o := .cells #[.slice Ao166 t306.length co166, .slice Ao172 t309.length co172, .int .i64 t312, .int .i64 t313, .int .i64 t314] 56 (0, 0)) (by (with_reducible repeat (first | refine blk_drewN ?_ _ | refine blk_drew ?_ | refine blk_alloc ?_ _)); exact BK316.out) hb)
                             have n17_ := Aside0.mk (below_step (by repeat (first | (with_reducible first | exact HB.out | apply below_alloc | apply pw_below_drewN | apply below_drew1 | refine below_set ?_ GE247.out | refine below_set ?_ GE283.out | refine below_set ?_ GE294.out | refine below_set ?_ GE305.out | refine below_set ?_ GE316.out) | exact HB.out)) hb)
                             have n18_ := Aside0.mk (hbox)
                             have n19_ := Aside0.mk ((by rw [hg]; exact (below_size (by repeat (first | (with_reducible first | exact HB.out | apply below_alloc | apply pw_below_drewN | apply below_drew1 | refine below_set ?_ GE247.out | refine below_set ?_ GE283.out | refine below_set ?_ GE294.out | refine below_set ?_ GE305.out | refine below_set ?_ GE316.out) | exact HB.out))) : w.heap.size ≤ gb327))
                             have n20_ := Aside0.mk ((by rw [hg]; exact (below_size (by repeat (first | (with_reducible first | exact HB.out | apply below_alloc | apply pw_below_drewN | apply below_drew1 | refine below_set ?_ GE247.out | refine below_set ?_ GE283.out | refine below_set ?_ GE294.out | refine below_set ?_ GE305.out | refine below_set ?_ GE316.out) | exact HB.out))) : w.heap.size ≤ gb327))
                             have n21_ := Aside0.mk ((by rw [hg]; exact Nat.ne_of_lt (blk_lt (g := gb247) (o := .cells #[.slice Ao54 x248000_5.length co54, .slice Ao55 x248001_5.length co55, .int .i64 x248002_5, .int .i64 x248003_5, .int .i64 x248004_5] 56 (0, 0)) (by (with_reducible repeat (first | refine blk_drewN ?_ _ | refine blk_drew ?_ | refine blk_alloc ?_ _)); exact BK247.out)) : gb247 ≠ gb327))
                             have n22_ := Aside0.mk ((by rw [hg]; exact Nat.ne_of_gt (blk_lt (g := gb247) (o := .cells #[.slice Ao54 x248000_5.length co54, .slice Ao55 x248001_5.length co55, .int .i64 x248002_5, .int .i64 x248003_5, .int .i64 x248004_5] 56 (0, 0)) (by (with_reducible repeat (first | refine blk_drewN ?_ _ | refine blk_drew ?_ | refine blk_alloc ?_ _)); exact BK247.out)) : gb327 ≠ gb247))
                             have n23_ := Aside0.mk ((by rw [hg]; exact Nat.ne_of_lt (blk_lt (g := gb283) (o := .cells #[.slice Ao145 t273.length co145, .slice Ao148 t276.length co148, .int .i64 t279, .int .i64 t280, .int .i64 t281] 56 (0, 0)) (by (with_reducible repeat (first | refine blk_drewN ?_ _ | refine blk_drew ?_ | refine blk_alloc ?_ _)); exact BK283.out)) : gb283 ≠ gb327))
                             have n24_ := Aside0.mk ((by rw [hg]; exact Nat.ne_of_gt (blk_lt (g := gb283) (o := .cells #[.slice Ao145 t273.length co145, .slice Ao148 t276.length co148, .int .i64 t279, .int .i64 t280, .int .i64 t281] 56 (0, 0)) (by (with_reducible repeat (first | refine blk_drewN ?_ _ | refine blk_drew ?_ | refine blk_alloc ?_ _)); exact BK283.out)) : gb327 ≠ gb283))
                             have n25_ := Aside0.mk ((by rw [hg]; exact Nat.ne_of_lt (blk_lt (g := gb294) (o := .cells #[.slice Ao151 t284.length co151, .slice Ao155 t287.length co155, .int .i64 t290, .int .i64 t291, .int .i64 t292] 56 (0, 0)) (by (with_reducible repeat (first | refine blk_drewN ?_ _ | refine blk_drew ?_ | refine blk_alloc ?_ _)); exact BK294.out)) : gb294 ≠ gb327))
                             have n26_ := Aside0.mk ((by rw [hg]; exact Nat.ne_of_gt (blk_lt (g := gb294) (o := .cells #[.slice Ao151 t284.length co151, .slice Ao155 t287.length co155, .int .i64 t290, .int .i64 t291, .int .i64 t292] 56 (0, 0)) (by (with_reducible repeat (first | refine blk_drewN ?_ _ | refine blk_drew ?_ | refine blk_alloc ?_ _)); exact BK294.out)) : gb327 ≠ gb294))
                             have n27_ := Aside0.mk ((by rw [hg]; exact Nat.ne_of_lt (blk_lt (g := gb305) (o := .cells #[.slice Ao158 t295.length co158, .slice Ao163 t298.length co163, .int .i64 t301, .int .i64 t302, .int .i64 t303] 56 (0, 0)) (by (with_reducible repeat (first | refine blk_drewN ?_ _ | refine blk_drew ?_ | refine blk_alloc ?_ _)); exact BK305.out)) : gb305 ≠ gb327))
                             have n28_ := Aside0.mk ((by rw [hg]; exact Nat.ne_of_gt (blk_lt (g := gb305) (o := .cells #[.slice Ao158 t295.length co158, .slice Ao163 t298.length co163, .int .i64 t301, .int .i64 t302, .int .i64 t303] 56 (0, 0)) (by (with_reducible repeat (first | refine blk_drewN ?_ _ | refine blk_drew ?_ | refine blk_alloc ?_ _)); exact BK305.out)) : gb327 ≠ gb305))
                             have n29_ := Aside0.mk ((by rw [hg]; exact Nat.ne_of_lt (blk_lt (g := gb316) (o := .cells #[.slice Ao166 t306.length co166, .slice Ao172 t309.length co172, .int .i64 t312, .int .i64 t313, .int .i64 t314] 56 (0, 0)) (by (with_reducible repeat (first | refine blk_drewN ?_ _ | refine blk_drew ?_ | refine blk_alloc ?_ _)); exact BK316.out)) : gb316 ≠ gb327))
                             have n30_ := Aside0.mk ((by rw [hg]; exact Nat.ne_of_gt (blk_lt (g := gb316) (o := .cells #[.slice Ao166 t306.length co166, .slice Ao172 t309.length co172, .int .i64 t312, .int .i64 t313, .int .i64 t314] 56 (0, 0)) (by (with_reducible repeat (first | refine blk_drewN ?_ _ | refine blk_drew ?_ | refine blk_alloc ?_ _)); exact BK316.out)) : gb327 ≠ gb316))
                             clear HO_248000
                             clear HO_248001
                             clear HO275
                             clear HO278
                             clear HO286
                             clear HO289
                             clear HO297
                             clear HO300
                             clear HO308
                             clear HO311
                             clear HO319
                             clear HO322
                             clear BK247
                             clear BK283
                             clear BK294
                             clear BK305
                             clear BK316
                             clear HB
                             have HO_248000 := n0_
                             have HO_248001 := n1_
                             have HO275 := n2_
                             have HO278 := n3_
                             have HO286 := n4_
                             have HO289 := n5_
                             have HO297 := n6_
                             have HO300 := n7_
                             have HO308 := n8_
                             have HO311 := n9_
                             have HO319 := n10_
                             have HO322 := n11_
                             have BK247 := n12_
                             have BK283 := n13_
                             have BK294 := n14_
                             have BK305 := n15_
                             have BK316 := n16_
                             have HB := n17_
                             have BK327 := n18_
                             have GW327 := n19_
                             have GE327 := n20_
                             have NB247_327 := n21_
                             have NB327_247 := n22_
                             have NB283_327 := n23_
                             have NB327_283 := n24_
                             have NB294_327 := n25_
                             have NB327_294 := n26_
                             have NB305_327 := n27_
                             have NB327_305 := n28_
                             have NB316_327 := n29_
                             have NB327_316 := n30_
                             clear n0_ n1_ n2_ n3_ n4_ n5_ n6_ n7_ n8_ n9_ n10_ n11_ n12_ n13_ n14_ n15_ n16_ n17_ n18_ n19_ n20_ n21_ n22_ n23_ n24_ n25_ n26_ n27_ n28_ n29_ n30_
                             clear hb hbox hg
                             refine hK.out _ _ trivial (fun hHeld => ?_)
                             clear hK K
                             refine norm_ (a' := ?_) ?_ ?_
                             rotate_left
                             ·
                              show Act.put _ (some 19) _ = _
                              simp only [Act.put, List.setIfInBounds_toArray, List.set_cons_zero, List.set_cons_succ, i64_w, i32_w]
                              rfl
                             exact norm_ (by simp only [putAll, Act.put, List.setIfInBounds_toArray, List.set_cons_zero, List.set_cons_succ]) (hCont (v318, v321, gb327) _ ⟨(by (with_reducible repeat (first | apply Kd.V_alloc | apply Kd.V_drewN | apply Kd.V_drew)); exact Kd.V_mono HO275.out (fun _ hk => ⟨hk.1.1.2.2.1, ⟨hk.1.1.2.2.2.1, ⟨hk.1.1.2.2.2.2.1, ⟨hk.1.1.2.2.2.2.2.1, ⟨hk.1.2, ⟨hk.1.1.1, ⟨hk.1.1.2.1, ⟨hk.1.1.2.2.2.2.2.2.1, ⟨hk.1.1.2.2.2.2.2.2.2.1, ⟨hk.1.1.2.2.2.2.2.2.2.2.1, ⟨hk.1.1.2.2.2.2.2.2.2.2.2.1, ⟨hk.1.1.2.2.2.2.2.2.2.2.2.2, hk.2⟩⟩⟩⟩⟩⟩⟩⟩⟩⟩⟩⟩)), (by (with_reducible repeat (first | apply Kd.R_alloc | apply Kd.R_drewN | apply Kd.R_drew)); exact Kd.R_mono HO278.out (fun _ hk => ⟨hk.1.2.2.1, ⟨hk.1.2.2.2.1, ⟨hk.1.2.2.2.2, ⟨hk.2, ⟨hk.1.1, hk.1.2.1⟩⟩⟩⟩⟩)), (by (with_reducible repeat (first | apply Kd.V_alloc | apply Kd.V_drewN | apply Kd.V_drew)); exact Kd.V_mono HO286.out (fun _ hk => ⟨hk.1.1.2.2.1, ⟨hk.1.1.2.2.2.1, ⟨hk.1.1.2.2.2.2.1, ⟨hk.1.1.2.2.2.2.2.1, ⟨hk.1.2, ⟨hk.1.1.1, ⟨hk.1.1.2.1, ⟨hk.1.1.2.2.2.2.2.2.1, ⟨hk.1.1.2.2.2.2.2.2.2.1, ⟨hk.1.1.2.2.2.2.2.2.2.2.1, ⟨hk.1.1.2.2.2.2.2.2.2.2.2.1, ⟨hk.1.1.2.2.2.2.2.2.2.2.2.2, hk.2⟩⟩⟩⟩⟩⟩⟩⟩⟩⟩⟩⟩)), (by (with_reducible repeat (first | apply Kd.R_alloc | apply Kd.R_drewN | apply Kd.R_drew)); exact Kd.R_mono HO289.out (fun _ hk => ⟨hk.1.2.2.1, ⟨hk.1.2.2.2.1, ⟨hk.1.2.2.2.2, ⟨hk.2, ⟨hk.1.1, hk.1.2.1⟩⟩⟩⟩⟩)), (by (with_reducible repeat (first | apply Kd.V_alloc | apply Kd.V_drewN | apply Kd.V_drew)); exact Kd.V_mono HO297.out (fun _ hk => ⟨hk.1.1.2.2.1, ⟨hk.1.1.2.2.2.1, ⟨hk.1.1.2.2.2.2.1, ⟨hk.1.1.2.2.2.2.2.1, ⟨hk.1.2, ⟨hk.1.1.1, ⟨hk.1.1.2.1, ⟨hk.1.1.2.2.2.2.2.2.1, ⟨hk.1.1.2.2.2.2.2.2.2.1, ⟨hk.1.1.2.2.2.2.2.2.2.2.1, ⟨hk.1.1.2.2.2.2.2.2.2.2.2.1, ⟨hk.1.1.2.2.2.2.2.2.2.2.2.2, hk.2⟩⟩⟩⟩⟩⟩⟩⟩⟩⟩⟩⟩)), (by (with_reducible repeat (first | apply Kd.R_alloc | apply Kd.R_drewN | apply Kd.R_drew)); exact Kd.R_mono HO300.out (fun _ hk => ⟨hk.1.2.2.1, ⟨hk.1.2.2.2.1, ⟨hk.1.2.2.2.2, ⟨hk.2, ⟨hk.1.1, hk.1.2.1⟩⟩⟩⟩⟩)), (by (with_reducible repeat (first | apply Kd.V_alloc | apply Kd.V_drewN | apply Kd.V_drew)); exact Kd.V_mono HO308.out (fun _ hk => ⟨hk.1.1.2.2.1, ⟨hk.1.1.2.2.2.1, ⟨hk.1.1.2.2.2.2.1, ⟨hk.1.1.2.2.2.2.2.1, ⟨hk.1.2, ⟨hk.1.1.1, ⟨hk.1.1.2.1, ⟨hk.1.1.2.2.2.2.2.2.1, ⟨hk.1.1.2.2.2.2.2.2.2.1, ⟨hk.1.1.2.2.2.2.2.2.2.2.1, ⟨hk.1.1.2.2.2.2.2.2.2.2.2.1, ⟨hk.1.1.2.2.2.2.2.2.2.2.2.2, hk.2⟩⟩⟩⟩⟩⟩⟩⟩⟩⟩⟩⟩)), (by (with_reducible repeat (first | apply Kd.R_alloc | apply Kd.R_drewN | apply Kd.R_drew)); exact Kd.R_mono HO311.out (fun _ hk => ⟨hk.1.2.2.1, ⟨hk.1.2.2.2.1, ⟨hk.1.2.2.2.2, ⟨hk.2, ⟨hk.1.1, hk.1.2.1⟩⟩⟩⟩⟩)), (by (with_reducible repeat (first | apply Kd.V_alloc | apply Kd.V_drewN | apply Kd.V_drew)); exact Kd.V_mono HO319.out (fun _ hk => ⟨hk.1.2.2.2.1, ⟨hk.1.2.2.2.2.1, ⟨hk.1.2.2.2.2.2.1, ⟨hk.1.2.2.2.2.2.2.1, ⟨hk.1.1, ⟨hk.1.2.1, ⟨hk.1.2.2.1, ⟨hk.1.2.2.2.2.2.2.2.1, ⟨hk.1.2.2.2.2.2.2.2.2.1, ⟨hk.1.2.2.2.2.2.2.2.2.2.1, ⟨hk.1.2.2.2.2.2.2.2.2.2.2.1, ⟨hk.1.2.2.2.2.2.2.2.2.2.2.2, hk.2⟩⟩⟩⟩⟩⟩⟩⟩⟩⟩⟩⟩)), (by (with_reducible repeat (first | apply Kd.R_alloc | apply Kd.R_drewN | apply Kd.R_drew)); exact Kd.R_mono HO322.out (fun _ hk => ⟨hk.1.1.1.2, ⟨hk.1.1.2, ⟨hk.1.2, ⟨hk.2, ⟨hk.1.1.1.1.1.2, hk.1.1.1.1.2⟩⟩⟩⟩⟩)), (by (with_reducible repeat (first | apply Kd.R_alloc | apply Kd.R_drewN | apply Kd.R_drew)); exact Kd.R_mono HO_248000.out (fun _ hk => ⟨hk.1.2.1, ⟨hk.1.2.2.1, ⟨hk.1.2.2.2.1, ⟨hk.1.2.2.2.2, ⟨hk.2, hk.1.1⟩⟩⟩⟩⟩)), (by (with_reducible repeat (first | apply Kd.Q_alloc | apply Kd.Q_drewN | apply Kd.Q_drew)); exact Kd.Q_mono HO_248001.out (fun _ hk => ⟨hk.1.2.1, ⟨hk.1.2.2.1, ⟨hk.1.2.2.2.1, ⟨hk.1.2.2.2.2, ⟨hk.2, hk.1.1⟩⟩⟩⟩⟩)), (by (with_reducible repeat (first | refine blk_drewN ?_ _ | refine blk_drew ?_ | refine blk_alloc ?_ _)); exact BK247.out), (by (with_reducible repeat (first | refine blk_drewN ?_ _ | refine blk_drew ?_ | refine blk_alloc ?_ _)); exact BK283.out), (by (with_reducible repeat (first | refine blk_drewN ?_ _ | refine blk_drew ?_ | refine blk_alloc ?_ _)); exact BK294.out), (by (with_reducible repeat (first | refine blk_drewN ?_ _ | refine blk_drew ?_ | refine blk_alloc ?_ _)); exact BK305.out), (by (with_reducible repeat (first | refine blk_drewN ?_ _ | refine blk_drew ?_ | refine blk_alloc ?_ _)); exact BK316.out), (by (with_reducible repeat (first | refine blk_drewN ?_ _ | refine blk_drew ?_ | refine blk_alloc ?_ _)); exact BK327.out), GW327.out, GE327.out, NB247_327.out, NB327_247.out, NB283_327.out, NB327_283.out, NB294_327.out, NB327_294.out, NB305_327.out, NB327_305.out, NB316_327.out, NB327_316.out, (by repeat (first | (with_reducible first | exact HB.out | apply below_alloc | apply pw_below_drewN | apply below_drew1 | refine below_set ?_ GE247.out | refine below_set ?_ GE283.out | refine below_set ?_ GE294.out | refine below_set ?_ GE305.out | refine below_set ?_ GE316.out | refine below_set ?_ GE327.out) | exact HB.out))⟩)
                            ·
                             skip
                             refine box_step ?hg (N := 19) ?hd (cs := #[.slice none 0 0, .slice none 0 0, .int .i64 0, .int .i64 0, .int .i64 0]) (t := 56) ?hr ?_; (case hd => rfl); (case hg => rfl); (case hr => first | (go_simp; done) | (go_simp; rfl))
                             intro gb327 hg w175 hbox hb
                             have n0_ := Aside0.mk (Kd.R_below (by (with_reducible repeat (first | apply Kd.R_alloc | apply Kd.R_drewN | apply Kd.R_drew)); exact HO_248000.out) hb)
                             have n1_ := Aside0.mk (Kd.Q_below (by (with_reducible repeat (first | apply Kd.Q_alloc | apply Kd.Q_drewN | apply Kd.Q_drew)); exact HO_248001.out) hb)
                             have n2_ := Aside0.mk (Kd.V_below (Kd.V_elderB (by (with_reducible repeat (first | apply Kd.V_alloc | apply Kd.V_drewN | apply Kd.V_drew)); exact HO275.out) gb327 (Nat.le_of_eq hg.symm)) hb)
                             have n3_ := Aside0.mk (Kd.R_below (by (with_reducible repeat (first | apply Kd.R_alloc | apply Kd.R_drewN | apply Kd.R_drew)); exact HO278.out) hb)
                             have n4_ := Aside0.mk (Kd.V_below (Kd.V_elderB (by (with_reducible repeat (first | apply Kd.V_alloc | apply Kd.V_drewN | apply Kd.V_drew)); exact HO286.out) gb327 (Nat.le_of_eq hg.symm)) hb)
                             have n5_ := Aside0.mk (Kd.R_below (by (with_reducible repeat (first | apply Kd.R_alloc | apply Kd.R_drewN | apply Kd.R_drew)); exact HO289.out) hb)
                             have n6_ := Aside0.mk (Kd.V_below (Kd.V_elderB (by (with_reducible repeat (first | apply Kd.V_alloc | apply Kd.V_drewN | apply Kd.V_drew)); exact HO297.out) gb327 (Nat.le_of_eq hg.symm)) hb)
                             have n7_ := Aside0.mk (Kd.R_below (by (with_reducible repeat (first | apply Kd.R_alloc | apply Kd.R_drewN | apply Kd.R_drew)); exact HO300.out) hb)
                             have n8_ := Aside0.mk (Kd.V_below (Kd.V_elderB (by (with_reducible repeat (first | apply Kd.V_alloc | apply Kd.V_drewN | apply Kd.V_drew)); exact HO308.out) gb327 (Nat.le_of_eq hg.symm)) hb)
                             have n9_ := Aside0.mk (Kd.R_below (by (with_reducible repeat (first | apply Kd.R_alloc | apply Kd.R_drewN | apply Kd.R_drew)); exact HO311.out) hb)
                             have n10_ := Aside0.mk (blk_below (g := gb247) (o := .cells #[.slice Ao54 x248000_5.length co54, .slice Ao55 x248001_5.length co55, .int .i64 x248002_5, .int .i64 x248003_5, .int .i64 x248004_5] 56 (0, 0)) (by (with_reducible repeat (first | refine blk_drewN ?_ _ | refine blk_drew ?_ | refine blk_alloc ?_ _)); exact BK247.out) hb)
                             have n11_ := Aside0.mk (blk_below (g := gb283) (o := .cells #[.slice Ao145 t273.length co145, .slice Ao148 t276.length co148, .int .i64 t279, .int .i64 t280, .int .i64 t281] 56 (0, 0)) (by (with_reducible repeat (first | refine blk_drewN ?_ _ | refine blk_drew ?_ | refine blk_alloc ?_ _)); exact BK283.out) hb)
                             have n12_ := Aside0.mk (blk_below (g := gb294) (o := .cells #[.slice Ao151 t284.length co151, .slice Ao155 t287.length co155, .int .i64 t290, .int .i64 t291, .int .i64 t292] 56 (0, 0)) (by (with_reducible repeat (first | refine blk_drewN ?_ _ | refine blk_drew ?_ | refine blk_alloc ?_ _)); exact BK294.out) hb)
                             have n13_ := Aside0.mk (blk_below (g := gb305) (o := .cells #[.slice Ao158 t295.length co158, .slice Ao163 t298.length co163, .int .i64 t301, .int .i64 t302, .int .i64 t303] 56 (0, 0)) (by (with_reducible repeat (first | refine blk_drewN ?_ _ | refine blk_drew ?_ | refine blk_alloc ?_ _)); exact BK305.out) hb)
                             have n14_ := Aside0.mk (blk_below (g := gb316) (o := .cells #[.slice Ao166 t306.length co166, .slice Ao172 t309.length co172, .int .i64 t312, .int .i64 t313, .int .i64 t314] 56 (0, 0)) (by (with_reducible repeat (first | refine blk_drewN ?_ _ | refine blk_drew ?_ | refine blk_alloc ?_ _)); exact BK316.out) hb)
                             have n15_ := Aside0.mk (below_step (by repeat (first | (with_reducible first | exact HB.out | apply below_alloc | apply pw_below_drewN | apply below_drew1 | refine below_set ?_ GE247.out | refine below_set ?_ GE283.out | refine below_set ?_ GE294.out | refine below_set ?_ GE305.out | refine below_set ?_ GE316.out) | exact HB.out)) hb)
                             have n16_ := Aside0.mk (hbox)
                             have n17_ := Aside0.mk ((by rw [hg]; exact (below_size (by repeat (first | (with_reducible first | exact HB.out | apply below_alloc | apply pw_below_drewN | apply below_drew1 | refine below_set ?_ GE247.out | refine below_set ?_ GE283.out | refine below_set ?_ GE294.out | refine below_set ?_ GE305.out | refine below_set ?_ GE316.out) | exact HB.out))) : w.heap.size ≤ gb327))
                             have n18_ := Aside0.mk ((by rw [hg]; exact (below_size (by repeat (first | (with_reducible first | exact HB.out | apply below_alloc | apply pw_below_drewN | apply below_drew1 | refine below_set ?_ GE247.out | refine below_set ?_ GE283.out | refine below_set ?_ GE294.out | refine below_set ?_ GE305.out | refine below_set ?_ GE316.out) | exact HB.out))) : w.heap.size ≤ gb327))
                             have n19_ := Aside0.mk ((by rw [hg]; exact Nat.ne_of_lt (blk_lt (g := gb247) (o := .cells #[.slice Ao54 x248000_5.length co54, .slice Ao55 x248001_5.length co55, .int .i64 x248002_5, .int .i64 x248003_5, .int .i64 x248004_5] 56 (0, 0)) (by (with_reducible repeat (first | refine blk_drewN ?_ _ | refine blk_drew ?_ | refine blk_alloc ?_ _)); exact BK247.out)) : gb247 ≠ gb327))
                             have n20_ := Aside0.mk ((by rw [hg]; exact Nat.ne_of_gt (blk_lt (g := gb247) (o := .cells #[.slice Ao54 x248000_5.length co54, .slice Ao55 x248001_5.length co55, .int .i64 x248002_5, .int .i64 x248003_5, .int .i64 x248004_5] 56 (0, 0)) (by (with_reducible repeat (first | refine blk_drewN ?_ _ | refine blk_drew ?_ | refine blk_alloc ?_ _)); exact BK247.out)) : gb327 ≠ gb247))
                             have n21_ := Aside0.mk ((by rw [hg]; exact Nat.ne_of_lt (blk_lt (g := gb283) (o := .cells #[.slice Ao145 t273.length co145, .slice Ao148 t276.length co148, .int .i64 t279, .int .i64 t280, .int .i64 t281] 56 (0, 0)) (by (with_reducible repeat (first | refine blk_drewN ?_ _ | refine blk_drew ?_ | refine blk_alloc ?_ _)); exact BK283.out)) : gb283 ≠ gb327))
                             have n22_ := Aside0.mk ((by rw [hg]; exact Nat.ne_of_gt (blk_lt (g := gb283) (o := .cells #[.slice Ao145 t273.length co145, .slice Ao148 t276.length co148, .int .i64 t279, .int .i64 t280, .int .i64 t281] 56 (0, 0)) (by (with_reducible repeat (first | refine blk_drewN ?_ _ | refine blk_drew ?_ | refine blk_alloc ?_ _)); exact BK283.out)) : gb327 ≠ gb283))
                             have n23_ := Aside0.mk ((by rw [hg]; exact Nat.ne_of_lt (blk_lt (g := gb294) (o := .cells #[.slice Ao151 t284.length co151, .slice Ao155 t287.length co155, .int .i64 t290, .int .i64 t291, .int .i64 t292] 56 (0, 0)) (by (with_reducible repeat (first | refine blk_drewN ?_ _ | refine blk_drew ?_ | refine blk_alloc ?_ _)); exact BK294.out)) : gb294 ≠ gb327))
                             have n24_ := Aside0.mk ((by rw [hg]; exact Nat.ne_of_gt (blk_lt (g := gb294) (o := .cells #[.slice Ao151 t284.length co151, .slice Ao155 t287.length co155, .int .i64 t290, .int .i64 t291, .int .i64 t292] 56 (0, 0)) (by (with_reducible repeat (first | refine blk_drewN ?_ _ | refine blk_drew ?_ | refine blk_alloc ?_ _)); exact BK294.out)) : gb327 ≠ gb294))
                             have n25_ := Aside0.mk ((by rw [hg]; exact Nat.ne_of_lt (blk_lt (g := gb305) (o := .cells #[.slice Ao158 t295.length co158, .slice Ao163 t298.length co163, .int .i64 t301, .int .i64 t302, .int .i64 t303] 56 (0, 0)) (by (with_reducible repeat (first | refine blk_drewN ?_ _ | refine blk_drew ?_ | refine blk_alloc ?_ _)); exact BK305.out)) : gb305 ≠ gb327))
                             have n26_ := Aside0.mk ((by rw [hg]; exact Nat.ne_of_gt (blk_lt (g := gb305) (o := .cells #[.slice Ao158 t295.length co158, .slice Ao163 t298.length co163, .int .i64 t301, .int .i64 t302, .int .i64 t303] 56 (0, 0)) (by (with_reducible repeat (first | refine blk_drewN ?_ _ | refine blk_drew ?_ | refine blk_alloc ?_ _)); exact BK305.out)) : gb327 ≠ gb305))
                             have n27_ := Aside0.mk ((by rw [hg]; exact Nat.ne_of_lt (blk_lt (g := gb316) (o := .cells #[.slice Ao166 t306.length co166, .slice Ao172 t309.length co172, .int .i64 t312, .int .i64 t313, .int .i64 t314] 56 (0, 0)) (by (with_reducible repeat (first | refine blk_drewN ?_ _ | refine blk_drew ?_ | refine blk_alloc ?_ _)); exact BK316.out)) : gb316 ≠ gb327))
                             have n28_ := Aside0.mk ((by rw [hg]; exact Nat.ne_of_gt (blk_lt (g := gb316) (o := .cells #[.slice Ao166 t306.length co166, .slice Ao172 t309.length co172, .int .i64 t312, .int .i64 t313, .int .i64 t314] 56 (0, 0)) (by (with_reducible repeat (first | refine blk_drewN ?_ _ | refine blk_drew ?_ | refine blk_alloc ?_ _)); exact BK316.out)) : gb327 ≠ gb316))
                             clear HO_248000
                             clear HO_248001
                             clear HO275
                             clear HO278
                             clear HO286
                             clear HO289
                             clear HO297
                             clear HO300
                             clear HO308
                             clear HO311
                             clear BK247
                             clear BK283
                             clear BK294
                             clear BK305
                             clear BK316
                             clear HB
                             have HO_248000 := n0_
                             have HO_248001 := n1_
                             have HO275 := n2_
                             have HO278 := n3_
                             have HO286 := n4_
                             have HO289 := n5_
                             have HO297 := n6_
                             have HO300 := n7_
                             have HO308 := n8_
                             have HO311 := n9_
                             have BK247 := n10_
                             have BK283 := n11_
                             have BK294 := n12_
                             have BK305 := n13_
                             have BK316 := n14_
                             have HB := n15_
                             have BK327 := n16_
                             have GW327 := n17_
                             have GE327 := n18_
                             have NB247_327 := n19_
                             have NB327_247 := n20_
                             have NB283_327 := n21_
                             have NB327_283 := n22_
                             have NB294_327 := n23_
                             have NB327_294 := n24_
                             have NB305_327 := n25_
                             have NB327_305 := n26_
                             have NB316_327 := n27_
                             have NB327_316 := n28_
                             clear n0_ n1_ n2_ n3_ n4_ n5_ n6_ n7_ n8_ n9_ n10_ n11_ n12_ n13_ n14_ n15_ n16_ n17_ n18_ n19_ n20_ n21_ n22_ n23_ n24_ n25_ n26_ n27_ n28_
                             clear hb hbox hg
                             refine hK.out _ _ trivial (fun hHeld => ?_)
                             clear hK K
                             refine norm_ (a' := ?_) ?_ ?_
                             rotate_left
                             ·
                              show Act.put _ (some 19) _ = _
                              simp only [Act.put, List.setIfInBounds_toArray, List.set_cons_zero, List.set_cons_succ, i64_w, i32_w]
                              rfl
                             refine one_ (i := 6) (N := some 139) #[true, true, true, true, true, true, true, false, false, false, true, false, false] rfl rfl (one_of HT_.out (by kernel_rfl)) (by decide) (fun K hK => ?_)
                             refine goes_ Try.func41 (by kernel_rfl) rfl #[.string (((t270.extract 0 4) ++ (⟨#[127]⟩ : ByteArray)) ++ (t270.extract 5 t270.size))] (by rfl) rfl rfl (by (try simp only [List.map_toArray, List.map_cons, List.map_nil]); first | done | rfl | (simp only [List.length_drop, List.length_take]; rfl)) ?_
                             with_reducible refine (check_Get.calls kj51 (((t270.extract 0 4) ++ (⟨#[127]⟩ : ByteArray)) ++ (t270.extract 5 t270.size)) t317 t320 t323 t324 t325 t326 _ A82.out).mono ?_
                             rintro e w176 ⟨v318, v321, rfl, ho0, ho1, hb⟩
                             refine ⟨_, rfl, ?_⟩
                             have n0_ := Aside0.mk (Kd.R_elder' (by (with_reducible repeat (first | apply Kd.R_alloc | apply Kd.R_drewN | apply Kd.R_drew)); exact HO_248000.out) (Kd.R_base ho1) hb)
                             have n1_ := Aside0.mk (Kd.Q_elder' (by (with_reducible repeat (first | apply Kd.Q_alloc | apply Kd.Q_drewN | apply Kd.Q_drew)); exact HO_248001.out) (Kd.R_base ho1) hb)
                             have n2_ := Aside0.mk (Kd.V_elder' (by (with_reducible repeat (first | apply Kd.V_alloc | apply Kd.V_drewN | apply Kd.V_drew)); exact HO275.out) (Kd.R_base ho1) hb)
                             have n3_ := Aside0.mk (Kd.R_elder' (by (with_reducible repeat (first | apply Kd.R_alloc | apply Kd.R_drewN | apply Kd.R_drew)); exact HO278.out) (Kd.R_base ho1) hb)
                             have n4_ := Aside0.mk (Kd.V_elder' (by (with_reducible repeat (first | apply Kd.V_alloc | apply Kd.V_drewN | apply Kd.V_drew)); exact HO286.out) (Kd.R_base ho1) hb)
                             have n5_ := Aside0.mk (Kd.R_elder' (by (with_reducible repeat (first | apply Kd.R_alloc | apply Kd.R_drewN | apply Kd.R_drew)); exact HO289.out) (Kd.R_base ho1) hb)
                             have n6_ := Aside0.mk (Kd.V_elder' (by (with_reducible repeat (first | apply Kd.V_alloc | apply Kd.V_drewN | apply Kd.V_drew)); exact HO297.out) (Kd.R_base ho1) hb)
                             have n7_ := Aside0.mk (Kd.R_elder' (by (with_reducible repeat (first | apply Kd.R_alloc | apply Kd.R_drewN | apply Kd.R_drew)); exact HO300.out) (Kd.R_base ho1) hb)
                             have n8_ := Aside0.mk (Kd.V_elder' (by (with_reducible repeat (first | apply Kd.V_alloc | apply Kd.V_drewN | apply Kd.V_drew)); exact HO308.out) (Kd.R_base ho1) hb)
                             have n9_ := Aside0.mk (Kd.R_elder' (by (with_reducible repeat (first | apply Kd.R_alloc | apply Kd.R_drewN | apply Kd.R_drew)); exact HO311.out) (Kd.R_base ho1) hb)
                             have n10_ := Aside0.mk (Kd.V_lower (Kd.V_mono (ok' := fun k_ => some k_ ≠ (v321 : Value).ownBlock ∧ some k_ ≠ (.slice Ao54 x248000_5.length co54 : Value).ownBlock ∧ some k_ ≠ (.slice Ao55 x248001_5.length co55 : Value).ownBlock ∧ some k_ ≠ (.slice Ao148 t276.length co148 : Value).ownBlock ∧ some k_ ≠ (.slice Ao155 t287.length co155 : Value).ownBlock ∧ some k_ ≠ (.slice Ao163 t298.length co163 : Value).ownBlock ∧ some k_ ≠ (.slice Ao172 t309.length co172 : Value).ownBlock ∧ k_ ≠ gb247 ∧ k_ ≠ gb283 ∧ k_ ≠ gb294 ∧ k_ ≠ gb305 ∧ k_ ≠ gb316 ∧ k_ ≠ gb327) ho0 (fun k_ hk_ => ⟨hk_.2, (Kd.fresh' (Kd.R_lt (by (with_reducible repeat (first | apply Kd.R_alloc | apply Kd.R_drewN | apply Kd.R_drew)); exact HO_248000.out)) k_ hk_.1), (Kd.fresh' (Kd.Q_lt (by (with_reducible repeat (first | apply Kd.Q_alloc | apply Kd.Q_drewN | apply Kd.Q_drew)); exact HO_248001.out)) k_ hk_.1), (Kd.fresh' (Kd.R_lt (by (with_reducible repeat (first | apply Kd.R_alloc | apply Kd.R_drewN | apply Kd.R_drew)); exact HO278.out)) k_ hk_.1), (Kd.fresh' (Kd.R_lt (by (with_reducible repeat (first | apply Kd.R_alloc | apply Kd.R_drewN | apply Kd.R_drew)); exact HO289.out)) k_ hk_.1), (Kd.fresh' (Kd.R_lt (by (with_reducible repeat (first | apply Kd.R_alloc | apply Kd.R_drewN | apply Kd.R_drew)); exact HO300.out)) k_ hk_.1), (Kd.fresh' (Kd.R_lt (by (with_reducible repeat (first | apply Kd.R_alloc | apply Kd.R_drewN | apply Kd.R_drew)); exact HO311.out)) k_ hk_.1), (Kd.freshB (g := gb247) (o := .cells #[.slice Ao54 x248000_5.length co54, .slice Ao55 x248001_5.length co55, .int .i64 x248002_5, .int .i64 x248003_5, .int .i64 x248004_5] 56 (0, 0)) (by (with_reducible repeat (first | refine blk_drewN ?_ _ | refine blk_drew ?_ | refine blk_alloc ?_ _)); exact BK247.out) k_ hk_.1), (Kd.freshB (g := gb283) (o := .cells #[.slice Ao145 t273.length co145, .slice Ao148 t276.length co148, .int .i64 t279, .int .i64 t280, .int .i64 t281] 56 (0, 0)) (by (with_reducible repeat (first | refine blk_drewN ?_ _ | refine blk_drew ?_ | refine blk_alloc ?_ _)); exact BK283.out) k_ hk_.1), (Kd.freshB (g := gb294) (o := .cells #[.slice Ao151 t284.length co151, .slice Ao155 t287.length co155, .int .i64 t290, .int .i64 t291, .int .i64 t292] 56 (0, 0)) (by (with_reducible repeat (first | refine blk_drewN ?_ _ | refine blk_drew ?_ | refine blk_alloc ?_ _)); exact BK294.out) k_ hk_.1), (Kd.freshB (g := gb305) (o := .cells #[.slice Ao158 t295.length co158, .slice Ao163 t298.length co163, .int .i64 t301, .int .i64 t302, .int .i64 t303] 56 (0, 0)) (by (with_reducible repeat (first | refine blk_drewN ?_ _ | refine blk_drew ?_ | refine blk_alloc ?_ _)); exact BK305.out) k_ hk_.1), (Kd.freshB (g := gb316) (o := .cells #[.slice Ao166 t306.length co166, .slice Ao172 t309.length co172, .int .i64 t312, .int .i64 t313, .int .i64 t314] 56 (0, 0)) (by (with_reducible repeat (first | refine blk_drewN ?_ _ | refine blk_drew ?_ | refine blk_alloc ?_ _)); exact BK316.out) k_ hk_.1), (Kd.freshB (g := gb327) (o := .cells #[.slice none 0 0, .slice none 0 0, .int .i64 0, .int .i64 0, .int .i64 0] 56 (0, 0)) (by (with_reducible repeat (first | refine blk_drewN ?_ _ | refine blk_drew ?_ | refine blk_alloc ?_ _)); exact BK327.out) k_ hk_.1)⟩)) (below_size (by repeat (first | (with_reducible first | exact HB.out | apply below_alloc | apply pw_below_drewN | apply below_drew1 | refine below_set ?_ GE247.out | refine below_set ?_ GE283.out | refine below_set ?_ GE294.out | refine below_set ?_ GE305.out | refine below_set ?_ GE316.out | refine below_set ?_ GE327.out) | exact HB.out))))
                             have n11_ := Aside0.mk (Kd.R_lower (Kd.R_new' (Kd.R_new' (Kd.R_new' (Kd.R_new' (Kd.R_new' (Kd.R_new' (Kd.R_mono (ok' := fun k_ => True) ho1 (fun _ hk_ => trivial)) (Kd.R_lt (by (with_reducible repeat (first | apply Kd.R_alloc | apply Kd.R_drewN | apply Kd.R_drew)); exact HO_248000.out))) (Kd.Q_lt (by (with_reducible repeat (first | apply Kd.Q_alloc | apply Kd.Q_drewN | apply Kd.Q_drew)); exact HO_248001.out))) (Kd.R_lt (by (with_reducible repeat (first | apply Kd.R_alloc | apply Kd.R_drewN | apply Kd.R_drew)); exact HO278.out))) (Kd.R_lt (by (with_reducible repeat (first | apply Kd.R_alloc | apply Kd.R_drewN | apply Kd.R_drew)); exact HO289.out))) (Kd.R_lt (by (with_reducible repeat (first | apply Kd.R_alloc | apply Kd.R_drewN | apply Kd.R_drew)); exact HO300.out))) (Kd.R_lt (by (with_reducible repeat (first | apply Kd.R_alloc | apply Kd.R_drewN | apply Kd.R_drew)); exact HO311.out))) (below_size (by repeat (first | (with_reducible first | exact HB.out | apply below_alloc | apply pw_below_drewN | apply below_drew1 | refine below_set ?_ GE247.out | refine below_set ?_ GE283.out | refine below_set ?_ GE294.out | refine below_set ?_ GE305.out | refine below_set ?_ GE316.out | refine below_set ?_ GE327.out) | exact HB.out))))
                             have n12_ := Aside0.mk (blk_below (g := gb247) (o := .cells #[.slice Ao54 x248000_5.length co54, .slice Ao55 x248001_5.length co55, .int .i64 x248002_5, .int .i64 x248003_5, .int .i64 x248004_5] 56 (0, 0)) (by (with_reducible repeat (first | refine blk_drewN ?_ _ | refine blk_drew ?_ | refine blk_alloc ?_ _)); exact BK247.out) hb)
                             have n13_ := Aside0.mk (blk_below (g := gb283) (o := .cells #[.slice Ao145 t273.length co145, .slice Ao148 t276.length co148, .int .i64 t279, .int .i64 t280, .int .i64 t281] 56 (0, 0)) (by (with_reducible repeat (first | refine blk_drewN ?_ _ | refine blk_drew ?_ | refine blk_alloc ?_ _)); exact BK283.out) hb)
                             have n14_ := Aside0.mk (blk_below (g := gb294) (o := .cells #[.slice Ao151 t284.length co151, .slice Ao155 t287.length co155, .int .i64 t290, .int .i64 t291, .int .i64 t292] 56 (0, 0)) (by (with_reducible repeat (first | refine blk_drewN ?_ _ | refine blk_drew ?_ | refine blk_alloc ?_ _)); exact BK294.out) hb)
                             have n15_ := Aside0.mk (blk_below (g := gb305) (o := .cells #[.slice Ao158 t295.length co158, .slice Ao163 t298.length co163, .int .i64 t301, .int .i64 t302, .int .i64 t303] 56 (0, 0)) (by (with_reducible repeat (first | refine blk_drewN ?_ _ | refine blk_drew ?_ | refine blk_alloc ?_ _)); exact BK305.out) hb)
                             have n16_ := Aside0.mk (blk_below (g := gb316) (o := .cells #[.slice Ao166 t306.length co166, .slice Ao172 t309.length co172, .int .i64 t312, .int .i64 t313, .int .i64 t314] 56 (0, 0)) (by (with_reducible repeat (first | refine blk_drewN ?_ _ | refine blk_drew ?_ | refine blk_alloc ?_ _)); exact BK316.out) hb)
                             have n17_ := Aside0.mk (blk_below (g := gb327) (o := .cells #[.slice none 0 0, .slice none 0 0, .int .i64 0, .int .i64 0, .int .i64 0] 56 (0, 0)) (by (with_reducible repeat (first | refine blk_drewN ?_ _ | refine blk_drew ?_ | refine blk_alloc ?_ _)); exact BK327.out) hb)
                             have n18_ := Aside0.mk (below_step (by repeat (first | (with_reducible first | exact HB.out | apply below_alloc | apply pw_below_drewN | apply below_drew1 | refine below_set ?_ GE247.out | refine below_set ?_ GE283.out | refine below_set ?_ GE294.out | refine below_set ?_ GE305.out | refine below_set ?_ GE316.out | refine below_set ?_ GE327.out) | exact HB.out)) hb)
                             clear HO_248000
                             clear HO_248001
                             clear HO275
                             clear HO278
                             clear HO286
                             clear HO289
                             clear HO297
                             clear HO300
                             clear HO308
                             clear HO311
                             clear BK247
                             clear BK283
                             clear BK294
                             clear BK305
                             clear BK316
                             clear BK327
                             clear HB
                             have HO_248000 := n0_
                             have HO_248001 := n1_
                             have HO275 := n2_
                             have HO278 := n3_
                             have HO286 := n4_
                             have HO289 := n5_
                             have HO297 := n6_
                             have HO300 := n7_
                             have HO308 := n8_
                             have HO311 := n9_
                             have HO319 := n10_
                             have HO322 := n11_
                             have BK247 := n12_
                             have BK283 := n13_
                             have BK294 := n14_
                             have BK305 := n15_
                             have BK316 := n16_
                             have BK327 := n17_
                             have HB := n18_
                             clear n0_ n1_ n2_ n3_ n4_ n5_ n6_ n7_ n8_ n9_ n10_ n11_ n12_ n13_ n14_ n15_ n16_ n17_ n18_
                             (try clear hb)
                             (try clear hb2)
                             (try clear hk)
                             (try clear hi)
                             (try clear ho0)
                             (try clear ho1)
                             refine hK.out _ _ trivial (fun hHeld => ?_)
                             clear hK K
                             refine norm_ (a' := ?_) ?_ ?_
                             rotate_left
                             ·
                              show Act.put _ (some 139) _ = _
                              simp only [Act.put, List.setIfInBounds_toArray, List.set_cons_zero, List.set_cons_succ, i64_w, i32_w]
                              rfl
                             refine pure_ (i := 7) (N := some 132) (v := ?_) (a' := ?_) #[true, true, true, true, true, true, true, true, false, false, true, false, false] rfl rfl (any_of HT_.out (by kernel_rfl)) (fun _ _ _ h => h) (Or.inl ⟨by rfl, ?_⟩) ?_ ?_
                             rotate_left
                             ·
                              intro w'
                              go_simp
                              with_reducible rfl
                             rotate_left
                             ·
                              simp only [Act.put, List.setIfInBounds_toArray, List.set_cons_zero, List.set_cons_succ, i64_w, i32_w]
                              rfl
                             refine pure_ (i := 8) (N := some 140) (v := ?_) (a' := ?_) #[true, true, true, true, true, true, true, true, true, false, true, false, false] rfl rfl (any_of HT_.out (by kernel_rfl)) (fun _ _ _ h => h) (Or.inl ⟨by rfl, ?_⟩) ?_ ?_
                             rotate_left
                             ·
                              intro w'
                              go_simp
                              with_reducible rfl
                             rotate_left
                             ·
                              simp only [Act.put, List.setIfInBounds_toArray, List.set_cons_zero, List.set_cons_succ, i64_w, i32_w]
                              rfl
                             refine pure_ (i := 9) (N := some 141) (v := ?_) (a' := ?_) #[true, true, true, true, true, true, true, true, true, true, true, false, false] rfl rfl (any_of HT_.out (by kernel_rfl)) (fun _ _ _ h => h) (Or.inl ⟨by rfl, ?_⟩) ?_ ?_
                             rotate_left
                             ·
                              intro w'
                              go_simp
                              with_reducible rfl
                             rotate_left
                             ·
                              simp only [Act.put, List.setIfInBounds_toArray, List.set_cons_zero, List.set_cons_succ, i64_w, i32_w]
                              rfl
                             exact norm_ (by simp only [putAll, Act.put, List.setIfInBounds_toArray, List.set_cons_zero, List.set_cons_succ]) (hCont (v318, v321, gb327) _ ⟨(by (with_reducible repeat (first | apply Kd.V_alloc | apply Kd.V_drewN | apply Kd.V_drew)); exact Kd.V_mono HO275.out (fun _ hk => ⟨hk.1.1.2.2.1, ⟨hk.1.1.2.2.2.1, ⟨hk.1.1.2.2.2.2.1, ⟨hk.1.1.2.2.2.2.2.1, ⟨hk.2, ⟨hk.1.1.1, ⟨hk.1.1.2.1, ⟨hk.1.1.2.2.2.2.2.2.1, ⟨hk.1.1.2.2.2.2.2.2.2.1, ⟨hk.1.1.2.2.2.2.2.2.2.2.1, ⟨hk.1.1.2.2.2.2.2.2.2.2.2.1, ⟨hk.1.1.2.2.2.2.2.2.2.2.2.2, hk.1.2⟩⟩⟩⟩⟩⟩⟩⟩⟩⟩⟩⟩)), (by (with_reducible repeat (first | apply Kd.R_alloc | apply Kd.R_drewN | apply Kd.R_drew)); exact Kd.R_mono HO278.out (fun _ hk => ⟨hk.1.2.2.1, ⟨hk.1.2.2.2.1, ⟨hk.1.2.2.2.2, ⟨hk.2, ⟨hk.1.1, hk.1.2.1⟩⟩⟩⟩⟩)), (by (with_reducible repeat (first | apply Kd.V_alloc | apply Kd.V_drewN | apply Kd.V_drew)); exact Kd.V_mono HO286.out (fun _ hk => ⟨hk.1.1.2.2.1, ⟨hk.1.1.2.2.2.1, ⟨hk.1.1.2.2.2.2.1, ⟨hk.1.1.2.2.2.2.2.1, ⟨hk.2, ⟨hk.1.1.1, ⟨hk.1.1.2.1, ⟨hk.1.1.2.2.2.2.2.2.1, ⟨hk.1.1.2.2.2.2.2.2.2.1, ⟨hk.1.1.2.2.2.2.2.2.2.2.1, ⟨hk.1.1.2.2.2.2.2.2.2.2.2.1, ⟨hk.1.1.2.2.2.2.2.2.2.2.2.2, hk.1.2⟩⟩⟩⟩⟩⟩⟩⟩⟩⟩⟩⟩)), (by (with_reducible repeat (first | apply Kd.R_alloc | apply Kd.R_drewN | apply Kd.R_drew)); exact Kd.R_mono HO289.out (fun _ hk => ⟨hk.1.2.2.1, ⟨hk.1.2.2.2.1, ⟨hk.1.2.2.2.2, ⟨hk.2, ⟨hk.1.1, hk.1.2.1⟩⟩⟩⟩⟩)), (by (with_reducible repeat (first | apply Kd.V_alloc | apply Kd.V_drewN | apply Kd.V_drew)); exact Kd.V_mono HO297.out (fun _ hk => ⟨hk.1.1.2.2.1, ⟨hk.1.1.2.2.2.1, ⟨hk.1.1.2.2.2.2.1, ⟨hk.1.1.2.2.2.2.2.1, ⟨hk.2, ⟨hk.1.1.1, ⟨hk.1.1.2.1, ⟨hk.1.1.2.2.2.2.2.2.1, ⟨hk.1.1.2.2.2.2.2.2.2.1, ⟨hk.1.1.2.2.2.2.2.2.2.2.1, ⟨hk.1.1.2.2.2.2.2.2.2.2.2.1, ⟨hk.1.1.2.2.2.2.2.2.2.2.2.2, hk.1.2⟩⟩⟩⟩⟩⟩⟩⟩⟩⟩⟩⟩)), (by (with_reducible repeat (first | apply Kd.R_alloc | apply Kd.R_drewN | apply Kd.R_drew)); exact Kd.R_mono HO300.out (fun _ hk => ⟨hk.1.2.2.1, ⟨hk.1.2.2.2.1, ⟨hk.1.2.2.2.2, ⟨hk.2, ⟨hk.1.1, hk.1.2.1⟩⟩⟩⟩⟩)), (by (with_reducible repeat (first | apply Kd.V_alloc | apply Kd.V_drewN | apply Kd.V_drew)); exact Kd.V_mono HO308.out (fun _ hk => ⟨hk.1.1.2.2.1, ⟨hk.1.1.2.2.2.1, ⟨hk.1.1.2.2.2.2.1, ⟨hk.1.1.2.2.2.2.2.1, ⟨hk.2, ⟨hk.1.1.1, ⟨hk.1.1.2.1, ⟨hk.1.1.2.2.2.2.2.2.1, ⟨hk.1.1.2.2.2.2.2.2.2.1, ⟨hk.1.1.2.2.2.2.2.2.2.2.1, ⟨hk.1.1.2.2.2.2.2.2.2.2.2.1, ⟨hk.1.1.2.2.2.2.2.2.2.2.2.2, hk.1.2⟩⟩⟩⟩⟩⟩⟩⟩⟩⟩⟩⟩)), (by (with_reducible repeat (first | apply Kd.R_alloc | apply Kd.R_drewN | apply Kd.R_drew)); exact Kd.R_mono HO311.out (fun _ hk => ⟨hk.1.2.2.1, ⟨hk.1.2.2.2.1, ⟨hk.1.2.2.2.2, ⟨hk.2, ⟨hk.1.1, hk.1.2.1⟩⟩⟩⟩⟩)), (by (with_reducible repeat (first | apply Kd.V_alloc | apply Kd.V_drewN | apply Kd.V_drew)); exact Kd.V_mono HO319.out (fun _ hk => ⟨hk.2.2.2.1, ⟨hk.2.2.2.2.1, ⟨hk.2.2.2.2.2.1, ⟨hk.2.2.2.2.2.2.1, ⟨hk.1, ⟨hk.2.1, ⟨hk.2.2.1, ⟨hk.2.2.2.2.2.2.2.1, ⟨hk.2.2.2.2.2.2.2.2.1, ⟨hk.2.2.2.2.2.2.2.2.2.1, ⟨hk.2.2.2.2.2.2.2.2.2.2.1, ⟨hk.2.2.2.2.2.2.2.2.2.2.2.1, hk.2.2.2.2.2.2.2.2.2.2.2.2⟩⟩⟩⟩⟩⟩⟩⟩⟩⟩⟩⟩)), (by (with_reducible repeat (first | apply Kd.R_alloc | apply Kd.R_drewN | apply Kd.R_drew)); exact Kd.R_mono HO322.out (fun _ hk => ⟨hk.1.1.1.2, ⟨hk.1.1.2, ⟨hk.1.2, ⟨hk.2, ⟨hk.1.1.1.1.1.2, hk.1.1.1.1.2⟩⟩⟩⟩⟩)), (by (with_reducible repeat (first | apply Kd.R_alloc | apply Kd.R_drewN | apply Kd.R_drew)); exact Kd.R_mono HO_248000.out (fun _ hk => ⟨hk.1.2.1, ⟨hk.1.2.2.1, ⟨hk.1.2.2.2.1, ⟨hk.1.2.2.2.2, ⟨hk.2, hk.1.1⟩⟩⟩⟩⟩)), (by (with_reducible repeat (first | apply Kd.Q_alloc | apply Kd.Q_drewN | apply Kd.Q_drew)); exact Kd.Q_mono HO_248001.out (fun _ hk => ⟨hk.1.2.1, ⟨hk.1.2.2.1, ⟨hk.1.2.2.2.1, ⟨hk.1.2.2.2.2, ⟨hk.2, hk.1.1⟩⟩⟩⟩⟩)), (by (with_reducible repeat (first | refine blk_drewN ?_ _ | refine blk_drew ?_ | refine blk_alloc ?_ _)); exact BK247.out), (by (with_reducible repeat (first | refine blk_drewN ?_ _ | refine blk_drew ?_ | refine blk_alloc ?_ _)); exact BK283.out), (by (with_reducible repeat (first | refine blk_drewN ?_ _ | refine blk_drew ?_ | refine blk_alloc ?_ _)); exact BK294.out), (by (with_reducible repeat (first | refine blk_drewN ?_ _ | refine blk_drew ?_ | refine blk_alloc ?_ _)); exact BK305.out), (by (with_reducible repeat (first | refine blk_drewN ?_ _ | refine blk_drew ?_ | refine blk_alloc ?_ _)); exact BK316.out), (by (with_reducible repeat (first | refine blk_drewN ?_ _ | refine blk_drew ?_ | refine blk_alloc ?_ _)); exact BK327.out), GW327.out, GE327.out, NB247_327.out, NB327_247.out, NB283_327.out, NB327_283.out, NB294_327.out, NB327_294.out, NB305_327.out, NB327_305.out, NB316_327.out, NB327_316.out, (by repeat (first | (with_reducible first | exact HB.out | apply below_alloc | apply pw_below_drewN | apply below_drew1 | refine below_set ?_ GE247.out | refine below_set ?_ GE283.out | refine below_set ?_ GE294.out | refine below_set ?_ GE305.out | refine below_set ?_ GE316.out | refine below_set ?_ GE327.out) | exact HB.out))⟩)
                           rintro ⟨v318, v321, gb327⟩ w177 ⟨h0_, h1_, h2_, h3_, h4_, h5_, h6_, h7_, h8_, h9_, h10_, h11_, h12_, h13_, h14_, h15_, h16_, h17_, h18_, h19_, h20_, h21_, h22_, h23_, h24_, h25_, h26_, h27_, h28_, h29_, h30_⟩
                           have n0_ : Aside0 (Kd.V (Kd.int .i64) 3 w177 w.heap.size (fun k_ => some k_ ≠ (.slice Ao148 t276.length co148 : Value).ownBlock ∧ some k_ ≠ (.slice Ao155 t287.length co155 : Value).ownBlock ∧ some k_ ≠ (.slice Ao163 t298.length co163 : Value).ownBlock ∧ some k_ ≠ (.slice Ao172 t309.length co172 : Value).ownBlock ∧ some k_ ≠ (v321 : Value).ownBlock ∧ some k_ ≠ (.slice Ao54 x248000_5.length co54 : Value).ownBlock ∧ some k_ ≠ (.slice Ao55 x248001_5.length co55 : Value).ownBlock ∧ k_ ≠ gb247 ∧ k_ ≠ gb283 ∧ k_ ≠ gb294 ∧ k_ ≠ gb305 ∧ k_ ≠ gb316 ∧ k_ ≠ gb327) (.slice Ao145 t273.length co145) t273) := ⟨h0_⟩
                           have n1_ : Aside0 (Kd.R (Kd.int .i64) 3 w177 w.heap.size (fun k_ => some k_ ≠ (.slice Ao155 t287.length co155 : Value).ownBlock ∧ some k_ ≠ (.slice Ao163 t298.length co163 : Value).ownBlock ∧ some k_ ≠ (.slice Ao172 t309.length co172 : Value).ownBlock ∧ some k_ ≠ (v321 : Value).ownBlock ∧ some k_ ≠ (.slice Ao54 x248000_5.length co54 : Value).ownBlock ∧ some k_ ≠ (.slice Ao55 x248001_5.length co55 : Value).ownBlock) (.slice Ao148 t276.length co148) t276) := ⟨h1_⟩
                           have n2_ : Aside0 (Kd.V (Kd.int .i64) 3 w177 w.heap.size (fun k_ => some k_ ≠ (.slice Ao148 t276.length co148 : Value).ownBlock ∧ some k_ ≠ (.slice Ao155 t287.length co155 : Value).ownBlock ∧ some k_ ≠ (.slice Ao163 t298.length co163 : Value).ownBlock ∧ some k_ ≠ (.slice Ao172 t309.length co172 : Value).ownBlock ∧ some k_ ≠ (v321 : Value).ownBlock ∧ some k_ ≠ (.slice Ao54 x248000_5.length co54 : Value).ownBlock ∧ some k_ ≠ (.slice Ao55 x248001_5.length co55 : Value).ownBlock ∧ k_ ≠ gb247 ∧ k_ ≠ gb283 ∧ k_ ≠ gb294 ∧ k_ ≠ gb305 ∧ k_ ≠ gb316 ∧ k_ ≠ gb327) (.slice Ao151 t284.length co151) t284) := ⟨h2_⟩
                           have n3_ : Aside0 (Kd.R (Kd.int .i64) 3 w177 w.heap.size (fun k_ => some k_ ≠ (.slice Ao148 t276.length co148 : Value).ownBlock ∧ some k_ ≠ (.slice Ao163 t298.length co163 : Value).ownBlock ∧ some k_ ≠ (.slice Ao172 t309.length co172 : Value).ownBlock ∧ some k_ ≠ (v321 : Value).ownBlock ∧ some k_ ≠ (.slice Ao54 x248000_5.length co54 : Value).ownBlock ∧ some k_ ≠ (.slice Ao55 x248001_5.length co55 : Value).ownBlock) (.slice Ao155 t287.length co155) t287) := ⟨h3_⟩
                           have n4_ : Aside0 (Kd.V (Kd.int .i64) 3 w177 w.heap.size (fun k_ => some k_ ≠ (.slice Ao148 t276.length co148 : Value).ownBlock ∧ some k_ ≠ (.slice Ao155 t287.length co155 : Value).ownBlock ∧ some k_ ≠ (.slice Ao163 t298.length co163 : Value).ownBlock ∧ some k_ ≠ (.slice Ao172 t309.length co172 : Value).ownBlock ∧ some k_ ≠ (v321 : Value).ownBlock ∧ some k_ ≠ (.slice Ao54 x248000_5.length co54 : Value).ownBlock ∧ some k_ ≠ (.slice Ao55 x248001_5.length co55 : Value).ownBlock ∧ k_ ≠ gb247 ∧ k_ ≠ gb283 ∧ k_ ≠ gb294 ∧ k_ ≠ gb305 ∧ k_ ≠ gb316 ∧ k_ ≠ gb327) (.slice Ao158 t295.length co158) t295) := ⟨h4_⟩
                           have n5_ : Aside0 (Kd.R (Kd.int .i64) 3 w177 w.heap.size (fun k_ => some k_ ≠ (.slice Ao148 t276.length co148 : Value).ownBlock ∧ some k_ ≠ (.slice Ao155 t287.length co155 : Value).ownBlock ∧ some k_ ≠ (.slice Ao172 t309.length co172 : Value).ownBlock ∧ some k_ ≠ (v321 : Value).ownBlock ∧ some k_ ≠ (.slice Ao54 x248000_5.length co54 : Value).ownBlock ∧ some k_ ≠ (.slice Ao55 x248001_5.length co55 : Value).ownBlock) (.slice Ao163 t298.length co163) t298) := ⟨h5_⟩
                           have n6_ : Aside0 (Kd.V (Kd.int .i64) 3 w177 w.heap.size (fun k_ => some k_ ≠ (.slice Ao148 t276.length co148 : Value).ownBlock ∧ some k_ ≠ (.slice Ao155 t287.length co155 : Value).ownBlock ∧ some k_ ≠ (.slice Ao163 t298.length co163 : Value).ownBlock ∧ some k_ ≠ (.slice Ao172 t309.length co172 : Value).ownBlock ∧ some k_ ≠ (v321 : Value).ownBlock ∧ some k_ ≠ (.slice Ao54 x248000_5.length co54 : Value).ownBlock ∧ some k_ ≠ (.slice Ao55 x248001_5.length co55 : Value).ownBlock ∧ k_ ≠ gb247 ∧ k_ ≠ gb283 ∧ k_ ≠ gb294 ∧ k_ ≠ gb305 ∧ k_ ≠ gb316 ∧ k_ ≠ gb327) (.slice Ao166 t306.length co166) t306) := ⟨h6_⟩
                           have n7_ : Aside0 (Kd.R (Kd.int .i64) 3 w177 w.heap.size (fun k_ => some k_ ≠ (.slice Ao148 t276.length co148 : Value).ownBlock ∧ some k_ ≠ (.slice Ao155 t287.length co155 : Value).ownBlock ∧ some k_ ≠ (.slice Ao163 t298.length co163 : Value).ownBlock ∧ some k_ ≠ (v321 : Value).ownBlock ∧ some k_ ≠ (.slice Ao54 x248000_5.length co54 : Value).ownBlock ∧ some k_ ≠ (.slice Ao55 x248001_5.length co55 : Value).ownBlock) (.slice Ao172 t309.length co172) t309) := ⟨h7_⟩
                           have n8_ : Aside0 (Kd.V (Kd.int .i64) 3 w177 w.heap.size (fun k_ => some k_ ≠ (.slice Ao148 t276.length co148 : Value).ownBlock ∧ some k_ ≠ (.slice Ao155 t287.length co155 : Value).ownBlock ∧ some k_ ≠ (.slice Ao163 t298.length co163 : Value).ownBlock ∧ some k_ ≠ (.slice Ao172 t309.length co172 : Value).ownBlock ∧ some k_ ≠ (v321 : Value).ownBlock ∧ some k_ ≠ (.slice Ao54 x248000_5.length co54 : Value).ownBlock ∧ some k_ ≠ (.slice Ao55 x248001_5.length co55 : Value).ownBlock ∧ k_ ≠ gb247 ∧ k_ ≠ gb283 ∧ k_ ≠ gb294 ∧ k_ ≠ gb305 ∧ k_ ≠ gb316 ∧ k_ ≠ gb327) v318 t317) := ⟨h8_⟩
                           have n9_ : Aside0 (Kd.R (Kd.int .i64) 3 w177 w.heap.size (fun k_ => some k_ ≠ (.slice Ao148 t276.length co148 : Value).ownBlock ∧ some k_ ≠ (.slice Ao155 t287.length co155 : Value).ownBlock ∧ some k_ ≠ (.slice Ao163 t298.length co163 : Value).ownBlock ∧ some k_ ≠ (.slice Ao172 t309.length co172 : Value).ownBlock ∧ some k_ ≠ (.slice Ao54 x248000_5.length co54 : Value).ownBlock ∧ some k_ ≠ (.slice Ao55 x248001_5.length co55 : Value).ownBlock) v321 t320) := ⟨h9_⟩
                           have n10_ : Aside0 (Kd.R (Kd.int .i64) 3 w177 w.heap.size (fun k_ => some k_ ≠ (.slice Ao148 t276.length co148 : Value).ownBlock ∧ some k_ ≠ (.slice Ao155 t287.length co155 : Value).ownBlock ∧ some k_ ≠ (.slice Ao163 t298.length co163 : Value).ownBlock ∧ some k_ ≠ (.slice Ao172 t309.length co172 : Value).ownBlock ∧ some k_ ≠ (v321 : Value).ownBlock ∧ some k_ ≠ (.slice Ao55 x248001_5.length co55 : Value).ownBlock) (.slice Ao54 x248000_5.length co54) x248000_5) := ⟨h10_⟩
                           have n11_ : Aside0 (Kd.Q (Kd.int .i64) 3 w177 w.heap.size (fun k_ => some k_ ≠ (.slice Ao148 t276.length co148 : Value).ownBlock ∧ some k_ ≠ (.slice Ao155 t287.length co155 : Value).ownBlock ∧ some k_ ≠ (.slice Ao163 t298.length co163 : Value).ownBlock ∧ some k_ ≠ (.slice Ao172 t309.length co172 : Value).ownBlock ∧ some k_ ≠ (v321 : Value).ownBlock ∧ some k_ ≠ (.slice Ao54 x248000_5.length co54 : Value).ownBlock) (.slice Ao55 x248001_5.length co55) x248001_5) := ⟨h11_⟩
                           have n12_ : Aside0 (w177.heap[gb247]? = some (.cells #[.slice Ao54 x248000_5.length co54, .slice Ao55 x248001_5.length co55, .int .i64 x248002_5, .int .i64 x248003_5, .int .i64 x248004_5] 56 (0, 0))) := ⟨h12_⟩
                           have n13_ : Aside0 (w177.heap[gb283]? = some (.cells #[.slice Ao145 t273.length co145, .slice Ao148 t276.length co148, .int .i64 t279, .int .i64 t280, .int .i64 t281] 56 (0, 0))) := ⟨h13_⟩
                           have n14_ : Aside0 (w177.heap[gb294]? = some (.cells #[.slice Ao151 t284.length co151, .slice Ao155 t287.length co155, .int .i64 t290, .int .i64 t291, .int .i64 t292] 56 (0, 0))) := ⟨h14_⟩
                           have n15_ : Aside0 (w177.heap[gb305]? = some (.cells #[.slice Ao158 t295.length co158, .slice Ao163 t298.length co163, .int .i64 t301, .int .i64 t302, .int .i64 t303] 56 (0, 0))) := ⟨h15_⟩
                           have n16_ : Aside0 (w177.heap[gb316]? = some (.cells #[.slice Ao166 t306.length co166, .slice Ao172 t309.length co172, .int .i64 t312, .int .i64 t313, .int .i64 t314] 56 (0, 0))) := ⟨h16_⟩
                           have n17_ : Aside0 (w177.heap[gb327]? = some (.cells #[.slice none 0 0, .slice none 0 0, .int .i64 0, .int .i64 0, .int .i64 0] 56 (0, 0))) := ⟨h17_⟩
                           have n18_ : Aside0 (w.heap.size ≤ gb327) := ⟨h18_⟩
                           have n19_ : Aside0 (w.heap.size ≤ gb327) := ⟨h19_⟩
                           have n20_ : Aside0 (gb247 ≠ gb327) := ⟨h20_⟩
                           have n21_ : Aside0 (gb327 ≠ gb247) := ⟨h21_⟩
                           have n22_ : Aside0 (gb283 ≠ gb327) := ⟨h22_⟩
                           have n23_ : Aside0 (gb327 ≠ gb283) := ⟨h23_⟩
                           have n24_ : Aside0 (gb294 ≠ gb327) := ⟨h24_⟩
                           have n25_ : Aside0 (gb327 ≠ gb294) := ⟨h25_⟩
                           have n26_ : Aside0 (gb305 ≠ gb327) := ⟨h26_⟩
                           have n27_ : Aside0 (gb327 ≠ gb305) := ⟨h27_⟩
                           have n28_ : Aside0 (gb316 ≠ gb327) := ⟨h28_⟩
                           have n29_ : Aside0 (gb327 ≠ gb316) := ⟨h29_⟩
                           have n30_ : Aside0 (Below w.heap.size w w177) := ⟨h30_⟩
                           clear HO_248000
                           clear HO_248001
                           clear HO275
                           clear HO278
                           clear HO286
                           clear HO289
                           clear HO297
                           clear HO300
                           clear HO308
                           clear HO311
                           clear BK247
                           clear BK283
                           clear BK294
                           clear BK305
                           clear BK316
                           clear HB
                           clear h0_ h1_ h2_ h3_ h4_ h5_ h6_ h7_ h8_ h9_ h10_ h11_ h12_ h13_ h14_ h15_ h16_ h17_ h18_ h19_ h20_ h21_ h22_ h23_ h24_ h25_ h26_ h27_ h28_ h29_ h30_
                           have HO275 := n0_
                           have HO278 := n1_
                           have HO286 := n2_
                           have HO289 := n3_
                           have HO297 := n4_
                           have HO300 := n5_
                           have HO308 := n6_
                           have HO311 := n7_
                           have HO319 := n8_
                           have HO322 := n9_
                           have HO_248000 := n10_
                           have HO_248001 := n11_
                           have BK247 := n12_
                           have BK283 := n13_
                           have BK294 := n14_
                           have BK305 := n15_
                           have BK316 := n16_
                           have BK327 := n17_
                           have GW327 := n18_
                           have GE327 := n19_
                           have NB247_327 := n20_
                           have NB327_247 := n21_
                           have NB283_327 := n22_
                           have NB327_283 := n23_
                           have NB294_327 := n24_
                           have NB327_294 := n25_
                           have NB305_327 := n26_
                           have NB327_305 := n27_
                           have NB316_327 := n28_
                           have NB327_316 := n29_
                           have HB := n30_
                           clear n0_ n1_ n2_ n3_ n4_ n5_ n6_ n7_ n8_ n9_ n10_ n11_ n12_ n13_ n14_ n15_ n16_ n17_ n18_ n19_ n20_ n21_ n22_ n23_ n24_ n25_ n26_ n27_ n28_ n29_ n30_
                           have hHeld := trivial
                           obtain ⟨Ao178, co178, eo178⟩ := Kd.V_slice HO319.out
                           (first | subst eo178 | (injection eo178 with f1_ f2_ f3_; have f4_ := f1_.symm; have f5_ := f3_.symm; clear f1_ f2_ f3_; subst f4_; subst f5_))
                           obtain ⟨Ao180, co180, eo180⟩ := Kd.R_slice HO322.out
                           (first | subst eo180 | (injection eo180 with f1_ f2_ f3_; have f4_ := f1_.symm; have f5_ := f3_.symm; clear f1_ f2_ f3_; subst f4_; subst f5_))
                           refine norm_ (a' := ?_) ?_ ?_
                           rotate_left
                           ·
                            simp only [putAll, Act.put, List.setIfInBounds_toArray, List.set_cons_zero, List.set_cons_succ]
                            rfl
                           refine one_ (i := 11) (N := none) #[true, true, true, true, true, true, true, true, true, true, true, true, false] rfl rfl (one_of HT_.out (by kernel_rfl)) (by decide) (fun K hK => ?_)
                           have hs179 : w177.cell? ⟨gb327, 0, none⟩ = some (.slice none 0 0) := (blk_cell BK327.out 0).trans rfl
                           have hfs179 := blk_frozen BK327.out 0
                           have hns179_0 := NB247_327.out
                           have hns179_1 := NB283_327.out
                           have hns179_2 := NB294_327.out
                           have hns179_3 := NB305_327.out
                           have hns179_4 := NB316_327.out
                           have hms179_0 := NB327_247.out
                           have hms179_1 := NB327_283.out
                           have hms179_2 := NB327_294.out
                           have hms179_3 := NB327_305.out
                           have hms179_4 := NB327_316.out
                           have hs181 : w177.cell? ⟨gb327, 1, none⟩ = some (.slice none 0 0) := (blk_cell BK327.out 1).trans rfl
                           have hfs181 := blk_frozen BK327.out 1
                           have hns181_0 := NB247_327.out
                           have hns181_1 := NB283_327.out
                           have hns181_2 := NB294_327.out
                           have hns181_3 := NB305_327.out
                           have hns181_4 := NB316_327.out
                           have hms181_0 := NB327_247.out
                           have hms181_1 := NB327_283.out
                           have hms181_2 := NB327_294.out
                           have hms181_3 := NB327_305.out
                           have hms181_4 := NB327_316.out
                           have hs182 : w177.cell? ⟨gb327, 2, none⟩ = some (.int .i64 0) := (blk_cell BK327.out 2).trans rfl
                           have hfs182 := blk_frozen BK327.out 2
                           have hns182_0 := NB247_327.out
                           have hns182_1 := NB283_327.out
                           have hns182_2 := NB294_327.out
                           have hns182_3 := NB305_327.out
                           have hns182_4 := NB316_327.out
                           have hms182_0 := NB327_247.out
                           have hms182_1 := NB327_283.out
                           have hms182_2 := NB327_294.out
                           have hms182_3 := NB327_305.out
                           have hms182_4 := NB327_316.out
                           have hs183 : w177.cell? ⟨gb327, 3, none⟩ = some (.int .i64 0) := (blk_cell BK327.out 3).trans rfl
                           have hfs183 := blk_frozen BK327.out 3
                           have hns183_0 := NB247_327.out
                           have hns183_1 := NB283_327.out
                           have hns183_2 := NB294_327.out
                           have hns183_3 := NB305_327.out
                           have hns183_4 := NB316_327.out
                           have hms183_0 := NB327_247.out
                           have hms183_1 := NB327_283.out
                           have hms183_2 := NB327_294.out
                           have hms183_3 := NB327_305.out
                           have hms183_4 := NB327_316.out
                           have hs184 : w177.cell? ⟨gb327, 4, none⟩ = some (.int .i64 0) := (blk_cell BK327.out 4).trans rfl
                           have hfs184 := blk_frozen BK327.out 4
                           have hns184_0 := NB247_327.out
                           have hns184_1 := NB283_327.out
                           have hns184_2 := NB294_327.out
                           have hns184_3 := NB305_327.out
                           have hns184_4 := NB316_327.out
                           have hms184_0 := NB327_247.out
                           have hms184_1 := NB327_283.out
                           have hms184_2 := NB327_294.out
                           have hms184_3 := NB327_305.out
                           have hms184_4 := NB327_316.out
                           refine skip_ (w1 := ?_) (by rfl) rfl ?_ ?_
                           rotate_left
                           ·
                            go_simp
                            rfl
                           refine hK.out _ _ trivial (fun hHeld => ?_)
                           clear hK K
                           refine pure_ (i := 12) (N := some 20) (v := ?_) (a' := ?_) #[true, true, true, true, true, true, true, true, true, true, true, true, true] rfl rfl (any_of HT_.out (by kernel_rfl)) (fun _ _ _ h => h) (Or.inl ⟨by rfl, ?_⟩) ?_ ?_
                           rotate_left
                           ·
                            intro w'
                            go_simp
                            with_reducible rfl
                           rotate_left
                           ·
                            simp only [Act.put, List.setIfInBounds_toArray, List.set_cons_zero, List.set_cons_succ, i64_w, i32_w]
                            rfl
                           refine done_ (done_of HT_.out (by kernel_rfl)) ?_
                           have n0_ : Aside0 (Kd.R (Kd.int .i64) 3 (((((w177.setCell ⟨gb327, 0, none⟩ (.slice Ao178 t317.length co178)).setCell ⟨gb327, 1, none⟩ (.slice Ao180 t320.length co180)).setCell ⟨gb327, 2, none⟩ (.int .i64 t323)).setCell ⟨gb327, 3, none⟩ (.int .i64 t324)).setCell ⟨gb327, 4, none⟩ (.int .i64 t325)) w.heap.size (fun k_ => some k_ ≠ (.slice Ao55 x248001_5.length co55 : Value).ownBlock ∧ some k_ ≠ (.slice Ao148 t276.length co148 : Value).ownBlock ∧ some k_ ≠ (.slice Ao155 t287.length co155 : Value).ownBlock ∧ some k_ ≠ (.slice Ao163 t298.length co163 : Value).ownBlock ∧ some k_ ≠ (.slice Ao172 t309.length co172 : Value).ownBlock ∧ some k_ ≠ (.slice Ao180 t320.length co180 : Value).ownBlock) (.slice Ao54 x248000_5.length co54) x248000_5) := ⟨by (with_reducible repeat (first | apply Kd.R_alloc | apply Kd.R_drewN | apply Kd.R_drew)); exact Kd.R_mono (R_far5 (g := gb327) (Kd.R_types HO_248000.out BK327.out (by decide)) (fun _ hk => hk.2) _ _ _ _ _) (fun _ hk => ⟨hk.1.2.2.2.2.2, ⟨hk.1.1, ⟨hk.1.2.1, ⟨hk.1.2.2.1, ⟨hk.1.2.2.2.1, hk.1.2.2.2.2.1⟩⟩⟩⟩⟩)⟩
                           have n1_ : Aside0 (Kd.Q (Kd.int .i64) 3 (((((w177.setCell ⟨gb327, 0, none⟩ (.slice Ao178 t317.length co178)).setCell ⟨gb327, 1, none⟩ (.slice Ao180 t320.length co180)).setCell ⟨gb327, 2, none⟩ (.int .i64 t323)).setCell ⟨gb327, 3, none⟩ (.int .i64 t324)).setCell ⟨gb327, 4, none⟩ (.int .i64 t325)) w.heap.size (fun k_ => some k_ ≠ (.slice Ao54 x248000_5.length co54 : Value).ownBlock ∧ some k_ ≠ (.slice Ao148 t276.length co148 : Value).ownBlock ∧ some k_ ≠ (.slice Ao155 t287.length co155 : Value).ownBlock ∧ some k_ ≠ (.slice Ao163 t298.length co163 : Value).ownBlock ∧ some k_ ≠ (.slice Ao172 t309.length co172 : Value).ownBlock ∧ some k_ ≠ (.slice Ao180 t320.length co180 : Value).ownBlock) (.slice Ao55 x248001_5.length co55) x248001_5) := ⟨by (with_reducible repeat (first | apply Kd.Q_alloc | apply Kd.Q_drewN | apply Kd.Q_drew)); exact Kd.Q_mono (Q_far5 (g := gb327) (Kd.Q_types HO_248001.out BK327.out (by decide)) (fun _ hk => hk.2) _ _ _ _ _) (fun _ hk => ⟨hk.1.2.2.2.2.2, ⟨hk.1.1, ⟨hk.1.2.1, ⟨hk.1.2.2.1, ⟨hk.1.2.2.2.1, hk.1.2.2.2.2.1⟩⟩⟩⟩⟩)⟩
                           have n2_ : Aside0 (Kd.V (Kd.int .i64) 3 (((((w177.setCell ⟨gb327, 0, none⟩ (.slice Ao178 t317.length co178)).setCell ⟨gb327, 1, none⟩ (.slice Ao180 t320.length co180)).setCell ⟨gb327, 2, none⟩ (.int .i64 t323)).setCell ⟨gb327, 3, none⟩ (.int .i64 t324)).setCell ⟨gb327, 4, none⟩ (.int .i64 t325)) w.heap.size (fun k_ => some k_ ≠ (.slice Ao54 x248000_5.length co54 : Value).ownBlock ∧ some k_ ≠ (.slice Ao55 x248001_5.length co55 : Value).ownBlock ∧ some k_ ≠ (.slice Ao148 t276.length co148 : Value).ownBlock ∧ some k_ ≠ (.slice Ao155 t287.length co155 : Value).ownBlock ∧ some k_ ≠ (.slice Ao163 t298.length co163 : Value).ownBlock ∧ some k_ ≠ (.slice Ao172 t309.length co172 : Value).ownBlock ∧ some k_ ≠ (.slice Ao180 t320.length co180 : Value).ownBlock ∧ k_ ≠ gb247 ∧ k_ ≠ gb283 ∧ k_ ≠ gb294 ∧ k_ ≠ gb305 ∧ k_ ≠ gb316 ∧ k_ ≠ gb327) (.slice Ao145 t273.length co145) t273) := ⟨by (with_reducible repeat (first | apply Kd.V_alloc | apply Kd.V_drewN | apply Kd.V_drew)); exact Kd.V_mono (V_far5 (g := gb327) (Kd.V_mono HO275.out (fun k_ hk => (⟨hk, hk.2.2.2.2.2.2.2.2.2.2.2.2⟩ : _ ∧ k_ ≠ gb327))) (fun _ hk => hk.2) _ _ _ _ _) (fun _ hk => ⟨hk.1.2.2.2.2.2.1, ⟨hk.1.2.2.2.2.2.2.1, ⟨hk.1.1, ⟨hk.1.2.1, ⟨hk.1.2.2.1, ⟨hk.1.2.2.2.1, ⟨hk.1.2.2.2.2.1, ⟨hk.1.2.2.2.2.2.2.2.1, ⟨hk.1.2.2.2.2.2.2.2.2.1, ⟨hk.1.2.2.2.2.2.2.2.2.2.1, ⟨hk.1.2.2.2.2.2.2.2.2.2.2.1, ⟨hk.1.2.2.2.2.2.2.2.2.2.2.2.1, hk.1.2.2.2.2.2.2.2.2.2.2.2.2⟩⟩⟩⟩⟩⟩⟩⟩⟩⟩⟩⟩)⟩
                           have n3_ : Aside0 (Kd.R (Kd.int .i64) 3 (((((w177.setCell ⟨gb327, 0, none⟩ (.slice Ao178 t317.length co178)).setCell ⟨gb327, 1, none⟩ (.slice Ao180 t320.length co180)).setCell ⟨gb327, 2, none⟩ (.int .i64 t323)).setCell ⟨gb327, 3, none⟩ (.int .i64 t324)).setCell ⟨gb327, 4, none⟩ (.int .i64 t325)) w.heap.size (fun k_ => some k_ ≠ (.slice Ao54 x248000_5.length co54 : Value).ownBlock ∧ some k_ ≠ (.slice Ao55 x248001_5.length co55 : Value).ownBlock ∧ some k_ ≠ (.slice Ao155 t287.length co155 : Value).ownBlock ∧ some k_ ≠ (.slice Ao163 t298.length co163 : Value).ownBlock ∧ some k_ ≠ (.slice Ao172 t309.length co172 : Value).ownBlock ∧ some k_ ≠ (.slice Ao180 t320.length co180 : Value).ownBlock) (.slice Ao148 t276.length co148) t276) := ⟨by (with_reducible repeat (first | apply Kd.R_alloc | apply Kd.R_drewN | apply Kd.R_drew)); exact Kd.R_mono (R_far5 (g := gb327) (Kd.R_types HO278.out BK327.out (by decide)) (fun _ hk => hk.2) _ _ _ _ _) (fun _ hk => ⟨hk.1.2.2.2.2.1, ⟨hk.1.2.2.2.2.2, ⟨hk.1.1, ⟨hk.1.2.1, ⟨hk.1.2.2.1, hk.1.2.2.2.1⟩⟩⟩⟩⟩)⟩
                           have n4_ : Aside0 (Kd.V (Kd.int .i64) 3 (((((w177.setCell ⟨gb327, 0, none⟩ (.slice Ao178 t317.length co178)).setCell ⟨gb327, 1, none⟩ (.slice Ao180 t320.length co180)).setCell ⟨gb327, 2, none⟩ (.int .i64 t323)).setCell ⟨gb327, 3, none⟩ (.int .i64 t324)).setCell ⟨gb327, 4, none⟩ (.int .i64 t325)) w.heap.size (fun k_ => some k_ ≠ (.slice Ao54 x248000_5.length co54 : Value).ownBlock ∧ some k_ ≠ (.slice Ao55 x248001_5.length co55 : Value).ownBlock ∧ some k_ ≠ (.slice Ao148 t276.length co148 : Value).ownBlock ∧ some k_ ≠ (.slice Ao155 t287.length co155 : Value).ownBlock ∧ some k_ ≠ (.slice Ao163 t298.length co163 : Value).ownBlock ∧ some k_ ≠ (.slice Ao172 t309.length co172 : Value).ownBlock ∧ some k_ ≠ (.slice Ao180 t320.length co180 : Value).ownBlock ∧ k_ ≠ gb247 ∧ k_ ≠ gb283 ∧ k_ ≠ gb294 ∧ k_ ≠ gb305 ∧ k_ ≠ gb316 ∧ k_ ≠ gb327) (.slice Ao151 t284.length co151) t284) := ⟨by (with_reducible repeat (first | apply Kd.V_alloc | apply Kd.V_drewN | apply Kd.V_drew)); exact Kd.V_mono (V_far5 (g := gb327) (Kd.V_mono HO286.out (fun k_ hk => (⟨hk, hk.2.2.2.2.2.2.2.2.2.2.2.2⟩ : _ ∧ k_ ≠ gb327))) (fun _ hk => hk.2) _ _ _ _ _) (fun _ hk => ⟨hk.1.2.2.2.2.2.1, ⟨hk.1.2.2.2.2.2.2.1, ⟨hk.1.1, ⟨hk.1.2.1, ⟨hk.1.2.2.1, ⟨hk.1.2.2.2.1, ⟨hk.1.2.2.2.2.1, ⟨hk.1.2.2.2.2.2.2.2.1, ⟨hk.1.2.2.2.2.2.2.2.2.1, ⟨hk.1.2.2.2.2.2.2.2.2.2.1, ⟨hk.1.2.2.2.2.2.2.2.2.2.2.1, ⟨hk.1.2.2.2.2.2.2.2.2.2.2.2.1, hk.1.2.2.2.2.2.2.2.2.2.2.2.2⟩⟩⟩⟩⟩⟩⟩⟩⟩⟩⟩⟩)⟩
                           have n5_ : Aside0 (Kd.R (Kd.int .i64) 3 (((((w177.setCell ⟨gb327, 0, none⟩ (.slice Ao178 t317.length co178)).setCell ⟨gb327, 1, none⟩ (.slice Ao180 t320.length co180)).setCell ⟨gb327, 2, none⟩ (.int .i64 t323)).setCell ⟨gb327, 3, none⟩ (.int .i64 t324)).setCell ⟨gb327, 4, none⟩ (.int .i64 t325)) w.heap.size (fun k_ => some k_ ≠ (.slice Ao54 x248000_5.length co54 : Value).ownBlock ∧ some k_ ≠ (.slice Ao55 x248001_5.length co55 : Value).ownBlock ∧ some k_ ≠ (.slice Ao148 t276.length co148 : Value).ownBlock ∧ some k_ ≠ (.slice Ao163 t298.length co163 : Value).ownBlock ∧ some k_ ≠ (.slice Ao172 t309.length co172 : Value).ownBlock ∧ some k_ ≠ (.slice Ao180 t320.length co180 : Value).ownBlock) (.slice Ao155 t287.length co155) t287) := ⟨by (with_reducible repeat (first | apply Kd.R_alloc | apply Kd.R_drewN | apply Kd.R_drew)); exact Kd.R_mono (R_far5 (g := gb327) (Kd.R_types HO289.out BK327.out (by decide)) (fun _ hk => hk.2) _ _ _ _ _) (fun _ hk => ⟨hk.1.2.2.2.2.1, ⟨hk.1.2.2.2.2.2, ⟨hk.1.1, ⟨hk.1.2.1, ⟨hk.1.2.2.1, hk.1.2.2.2.1⟩⟩⟩⟩⟩)⟩
                           have n6_ : Aside0 (Kd.V (Kd.int .i64) 3 (((((w177.setCell ⟨gb327, 0, none⟩ (.slice Ao178 t317.length co178)).setCell ⟨gb327, 1, none⟩ (.slice Ao180 t320.length co180)).setCell ⟨gb327, 2, none⟩ (.int .i64 t323)).setCell ⟨gb327, 3, none⟩ (.int .i64 t324)).setCell ⟨gb327, 4, none⟩ (.int .i64 t325)) w.heap.size (fun k_ => some k_ ≠ (.slice Ao54 x248000_5.length co54 : Value).ownBlock ∧ some k_ ≠ (.slice Ao55 x248001_5.length co55 : Value).ownBlock ∧ some k_ ≠ (.slice Ao148 t276.length co148 : Value).ownBlock ∧ some k_ ≠ (.slice Ao155 t287.length co155 : Value).ownBlock ∧ some k_ ≠ (.slice Ao163 t298.length co163 : Value).ownBlock ∧ some k_ ≠ (.slice Ao172 t309.length co172 : Value).ownBlock ∧ some k_ ≠ (.slice Ao180 t320.length co180 : Value).ownBlock ∧ k_ ≠ gb247 ∧ k_ ≠ gb283 ∧ k_ ≠ gb294 ∧ k_ ≠ gb305 ∧ k_ ≠ gb316 ∧ k_ ≠ gb327) (.slice Ao158 t295.length co158) t295) := ⟨by (with_reducible repeat (first | apply Kd.V_alloc | apply Kd.V_drewN | apply Kd.V_drew)); exact Kd.V_mono (V_far5 (g := gb327) (Kd.V_mono HO297.out (fun k_ hk => (⟨hk, hk.2.2.2.2.2.2.2.2.2.2.2.2⟩ : _ ∧ k_ ≠ gb327))) (fun _ hk => hk.2) _ _ _ _ _) (fun _ hk => ⟨hk.1.2.2.2.2.2.1, ⟨hk.1.2.2.2.2.2.2.1, ⟨hk.1.1, ⟨hk.1.2.1, ⟨hk.1.2.2.1, ⟨hk.1.2.2.2.1, ⟨hk.1.2.2.2.2.1, ⟨hk.1.2.2.2.2.2.2.2.1, ⟨hk.1.2.2.2.2.2.2.2.2.1, ⟨hk.1.2.2.2.2.2.2.2.2.2.1, ⟨hk.1.2.2.2.2.2.2.2.2.2.2.1, ⟨hk.1.2.2.2.2.2.2.2.2.2.2.2.1, hk.1.2.2.2.2.2.2.2.2.2.2.2.2⟩⟩⟩⟩⟩⟩⟩⟩⟩⟩⟩⟩)⟩
                           have n7_ : Aside0 (Kd.R (Kd.int .i64) 3 (((((w177.setCell ⟨gb327, 0, none⟩ (.slice Ao178 t317.length co178)).setCell ⟨gb327, 1, none⟩ (.slice Ao180 t320.length co180)).setCell ⟨gb327, 2, none⟩ (.int .i64 t323)).setCell ⟨gb327, 3, none⟩ (.int .i64 t324)).setCell ⟨gb327, 4, none⟩ (.int .i64 t325)) w.heap.size (fun k_ => some k_ ≠ (.slice Ao54 x248000_5.length co54 : Value).ownBlock ∧ some k_ ≠ (.slice Ao55 x248001_5.length co55 : Value).ownBlock ∧ some k_ ≠ (.slice Ao148 t276.length co148 : Value).ownBlock ∧ some k_ ≠ (.slice Ao155 t287.length co155 : Value).ownBlock ∧ some k_ ≠ (.slice Ao172 t309.length co172 : Value).ownBlock ∧ some k_ ≠ (.slice Ao180 t320.length co180 : Value).ownBlock) (.slice Ao163 t298.length co163) t298) := ⟨by (with_reducible repeat (first | apply Kd.R_alloc | apply Kd.R_drewN | apply Kd.R_drew)); exact Kd.R_mono (R_far5 (g := gb327) (Kd.R_types HO300.out BK327.out (by decide)) (fun _ hk => hk.2) _ _ _ _ _) (fun _ hk => ⟨hk.1.2.2.2.2.1, ⟨hk.1.2.2.2.2.2, ⟨hk.1.1, ⟨hk.1.2.1, ⟨hk.1.2.2.1, hk.1.2.2.2.1⟩⟩⟩⟩⟩)⟩
                           have n8_ : Aside0 (Kd.V (Kd.int .i64) 3 (((((w177.setCell ⟨gb327, 0, none⟩ (.slice Ao178 t317.length co178)).setCell ⟨gb327, 1, none⟩ (.slice Ao180 t320.length co180)).setCell ⟨gb327, 2, none⟩ (.int .i64 t323)).setCell ⟨gb327, 3, none⟩ (.int .i64 t324)).setCell ⟨gb327, 4, none⟩ (.int .i64 t325)) w.heap.size (fun k_ => some k_ ≠ (.slice Ao54 x248000_5.length co54 : Value).ownBlock ∧ some k_ ≠ (.slice Ao55 x248001_5.length co55 : Value).ownBlock ∧ some k_ ≠ (.slice Ao148 t276.length co148 : Value).ownBlock ∧ some k_ ≠ (.slice Ao155 t287.length co155 : Value).ownBlock ∧ some k_ ≠ (.slice Ao163 t298.length co163 : Value).ownBlock ∧ some k_ ≠ (.slice Ao172 t309.length co172 : Value).ownBlock ∧ some k_ ≠ (.slice Ao180 t320.length co180 : Value).ownBlock ∧ k_ ≠ gb247 ∧ k_ ≠ gb283 ∧ k_ ≠ gb294 ∧ k_ ≠ gb305 ∧ k_ ≠ gb316 ∧ k_ ≠ gb327) (.slice Ao166 t306.length co166) t306) := ⟨by (with_reducible repeat (first | apply Kd.V_alloc | apply Kd.V_drewN | apply Kd.V_drew)); exact Kd.V_mono (V_far5 (g := gb327) (Kd.V_mono HO308.out (fun k_ hk => (⟨hk, hk.2.2.2.2.2.2.2.2.2.2.2.2⟩ : _ ∧ k_ ≠ gb327))) (fun _ hk => hk.2) _ _ _ _ _) (fun _ hk => ⟨hk.1.2.2.2.2.2.1, ⟨hk.1.2.2.2.2.2.2.1, ⟨hk.1.1, ⟨hk.1.2.1, ⟨hk.1.2.2.1, ⟨hk.1.2.2.2.1, ⟨hk.1.2.2.2.2.1, ⟨hk.1.2.2.2.2.2.2.2.1, ⟨hk.1.2.2.2.2.2.2.2.2.1, ⟨hk.1.2.2.2.2.2.2.2.2.2.1, ⟨hk.1.2.2.2.2.2.2.2.2.2.2.1, ⟨hk.1.2.2.2.2.2.2.2.2.2.2.2.1, hk.1.2.2.2.2.2.2.2.2.2.2.2.2⟩⟩⟩⟩⟩⟩⟩⟩⟩⟩⟩⟩)⟩
                           have n9_ : Aside0 (Kd.R (Kd.int .i64) 3 (((((w177.setCell ⟨gb327, 0, none⟩ (.slice Ao178 t317.length co178)).setCell ⟨gb327, 1, none⟩ (.slice Ao180 t320.length co180)).setCell ⟨gb327, 2, none⟩ (.int .i64 t323)).setCell ⟨gb327, 3, none⟩ (.int .i64 t324)).setCell ⟨gb327, 4, none⟩ (.int .i64 t325)) w.heap.size (fun k_ => some k_ ≠ (.slice Ao54 x248000_5.length co54 : Value).ownBlock ∧ some k_ ≠ (.slice Ao55 x248001_5.length co55 : Value).ownBlock ∧ some k_ ≠ (.slice Ao148 t276.length co148 : Value).ownBlock ∧ some k_ ≠ (.slice Ao155 t287.length co155 : Value).ownBlock ∧ some k_ ≠ (.slice Ao163 t298.length co163 : Value).ownBlock ∧ some k_ ≠ (.slice Ao180 t320.length co180 : Value).ownBlock) (.slice Ao172 t309.length co172) t309) := ⟨by (with_reducible repeat (first | apply Kd.R_alloc | apply Kd.R_drewN | apply Kd.R_drew)); exact Kd.R_mono (R_far5 (g := gb327) (Kd.R_types HO311.out BK327.out (by decide)) (fun _ hk => hk.2) _ _ _ _ _) (fun _ hk => ⟨hk.1.2.2.2.2.1, ⟨hk.1.2.2.2.2.2, ⟨hk.1.1, ⟨hk.1.2.1, ⟨hk.1.2.2.1, hk.1.2.2.2.1⟩⟩⟩⟩⟩)⟩
                           have n10_ : Aside0 (Kd.V (Kd.int .i64) 3 (((((w177.setCell ⟨gb327, 0, none⟩ (.slice Ao178 t317.length co178)).setCell ⟨gb327, 1, none⟩ (.slice Ao180 t320.length co180)).setCell ⟨gb327, 2, none⟩ (.int .i64 t323)).setCell ⟨gb327, 3, none⟩ (.int .i64 t324)).setCell ⟨gb327, 4, none⟩ (.int .i64 t325)) w.heap.size (fun k_ => some k_ ≠ (.slice Ao54 x248000_5.length co54 : Value).ownBlock ∧ some k_ ≠ (.slice Ao55 x248001_5.length co55 : Value).ownBlock ∧ some k_ ≠ (.slice Ao148 t276.length co148 : Value).ownBlock ∧ some k_ ≠ (.slice Ao155 t287.length co155 : Value).ownBlock ∧ some k_ ≠ (.slice Ao163 t298.length co163 : Value).ownBlock ∧ some k_ ≠ (.slice Ao172 t309.length co172 : Value).ownBlock ∧ some k_ ≠ (.slice Ao180 t320.length co180 : Value).ownBlock ∧ k_ ≠ gb247 ∧ k_ ≠ gb283 ∧ k_ ≠ gb294 ∧ k_ ≠ gb305 ∧ k_ ≠ gb316 ∧ k_ ≠ gb327) (.slice Ao178 t317.length co178) t317) := ⟨by (with_reducible repeat (first | apply Kd.V_alloc | apply Kd.V_drewN | apply Kd.V_drew)); exact Kd.V_mono (V_far5 (g := gb327) (Kd.V_mono HO319.out (fun k_ hk => (⟨hk, hk.2.2.2.2.2.2.2.2.2.2.2.2⟩ : _ ∧ k_ ≠ gb327))) (fun _ hk => hk.2) _ _ _ _ _) (fun _ hk => ⟨hk.1.2.2.2.2.2.1, ⟨hk.1.2.2.2.2.2.2.1, ⟨hk.1.1, ⟨hk.1.2.1, ⟨hk.1.2.2.1, ⟨hk.1.2.2.2.1, ⟨hk.1.2.2.2.2.1, ⟨hk.1.2.2.2.2.2.2.2.1, ⟨hk.1.2.2.2.2.2.2.2.2.1, ⟨hk.1.2.2.2.2.2.2.2.2.2.1, ⟨hk.1.2.2.2.2.2.2.2.2.2.2.1, ⟨hk.1.2.2.2.2.2.2.2.2.2.2.2.1, hk.1.2.2.2.2.2.2.2.2.2.2.2.2⟩⟩⟩⟩⟩⟩⟩⟩⟩⟩⟩⟩)⟩
                           have n11_ : Aside0 (Kd.R (Kd.int .i64) 3 (((((w177.setCell ⟨gb327, 0, none⟩ (.slice Ao178 t317.length co178)).setCell ⟨gb327, 1, none⟩ (.slice Ao180 t320.length co180)).setCell ⟨gb327, 2, none⟩ (.int .i64 t323)).setCell ⟨gb327, 3, none⟩ (.int .i64 t324)).setCell ⟨gb327, 4, none⟩ (.int .i64 t325)) w.heap.size (fun k_ => some k_ ≠ (.slice Ao54 x248000_5.length co54 : Value).ownBlock ∧ some k_ ≠ (.slice Ao55 x248001_5.length co55 : Value).ownBlock ∧ some k_ ≠ (.slice Ao148 t276.length co148 : Value).ownBlock ∧ some k_ ≠ (.slice Ao155 t287.length co155 : Value).ownBlock ∧ some k_ ≠ (.slice Ao163 t298.length co163 : Value).ownBlock ∧ some k_ ≠ (.slice Ao172 t309.length co172 : Value).ownBlock) (.slice Ao180 t320.length co180) t320) := ⟨by (with_reducible repeat (first | apply Kd.R_alloc | apply Kd.R_drewN | apply Kd.R_drew)); exact Kd.R_mono (R_far5 (g := gb327) (Kd.R_types HO322.out BK327.out (by decide)) (fun _ hk => hk.2) _ _ _ _ _) (fun _ hk => ⟨hk.1.2.2.2.2.1, ⟨hk.1.2.2.2.2.2, ⟨hk.1.1, ⟨hk.1.2.1, ⟨hk.1.2.2.1, hk.1.2.2.2.1⟩⟩⟩⟩⟩)⟩
                           have n12_ : Aside0 ((((((w177.setCell ⟨gb327, 0, none⟩ (.slice Ao178 t317.length co178)).setCell ⟨gb327, 1, none⟩ (.slice Ao180 t320.length co180)).setCell ⟨gb327, 2, none⟩ (.int .i64 t323)).setCell ⟨gb327, 3, none⟩ (.int .i64 t324)).setCell ⟨gb327, 4, none⟩ (.int .i64 t325)).heap[gb247]? = some (.cells #[.slice Ao54 x248000_5.length co54, .slice Ao55 x248001_5.length co55, .int .i64 x248002_5, .int .i64 x248003_5, .int .i64 x248004_5] 56 (0, 0))) := ⟨by (with_reducible repeat (first | refine blk_drewN ?_ _ | refine blk_drew ?_ | refine blk_alloc ?_ _)); refine blk_far5 ?_ NB247_327.out _ _ _ _ _; (with_reducible repeat (first | refine blk_drewN ?_ _ | refine blk_drew ?_ | refine blk_alloc ?_ _)); exact BK247.out⟩
                           have n13_ : Aside0 ((((((w177.setCell ⟨gb327, 0, none⟩ (.slice Ao178 t317.length co178)).setCell ⟨gb327, 1, none⟩ (.slice Ao180 t320.length co180)).setCell ⟨gb327, 2, none⟩ (.int .i64 t323)).setCell ⟨gb327, 3, none⟩ (.int .i64 t324)).setCell ⟨gb327, 4, none⟩ (.int .i64 t325)).heap[gb283]? = some (.cells #[.slice Ao145 t273.length co145, .slice Ao148 t276.length co148, .int .i64 t279, .int .i64 t280, .int .i64 t281] 56 (0, 0))) := ⟨by (with_reducible repeat (first | refine blk_drewN ?_ _ | refine blk_drew ?_ | refine blk_alloc ?_ _)); refine blk_far5 ?_ NB283_327.out _ _ _ _ _; (with_reducible repeat (first | refine blk_drewN ?_ _ | refine blk_drew ?_ | refine blk_alloc ?_ _)); exact BK283.out⟩
                           have n14_ : Aside0 ((((((w177.setCell ⟨gb327, 0, none⟩ (.slice Ao178 t317.length co178)).setCell ⟨gb327, 1, none⟩ (.slice Ao180 t320.length co180)).setCell ⟨gb327, 2, none⟩ (.int .i64 t323)).setCell ⟨gb327, 3, none⟩ (.int .i64 t324)).setCell ⟨gb327, 4, none⟩ (.int .i64 t325)).heap[gb294]? = some (.cells #[.slice Ao151 t284.length co151, .slice Ao155 t287.length co155, .int .i64 t290, .int .i64 t291, .int .i64 t292] 56 (0, 0))) := ⟨by (with_reducible repeat (first | refine blk_drewN ?_ _ | refine blk_drew ?_ | refine blk_alloc ?_ _)); refine blk_far5 ?_ NB294_327.out _ _ _ _ _; (with_reducible repeat (first | refine blk_drewN ?_ _ | refine blk_drew ?_ | refine blk_alloc ?_ _)); exact BK294.out⟩
                           have n15_ : Aside0 ((((((w177.setCell ⟨gb327, 0, none⟩ (.slice Ao178 t317.length co178)).setCell ⟨gb327, 1, none⟩ (.slice Ao180 t320.length co180)).setCell ⟨gb327, 2, none⟩ (.int .i64 t323)).setCell ⟨gb327, 3, none⟩ (.int .i64 t324)).setCell ⟨gb327, 4, none⟩ (.int .i64 t325)).heap[gb305]? = some (.cells #[.slice Ao158 t295.length co158, .slice Ao163 t298.length co163, .int .i64 t301, .int .i64 t302, .int .i64 t303] 56 (0, 0))) := ⟨by (with_reducible repeat (first | refine blk_drewN ?_ _ | refine blk_drew ?_ | refine blk_alloc ?_ _)); refine blk_far5 ?_ NB305_327.out _ _ _ _ _; (with_reducible repeat (first | refine blk_drewN ?_ _ | refine blk_drew ?_ | refine blk_alloc ?_ _)); exact BK305.out⟩
                           have n16_ : Aside0 ((((((w177.setCell ⟨gb327, 0, none⟩ (.slice Ao178 t317.length co178)).setCell ⟨gb327, 1, none⟩ (.slice Ao180 t320.length co180)).setCell ⟨gb327, 2, none⟩ (.int .i64 t323)).setCell ⟨gb327, 3, none⟩ (.int .i64 t324)).setCell ⟨gb327, 4, none⟩ (.int .i64 t325)).heap[gb316]? = some (.cells #[.slice Ao166 t306.length co166, .slice Ao172 t309.length co172, .int .i64 t312, .int .i64 t313, .int .i64 t314] 56 (0, 0))) := ⟨by (with_reducible repeat (first | refine blk_drewN ?_ _ | refine blk_drew ?_ | refine blk_alloc ?_ _)); refine blk_far5 ?_ NB316_327.out _ _ _ _ _; (with_reducible repeat (first | refine blk_drewN ?_ _ | refine blk_drew ?_ | refine blk_alloc ?_ _)); exact BK316.out⟩
                           have n17_ : Aside0 ((((((w177.setCell ⟨gb327, 0, none⟩ (.slice Ao178 t317.length co178)).setCell ⟨gb327, 1, none⟩ (.slice Ao180 t320.length co180)).setCell ⟨gb327, 2, none⟩ (.int .i64 t323)).setCell ⟨gb327, 3, none⟩ (.int .i64 t324)).setCell ⟨gb327, 4, none⟩ (.int .i64 t325)).heap[gb327]? = some (.cells #[.slice Ao178 t317.length co178, .slice Ao180 t320.length co180, .int .i64 t323, .int .i64 t324, .int .i64 t325] 56 (0, 0))) := ⟨by (with_reducible repeat (first | refine blk_drewN ?_ _ | refine blk_drew ?_ | refine blk_alloc ?_ _)); refine blk_put5 (z0 := (.slice none 0 0)) (z1 := (.slice none 0 0)) (z2 := (.int .i64 0)) (z3 := (.int .i64 0)) (z4 := (.int .i64 0)) ?_ _ _ _ _ _; (with_reducible repeat (first | refine blk_drewN ?_ _ | refine blk_drew ?_ | refine blk_alloc ?_ _)); exact BK327.out⟩
                           have n18_ : Aside0 (Below w.heap.size w (((((w177.setCell ⟨gb327, 0, none⟩ (.slice Ao178 t317.length co178)).setCell ⟨gb327, 1, none⟩ (.slice Ao180 t320.length co180)).setCell ⟨gb327, 2, none⟩ (.int .i64 t323)).setCell ⟨gb327, 3, none⟩ (.int .i64 t324)).setCell ⟨gb327, 4, none⟩ (.int .i64 t325))) := ⟨by repeat (first | (with_reducible first | exact HB.out | apply below_alloc | apply pw_below_drewN | apply below_drew1 | refine below_set ?_ GE247.out | refine below_set ?_ GE283.out | refine below_set ?_ GE294.out | refine below_set ?_ GE305.out | refine below_set ?_ GE316.out | refine below_set ?_ GE327.out) | exact HB.out)⟩
                           (try clear HO_248000)
                           (try clear HO_248001)
                           (try clear HO275)
                           (try clear HO278)
                           (try clear HO286)
                           (try clear HO289)
                           (try clear HO297)
                           (try clear HO300)
                           (try clear HO308)
                           (try clear HO311)
                           (try clear HO319)
                           (try clear HO322)
                           (try clear BK247)
                           (try clear BK283)
                           (try clear BK294)
                           (try clear BK305)
                           (try clear BK316)
                           (try clear BK327)
                           (try clear HB)
                           generalize (((((w177.setCell ⟨gb327, 0, none⟩ (.slice Ao178 t317.length co178)).setCell ⟨gb327, 1, none⟩ (.slice Ao180 t320.length co180)).setCell ⟨gb327, 2, none⟩ (.int .i64 t323)).setCell ⟨gb327, 3, none⟩ (.int .i64 t324)).setCell ⟨gb327, 4, none⟩ (.int .i64 t325)) = w185 at n0_ n1_ n2_ n3_ n4_ n5_ n6_ n7_ n8_ n9_ n10_ n11_ n12_ n13_ n14_ n15_ n16_ n17_ n18_ ⊢
                           have HO_248000 := n0_
                           have HO_248001 := n1_
                           have HO275 := n2_
                           have HO278 := n3_
                           have HO286 := n4_
                           have HO289 := n5_
                           have HO297 := n6_
                           have HO300 := n7_
                           have HO308 := n8_
                           have HO311 := n9_
                           have HO319 := n10_
                           have HO322 := n11_
                           have BK247 := n12_
                           have BK283 := n13_
                           have BK294 := n14_
                           have BK305 := n15_
                           have BK316 := n16_
                           have BK327 := n17_
                           have HB := n18_
                           clear n0_ n1_ n2_ n3_ n4_ n5_ n6_ n7_ n8_ n9_ n10_ n11_ n12_ n13_ n14_ n15_ n16_ n17_ n18_
                           have hnb186 := NB247_327.out
                           have hnc186 := NB327_247.out
                           have hcz187_0 : w185.cell? ⟨gb247, 0, none⟩ = some (.slice Ao54 x248000_5.length co54) := (blk_cell BK247.out 0).trans rfl
                           have hcz187_1 : w185.cell? ⟨gb247, 1, none⟩ = some (.slice Ao55 x248001_5.length co55) := (blk_cell BK247.out 1).trans rfl
                           have hcz187_2 : w185.cell? ⟨gb247, 2, none⟩ = some (.int .i64 x248002_5) := (blk_cell BK247.out 2).trans rfl
                           have hcz187_3 : w185.cell? ⟨gb247, 3, none⟩ = some (.int .i64 x248003_5) := (blk_cell BK247.out 3).trans rfl
                           have hcz187_4 : w185.cell? ⟨gb247, 4, none⟩ = some (.int .i64 x248004_5) := (blk_cell BK247.out 4).trans rfl
                           have hfz187_0 := blk_frozen BK247.out 0
                           have hfz187_1 := blk_frozen BK247.out 1
                           have hfz187_2 := blk_frozen BK247.out 2
                           have hfz187_3 := blk_frozen BK247.out 3
                           have hfz187_4 := blk_frozen BK247.out 4
                           try go_wp2_with (first | (go_at_call 44; (with_reducible refine (check_May.calls kj51 (fun k_ => some k_ = (.slice Ao54 x248000_5.length co54 : Value).ownBlock) _ _ x248000_5 (fun k_ => some k_ = (.slice Ao55 x248001_5.length co55 : Value).ownBlock) _ _ x248001_5 x248002_5 x248003_5 x248004_5 false _ ?side1 ?side2 A84.out).mono ?_); (case side1 => exact Kd.R_V (Kd.R_tight rfl (Kd.R_types (Kd.R_types (Kd.R_types (Kd.R_types (Kd.R_types (Kd.R_types (HO_248000.out) BK247.out (by decide)) BK283.out (by decide)) BK294.out (by decide)) BK305.out (by decide)) BK316.out (by decide)) BK327.out (by decide)))); (case side2 => exact Kd.Q_V (Kd.Q_tight rfl (Kd.Q_types (Kd.Q_types (Kd.Q_types (Kd.Q_types (Kd.Q_types (Kd.Q_types (HO_248001.out) BK247.out (by decide)) BK283.out (by decide)) BK294.out (by decide)) BK305.out (by decide)) BK316.out (by decide)) BK327.out (by decide)))); rintro e w188 ⟨rfl, hb⟩; have n0_ := Aside0.mk (Kd.R_below (by (with_reducible repeat (first | apply Kd.R_alloc | apply Kd.R_drewN | apply Kd.R_drew)); exact HO_248000.out) hb); have n1_ := Aside0.mk (Kd.Q_below (by (with_reducible repeat (first | apply Kd.Q_alloc | apply Kd.Q_drewN | apply Kd.Q_drew)); exact HO_248001.out) hb); have n2_ := Aside0.mk (Kd.V_below (by (with_reducible repeat (first | apply Kd.V_alloc | apply Kd.V_drewN | apply Kd.V_drew)); exact HO275.out) hb); have n3_ := Aside0.mk (Kd.R_below (by (with_reducible repeat (first | apply Kd.R_alloc | apply Kd.R_drewN | apply Kd.R_drew)); exact HO278.out) hb); have n4_ := Aside0.mk (Kd.V_below (by (with_reducible repeat (first | apply Kd.V_alloc | apply Kd.V_drewN | apply Kd.V_drew)); exact HO286.out) hb); have n5_ := Aside0.mk (Kd.R_below (by (with_reducible repeat (first | apply Kd.R_alloc | apply Kd.R_drewN | apply Kd.R_drew)); exact HO289.out) hb); have n6_ := Aside0.mk (Kd.V_below (by (with_reducible repeat (first | apply Kd.V_alloc | apply Kd.V_drewN | apply Kd.V_drew)); exact HO297.out) hb); have n7_ := Aside0.mk (Kd.R_below (by (with_reducible repeat (first | apply Kd.R_alloc | apply Kd.R_drewN | apply Kd.R_drew)); exact HO300.out) hb); have n8_ := Aside0.mk (Kd.V_below (by (with_reducible repeat (first | apply Kd.V_alloc | apply Kd.V_drewN | apply Kd.V_drew)); exact HO308.out) hb); have n9_ := Aside0.mk (Kd.R_below (by (with_reducible repeat (first | apply Kd.R_alloc | apply Kd.R_drewN | apply Kd.R_drew)); exact HO311.out) hb); have n10_ := Aside0.mk (Kd.V_below (by (with_reducible repeat (first | apply Kd.V_alloc | apply Kd.V_drewN | apply Kd.V_drew)); exact HO319.out) hb); have n11_ := Aside0.mk (Kd.R_below (by (with_reducible repeat (first | apply Kd.R_alloc | apply Kd.R_drewN | apply Kd.R_drew)); exact HO322.out) hb); have n12_ := Aside0.mk (blk_below (g := gb247) (o := .cells #[.slice Ao54 x248000_5.length co54, .slice Ao55 x248001_5.length co55, .int .i64 x248002_5, .int .i64 x248003_5, .int .i64 x248004_5] 56 (0, 0)) (by (with_reducible repeat (first | refine blk_drewN ?_ _ | refine blk_drew ?_ | refine blk_alloc ?_ _)); exact BK247.out) hb); have n13_ := Aside0.mk (blk_below (g := gb283) (o := .cells #[.slice Ao145 t273.length co145, .slice Ao148 t276.length co148, .int .i64 t279, .int .i64 t280, .int .i64 t281] 56 (0, 0)) (by (with_reducible repeat (first | refine blk_drewN ?_ _ | refine blk_drew ?_ | refine blk_alloc ?_ _)); exact BK283.out) hb); have n14_ := Aside0.mk (blk_below (g := gb294) (o := .cells #[.slice Ao151 t284.length co151, .slice Ao155 t287.length co155, .int .i64 t290, .int .i64 t291, .int .i64 t292] 56 (0, 0)) (by (with_reducible repeat (first | refine blk_drewN ?_ _ | refine blk_drew ?_ | refine blk_alloc ?_ _)); exact BK294.out) hb); have n15_ := Aside0.mk (blk_below (g := gb305) (o := .cells #[.slice Ao158 t295.length co158, .slice Ao163 t298.length co163, .int .i64 t301, .int .i64 t302, .int .i64 t303] 56 (0, 0)) (by (with_reducible repeat (first | refine blk_drewN ?_ _ | refine blk_drew ?_ | refine blk_alloc ?_ _)); exact BK305.out) hb); have n16_ := Aside0.mk (blk_below (g := gb316) (o := .cells #[.slice Ao166 t306.length co166, .slice Ao172 t309.length co172, .int .i64 t312, .int .i64 t313, .int .i64 t314] 56 (0, 0)) (by (with_reducible repeat (first | refine blk_drewN ?_ _ | refine blk_drew ?_ | refine blk_alloc ?_ _)); exact BK316.out) hb); have n17_ := Aside0.mk (blk_below (g := gb327) (o := .cells #[.slice Ao178 t317.length co178, .slice Ao180 t320.length co180, .int .i64 t323, .int .i64 t324, .int .i64 t325] 56 (0, 0)) (by (with_reducible repeat (first | refine blk_drewN ?_ _ | refine blk_drew ?_ | refine blk_alloc ?_ _)); exact BK327.out) hb); have n18_ := Aside0.mk (below_step (by repeat (first | (with_reducible first | exact HB.out | apply below_alloc | apply pw_below_drewN | apply below_drew1 | refine below_set ?_ GE247.out | refine below_set ?_ GE283.out | refine below_set ?_ GE294.out | refine below_set ?_ GE305.out | refine below_set ?_ GE316.out | refine below_set ?_ GE327.out) | exact HB.out)) hb); clear HO_248000; clear HO_248001; clear HO275; clear HO278; clear HO286; clear HO289; clear HO297; clear HO300; clear HO308; clear HO311; clear HO319; clear HO322; clear BK247; clear BK283; clear BK294; clear BK305; clear BK316; clear BK327; clear HB; have HO_248000 := n0_; have HO_248001 := n1_; have HO275 := n2_; have HO278 := n3_; have HO286 := n4_; have HO289 := n5_; have HO297 := n6_; have HO300 := n7_; have HO308 := n8_; have HO311 := n9_; have HO319 := n10_; have HO322 := n11_; have BK247 := n12_; have BK283 := n13_; have BK294 := n14_; have BK305 := n15_; have BK316 := n16_; have BK327 := n17_; have HB := n18_; clear n0_ n1_ n2_ n3_ n4_ n5_ n6_ n7_ n8_ n9_ n10_ n11_ n12_ n13_ n14_ n15_ n16_ n17_ n18_; (try clear hb); (try clear hb2); (try clear hk); (try clear hi)) | (go_at_call 26; (with_reducible refine (grafterlaw0_Num.calls t260 t329 _ A132.out).mono ?_); rintro e w' ⟨rfl, ⟨nd, rfl⟩⟩; (try clear A132)) | (go_at_call 26; (with_reducible refine (grafterlaw0_Num.calls t282 t330 _ A134.out).mono ?_); rintro e w' ⟨rfl, ⟨nd, rfl⟩⟩; (try clear A134)) | (go_at_call 26; (with_reducible refine (grafterlaw0_Num.calls t293 t331 _ A136.out).mono ?_); rintro e w' ⟨rfl, ⟨nd, rfl⟩⟩; (try clear A136)) | (go_at_call 26; (with_reducible refine (grafterlaw0_Num.calls t304 t332 _ A138.out).mono ?_); rintro e w' ⟨rfl, ⟨nd, rfl⟩⟩; (try clear A138)) | (go_at_call 26; (with_reducible refine (grafterlaw0_Num.calls t315 t333 _ A140.out).mono ?_); rintro e w' ⟨rfl, ⟨nd, rfl⟩⟩; (try clear A140)) | (go_at_call 26; (with_reducible refine (grafterlaw0_Num.calls t326 t334 _ A142.out).mono ?_); rintro e w' ⟨rfl, ⟨nd, rfl⟩⟩; (try clear A142)))
                           all_goals go_ret
                           all_goals exact ⟨by first | (simp only [← hji64_]; split <;> first | (exfalso; omega) | (simp [ByteArray.extract_zero_size]; done) | (simp [ByteArray.extract_zero_size, *]; done)) | rfl | (simp [errW_none, errW_some] <;> rfl) | (simp only [← hji64]; first | rfl | (simp [errW_none, errW_some] <;> rfl)) | (simp [*, errW_none, errW_some] <;> rfl), by repeat (first | (with_reducible first | exact HB.out | apply below_alloc | apply pw_below_drewN | apply below_drew1 | refine below_set ?_ GE247.out | refine below_set ?_ GE283.out | refine below_set ?_ GE294.out | refine below_set ?_ GE305.out | refine below_set ?_ GE316.out | refine below_set ?_ GE327.out) | exact HB.out)⟩
                          ·
                           rw [if_neg c141] at H
                           have c141b0 : (t333 == 1400) = false := beq_eq_false_iff_ne.mpr c141
                           have c141b1 : (t333 != 1400) = true := bne_iff_ne.mpr c141
                           exact absurd ((Option.some.inj H).trans HRT.out) Bool.false_ne_true
                         ·
                          rw [if_neg c139] at H
                          have c139b0 : (t332 == 1400) = false := beq_eq_false_iff_ne.mpr c139
                          have c139b1 : (t332 != 1400) = true := bne_iff_ne.mpr c139
                          exact absurd ((Option.some.inj H).trans HRT.out) Bool.false_ne_true
                        ·
                         rw [if_neg c137] at H
                         have c137b0 : (t331 == 1400) = false := beq_eq_false_iff_ne.mpr c137
                         have c137b1 : (t331 != 1400) = true := bne_iff_ne.mpr c137
                         exact absurd ((Option.some.inj H).trans HRT.out) Bool.false_ne_true
                       ·
                        rw [if_neg c135] at H
                        have c135b0 : (t330 == 1400) = false := beq_eq_false_iff_ne.mpr c135
                        have c135b1 : (t330 != 1400) = true := bne_iff_ne.mpr c135
                        exact absurd ((Option.some.inj H).trans HRT.out) Bool.false_ne_true
                      ·
                       rw [if_neg c133] at H
                       have c133b0 : (t329 == 1400) = false := beq_eq_false_iff_ne.mpr c133
                       have c133b1 : (t329 != 1400) = true := bne_iff_ne.mpr c133
                       exact absurd ((Option.some.inj H).trans HRT.out) Bool.false_ne_true
                    ·
                     rw [if_neg c83] at H
                     have c83b0 : (t259.toList == ([] : List UInt8)) = false := beq_eq_false_iff_ne.mpr c83
                     have c83b1 : (t259.toList != ([] : List UInt8)) = true := bne_iff_ne.mpr c83
                     exact absurd ((Option.some.inj H).trans HRT.out) Bool.false_ne_true
                   ·
                    rw [if_neg c81] at H
                    exact absurd H (by simp)
                  ·
                   rw [if_neg c80] at H
                   exact absurd H (by simp)
                 ·
                  rw [if_neg c79] at H
                  exact absurd H (by simp)
                ·
                 rw [if_neg c78] at H
                 exact absurd H (by simp)
               ·
                rw [if_neg c77] at H
                exact absurd H (by simp)
              ·
               rw [if_neg c75] at H
               exact absurd H (by simp)
             ·
              rw [if_neg c74] at H
              exact absurd H (by simp)
            ·
             rw [if_neg c73] at H
             exact absurd H (by simp)
           ·
            rw [if_neg c71] at H
            exact absurd H (by simp)
          ·
           rw [if_neg c70] at H
           exact absurd H (by simp)
         ·
          rw [if_neg c68] at H
          exact absurd H (by simp)
        ·
         rw [if_neg c66] at H
         exact absurd H (by simp)
       ·
        rw [if_neg c65] at H
        exact absurd H (by simp)
 ·
  replace c4 := Bool.eq_false_iff.mpr c4
  subst c4
  have H1 : (some false) = some r := by rw [if_neg (show ¬ (false = true) by decide)] at H; exact H
  clear H
  have H := H1
  clear H1
  exact absurd ((Option.some.inj H).trans HRT.out) Bool.false_ne_true

/-- THE ONE PURE STATEMENT of grafterlaw14_CheckForms: yours. -/
def grafterlaw14_CheckForms.Pure : Prop := ∀ (a0 : Int) (a1 : Int), (Lit.int .i64 a0).wf = true → (Lit.int .i64 a1).wf = true → ∃ k, grafterlaw14_CheckForms.f k a0 a1 = some true
theorem grafterlaw14_CheckForms.walk (P : grafterlaw14_CheckForms.Pure) (a0 : Int) (a1 : Int) (w : World) (w0 : (Lit.int .i64 a0).wf = true) (w1 : (Lit.int .i64 a1).wf = true) :
  Calls Try.prog 15 #[.int .i64 a0, .int .i64 a1] w fun e w' => e = .returned (.bool true) ∧ Below w.heap.size w w' := by
 obtain ⟨k, h⟩ := P a0 a1 w0 w1
 refine (grafterlaw14_CheckForms.calls k a0 a1 true w rfl h).mono ?_
 rintro e w' ⟨rfl, hd⟩
 exact ⟨rfl, hd⟩

end Go.Proofs.Ytbhkmgidokonkaa.PCheckForms
