-- Written by a program of this session (pprint.py) out of the translation, with hand-proved walks pasted in.
import Derived.Test.YtdgbfgnmeoihiaaPConfigFormsx7
import Derived.Test.YtdgbfgnmeoihiaaPConfigFormsx1
import Derived.Test.YtdgbfgnmeoihiaaPConfigFormsx2
namespace Go.Proofs.Ytdgbfgnmeoihiaa.PConfigForms
open Go.RowKit Go.Proofs.YtdgbfgnmeoihiaaW.PrintWords Go.Proofs.YtdgbfgnmeoihiaaW.PrintLast Go.Proofs.YtdgbfgnmeoihiaaW.PrintMore
attribute [local go_sem] max2_int min2_int max_two min_two max_three min_three max_four min_four   -- for this text's walks alone
set_option linter.unusedVariables false
set_option linter.unusedSimpArgs false

set_option maxHeartbeats 8000000 in
set_option maxRecDepth 100000 in
theorem grafterlaw19_ConfigForms.calls_15 (k : Nat) (a0 : Int) (a1 : Int) (r : Bool) (w : World) (hrt : r = true) (h : grafterlaw19_ConfigForms.f k a0 a1 = some r) (hs_c6 : ¬ ((Int.tmod (IntKind.u64.wrap (a0)) 16) = 0)) (hs_c41 : ¬ ((Int.tmod (IntKind.u64.wrap (a0)) 16) = 1)) (hs_c76 : ¬ ((Int.tmod (IntKind.u64.wrap (a0)) 16) = 2)) (hs_c111 : ¬ ((Int.tmod (IntKind.u64.wrap (a0)) 16) = 3)) (hs_c146 : ¬ ((Int.tmod (IntKind.u64.wrap (a0)) 16) = 4)) (hs_c181 : ¬ ((Int.tmod (IntKind.u64.wrap (a0)) 16) = 5)) (hs_c230 : ¬ ((Int.tmod (IntKind.u64.wrap (a0)) 16) = 6)) (hs_c279 : ¬ ((Int.tmod (IntKind.u64.wrap (a0)) 16) = 7)) (hs_c314 : ¬ ((Int.tmod (IntKind.u64.wrap (a0)) 16) = 8)) (hs_c349 : ¬ ((Int.tmod (IntKind.u64.wrap (a0)) 16) = 9)) (hs_c384 : ¬ ((Int.tmod (IntKind.u64.wrap (a0)) 16) = 10)) (hs_c419 : ¬ ((Int.tmod (IntKind.u64.wrap (a0)) 16) = 11)) (hs_c454 : ¬ ((Int.tmod (IntKind.u64.wrap (a0)) 16) = 12)) (hs_c489 : ¬ ((Int.tmod (IntKind.u64.wrap (a0)) 16) = 13)) (hs_c524 : ¬ ((Int.tmod (IntKind.u64.wrap (a0)) 16) = 14)) :
    Calls Try.prog 4 #[.int .i64 a0, .int .i64 a1] w fun e w' => e = .returned (.bool r) ∧ Below w.heap.size w w' := by
  have HRT := Aside0.mk hrt
  clear hrt
  have hu26 := Try.underlying26
  have HB := Aside0.mk (Below.refl w.heap.size w)
  have H := h
  clear h
  unfold grafterlaw19_ConfigForms.f at H
  replace H := Option.bind_eq_some_iff.mp H
  obtain ⟨t175, A30, H⟩ := H
  (try dsimp only at H)
  have A3 := Aside0.mk A30
  clear A30
  by_cases c4 : t175 = true
  · subst c4
    rw [if_pos rfl] at H
    replace H := Option.bind_eq_some_iff.mp H
    obtain ⟨⟨t176, t177, t178, t179, t182, t183, t184, t185, t186⟩, A50, H⟩ := H
    (try dsimp only at H)
    have A5 := Aside0.mk A50
    clear A50
    by_cases c6 : (Int.tmod (IntKind.u64.wrap (a0)) 16) = 0
    · exact absurd c6 hs_c6
    · rw [if_neg c6] at H
      have c6b0 : ((Int.tmod (IntKind.u64.wrap (a0)) 16) == 0) = false := beq_eq_false_iff_ne.mpr c6
      have c6b1 : ((Int.tmod (IntKind.u64.wrap (a0)) 16) != 0) = true := bne_iff_ne.mpr c6
      by_cases c41 : (Int.tmod (IntKind.u64.wrap (a0)) 16) = 1
      · exact absurd c41 hs_c41
      · rw [if_neg c41] at H
        have c41b0 : ((Int.tmod (IntKind.u64.wrap (a0)) 16) == 1) = false := beq_eq_false_iff_ne.mpr c41
        have c41b1 : ((Int.tmod (IntKind.u64.wrap (a0)) 16) != 1) = true := bne_iff_ne.mpr c41
        by_cases c76 : (Int.tmod (IntKind.u64.wrap (a0)) 16) = 2
        · exact absurd c76 hs_c76
        · rw [if_neg c76] at H
          have c76b0 : ((Int.tmod (IntKind.u64.wrap (a0)) 16) == 2) = false := beq_eq_false_iff_ne.mpr c76
          have c76b1 : ((Int.tmod (IntKind.u64.wrap (a0)) 16) != 2) = true := bne_iff_ne.mpr c76
          by_cases c111 : (Int.tmod (IntKind.u64.wrap (a0)) 16) = 3
          · exact absurd c111 hs_c111
          · rw [if_neg c111] at H
            have c111b0 : ((Int.tmod (IntKind.u64.wrap (a0)) 16) == 3) = false := beq_eq_false_iff_ne.mpr c111
            have c111b1 : ((Int.tmod (IntKind.u64.wrap (a0)) 16) != 3) = true := bne_iff_ne.mpr c111
            by_cases c146 : (Int.tmod (IntKind.u64.wrap (a0)) 16) = 4
            · exact absurd c146 hs_c146
            · rw [if_neg c146] at H
              have c146b0 : ((Int.tmod (IntKind.u64.wrap (a0)) 16) == 4) = false := beq_eq_false_iff_ne.mpr c146
              have c146b1 : ((Int.tmod (IntKind.u64.wrap (a0)) 16) != 4) = true := bne_iff_ne.mpr c146
              by_cases c181 : (Int.tmod (IntKind.u64.wrap (a0)) 16) = 5
              · exact absurd c181 hs_c181
              · rw [if_neg c181] at H
                have c181b0 : ((Int.tmod (IntKind.u64.wrap (a0)) 16) == 5) = false := beq_eq_false_iff_ne.mpr c181
                have c181b1 : ((Int.tmod (IntKind.u64.wrap (a0)) 16) != 5) = true := bne_iff_ne.mpr c181
                by_cases c230 : (Int.tmod (IntKind.u64.wrap (a0)) 16) = 6
                · exact absurd c230 hs_c230
                · rw [if_neg c230] at H
                  have c230b0 : ((Int.tmod (IntKind.u64.wrap (a0)) 16) == 6) = false := beq_eq_false_iff_ne.mpr c230
                  have c230b1 : ((Int.tmod (IntKind.u64.wrap (a0)) 16) != 6) = true := bne_iff_ne.mpr c230
                  by_cases c279 : (Int.tmod (IntKind.u64.wrap (a0)) 16) = 7
                  · exact absurd c279 hs_c279
                  · rw [if_neg c279] at H
                    have c279b0 : ((Int.tmod (IntKind.u64.wrap (a0)) 16) == 7) = false := beq_eq_false_iff_ne.mpr c279
                    have c279b1 : ((Int.tmod (IntKind.u64.wrap (a0)) 16) != 7) = true := bne_iff_ne.mpr c279
                    by_cases c314 : (Int.tmod (IntKind.u64.wrap (a0)) 16) = 8
                    · exact absurd c314 hs_c314
                    · rw [if_neg c314] at H
                      have c314b0 : ((Int.tmod (IntKind.u64.wrap (a0)) 16) == 8) = false := beq_eq_false_iff_ne.mpr c314
                      have c314b1 : ((Int.tmod (IntKind.u64.wrap (a0)) 16) != 8) = true := bne_iff_ne.mpr c314
                      by_cases c349 : (Int.tmod (IntKind.u64.wrap (a0)) 16) = 9
                      · exact absurd c349 hs_c349
                      · rw [if_neg c349] at H
                        have c349b0 : ((Int.tmod (IntKind.u64.wrap (a0)) 16) == 9) = false := beq_eq_false_iff_ne.mpr c349
                        have c349b1 : ((Int.tmod (IntKind.u64.wrap (a0)) 16) != 9) = true := bne_iff_ne.mpr c349
                        by_cases c384 : (Int.tmod (IntKind.u64.wrap (a0)) 16) = 10
                        · exact absurd c384 hs_c384
                        · rw [if_neg c384] at H
                          have c384b0 : ((Int.tmod (IntKind.u64.wrap (a0)) 16) == 10) = false := beq_eq_false_iff_ne.mpr c384
                          have c384b1 : ((Int.tmod (IntKind.u64.wrap (a0)) 16) != 10) = true := bne_iff_ne.mpr c384
                          by_cases c419 : (Int.tmod (IntKind.u64.wrap (a0)) 16) = 11
                          · exact absurd c419 hs_c419
                          · rw [if_neg c419] at H
                            have c419b0 : ((Int.tmod (IntKind.u64.wrap (a0)) 16) == 11) = false := beq_eq_false_iff_ne.mpr c419
                            have c419b1 : ((Int.tmod (IntKind.u64.wrap (a0)) 16) != 11) = true := bne_iff_ne.mpr c419
                            by_cases c454 : (Int.tmod (IntKind.u64.wrap (a0)) 16) = 12
                            · exact absurd c454 hs_c454
                            · rw [if_neg c454] at H
                              have c454b0 : ((Int.tmod (IntKind.u64.wrap (a0)) 16) == 12) = false := beq_eq_false_iff_ne.mpr c454
                              have c454b1 : ((Int.tmod (IntKind.u64.wrap (a0)) 16) != 12) = true := bne_iff_ne.mpr c454
                              by_cases c489 : (Int.tmod (IntKind.u64.wrap (a0)) 16) = 13
                              · exact absurd c489 hs_c489
                              · rw [if_neg c489] at H
                                have c489b0 : ((Int.tmod (IntKind.u64.wrap (a0)) 16) == 13) = false := beq_eq_false_iff_ne.mpr c489
                                have c489b1 : ((Int.tmod (IntKind.u64.wrap (a0)) 16) != 13) = true := bne_iff_ne.mpr c489
                                by_cases c524 : (Int.tmod (IntKind.u64.wrap (a0)) 16) = 14
                                · exact absurd c524 hs_c524
                                · rw [if_neg c524] at H
                                  have c524b0 : ((Int.tmod (IntKind.u64.wrap (a0)) 16) == 14) = false := beq_eq_false_iff_ne.mpr c524
                                  have c524b1 : ((Int.tmod (IntKind.u64.wrap (a0)) 16) != 14) = true := bne_iff_ne.mpr c524
                                  obtain ⟨ji559, hji559⟩ : ∃ j_ : Int, (wrap64 (8 + (wrap64 (1 + (Go.bits .and .i64 a1 1023))))) = j_ := ⟨_, rfl⟩
                                  replace H : (if 0 ≤ (ji559) then (if (ji559 : Int).toNat ≤ 8796093022208 then (grafterlaw19_ConfigForms.l0 k 0 t176 t177 t178 (List.replicate (ji559 : Int).toNat z35) t182 t183 t184 t185 t186) else (none)) else (none)) = some r := by first | (rw [hji559] at H; exact H) | (simp only [hji559] at H ⊢; exact H)
                                  (try rw [hji559] at A3)
                                  (try rw [hji559] at A5)
                                  have hji559w : (IntKind.i64.wrap (8 + (wrap64 (1 + (Go.bits .and .i64 a1 1023))))) = ji559 := (i64_w _).trans hji559
                                  by_cases c560 : 0 ≤ (ji559)
                                  · rw [if_pos c560] at H
                                    have c560b0 := eq_true c560
                                    have c560b1 : decide (0 ≤ (ji559)) = true := decide_eq_true c560
                                    clear c560
                                    by_cases c561 : (ji559 : Int).toNat ≤ 8796093022208
                                    · rw [if_pos c561] at H
                                      have c561b0 := eq_true c561
                                      have c561b1 : decide ((ji559 : Int).toNat ≤ 8796093022208) = true := decide_eq_true c561
                                      clear c561
                                      obtain ⟨y400, hy400⟩ : ∃ y_ : List (S35), y_ = (List.replicate (ji559 : Int).toNat z35) := ⟨_, rfl⟩
                                      replace H : (grafterlaw19_ConfigForms.l0 k 0 t176 t177 t178 y400 t182 t183 t184 t185 t186) = some r := by first | (rw [hy400]; with_reducible exact H) | (have H2_ := (Option.bind_some _ _).symm.trans H; rw [hy400]; with_reducible exact H2_) | (have H2_ := (Option.bind_some _ _).symm.trans H; with_reducible exact H2_) | with_reducible exact H | (rw [hy400]; exact H) | exact H
                                      have Ny400 := Aside0.mk hy400
                                      clear hy400
                                      have H' := Aside0.mk H
                                      clear H
                                      go_enter Try.func4, Try.ntmps4
                                      go_wp2_with (first | ((with_reducible refine gate_callee (f := 20) rfl ?_); refine goesL_ (some 8) rfl rfl Try.func20 (by kernel_rfl) rfl #[] rfl (by (try simp only [List.map_toArray, List.map_cons, List.map_nil]); first | done | rfl | (simp only [List.length_drop, List.length_take]; rfl)) ?_; (with_reducible refine (grafterlaw19_awake.calls k  true _ rfl A3.out).mono ?_); rintro e w562 ⟨rfl, hb⟩; refine ⟨_, rfl, ?_⟩; have n0_ := Aside0.mk (below_step (by repeat (first | (with_reducible first | exact HB.out | apply below_alloc | apply pw_below_drewN | apply below_drew1) | exact HB.out)) hb); clear HB; have HB := n0_; clear n0_; (try clear hb); (try clear hb2); (try clear hk); (try clear hi)) | ((with_reducible refine gate_callee (f := 21) rfl ?_); refine goesL_ (some 13) rfl rfl Try.func21 (by kernel_rfl) rfl #[] rfl (by (try simp only [List.map_toArray, List.map_cons, List.map_nil]); first | done | rfl | (simp only [List.length_drop, List.length_take]; rfl)) ?_; (with_reducible refine (grafterlaw19_small.calls  t176 t177 t178 t179 t182 t183 t184 t185 t186 _ A5.out).mono ?_); rintro e w563 ⟨v180, rfl, ho0, hb⟩; refine ⟨_, rfl, ?_⟩; have n0_ := Aside0.mk (Kd.N_lower (Kd.N_mono (ok' := fun k_ => True) ho0 (fun k_ hk_ => trivial)) (below_size (by repeat (first | (with_reducible first | exact HB.out | apply below_alloc | apply pw_below_drewN | apply below_drew1) | exact HB.out)))); have n1_ := Aside0.mk (below_step (by repeat (first | (with_reducible first | exact HB.out | apply below_alloc | apply pw_below_drewN | apply below_drew1) | exact HB.out)) hb); clear HB; have HO181 := n0_; have HB := n1_; clear n0_ n1_; (try clear hb); (try clear hb2); (try clear hk); (try clear hi); (try clear ho0)) | ((with_reducible refine gate_dst (N := 6) rfl ?_); refine box_event ?hg (N := 6) ?hd (cs := #[.int .i64 0, .int .i64 0, .int .i64 0, .slice none 0 0, .int .i64 0, .int .i64 0, .int .i64 0, .int .i64 0, .bool false]) (t := 26) ?hr ?_; (case hd => rfl); (case hg => rfl); (case hr => first | (go_simp; done) | (go_simp; rfl)); intro gb187 hg w564 hbox hb; have n0_ := Aside0.mk (Kd.N_below (Kd.N_elderB (by (with_reducible repeat (first | apply Kd.N_alloc | apply Kd.N_drewN | apply Kd.N_drew)); exact HO181.out) gb187 (Nat.le_of_eq hg.symm)) hb); have n1_ := Aside0.mk (below_step (by repeat (first | (with_reducible first | exact HB.out | apply below_alloc | apply pw_below_drewN | apply below_drew1) | exact HB.out)) hb); have n2_ := Aside0.mk (hbox); have n3_ := Aside0.mk ((by rw [hg]; exact (below_size (by repeat (first | (with_reducible first | exact HB.out | apply below_alloc | apply pw_below_drewN | apply below_drew1) | exact HB.out))) : w.heap.size ≤ gb187)); have n4_ := Aside0.mk ((by rw [hg]; exact (below_size (by repeat (first | (with_reducible first | exact HB.out | apply below_alloc | apply pw_below_drewN | apply below_drew1) | exact HB.out))) : w.heap.size ≤ gb187)); clear HO181; clear HB; have HO181 := n0_; have HB := n1_; have BK187 := n2_; have GW187 := n3_; have GE187 := n4_; clear n0_ n1_ n2_ n3_ n4_; clear hb hbox hg; have hcz565_0 : w564.cell? ⟨gb187, 0, none⟩ = some (.int .i64 0) := (blk_cell BK187.out 0).trans rfl; have hcz565_1 : w564.cell? ⟨gb187, 1, none⟩ = some (.int .i64 0) := (blk_cell BK187.out 1).trans rfl; have hcz565_2 : w564.cell? ⟨gb187, 2, none⟩ = some (.int .i64 0) := (blk_cell BK187.out 2).trans rfl; have hcz565_3 : w564.cell? ⟨gb187, 3, none⟩ = some (.slice none 0 0) := (blk_cell BK187.out 3).trans rfl; have hcz565_4 : w564.cell? ⟨gb187, 4, none⟩ = some (.int .i64 0) := (blk_cell BK187.out 4).trans rfl; have hcz565_5 : w564.cell? ⟨gb187, 5, none⟩ = some (.int .i64 0) := (blk_cell BK187.out 5).trans rfl; have hcz565_6 : w564.cell? ⟨gb187, 6, none⟩ = some (.int .i64 0) := (blk_cell BK187.out 6).trans rfl; have hcz565_7 : w564.cell? ⟨gb187, 7, none⟩ = some (.int .i64 0) := (blk_cell BK187.out 7).trans rfl; have hcz565_8 : w564.cell? ⟨gb187, 8, none⟩ = some (.bool false) := (blk_cell BK187.out 8).trans rfl; have hfz565_0 := blk_frozen BK187.out 0; have hfz565_1 := blk_frozen BK187.out 1; have hfz565_2 := blk_frozen BK187.out 2; have hfz565_3 := blk_frozen BK187.out 3; have hfz565_4 := blk_frozen BK187.out 4; have hfz565_5 := blk_frozen BK187.out 5; have hfz565_6 := blk_frozen BK187.out 6; have hfz565_7 := blk_frozen BK187.out 7; have hfz565_8 := blk_frozen BK187.out 8; obtain ⟨Ao566, co566, eo566⟩ := Kd.N_slice HO181.out; subst eo566) | ((with_reducible refine gate_dst (N := 19) rfl ?_); refine Kd.N_make k35 _ 35 rfl (N' := 19) rfl 24 _ _ rfl ji559 rfl rfl Try.underlying24 (.agg #[(.slice none 0 0), (.int .i64 0)]) 32 info35 rfl (by decide) (by omega) z35 (ok := fun k_ => w564.heap.size ≤ k_) (okp := fun _ => False) (k35_mkF _ _ z35 (Nat.le_refl _) (Kd.F_nil _ _ _)) (fun _ hk => hk.elim) (by first | exact Nat.le_of_eq (by simp) | (simp; done) | simp [World.setCell]) (of_decide_eq_true c560b1) (Nat.le_trans (Nat.mul_le_mul_right _ (of_decide_eq_true c561b1 : ji559.toNat ≤ 8796093022208)) (by omega)) (Below.refl _ _) (Nat.le_refl _) ?_; intro v401 w567 ho568 hb hg_ hnew_; clear hg_ hnew_; (first | rw [← Ny400.out] at ho568 | (simp only [Int.reduceToNat] at ho568; rw [← Ny400.out] at ho568)); have n0_ := Aside0.mk (Kd.N_elder' (by (with_reducible repeat (first | apply Kd.N_alloc | apply Kd.N_drewN | apply Kd.N_drew)); exact (Kd.N_mono (Kd.N_far (p := ⟨gb187, 8, none⟩) (Kd.N_far (p := ⟨gb187, 7, none⟩) (Kd.N_far (p := ⟨gb187, 6, none⟩) (Kd.N_far (p := ⟨gb187, 5, none⟩) (Kd.N_far (p := ⟨gb187, 4, none⟩) (Kd.N_far (p := ⟨gb187, 3, none⟩) (Kd.N_far (p := ⟨gb187, 2, none⟩) (Kd.N_far (p := ⟨gb187, 1, none⟩) (Kd.N_far (p := ⟨gb187, 0, none⟩) (Kd.N_mono HO181.out (fun k_ hk => (⟨hk, hk.2⟩ : _ ∧ k_ ≠ gb187))) (fun _ hk => hk.2) (.int .i64 t176)) (fun _ hk => hk.2) (.int .i64 t177)) (fun _ hk => hk.2) (.int .i64 t178)) (fun _ hk => hk.2) (.slice Ao566 t179.length co566)) (fun _ hk => hk.2) (.int .i64 t182)) (fun _ hk => hk.2) (.int .i64 t183)) (fun _ hk => hk.2) (.int .i64 t184)) (fun _ hk => hk.2) (.int .i64 t185)) (fun _ hk => hk.2) (.bool t186)) (fun _ h_ => h_.1))) (Kd.N_base ho568) hb); have n1_ := Aside0.mk (Kd.N_lower (Kd.N_mono (ok' := fun k_ => some k_ ≠ (.slice Ao566 t179.length co566 : Value).ownBlock ∧ k_ ≠ gb187) ho568 (fun k_ hk_ => ⟨(Kd.fresh' (Kd.N_lt HO181.out) k_ hk_), (Kd.freshB BK187.out k_ hk_)⟩)) (below_size (by repeat (first | (with_reducible first | exact HB.out | apply below_alloc | apply pw_below_drewN | apply below_drew1 | refine below_set ?_ GE187.out) | exact HB.out)))); have n2_ := Aside0.mk (blk_below (g := gb187) (o := .cells #[.int .i64 t176, .int .i64 t177, .int .i64 t178, .slice Ao566 t179.length co566, .int .i64 t182, .int .i64 t183, .int .i64 t184, .int .i64 t185, .bool t186] 26 (0, 0)) (by (with_reducible repeat (first | refine blk_drewN ?_ _ | refine blk_drew ?_ | refine blk_alloc ?_ _)); refine blk_put (cs := #[.int .i64 t176, .int .i64 t177, .int .i64 t178, .slice Ao566 t179.length co566, .int .i64 t182, .int .i64 t183, .int .i64 t184, .int .i64 t185, .bool false]) ?_ 8 _ rfl; (with_reducible repeat (first | refine blk_drewN ?_ _ | refine blk_drew ?_ | refine blk_alloc ?_ _)); refine blk_put (cs := #[.int .i64 t176, .int .i64 t177, .int .i64 t178, .slice Ao566 t179.length co566, .int .i64 t182, .int .i64 t183, .int .i64 t184, .int .i64 0, .bool false]) ?_ 7 _ rfl; (with_reducible repeat (first | refine blk_drewN ?_ _ | refine blk_drew ?_ | refine blk_alloc ?_ _)); refine blk_put (cs := #[.int .i64 t176, .int .i64 t177, .int .i64 t178, .slice Ao566 t179.length co566, .int .i64 t182, .int .i64 t183, .int .i64 0, .int .i64 0, .bool false]) ?_ 6 _ rfl; (with_reducible repeat (first | refine blk_drewN ?_ _ | refine blk_drew ?_ | refine blk_alloc ?_ _)); refine blk_put (cs := #[.int .i64 t176, .int .i64 t177, .int .i64 t178, .slice Ao566 t179.length co566, .int .i64 t182, .int .i64 0, .int .i64 0, .int .i64 0, .bool false]) ?_ 5 _ rfl; (with_reducible repeat (first | refine blk_drewN ?_ _ | refine blk_drew ?_ | refine blk_alloc ?_ _)); refine blk_put (cs := #[.int .i64 t176, .int .i64 t177, .int .i64 t178, .slice Ao566 t179.length co566, .int .i64 0, .int .i64 0, .int .i64 0, .int .i64 0, .bool false]) ?_ 4 _ rfl; (with_reducible repeat (first | refine blk_drewN ?_ _ | refine blk_drew ?_ | refine blk_alloc ?_ _)); refine blk_put (cs := #[.int .i64 t176, .int .i64 t177, .int .i64 t178, .slice none 0 0, .int .i64 0, .int .i64 0, .int .i64 0, .int .i64 0, .bool false]) ?_ 3 _ rfl; (with_reducible repeat (first | refine blk_drewN ?_ _ | refine blk_drew ?_ | refine blk_alloc ?_ _)); refine blk_put (cs := #[.int .i64 t176, .int .i64 t177, .int .i64 0, .slice none 0 0, .int .i64 0, .int .i64 0, .int .i64 0, .int .i64 0, .bool false]) ?_ 2 _ rfl; (with_reducible repeat (first | refine blk_drewN ?_ _ | refine blk_drew ?_ | refine blk_alloc ?_ _)); refine blk_put (cs := #[.int .i64 t176, .int .i64 0, .int .i64 0, .slice none 0 0, .int .i64 0, .int .i64 0, .int .i64 0, .int .i64 0, .bool false]) ?_ 1 _ rfl; (with_reducible repeat (first | refine blk_drewN ?_ _ | refine blk_drew ?_ | refine blk_alloc ?_ _)); refine blk_put (cs := #[.int .i64 0, .int .i64 0, .int .i64 0, .slice none 0 0, .int .i64 0, .int .i64 0, .int .i64 0, .int .i64 0, .bool false]) ?_ 0 _ rfl; (with_reducible repeat (first | refine blk_drewN ?_ _ | refine blk_drew ?_ | refine blk_alloc ?_ _)); exact BK187.out) hb); have n3_ := Aside0.mk (below_step (by repeat (first | (with_reducible first | exact HB.out | apply below_alloc | apply pw_below_drewN | apply below_drew1 | refine below_set ?_ GE187.out) | exact HB.out)) hb); clear HO181; clear BK187; clear HB; have HO181 := n0_; have HO402 := n1_; have BK187 := n2_; have HB := n3_; clear n0_ n1_ n2_ n3_; clear hb ho568; obtain ⟨Ao569, co569, eo569⟩ := Kd.N_slice HO402.out; subst eo569; have hcz570_0 : w567.cell? ⟨gb187, 0, none⟩ = some (.int .i64 t176) := (blk_cell BK187.out 0).trans rfl; have hcz570_1 : w567.cell? ⟨gb187, 1, none⟩ = some (.int .i64 t177) := (blk_cell BK187.out 1).trans rfl; have hcz570_2 : w567.cell? ⟨gb187, 2, none⟩ = some (.int .i64 t178) := (blk_cell BK187.out 2).trans rfl; have hcz570_3 : w567.cell? ⟨gb187, 3, none⟩ = some (.slice Ao566 t179.length co566) := (blk_cell BK187.out 3).trans rfl; have hcz570_4 : w567.cell? ⟨gb187, 4, none⟩ = some (.int .i64 t182) := (blk_cell BK187.out 4).trans rfl; have hcz570_5 : w567.cell? ⟨gb187, 5, none⟩ = some (.int .i64 t183) := (blk_cell BK187.out 5).trans rfl; have hcz570_6 : w567.cell? ⟨gb187, 6, none⟩ = some (.int .i64 t184) := (blk_cell BK187.out 6).trans rfl; have hcz570_7 : w567.cell? ⟨gb187, 7, none⟩ = some (.int .i64 t185) := (blk_cell BK187.out 7).trans rfl; have hcz570_8 : w567.cell? ⟨gb187, 8, none⟩ = some (.bool t186) := (blk_cell BK187.out 8).trans rfl; have hfz570_0 := blk_frozen BK187.out 0; have hfz570_1 := blk_frozen BK187.out 1; have hfz570_2 := blk_frozen BK187.out 2; have hfz570_3 := blk_frozen BK187.out 3; have hfz570_4 := blk_frozen BK187.out 4; have hfz570_5 := blk_frozen BK187.out 5; have hfz570_6 := blk_frozen BK187.out 6; have hfz570_7 := blk_frozen BK187.out 7; have hfz570_8 := blk_frozen BK187.out 8))
                                      go_loopg [7] k (fun kq v7 w' => ∃ (x7_1 : Int) (x188003_1 : List (S35)) (u188003 : Value), v7 = .int .i64 x7_1 ∧ Aside0 (grafterlaw19_ConfigForms.l0 kq x7_1 t176 t177 t178 x188003_1 t182 t183 t184 t185 t186 = some r) ∧ Aside0 (kq ≤ k) ∧ Aside0 (Kd.N k35 35 w' w.heap.size (fun k_ => k_ ≠ gb187) u188003 x188003_1) ∧ Aside0 (w'.heap[gb187]? = some (.cells #[.int .i64 t176, .int .i64 t177, .int .i64 t178, u188003, .int .i64 t182, .int .i64 t183, .int .i64 t184, .int .i64 t185, .bool t186] 26 (0, 0))) ∧ Aside0 (Below w.heap.size w w'))
                                      case atStart => exact ⟨(0), (y400), (.slice Ao569 y400.length co569), (by first | rfl | (simp; done) | (simp [*]; done)), H', ⟨Nat.le_refl _⟩, ⟨by (with_reducible repeat (first | apply Kd.N_alloc | apply Kd.N_drewN | apply Kd.N_drew)); exact Kd.N_mono (Kd.N_far (p := ⟨gb187, 3, none⟩) (Kd.N_mono HO402.out (fun k_ hk => (⟨hk, hk.2⟩ : _ ∧ k_ ≠ gb187))) (fun _ hk => hk.2) (.slice Ao569 y400.length co569)) (fun _ hk => hk.1.2)⟩, ⟨by (with_reducible repeat (first | refine blk_drewN ?_ _ | refine blk_drew ?_ | refine blk_alloc ?_ _)); refine blk_put (cs := #[.int .i64 t176, .int .i64 t177, .int .i64 t178, .slice Ao566 t179.length co566, .int .i64 t182, .int .i64 t183, .int .i64 t184, .int .i64 t185, .bool t186]) ?_ 3 _ rfl; (with_reducible repeat (first | refine blk_drewN ?_ _ | refine blk_drew ?_ | refine blk_alloc ?_ _)); exact BK187.out⟩, ⟨by repeat (first | (with_reducible first | exact HB.out | apply below_alloc | apply pw_below_drewN | apply below_drew1 | refine below_set ?_ GE187.out) | exact HB.out)⟩⟩
                                      case round =>
                                        clear H'
                                        try clear c1
                                        try clear c2
                                        try clear p2
                                        try clear q2
                                        try clear hx2
                                        try clear qi2
                                        try clear hf2
                                        try clear c3
                                        try clear c4
                                        try clear c5
                                        try clear p6
                                        try clear c17
                                        try clear c20
                                        try clear c21
                                        try clear c23
                                        try clear p23
                                        try clear q23
                                        try clear hx23
                                        try clear qi23
                                        try clear hf23
                                        try clear c24
                                        try clear hx24
                                        try clear hf24
                                        try clear c26
                                        try clear hx26
                                        try clear hf26
                                        try clear c27
                                        try clear hx27
                                        try clear hf27
                                        try clear c28
                                        try clear c31
                                        try clear c34
                                        try clear c35
                                        try clear c38
                                        try clear c41
                                        try clear c42
                                        try clear c45
                                        try clear c48
                                        try clear c49
                                        try clear c52
                                        try clear c56
                                        try clear p64
                                        try clear c230
                                        try clear c230b0
                                        try clear c230b1
                                        try clear c231
                                        try clear c232
                                        try clear p232
                                        try clear q232
                                        try clear hx232
                                        try clear qi232
                                        try clear hf232
                                        try clear c235
                                        try clear c237
                                        try clear c245
                                        try clear hx245
                                        try clear hf245
                                        try clear c260
                                        try clear hx260
                                        try clear hf260
                                        try clear c274
                                        try clear hx274
                                        try clear hf274
                                        try clear c279
                                        try clear c279b0
                                        try clear c279b1
                                        try clear c282
                                        try clear c284
                                        try clear c314
                                        try clear c314b0
                                        try clear c314b1
                                        try clear c317
                                        try clear c319
                                        try clear c349
                                        try clear c349b0
                                        try clear c349b1
                                        try clear c352
                                        try clear c354
                                        try clear c384
                                        try clear c384b0
                                        try clear c384b1
                                        try clear c387
                                        try clear c389
                                        try clear c419
                                        try clear c419b0
                                        try clear c419b1
                                        try clear c422
                                        try clear c424
                                        try clear c454
                                        try clear c454b0
                                        try clear c454b1
                                        try clear c457
                                        try clear c459
                                        try clear c489
                                        try clear c489b0
                                        try clear c489b1
                                        try clear c492
                                        try clear c494
                                        try clear c524
                                        try clear c524b0
                                        try clear c524b1
                                        try clear c527
                                        try clear c529
                                        try clear c560
                                        try clear c560b0
                                        try clear c560b1
                                        try clear c561
                                        try clear c561b0
                                        try clear c561b1
                                        try clear hcz241_0
                                        try clear hcz241_1
                                        try clear hcz241_2
                                        try clear hcz241_3
                                        try clear hcz241_4
                                        try clear hcz241_5
                                        try clear hcz241_6
                                        try clear hcz241_7
                                        try clear hcz241_8
                                        try clear hcz244_0
                                        try clear hcz244_1
                                        try clear hcz244_2
                                        try clear hcz244_3
                                        try clear hcz244_4
                                        try clear hcz244_5
                                        try clear hcz244_6
                                        try clear hcz244_7
                                        try clear hcz244_8
                                        try clear hcz250_0
                                        try clear hcz250_1
                                        try clear hcz250_2
                                        try clear hcz250_3
                                        try clear hcz250_4
                                        try clear hcz250_5
                                        try clear hcz250_6
                                        try clear hcz250_7
                                        try clear hcz250_8
                                        try clear hcz256_0
                                        try clear hcz256_1
                                        try clear hcz256_2
                                        try clear hcz256_3
                                        try clear hcz256_4
                                        try clear hcz256_5
                                        try clear hcz256_6
                                        try clear hcz256_7
                                        try clear hcz256_8
                                        try clear hcz259_0
                                        try clear hcz259_1
                                        try clear hcz259_2
                                        try clear hcz259_3
                                        try clear hcz259_4
                                        try clear hcz259_5
                                        try clear hcz259_6
                                        try clear hcz259_7
                                        try clear hcz259_8
                                        try clear hcz265_0
                                        try clear hcz265_1
                                        try clear hcz265_2
                                        try clear hcz265_3
                                        try clear hcz265_4
                                        try clear hcz265_5
                                        try clear hcz265_6
                                        try clear hcz265_7
                                        try clear hcz265_8
                                        try clear hcz270_0
                                        try clear hcz270_1
                                        try clear hcz270_2
                                        try clear hcz270_3
                                        try clear hcz270_4
                                        try clear hcz270_5
                                        try clear hcz270_6
                                        try clear hcz270_7
                                        try clear hcz270_8
                                        try clear hcz273_0
                                        try clear hcz273_1
                                        try clear hcz273_2
                                        try clear hcz273_3
                                        try clear hcz273_4
                                        try clear hcz273_5
                                        try clear hcz273_6
                                        try clear hcz273_7
                                        try clear hcz273_8
                                        try clear hcz288_0
                                        try clear hcz288_1
                                        try clear hcz288_2
                                        try clear hcz288_3
                                        try clear hcz288_4
                                        try clear hcz288_5
                                        try clear hcz288_6
                                        try clear hcz288_7
                                        try clear hcz288_8
                                        try clear hcz293_0
                                        try clear hcz293_1
                                        try clear hcz293_2
                                        try clear hcz293_3
                                        try clear hcz293_4
                                        try clear hcz293_5
                                        try clear hcz293_6
                                        try clear hcz293_7
                                        try clear hcz293_8
                                        try clear hcz299_0
                                        try clear hcz299_1
                                        try clear hcz299_2
                                        try clear hcz299_3
                                        try clear hcz299_4
                                        try clear hcz299_5
                                        try clear hcz299_6
                                        try clear hcz299_7
                                        try clear hcz299_8
                                        try clear hcz304_0
                                        try clear hcz304_1
                                        try clear hcz304_2
                                        try clear hcz304_3
                                        try clear hcz304_4
                                        try clear hcz304_5
                                        try clear hcz304_6
                                        try clear hcz304_7
                                        try clear hcz304_8
                                        try clear hcz309_0
                                        try clear hcz309_1
                                        try clear hcz309_2
                                        try clear hcz309_3
                                        try clear hcz309_4
                                        try clear hcz309_5
                                        try clear hcz309_6
                                        try clear hcz309_7
                                        try clear hcz309_8
                                        try clear hcz323_0
                                        try clear hcz323_1
                                        try clear hcz323_2
                                        try clear hcz323_3
                                        try clear hcz323_4
                                        try clear hcz323_5
                                        try clear hcz323_6
                                        try clear hcz323_7
                                        try clear hcz323_8
                                        try clear hcz328_0
                                        try clear hcz328_1
                                        try clear hcz328_2
                                        try clear hcz328_3
                                        try clear hcz328_4
                                        try clear hcz328_5
                                        try clear hcz328_6
                                        try clear hcz328_7
                                        try clear hcz328_8
                                        try clear hcz334_0
                                        try clear hcz334_1
                                        try clear hcz334_2
                                        try clear hcz334_3
                                        try clear hcz334_4
                                        try clear hcz334_5
                                        try clear hcz334_6
                                        try clear hcz334_7
                                        try clear hcz334_8
                                        try clear hcz339_0
                                        try clear hcz339_1
                                        try clear hcz339_2
                                        try clear hcz339_3
                                        try clear hcz339_4
                                        try clear hcz339_5
                                        try clear hcz339_6
                                        try clear hcz339_7
                                        try clear hcz339_8
                                        try clear hcz344_0
                                        try clear hcz344_1
                                        try clear hcz344_2
                                        try clear hcz344_3
                                        try clear hcz344_4
                                        try clear hcz344_5
                                        try clear hcz344_6
                                        try clear hcz344_7
                                        try clear hcz344_8
                                        try clear hcz358_0
                                        try clear hcz358_1
                                        try clear hcz358_2
                                        try clear hcz358_3
                                        try clear hcz358_4
                                        try clear hcz358_5
                                        try clear hcz358_6
                                        try clear hcz358_7
                                        try clear hcz358_8
                                        try clear hcz363_0
                                        try clear hcz363_1
                                        try clear hcz363_2
                                        try clear hcz363_3
                                        try clear hcz363_4
                                        try clear hcz363_5
                                        try clear hcz363_6
                                        try clear hcz363_7
                                        try clear hcz363_8
                                        try clear hcz369_0
                                        try clear hcz369_1
                                        try clear hcz369_2
                                        try clear hcz369_3
                                        try clear hcz369_4
                                        try clear hcz369_5
                                        try clear hcz369_6
                                        try clear hcz369_7
                                        try clear hcz369_8
                                        try clear hcz374_0
                                        try clear hcz374_1
                                        try clear hcz374_2
                                        try clear hcz374_3
                                        try clear hcz374_4
                                        try clear hcz374_5
                                        try clear hcz374_6
                                        try clear hcz374_7
                                        try clear hcz374_8
                                        try clear hcz379_0
                                        try clear hcz379_1
                                        try clear hcz379_2
                                        try clear hcz379_3
                                        try clear hcz379_4
                                        try clear hcz379_5
                                        try clear hcz379_6
                                        try clear hcz379_7
                                        try clear hcz379_8
                                        try clear hcz393_0
                                        try clear hcz393_1
                                        try clear hcz393_2
                                        try clear hcz393_3
                                        try clear hcz393_4
                                        try clear hcz393_5
                                        try clear hcz393_6
                                        try clear hcz393_7
                                        try clear hcz393_8
                                        try clear hcz398_0
                                        try clear hcz398_1
                                        try clear hcz398_2
                                        try clear hcz398_3
                                        try clear hcz398_4
                                        try clear hcz398_5
                                        try clear hcz398_6
                                        try clear hcz398_7
                                        try clear hcz398_8
                                        try clear hcz404_0
                                        try clear hcz404_1
                                        try clear hcz404_2
                                        try clear hcz404_3
                                        try clear hcz404_4
                                        try clear hcz404_5
                                        try clear hcz404_6
                                        try clear hcz404_7
                                        try clear hcz404_8
                                        try clear hcz409_0
                                        try clear hcz409_1
                                        try clear hcz409_2
                                        try clear hcz409_3
                                        try clear hcz409_4
                                        try clear hcz409_5
                                        try clear hcz409_6
                                        try clear hcz409_7
                                        try clear hcz409_8
                                        try clear hcz414_0
                                        try clear hcz414_1
                                        try clear hcz414_2
                                        try clear hcz414_3
                                        try clear hcz414_4
                                        try clear hcz414_5
                                        try clear hcz414_6
                                        try clear hcz414_7
                                        try clear hcz414_8
                                        try clear hcz428_0
                                        try clear hcz428_1
                                        try clear hcz428_2
                                        try clear hcz428_3
                                        try clear hcz428_4
                                        try clear hcz428_5
                                        try clear hcz428_6
                                        try clear hcz428_7
                                        try clear hcz428_8
                                        try clear hcz433_0
                                        try clear hcz433_1
                                        try clear hcz433_2
                                        try clear hcz433_3
                                        try clear hcz433_4
                                        try clear hcz433_5
                                        try clear hcz433_6
                                        try clear hcz433_7
                                        try clear hcz433_8
                                        try clear hcz439_0
                                        try clear hcz439_1
                                        try clear hcz439_2
                                        try clear hcz439_3
                                        try clear hcz439_4
                                        try clear hcz439_5
                                        try clear hcz439_6
                                        try clear hcz439_7
                                        try clear hcz439_8
                                        try clear hcz444_0
                                        try clear hcz444_1
                                        try clear hcz444_2
                                        try clear hcz444_3
                                        try clear hcz444_4
                                        try clear hcz444_5
                                        try clear hcz444_6
                                        try clear hcz444_7
                                        try clear hcz444_8
                                        try clear hcz449_0
                                        try clear hcz449_1
                                        try clear hcz449_2
                                        try clear hcz449_3
                                        try clear hcz449_4
                                        try clear hcz449_5
                                        try clear hcz449_6
                                        try clear hcz449_7
                                        try clear hcz449_8
                                        try clear hcz463_0
                                        try clear hcz463_1
                                        try clear hcz463_2
                                        try clear hcz463_3
                                        try clear hcz463_4
                                        try clear hcz463_5
                                        try clear hcz463_6
                                        try clear hcz463_7
                                        try clear hcz463_8
                                        try clear hcz468_0
                                        try clear hcz468_1
                                        try clear hcz468_2
                                        try clear hcz468_3
                                        try clear hcz468_4
                                        try clear hcz468_5
                                        try clear hcz468_6
                                        try clear hcz468_7
                                        try clear hcz468_8
                                        try clear hcz474_0
                                        try clear hcz474_1
                                        try clear hcz474_2
                                        try clear hcz474_3
                                        try clear hcz474_4
                                        try clear hcz474_5
                                        try clear hcz474_6
                                        try clear hcz474_7
                                        try clear hcz474_8
                                        try clear hcz479_0
                                        try clear hcz479_1
                                        try clear hcz479_2
                                        try clear hcz479_3
                                        try clear hcz479_4
                                        try clear hcz479_5
                                        try clear hcz479_6
                                        try clear hcz479_7
                                        try clear hcz479_8
                                        try clear hcz484_0
                                        try clear hcz484_1
                                        try clear hcz484_2
                                        try clear hcz484_3
                                        try clear hcz484_4
                                        try clear hcz484_5
                                        try clear hcz484_6
                                        try clear hcz484_7
                                        try clear hcz484_8
                                        try clear hcz498_0
                                        try clear hcz498_1
                                        try clear hcz498_2
                                        try clear hcz498_3
                                        try clear hcz498_4
                                        try clear hcz498_5
                                        try clear hcz498_6
                                        try clear hcz498_7
                                        try clear hcz498_8
                                        try clear hcz503_0
                                        try clear hcz503_1
                                        try clear hcz503_2
                                        try clear hcz503_3
                                        try clear hcz503_4
                                        try clear hcz503_5
                                        try clear hcz503_6
                                        try clear hcz503_7
                                        try clear hcz503_8
                                        try clear hcz509_0
                                        try clear hcz509_1
                                        try clear hcz509_2
                                        try clear hcz509_3
                                        try clear hcz509_4
                                        try clear hcz509_5
                                        try clear hcz509_6
                                        try clear hcz509_7
                                        try clear hcz509_8
                                        try clear hcz514_0
                                        try clear hcz514_1
                                        try clear hcz514_2
                                        try clear hcz514_3
                                        try clear hcz514_4
                                        try clear hcz514_5
                                        try clear hcz514_6
                                        try clear hcz514_7
                                        try clear hcz514_8
                                        try clear hcz519_0
                                        try clear hcz519_1
                                        try clear hcz519_2
                                        try clear hcz519_3
                                        try clear hcz519_4
                                        try clear hcz519_5
                                        try clear hcz519_6
                                        try clear hcz519_7
                                        try clear hcz519_8
                                        try clear hcz533_0
                                        try clear hcz533_1
                                        try clear hcz533_2
                                        try clear hcz533_3
                                        try clear hcz533_4
                                        try clear hcz533_5
                                        try clear hcz533_6
                                        try clear hcz533_7
                                        try clear hcz533_8
                                        try clear hcz538_0
                                        try clear hcz538_1
                                        try clear hcz538_2
                                        try clear hcz538_3
                                        try clear hcz538_4
                                        try clear hcz538_5
                                        try clear hcz538_6
                                        try clear hcz538_7
                                        try clear hcz538_8
                                        try clear hcz544_0
                                        try clear hcz544_1
                                        try clear hcz544_2
                                        try clear hcz544_3
                                        try clear hcz544_4
                                        try clear hcz544_5
                                        try clear hcz544_6
                                        try clear hcz544_7
                                        try clear hcz544_8
                                        try clear hcz549_0
                                        try clear hcz549_1
                                        try clear hcz549_2
                                        try clear hcz549_3
                                        try clear hcz549_4
                                        try clear hcz549_5
                                        try clear hcz549_6
                                        try clear hcz549_7
                                        try clear hcz549_8
                                        try clear hcz554_0
                                        try clear hcz554_1
                                        try clear hcz554_2
                                        try clear hcz554_3
                                        try clear hcz554_4
                                        try clear hcz554_5
                                        try clear hcz554_6
                                        try clear hcz554_7
                                        try clear hcz554_8
                                        try clear hcz565_0
                                        try clear hcz565_1
                                        try clear hcz565_2
                                        try clear hcz565_3
                                        try clear hcz565_4
                                        try clear hcz565_5
                                        try clear hcz565_6
                                        try clear hcz565_7
                                        try clear hcz565_8
                                        try clear hcz570_0
                                        try clear hcz570_1
                                        try clear hcz570_2
                                        try clear hcz570_3
                                        try clear hcz570_4
                                        try clear hcz570_5
                                        try clear hcz570_6
                                        try clear hcz570_7
                                        try clear hcz570_8
                                        try clear hfz241_0
                                        try clear hfz241_1
                                        try clear hfz241_2
                                        try clear hfz241_3
                                        try clear hfz241_4
                                        try clear hfz241_5
                                        try clear hfz241_6
                                        try clear hfz241_7
                                        try clear hfz241_8
                                        try clear hfz244_0
                                        try clear hfz244_1
                                        try clear hfz244_2
                                        try clear hfz244_3
                                        try clear hfz244_4
                                        try clear hfz244_5
                                        try clear hfz244_6
                                        try clear hfz244_7
                                        try clear hfz244_8
                                        try clear hfz250_0
                                        try clear hfz250_1
                                        try clear hfz250_2
                                        try clear hfz250_3
                                        try clear hfz250_4
                                        try clear hfz250_5
                                        try clear hfz250_6
                                        try clear hfz250_7
                                        try clear hfz250_8
                                        try clear hfz256_0
                                        try clear hfz256_1
                                        try clear hfz256_2
                                        try clear hfz256_3
                                        try clear hfz256_4
                                        try clear hfz256_5
                                        try clear hfz256_6
                                        try clear hfz256_7
                                        try clear hfz256_8
                                        try clear hfz259_0
                                        try clear hfz259_1
                                        try clear hfz259_2
                                        try clear hfz259_3
                                        try clear hfz259_4
                                        try clear hfz259_5
                                        try clear hfz259_6
                                        try clear hfz259_7
                                        try clear hfz259_8
                                        try clear hfz265_0
                                        try clear hfz265_1
                                        try clear hfz265_2
                                        try clear hfz265_3
                                        try clear hfz265_4
                                        try clear hfz265_5
                                        try clear hfz265_6
                                        try clear hfz265_7
                                        try clear hfz265_8
                                        try clear hfz270_0
                                        try clear hfz270_1
                                        try clear hfz270_2
                                        try clear hfz270_3
                                        try clear hfz270_4
                                        try clear hfz270_5
                                        try clear hfz270_6
                                        try clear hfz270_7
                                        try clear hfz270_8
                                        try clear hfz273_0
                                        try clear hfz273_1
                                        try clear hfz273_2
                                        try clear hfz273_3
                                        try clear hfz273_4
                                        try clear hfz273_5
                                        try clear hfz273_6
                                        try clear hfz273_7
                                        try clear hfz273_8
                                        try clear hfz288_0
                                        try clear hfz288_1
                                        try clear hfz288_2
                                        try clear hfz288_3
                                        try clear hfz288_4
                                        try clear hfz288_5
                                        try clear hfz288_6
                                        try clear hfz288_7
                                        try clear hfz288_8
                                        try clear hfz293_0
                                        try clear hfz293_1
                                        try clear hfz293_2
                                        try clear hfz293_3
                                        try clear hfz293_4
                                        try clear hfz293_5
                                        try clear hfz293_6
                                        try clear hfz293_7
                                        try clear hfz293_8
                                        try clear hfz299_0
                                        try clear hfz299_1
                                        try clear hfz299_2
                                        try clear hfz299_3
                                        try clear hfz299_4
                                        try clear hfz299_5
                                        try clear hfz299_6
                                        try clear hfz299_7
                                        try clear hfz299_8
                                        try clear hfz304_0
                                        try clear hfz304_1
                                        try clear hfz304_2
                                        try clear hfz304_3
                                        try clear hfz304_4
                                        try clear hfz304_5
                                        try clear hfz304_6
                                        try clear hfz304_7
                                        try clear hfz304_8
                                        try clear hfz309_0
                                        try clear hfz309_1
                                        try clear hfz309_2
                                        try clear hfz309_3
                                        try clear hfz309_4
                                        try clear hfz309_5
                                        try clear hfz309_6
                                        try clear hfz309_7
                                        try clear hfz309_8
                                        try clear hfz323_0
                                        try clear hfz323_1
                                        try clear hfz323_2
                                        try clear hfz323_3
                                        try clear hfz323_4
                                        try clear hfz323_5
                                        try clear hfz323_6
                                        try clear hfz323_7
                                        try clear hfz323_8
                                        try clear hfz328_0
                                        try clear hfz328_1
                                        try clear hfz328_2
                                        try clear hfz328_3
                                        try clear hfz328_4
                                        try clear hfz328_5
                                        try clear hfz328_6
                                        try clear hfz328_7
                                        try clear hfz328_8
                                        try clear hfz334_0
                                        try clear hfz334_1
                                        try clear hfz334_2
                                        try clear hfz334_3
                                        try clear hfz334_4
                                        try clear hfz334_5
                                        try clear hfz334_6
                                        try clear hfz334_7
                                        try clear hfz334_8
                                        try clear hfz339_0
                                        try clear hfz339_1
                                        try clear hfz339_2
                                        try clear hfz339_3
                                        try clear hfz339_4
                                        try clear hfz339_5
                                        try clear hfz339_6
                                        try clear hfz339_7
                                        try clear hfz339_8
                                        try clear hfz344_0
                                        try clear hfz344_1
                                        try clear hfz344_2
                                        try clear hfz344_3
                                        try clear hfz344_4
                                        try clear hfz344_5
                                        try clear hfz344_6
                                        try clear hfz344_7
                                        try clear hfz344_8
                                        try clear hfz358_0
                                        try clear hfz358_1
                                        try clear hfz358_2
                                        try clear hfz358_3
                                        try clear hfz358_4
                                        try clear hfz358_5
                                        try clear hfz358_6
                                        try clear hfz358_7
                                        try clear hfz358_8
                                        try clear hfz363_0
                                        try clear hfz363_1
                                        try clear hfz363_2
                                        try clear hfz363_3
                                        try clear hfz363_4
                                        try clear hfz363_5
                                        try clear hfz363_6
                                        try clear hfz363_7
                                        try clear hfz363_8
                                        try clear hfz369_0
                                        try clear hfz369_1
                                        try clear hfz369_2
                                        try clear hfz369_3
                                        try clear hfz369_4
                                        try clear hfz369_5
                                        try clear hfz369_6
                                        try clear hfz369_7
                                        try clear hfz369_8
                                        try clear hfz374_0
                                        try clear hfz374_1
                                        try clear hfz374_2
                                        try clear hfz374_3
                                        try clear hfz374_4
                                        try clear hfz374_5
                                        try clear hfz374_6
                                        try clear hfz374_7
                                        try clear hfz374_8
                                        try clear hfz379_0
                                        try clear hfz379_1
                                        try clear hfz379_2
                                        try clear hfz379_3
                                        try clear hfz379_4
                                        try clear hfz379_5
                                        try clear hfz379_6
                                        try clear hfz379_7
                                        try clear hfz379_8
                                        try clear hfz393_0
                                        try clear hfz393_1
                                        try clear hfz393_2
                                        try clear hfz393_3
                                        try clear hfz393_4
                                        try clear hfz393_5
                                        try clear hfz393_6
                                        try clear hfz393_7
                                        try clear hfz393_8
                                        try clear hfz398_0
                                        try clear hfz398_1
                                        try clear hfz398_2
                                        try clear hfz398_3
                                        try clear hfz398_4
                                        try clear hfz398_5
                                        try clear hfz398_6
                                        try clear hfz398_7
                                        try clear hfz398_8
                                        try clear hfz404_0
                                        try clear hfz404_1
                                        try clear hfz404_2
                                        try clear hfz404_3
                                        try clear hfz404_4
                                        try clear hfz404_5
                                        try clear hfz404_6
                                        try clear hfz404_7
                                        try clear hfz404_8
                                        try clear hfz409_0
                                        try clear hfz409_1
                                        try clear hfz409_2
                                        try clear hfz409_3
                                        try clear hfz409_4
                                        try clear hfz409_5
                                        try clear hfz409_6
                                        try clear hfz409_7
                                        try clear hfz409_8
                                        try clear hfz414_0
                                        try clear hfz414_1
                                        try clear hfz414_2
                                        try clear hfz414_3
                                        try clear hfz414_4
                                        try clear hfz414_5
                                        try clear hfz414_6
                                        try clear hfz414_7
                                        try clear hfz414_8
                                        try clear hfz428_0
                                        try clear hfz428_1
                                        try clear hfz428_2
                                        try clear hfz428_3
                                        try clear hfz428_4
                                        try clear hfz428_5
                                        try clear hfz428_6
                                        try clear hfz428_7
                                        try clear hfz428_8
                                        try clear hfz433_0
                                        try clear hfz433_1
                                        try clear hfz433_2
                                        try clear hfz433_3
                                        try clear hfz433_4
                                        try clear hfz433_5
                                        try clear hfz433_6
                                        try clear hfz433_7
                                        try clear hfz433_8
                                        try clear hfz439_0
                                        try clear hfz439_1
                                        try clear hfz439_2
                                        try clear hfz439_3
                                        try clear hfz439_4
                                        try clear hfz439_5
                                        try clear hfz439_6
                                        try clear hfz439_7
                                        try clear hfz439_8
                                        try clear hfz444_0
                                        try clear hfz444_1
                                        try clear hfz444_2
                                        try clear hfz444_3
                                        try clear hfz444_4
                                        try clear hfz444_5
                                        try clear hfz444_6
                                        try clear hfz444_7
                                        try clear hfz444_8
                                        try clear hfz449_0
                                        try clear hfz449_1
                                        try clear hfz449_2
                                        try clear hfz449_3
                                        try clear hfz449_4
                                        try clear hfz449_5
                                        try clear hfz449_6
                                        try clear hfz449_7
                                        try clear hfz449_8
                                        try clear hfz463_0
                                        try clear hfz463_1
                                        try clear hfz463_2
                                        try clear hfz463_3
                                        try clear hfz463_4
                                        try clear hfz463_5
                                        try clear hfz463_6
                                        try clear hfz463_7
                                        try clear hfz463_8
                                        try clear hfz468_0
                                        try clear hfz468_1
                                        try clear hfz468_2
                                        try clear hfz468_3
                                        try clear hfz468_4
                                        try clear hfz468_5
                                        try clear hfz468_6
                                        try clear hfz468_7
                                        try clear hfz468_8
                                        try clear hfz474_0
                                        try clear hfz474_1
                                        try clear hfz474_2
                                        try clear hfz474_3
                                        try clear hfz474_4
                                        try clear hfz474_5
                                        try clear hfz474_6
                                        try clear hfz474_7
                                        try clear hfz474_8
                                        try clear hfz479_0
                                        try clear hfz479_1
                                        try clear hfz479_2
                                        try clear hfz479_3
                                        try clear hfz479_4
                                        try clear hfz479_5
                                        try clear hfz479_6
                                        try clear hfz479_7
                                        try clear hfz479_8
                                        try clear hfz484_0
                                        try clear hfz484_1
                                        try clear hfz484_2
                                        try clear hfz484_3
                                        try clear hfz484_4
                                        try clear hfz484_5
                                        try clear hfz484_6
                                        try clear hfz484_7
                                        try clear hfz484_8
                                        try clear hfz498_0
                                        try clear hfz498_1
                                        try clear hfz498_2
                                        try clear hfz498_3
                                        try clear hfz498_4
                                        try clear hfz498_5
                                        try clear hfz498_6
                                        try clear hfz498_7
                                        try clear hfz498_8
                                        try clear hfz503_0
                                        try clear hfz503_1
                                        try clear hfz503_2
                                        try clear hfz503_3
                                        try clear hfz503_4
                                        try clear hfz503_5
                                        try clear hfz503_6
                                        try clear hfz503_7
                                        try clear hfz503_8
                                        try clear hfz509_0
                                        try clear hfz509_1
                                        try clear hfz509_2
                                        try clear hfz509_3
                                        try clear hfz509_4
                                        try clear hfz509_5
                                        try clear hfz509_6
                                        try clear hfz509_7
                                        try clear hfz509_8
                                        try clear hfz514_0
                                        try clear hfz514_1
                                        try clear hfz514_2
                                        try clear hfz514_3
                                        try clear hfz514_4
                                        try clear hfz514_5
                                        try clear hfz514_6
                                        try clear hfz514_7
                                        try clear hfz514_8
                                        try clear hfz519_0
                                        try clear hfz519_1
                                        try clear hfz519_2
                                        try clear hfz519_3
                                        try clear hfz519_4
                                        try clear hfz519_5
                                        try clear hfz519_6
                                        try clear hfz519_7
                                        try clear hfz519_8
                                        try clear hfz533_0
                                        try clear hfz533_1
                                        try clear hfz533_2
                                        try clear hfz533_3
                                        try clear hfz533_4
                                        try clear hfz533_5
                                        try clear hfz533_6
                                        try clear hfz533_7
                                        try clear hfz533_8
                                        try clear hfz538_0
                                        try clear hfz538_1
                                        try clear hfz538_2
                                        try clear hfz538_3
                                        try clear hfz538_4
                                        try clear hfz538_5
                                        try clear hfz538_6
                                        try clear hfz538_7
                                        try clear hfz538_8
                                        try clear hfz544_0
                                        try clear hfz544_1
                                        try clear hfz544_2
                                        try clear hfz544_3
                                        try clear hfz544_4
                                        try clear hfz544_5
                                        try clear hfz544_6
                                        try clear hfz544_7
                                        try clear hfz544_8
                                        try clear hfz549_0
                                        try clear hfz549_1
                                        try clear hfz549_2
                                        try clear hfz549_3
                                        try clear hfz549_4
                                        try clear hfz549_5
                                        try clear hfz549_6
                                        try clear hfz549_7
                                        try clear hfz549_8
                                        try clear hfz554_0
                                        try clear hfz554_1
                                        try clear hfz554_2
                                        try clear hfz554_3
                                        try clear hfz554_4
                                        try clear hfz554_5
                                        try clear hfz554_6
                                        try clear hfz554_7
                                        try clear hfz554_8
                                        try clear hfz565_0
                                        try clear hfz565_1
                                        try clear hfz565_2
                                        try clear hfz565_3
                                        try clear hfz565_4
                                        try clear hfz565_5
                                        try clear hfz565_6
                                        try clear hfz565_7
                                        try clear hfz565_8
                                        try clear hfz570_0
                                        try clear hfz570_1
                                        try clear hfz570_2
                                        try clear hfz570_3
                                        try clear hfz570_4
                                        try clear hfz570_5
                                        try clear hfz570_6
                                        try clear hfz570_7
                                        try clear hfz570_8
                                        try clear hx232_0
                                        try clear hx232_1
                                        try clear hx245_1
                                        try clear hx260_1
                                        try clear hx274_1
                                        try clear p232
                                        try clear q232
                                        obtain ⟨x7_1, x188003_1, u188003, rfl, HA, HK1, HO_188003, BK187, HB⟩ := hrel
                                        cases gk with
                                        | zero => exact absurd HA.out (by simp [grafterlaw19_ConfigForms.l0])
                                        | succ k1 =>
                                          have H := HA.out
                                          clear HA
                                          simp only [grafterlaw19_ConfigForms.l0] at H
                                          by_cases c571 : x7_1 < (x188003_1.length : Int)
                                          · rw [if_pos c571] at H
                                            have c571b0 : decide (x7_1 < (x188003_1.length : Int)) = true := decide_eq_true c571
                                            clear c571
                                            obtain ⟨y403, hy403⟩ : ∃ y_ : List Int, y_ = (([1] : List Int)) := ⟨_, rfl⟩
                                            replace H : (if 0 ≤ x7_1 then (grafterlaw19_ConfigForms.l0 k1 (wrap64 (x7_1 + 1)) t176 t177 t178 (x188003_1.set (x7_1 : Int).toNat (⟨y403, (rd_T35 x188003_1 x7_1).f1⟩ : S35)) t182 t183 t184 t185 t186) else (none)) = some r := by first | (rw [hy403]; with_reducible exact H) | (have H2_ := (Option.bind_some _ _).symm.trans H; rw [hy403]; with_reducible exact H2_) | (have H2_ := (Option.bind_some _ _).symm.trans H; with_reducible exact H2_) | with_reducible exact H | (rw [hy403]; exact H) | exact H
                                            have Ny403 := Aside0.mk hy403
                                            clear hy403
                                            by_cases c572 : 0 ≤ x7_1
                                            · rw [if_pos c572] at H
                                              have c572b0 : decide (0 ≤ x7_1) = true := decide_eq_true c572
                                              clear c572
                                              obtain ⟨y406, hy406⟩ : ∃ y_ : List (S35), y_ = (x188003_1.set (x7_1 : Int).toNat (⟨y403, (rd_T35 x188003_1 x7_1).f1⟩ : S35)) := ⟨_, rfl⟩
                                              replace H : (grafterlaw19_ConfigForms.l0 k1 (wrap64 (x7_1 + 1)) t176 t177 t178 y406 t182 t183 t184 t185 t186) = some r := by first | (rw [hy406]; with_reducible exact H) | (have H2_ := (Option.bind_some _ _).symm.trans H; rw [hy406]; with_reducible exact H2_) | (have H2_ := (Option.bind_some _ _).symm.trans H; with_reducible exact H2_) | with_reducible exact H | (rw [hy406]; exact H) | exact H
                                              have Ny406 := Aside0.mk hy406
                                              clear hy406
                                              have H' := Aside0.mk H
                                              clear H
                                              have hcz574_0 : wr.cell? ⟨gb187, 0, none⟩ = some (.int .i64 t176) := (blk_cell BK187.out 0).trans rfl
                                              have hcz574_1 : wr.cell? ⟨gb187, 1, none⟩ = some (.int .i64 t177) := (blk_cell BK187.out 1).trans rfl
                                              have hcz574_2 : wr.cell? ⟨gb187, 2, none⟩ = some (.int .i64 t178) := (blk_cell BK187.out 2).trans rfl
                                              have hcz574_3 : wr.cell? ⟨gb187, 3, none⟩ = some (u188003) := (blk_cell BK187.out 3).trans rfl
                                              have hcz574_4 : wr.cell? ⟨gb187, 4, none⟩ = some (.int .i64 t182) := (blk_cell BK187.out 4).trans rfl
                                              have hcz574_5 : wr.cell? ⟨gb187, 5, none⟩ = some (.int .i64 t183) := (blk_cell BK187.out 5).trans rfl
                                              have hcz574_6 : wr.cell? ⟨gb187, 6, none⟩ = some (.int .i64 t184) := (blk_cell BK187.out 6).trans rfl
                                              have hcz574_7 : wr.cell? ⟨gb187, 7, none⟩ = some (.int .i64 t185) := (blk_cell BK187.out 7).trans rfl
                                              have hcz574_8 : wr.cell? ⟨gb187, 8, none⟩ = some (.bool t186) := (blk_cell BK187.out 8).trans rfl
                                              have hfz574_0 := blk_frozen BK187.out 0
                                              have hfz574_1 := blk_frozen BK187.out 1
                                              have hfz574_2 := blk_frozen BK187.out 2
                                              have hfz574_3 := blk_frozen BK187.out 3
                                              have hfz574_4 := blk_frozen BK187.out 4
                                              have hfz574_5 := blk_frozen BK187.out 5
                                              have hfz574_6 := blk_frozen BK187.out 6
                                              have hfz574_7 := blk_frozen BK187.out 7
                                              have hfz574_8 := blk_frozen BK187.out 8
                                              obtain ⟨Ao575, co575, eo575⟩ := Kd.N_slice HO_188003.out
                                              subst eo575
                                              go_wp2_with (first | ((with_reducible refine gate_dst (N := 31) rfl ?_); refine Kd.R_lit (Kd.int .i64) _ 3 ?hg (N := 31) ?hd (xs := ([1] : List Int)) (inner := [.int .i64 1]) (ok := fun _ => True) (okp := fun _ => True) ?hr ?hp (fun _ hk => hk) trivial (Below.refl _ _) (Nat.le_refl _) (by simp) ?_; (case hd => rfl); (case hg => rfl); (case hr => first | (go_simp; done) | (go_simp; rfl)); (case hp => exact (Reps.one (show Kd.M (Kd.int .i64) _ _ _ 1 [.int .i64 1] from rfl) (Reps.none _ _))); intro v404 w576 ho577 hb hg_ hnew_; clear hg_ hnew_; (first | rw [← Ny403.out] at ho577 | (simp only [Int.reduceToNat] at ho577; rw [← Ny403.out] at ho577)); have n0_ := Aside0.mk (Kd.N_elder' (by (with_reducible repeat (first | apply Kd.N_alloc | apply Kd.N_drewN | apply Kd.N_drew)); exact HO_188003.out) (Kd.R_base ho577) hb); have n1_ := Aside0.mk (Kd.R_lower ho577 (below_size (by repeat (first | (with_reducible first | exact HB.out | apply below_alloc | apply pw_below_drewN | apply below_drew1 | refine below_set ?_ GE187.out) | exact HB.out)))); have n2_ := Aside0.mk (blk_below (g := gb187) (o := .cells #[.int .i64 t176, .int .i64 t177, .int .i64 t178, .slice Ao575 x188003_1.length co575, .int .i64 t182, .int .i64 t183, .int .i64 t184, .int .i64 t185, .bool t186] 26 (0, 0)) (by (with_reducible repeat (first | refine blk_drewN ?_ _ | refine blk_drew ?_ | refine blk_alloc ?_ _)); exact BK187.out) hb); have n3_ := Aside0.mk (below_step (by repeat (first | (with_reducible first | exact HB.out | apply below_alloc | apply pw_below_drewN | apply below_drew1 | refine below_set ?_ GE187.out) | exact HB.out)) hb); clear HO_188003; clear BK187; clear HB; have HO_188003 := n0_; have HO405 := n1_; have BK187 := n2_; have HB := n3_; clear n0_ n1_ n2_ n3_; clear hb ho577; obtain ⟨As_v404, cs_v404, es_v404⟩ := Kd.R_slice HO405.out; subst es_v404; have p573 : 0 ≤ (x7_1 : Int) := of_decide_eq_true (by first | (with_reducible assumption) | assumption); have q573 : (x7_1 : Int) < ((x188003_1.length : Int) : Int) := of_decide_eq_true (by first | (with_reducible assumption) | assumption); obtain ⟨go573, co573, eo573, gb573, gl573, cl573, HG573⟩ := Kd.N_form HO_188003.out (by omega); (first | cases eo573 | (injection eo573 with ea_ en_ ec_; (first | subst ea_ | (injection ea_ with ea_; subst ea_)); subst ec_; clear en_)); have GB573 := Aside0.mk gb573; have GG573 := Aside0.mk HG573; clear gb573 gl573 HG573; obtain ⟨ce573, hcl573, hM573, hcc573, hfr573⟩ := Kd.N_elem HO_188003.out z35 (x7_1 : Int) p573 q573; obtain ⟨ua573_0, uc573_0, rfl, ul573_0, ge573_0⟩ := k35_openF hM573; have hx573_0 : w576.cell? ⟨go573, (x7_1 : Int).toNat * 2, none⟩ = some (.slice ua573_0 ((rd_T35 x188003_1 x7_1).f0).length uc573_0) := hcc573 0 _ rfl; have hx573_1 : w576.cell? ⟨go573, (x7_1 : Int).toNat * 2 + 1, none⟩ = some (.int .i64 ((rd_T35 x188003_1 x7_1).f1)) := hcc573 1 _ rfl; have hf573_0 : w576.frozen? ⟨go573, (x7_1 : Int).toNat * 2, none⟩ = false := hfr573 0; have hf573_1 : w576.frozen? ⟨go573, (x7_1 : Int).toNat * 2 + 1, none⟩ = false := hfr573 1; clear hcl573 hcc573 hfr573 hM573; replace p573 := eq_true p573; replace q573 := eq_true q573; have HX578 := Aside0.mk (show Kd.N k35 35 w576 w.heap.size (fun k_ => k_ ≠ gb187) (.slice (some ⟨go573, 0, none⟩) x188003_1.length co575) x188003_1 from (by (with_reducible repeat (first | apply Kd.N_alloc | apply Kd.N_drewN | apply Kd.N_drew)); exact Kd.N_mono HO_188003.out (fun _ hk => hk.1))); obtain ⟨ce578, hcl578, hM578, hcc578, hfr578⟩ := Kd.N_elem HX578.out z35 (x7_1 : Int) (of_decide_eq_true (by first | (with_reducible assumption) | assumption)) (by have h_ : (x7_1 : Int) < ((x188003_1.length : Int) : Int) := of_decide_eq_true (by first | (with_reducible assumption) | assumption); first | exact h_ | (have e_ := (Kd.N_reads' HO_188003.out).1; omega) | simpa using h_); obtain ⟨ua578_0, uc578_0, rfl, ul578_0, ge578_0⟩ := k35_openF hM578; have HP578 := Kd.N_seg HX578.out (x7_1 : Int) (of_decide_eq_true (by first | (with_reducible assumption) | assumption)) (by have h_ : (x7_1 : Int) < ((x188003_1.length : Int) : Int) := of_decide_eq_true (by first | (with_reducible assumption) | assumption); first | exact h_ | (have e_ := (Kd.N_reads' HO_188003.out).1; omega) | simpa using h_) (seg := [(Value.slice As_v404 y403.length cs_v404)]) (j := 0) hcl578 hcc578 (show 1 ≤ 2 from by decide) (x' := (⟨y403, (rd_T35 x188003_1 x7_1).f1⟩ : S35)) (k35_mkF _ _ (⟨y403, (rd_T35 x188003_1 x7_1).f1⟩ : S35) (Kd.R_reads' (Kd.R_mono (ok' := (fun k_ => ((fun k_ => k_ ≠ gb187)) k_ ∧ k_ ≠ go573)) (Kd.R_types (Kd.R_apart' (HO405.out) (Kd.N_typed HO_188003.out) (by decide)) BK187.out (by decide)) (fun k_ hk => ⟨hk.2, fun e_ => (hk.1.2) (by rw [e_]; rfl)⟩))).2.1 (Kd.R_F (Kd.R_mono (ok' := (fun k_ => ((fun k_ => k_ ≠ gb187)) k_ ∧ k_ ≠ go573)) (Kd.R_types (Kd.R_apart' (HO405.out) (Kd.N_typed HO_188003.out) (by decide)) BK187.out (by decide)) (fun k_ hk => ⟨hk.2, fun e_ => (hk.1.2) (by rw [e_]; rfl)⟩)))) (fun _ hk => hk); have hx578_0 := hcc578 0 _ rfl; (try simp only [show (k35).sz = 2 from rfl, Nat.mul_one, Nat.add_zero] at hx578_0); have hf578_0 := hfr578 0; (try simp only [show (k35).sz = 2 from rfl, Nat.mul_one, Nat.add_zero] at hf578_0); clear hcl578 hcc578 hfr578 hM578) | ((with_reducible refine gate_store (t := 33) (p := 33) rfl ?_); refine store_event (t := 33) (p := 33) (v := ?vo_w579) (w1 := (w576.setCell ⟨go573, (x7_1 : Int).toNat * 2, none⟩ ((Value.slice As_v404 y403.length cs_v404)))) ?hg ?ho ?hn ?hr ?_; (case ho => rfl); (case hg => rfl); (case hn => rfl); (case hr => first | (go_simp; done) | (go_simp; rfl)); intro w579 hw; have hg : w576.grownBy w579 (some go573) := (by rw [hw]; exact HP578.2); have hp_ : Kd.N k35 35 w579 w.heap.size (fun k_ => k_ ≠ gb187) (.slice (some ⟨go573, 0, none⟩) x188003_1.length co575) y406 := (by rw [hw, Ny406.out]; exact HP578.1); clear HP578; have n0_ := Aside0.mk (hp_); have n1_ := Aside0.mk (blk_grown (g := gb187) (o := .cells #[.int .i64 t176, .int .i64 t177, .int .i64 t178, .slice (some ⟨go573, 0, none⟩) x188003_1.length co575, .int .i64 t182, .int .i64 t183, .int .i64 t184, .int .i64 t185, .bool t186] 26 (0, 0)) (by (with_reducible repeat (first | refine blk_drewN ?_ _ | refine blk_drew ?_ | refine blk_alloc ?_ _)); exact BK187.out) hg (Kd.N_ne HO_188003.out BK187.out (by decide))); have n2_ := Aside0.mk ((by rw [hw]; exact below_set (HB.out) GB573.out : Below w.heap.size w w579)); clear HO_188003; clear BK187; clear HB; clear HO405; have HO_188003 := n0_; have BK187 := n1_; have HB := n2_; clear n0_ n1_ n2_; clear hg hw hp_))
                                              go_roundg k1
                                              case measure => have := HK1.out; omega
                                              case rel => exact ⟨(wrap64 (x7_1 + 1)), (y406), (.slice (some ⟨go573, 0, none⟩) x188003_1.length co575), (by first | rfl | (simp; done) | (simp [*]; done)), H', ⟨by have := HK1.out; omega⟩, ⟨by (with_reducible repeat (first | apply Kd.N_alloc | apply Kd.N_drewN | apply Kd.N_drew)); exact HO_188003.out⟩, ⟨by (with_reducible repeat (first | refine blk_drewN ?_ _ | refine blk_drew ?_ | refine blk_alloc ?_ _)); exact BK187.out⟩, ⟨by repeat (first | (with_reducible first | exact HB.out | apply below_alloc | apply pw_below_drewN | apply below_drew1 | refine below_set ?_ GE187.out) | exact HB.out)⟩⟩
                                            · rw [if_neg c572] at H
                                              exact absurd H (by simp)
                                          · rw [if_neg c571] at H
                                            have c571b0 : decide (x7_1 < (x188003_1.length : Int)) = false := decide_eq_false c571
                                            clear c571
                                            replace H := Option.bind_eq_some_iff.mp H
                                            obtain ⟨⟨t407, t408, t409, t410, t413, t414, t415, t416, t417⟩, A5800, H⟩ := H
                                            (try dsimp only at H)
                                            have A580 := Aside0.mk A5800
                                            clear A5800
                                            replace H := Option.bind_eq_some_iff.mp H
                                            obtain ⟨t418, A5810, H⟩ := H
                                            (try dsimp only at H)
                                            have A581 := Aside0.mk A5810
                                            clear A5810
                                            by_cases c582 : t418 = true
                                            · subst c582
                                              rw [if_pos rfl] at H
                                              replace H := Option.bind_eq_some_iff.mp H
                                              obtain ⟨t419, A5830, H⟩ := H
                                              replace H : (if t419 = true then (some false) else ((grafterlaw0_Num.f 0).bind fun t420 => (some (t420 == 0)))) = some r := H
                                              have A583 := Aside0.mk A5830
                                              clear A5830
                                              by_cases c584 : t419 = true
                                              · subst c584
                                                have H1 : (some false) = some r := by rw [if_pos rfl] at H; exact H
                                                clear H
                                                have H := H1
                                                clear H1
                                                exact absurd ((Option.some.inj H).trans HRT.out) Bool.false_ne_true
                                              · replace c584 := Bool.eq_false_iff.mpr c584
                                                subst c584
                                                have H1 : ((grafterlaw0_Num.f 0).bind fun t420 => (some (t420 == 0))) = some r := by rw [if_neg (show ¬ (false = true) by decide)] at H; exact H
                                                clear H
                                                have H := H1
                                                clear H1
                                                replace H := Option.bind_eq_some_iff.mp H
                                                obtain ⟨t420, A5920, H⟩ := H
                                                replace H : (some (t420 == 0)) = some r := H
                                                have A592 := Aside0.mk A5920
                                                clear A5920
                                                obtain rfl := Option.some.inj H
                                                have hcz593_0 : wr.cell? ⟨gb187, 0, none⟩ = some (.int .i64 t176) := (blk_cell BK187.out 0).trans rfl
                                                have hcz593_1 : wr.cell? ⟨gb187, 1, none⟩ = some (.int .i64 t177) := (blk_cell BK187.out 1).trans rfl
                                                have hcz593_2 : wr.cell? ⟨gb187, 2, none⟩ = some (.int .i64 t178) := (blk_cell BK187.out 2).trans rfl
                                                have hcz593_3 : wr.cell? ⟨gb187, 3, none⟩ = some (u188003) := (blk_cell BK187.out 3).trans rfl
                                                have hcz593_4 : wr.cell? ⟨gb187, 4, none⟩ = some (.int .i64 t182) := (blk_cell BK187.out 4).trans rfl
                                                have hcz593_5 : wr.cell? ⟨gb187, 5, none⟩ = some (.int .i64 t183) := (blk_cell BK187.out 5).trans rfl
                                                have hcz593_6 : wr.cell? ⟨gb187, 6, none⟩ = some (.int .i64 t184) := (blk_cell BK187.out 6).trans rfl
                                                have hcz593_7 : wr.cell? ⟨gb187, 7, none⟩ = some (.int .i64 t185) := (blk_cell BK187.out 7).trans rfl
                                                have hcz593_8 : wr.cell? ⟨gb187, 8, none⟩ = some (.bool t186) := (blk_cell BK187.out 8).trans rfl
                                                have hfz593_0 := blk_frozen BK187.out 0
                                                have hfz593_1 := blk_frozen BK187.out 1
                                                have hfz593_2 := blk_frozen BK187.out 2
                                                have hfz593_3 := blk_frozen BK187.out 3
                                                have hfz593_4 := blk_frozen BK187.out 4
                                                have hfz593_5 := blk_frozen BK187.out 5
                                                have hfz593_6 := blk_frozen BK187.out 6
                                                have hfz593_7 := blk_frozen BK187.out 7
                                                have hfz593_8 := blk_frozen BK187.out 8
                                                obtain ⟨Ao594, co594, eo594⟩ := Kd.N_slice HO_188003.out
                                                subst eo594
                                                go_wp2_with (first | ((with_reducible refine gate_callee (f := 21) rfl ?_); refine goesL_ (some 111) rfl rfl Try.func21 (by kernel_rfl) rfl #[] rfl (by (try simp only [List.map_toArray, List.map_cons, List.map_nil]); first | done | rfl | (simp only [List.length_drop, List.length_take]; rfl)) ?_; (with_reducible refine (grafterlaw19_small.calls  t407 t408 t409 t410 t413 t414 t415 t416 t417 _ A580.out).mono ?_); rintro e w595 ⟨v411, rfl, ho0, hb⟩; refine ⟨_, rfl, ?_⟩; have n0_ := Aside0.mk (Kd.N_elder' (by (with_reducible repeat (first | apply Kd.N_alloc | apply Kd.N_drewN | apply Kd.N_drew)); exact HO_188003.out) (Kd.N_base ho0) hb); have n1_ := Aside0.mk (Kd.N_lower (Kd.N_mono (ok' := fun k_ => some k_ ≠ (.slice Ao594 x188003_1.length co594 : Value).ownBlock ∧ k_ ≠ gb187) ho0 (fun k_ hk_ => ⟨(Kd.fresh' (Kd.N_lt (by (with_reducible repeat (first | apply Kd.N_alloc | apply Kd.N_drewN | apply Kd.N_drew)); exact HO_188003.out)) k_ hk_), (Kd.freshB (g := gb187) (o := .cells #[.int .i64 t176, .int .i64 t177, .int .i64 t178, .slice Ao594 x188003_1.length co594, .int .i64 t182, .int .i64 t183, .int .i64 t184, .int .i64 t185, .bool t186] 26 (0, 0)) (by (with_reducible repeat (first | refine blk_drewN ?_ _ | refine blk_drew ?_ | refine blk_alloc ?_ _)); exact BK187.out) k_ hk_)⟩)) (below_size (by repeat (first | (with_reducible first | exact HB.out | apply below_alloc | apply pw_below_drewN | apply below_drew1 | refine below_set ?_ GE187.out) | exact HB.out)))); have n2_ := Aside0.mk (blk_below (g := gb187) (o := .cells #[.int .i64 t176, .int .i64 t177, .int .i64 t178, .slice Ao594 x188003_1.length co594, .int .i64 t182, .int .i64 t183, .int .i64 t184, .int .i64 t185, .bool t186] 26 (0, 0)) (by (with_reducible repeat (first | refine blk_drewN ?_ _ | refine blk_drew ?_ | refine blk_alloc ?_ _)); exact BK187.out) hb); have n3_ := Aside0.mk (below_step (by repeat (first | (with_reducible first | exact HB.out | apply below_alloc | apply pw_below_drewN | apply below_drew1 | refine below_set ?_ GE187.out) | exact HB.out)) hb); clear HO_188003; clear BK187; clear HB; have HO_188003 := n0_; have HO412 := n1_; have BK187 := n2_; have HB := n3_; clear n0_ n1_ n2_ n3_; (try clear hb); (try clear hb2); (try clear hk); (try clear hi); (try clear ho0); obtain ⟨Ao596, co596, eo596⟩ := Kd.N_slice HO412.out; subst eo596) | ((with_reducible refine gate_callee (f := 17) rfl ?_); refine goesL_ (some 112) rfl rfl Try.func17 (by kernel_rfl) rfl #[.agg #[.int .i64 t407, .int .i64 t408, .int .i64 t409, .slice Ao596 t410.length co596, .int .i64 t413, .int .i64 t414, .int .i64 t415, .int .i64 t416, .bool t417]] rfl (by (try simp only [List.map_toArray, List.map_cons, List.map_nil]); first | done | rfl | (simp only [List.length_drop, List.length_take]; rfl)) ?_; (with_reducible refine (config_May.calls k1 t407 t408 t409 _ _ t410 t413 t414 t415 t416 t417 true _ ?side1 ?side2 A581.out).mono ?_); (case side1 => repeat (first | (with_reducible refine Kd.C_alloc ?_ _) | (with_reducible refine Kd.C_drewN ?_ _) | (with_reducible refine Kd.C_drew ?_) | exact (Kd.N_reads' HO412.out).2.2)); (case side2 => exact (Kd.N_reads' HO412.out).2.1); rintro e w597 ⟨rfl, hb⟩; refine ⟨_, rfl, ?_⟩; have n0_ := Aside0.mk (Kd.N_below (by (with_reducible repeat (first | apply Kd.N_alloc | apply Kd.N_drewN | apply Kd.N_drew)); exact HO_188003.out) hb); have n1_ := Aside0.mk (Kd.N_below (by (with_reducible repeat (first | apply Kd.N_alloc | apply Kd.N_drewN | apply Kd.N_drew)); exact HO412.out) hb); have n2_ := Aside0.mk (blk_below (g := gb187) (o := .cells #[.int .i64 t176, .int .i64 t177, .int .i64 t178, .slice Ao594 x188003_1.length co594, .int .i64 t182, .int .i64 t183, .int .i64 t184, .int .i64 t185, .bool t186] 26 (0, 0)) (by (with_reducible repeat (first | refine blk_drewN ?_ _ | refine blk_drew ?_ | refine blk_alloc ?_ _)); exact BK187.out) hb); have n3_ := Aside0.mk (below_step (by repeat (first | (with_reducible first | exact HB.out | apply below_alloc | apply pw_below_drewN | apply below_drew1 | refine below_set ?_ GE187.out) | exact HB.out)) hb); clear HO_188003; clear HO412; clear BK187; clear HB; have HO_188003 := n0_; have HO412 := n1_; have BK187 := n2_; have HB := n3_; clear n0_ n1_ n2_ n3_; (try clear hb); (try clear hb2); (try clear hk); (try clear hi); have hcz598_0 : w597.cell? ⟨gb187, 0, none⟩ = some (.int .i64 t176) := (blk_cell BK187.out 0).trans rfl; have hcz598_1 : w597.cell? ⟨gb187, 1, none⟩ = some (.int .i64 t177) := (blk_cell BK187.out 1).trans rfl; have hcz598_2 : w597.cell? ⟨gb187, 2, none⟩ = some (.int .i64 t178) := (blk_cell BK187.out 2).trans rfl; have hcz598_3 : w597.cell? ⟨gb187, 3, none⟩ = some (.slice Ao594 x188003_1.length co594) := (blk_cell BK187.out 3).trans rfl; have hcz598_4 : w597.cell? ⟨gb187, 4, none⟩ = some (.int .i64 t182) := (blk_cell BK187.out 4).trans rfl; have hcz598_5 : w597.cell? ⟨gb187, 5, none⟩ = some (.int .i64 t183) := (blk_cell BK187.out 5).trans rfl; have hcz598_6 : w597.cell? ⟨gb187, 6, none⟩ = some (.int .i64 t184) := (blk_cell BK187.out 6).trans rfl; have hcz598_7 : w597.cell? ⟨gb187, 7, none⟩ = some (.int .i64 t185) := (blk_cell BK187.out 7).trans rfl; have hcz598_8 : w597.cell? ⟨gb187, 8, none⟩ = some (.bool t186) := (blk_cell BK187.out 8).trans rfl; have hfz598_0 := blk_frozen BK187.out 0; have hfz598_1 := blk_frozen BK187.out 1; have hfz598_2 := blk_frozen BK187.out 2; have hfz598_3 := blk_frozen BK187.out 3; have hfz598_4 := blk_frozen BK187.out 4; have hfz598_5 := blk_frozen BK187.out 5; have hfz598_6 := blk_frozen BK187.out 6; have hfz598_7 := blk_frozen BK187.out 7; have hfz598_8 := blk_frozen BK187.out 8; (try clear A581)) | (go_at_call 17; (with_reducible refine (config_May.calls k1 t176 t177 t178 _ _ x188003_1 t182 t183 t184 t185 t186 false _ ?side1 ?side2 A583.out).mono ?_); (case side1 => repeat (first | (with_reducible refine Kd.C_alloc ?_ _) | (with_reducible refine Kd.C_drewN ?_ _) | (with_reducible refine Kd.C_drew ?_) | exact (Kd.N_reads' HO_188003.out).2.2)); (case side2 => exact (Kd.N_reads' HO_188003.out).2.1); rintro e w599 ⟨rfl, hb⟩; have n0_ := Aside0.mk (Kd.N_below (by (with_reducible repeat (first | apply Kd.N_alloc | apply Kd.N_drewN | apply Kd.N_drew)); exact HO_188003.out) hb); have n1_ := Aside0.mk (Kd.N_below (by (with_reducible repeat (first | apply Kd.N_alloc | apply Kd.N_drewN | apply Kd.N_drew)); exact HO412.out) hb); have n2_ := Aside0.mk (blk_below (g := gb187) (o := .cells #[.int .i64 t176, .int .i64 t177, .int .i64 t178, .slice Ao594 x188003_1.length co594, .int .i64 t182, .int .i64 t183, .int .i64 t184, .int .i64 t185, .bool t186] 26 (0, 0)) (by (with_reducible repeat (first | refine blk_drewN ?_ _ | refine blk_drew ?_ | refine blk_alloc ?_ _)); exact BK187.out) hb); have n3_ := Aside0.mk (below_step (by repeat (first | (with_reducible first | exact HB.out | apply below_alloc | apply pw_below_drewN | apply below_drew1 | refine below_set ?_ GE187.out) | exact HB.out)) hb); clear HO_188003; clear HO412; clear BK187; clear HB; have HO_188003 := n0_; have HO412 := n1_; have BK187 := n2_; have HB := n3_; clear n0_ n1_ n2_ n3_; (try clear hb); (try clear hb2); (try clear hk); (try clear hi); (try clear A583)) | (go_at_call 22; (with_reducible refine (grafterlaw0_Num.calls 0 t420 _ A592.out).mono ?_); rintro e w' ⟨rfl, ⟨nd, rfl⟩⟩))
                                                all_goals go_ret
                                                all_goals exact ⟨by first | (simp only [← hji559_]; split <;> first | (exfalso; omega) | (simp [ByteArray.extract_zero_size]; done) | (simp [ByteArray.extract_zero_size, *]; done)) | rfl | (simp [errW_none, errW_some] <;> rfl) | (simp only [← hji559]; first | rfl | (simp [errW_none, errW_some] <;> rfl)) | (simp [*, errW_none, errW_some] <;> rfl), by repeat (first | (with_reducible first | exact HB.out | apply below_alloc | apply pw_below_drewN | apply below_drew1 | refine below_set ?_ GE187.out) | exact HB.out)⟩
                                            · replace c582 := Bool.eq_false_iff.mpr c582
                                              subst c582
                                              have H1 : (some false) = some r := by rw [if_neg (show ¬ (false = true) by decide)] at H; exact H
                                              clear H
                                              have H := H1
                                              clear H1
                                              exact absurd ((Option.some.inj H).trans HRT.out) Bool.false_ne_true
                                    · rw [if_neg c561] at H
                                      exact absurd H (by simp)
                                  · rw [if_neg c560] at H
                                    exact absurd H (by simp)
  · replace c4 := Bool.eq_false_iff.mpr c4
    subst c4
    have H1 : (some false) = some r := by rw [if_neg (show ¬ (false = true) by decide)] at H; exact H
    clear H
    have H := H1
    clear H1
    exact absurd ((Option.some.inj H).trans HRT.out) Bool.false_ne_true
theorem grafterlaw19_ConfigForms.calls (k : Nat) (a0 : Int) (a1 : Int) (r : Bool) (w : World) (hrt : r = true) (h : grafterlaw19_ConfigForms.f k a0 a1 = some r) :
    Calls Try.prog 4 #[.int .i64 a0, .int .i64 a1] w fun e w' => e = .returned (.bool r) ∧ Below w.heap.size w w' := by
  by_cases c6 : (Int.tmod (IntKind.u64.wrap (a0)) 16) = 0
  · exact grafterlaw19_ConfigForms.calls_0 k a0 a1 r w hrt h c6
  · by_cases c41 : (Int.tmod (IntKind.u64.wrap (a0)) 16) = 1
    · exact grafterlaw19_ConfigForms.calls_1 k a0 a1 r w hrt h c6 c41
    · by_cases c76 : (Int.tmod (IntKind.u64.wrap (a0)) 16) = 2
      · exact grafterlaw19_ConfigForms.calls_2 k a0 a1 r w hrt h c6 c41 c76
      · by_cases c111 : (Int.tmod (IntKind.u64.wrap (a0)) 16) = 3
        · exact grafterlaw19_ConfigForms.calls_3 k a0 a1 r w hrt h c6 c41 c76 c111
        · by_cases c146 : (Int.tmod (IntKind.u64.wrap (a0)) 16) = 4
          · exact grafterlaw19_ConfigForms.calls_4 k a0 a1 r w hrt h c6 c41 c76 c111 c146
          · by_cases c181 : (Int.tmod (IntKind.u64.wrap (a0)) 16) = 5
            · exact grafterlaw19_ConfigForms.calls_5 k a0 a1 r w hrt h c6 c41 c76 c111 c146 c181
            · by_cases c230 : (Int.tmod (IntKind.u64.wrap (a0)) 16) = 6
              · exact grafterlaw19_ConfigForms.calls_6 k a0 a1 r w hrt h c6 c41 c76 c111 c146 c181 c230
              · by_cases c279 : (Int.tmod (IntKind.u64.wrap (a0)) 16) = 7
                · exact grafterlaw19_ConfigForms.calls_7 k a0 a1 r w hrt h c6 c41 c76 c111 c146 c181 c230 c279
                · by_cases c314 : (Int.tmod (IntKind.u64.wrap (a0)) 16) = 8
                  · exact grafterlaw19_ConfigForms.calls_8 k a0 a1 r w hrt h c6 c41 c76 c111 c146 c181 c230 c279 c314
                  · by_cases c349 : (Int.tmod (IntKind.u64.wrap (a0)) 16) = 9
                    · exact grafterlaw19_ConfigForms.calls_9 k a0 a1 r w hrt h c6 c41 c76 c111 c146 c181 c230 c279 c314 c349
                    · by_cases c384 : (Int.tmod (IntKind.u64.wrap (a0)) 16) = 10
                      · exact grafterlaw19_ConfigForms.calls_10 k a0 a1 r w hrt h c6 c41 c76 c111 c146 c181 c230 c279 c314 c349 c384
                      · by_cases c419 : (Int.tmod (IntKind.u64.wrap (a0)) 16) = 11
                        · exact grafterlaw19_ConfigForms.calls_11 k a0 a1 r w hrt h c6 c41 c76 c111 c146 c181 c230 c279 c314 c349 c384 c419
                        · by_cases c454 : (Int.tmod (IntKind.u64.wrap (a0)) 16) = 12
                          · exact grafterlaw19_ConfigForms.calls_12 k a0 a1 r w hrt h c6 c41 c76 c111 c146 c181 c230 c279 c314 c349 c384 c419 c454
                          · by_cases c489 : (Int.tmod (IntKind.u64.wrap (a0)) 16) = 13
                            · exact grafterlaw19_ConfigForms.calls_13 k a0 a1 r w hrt h c6 c41 c76 c111 c146 c181 c230 c279 c314 c349 c384 c419 c454 c489
                            · by_cases c524 : (Int.tmod (IntKind.u64.wrap (a0)) 16) = 14
                              · exact grafterlaw19_ConfigForms.calls_14 k a0 a1 r w hrt h c6 c41 c76 c111 c146 c181 c230 c279 c314 c349 c384 c419 c454 c489 c524
                              · exact grafterlaw19_ConfigForms.calls_15 k a0 a1 r w hrt h c6 c41 c76 c111 c146 c181 c230 c279 c314 c349 c384 c419 c454 c489 c524

/-- THE ONE PURE STATEMENT of grafterlaw19_ConfigForms: yours. -/
def grafterlaw19_ConfigForms.Pure : Prop := ∀ (a0 : Int) (a1 : Int), (Lit.int .i64 a0).wf = true → (Lit.int .i64 a1).wf = true → ∃ k, grafterlaw19_ConfigForms.f k a0 a1 = some true
theorem grafterlaw19_ConfigForms.walk (P : grafterlaw19_ConfigForms.Pure) (a0 : Int) (a1 : Int) (w : World) (w0 : (Lit.int .i64 a0).wf = true) (w1 : (Lit.int .i64 a1).wf = true) :
    Calls Try.prog 4 #[.int .i64 a0, .int .i64 a1] w fun e w' => e = .returned (.bool true) ∧ Below w.heap.size w w' := by
  obtain ⟨k, h⟩ := P a0 a1 w0 w1
  refine (grafterlaw19_ConfigForms.calls k a0 a1 true w rfl h).mono ?_
  rintro e w' ⟨rfl, hd⟩
  exact ⟨rfl, hd⟩

end Go.Proofs.Ytdgbfgnmeoihiaa.PConfigForms
