-- Written by a program of this session (pprint.py) out of the translation, with hand-proved walks pasted in.
import Derived.Test.YtdgbfgnmeoihiaaPConfigFormsx6
import Derived.Test.YtdgbfgnmeoihiaaPConfigFormsx1
import Derived.Test.YtdgbfgnmeoihiaaPConfigFormsx2
namespace Go.Proofs.Ytdgbfgnmeoihiaa.PConfigForms
open Go.RowKit Go.Proofs.YtdgbfgnmeoihiaaW.PrintWords Go.Proofs.YtdgbfgnmeoihiaaW.PrintLast Go.Proofs.YtdgbfgnmeoihiaaW.PrintMore
attribute [local go_sem] max2_int min2_int max_two min_two max_three min_three max_four min_four   -- for this text's walks alone
set_option linter.unusedVariables false
set_option linter.unusedSimpArgs false

set_option maxHeartbeats 8000000 in
set_option maxRecDepth 100000 in
theorem grafterlaw19_ConfigForms.calls_12 (k : Nat) (a0 : Int) (a1 : Int) (r : Bool) (w : World) (hrt : r = true) (h : grafterlaw19_ConfigForms.f k a0 a1 = some r) (hs_c6 : ¬ ((Int.tmod (IntKind.u64.wrap (a0)) 16) = 0)) (hs_c41 : ¬ ((Int.tmod (IntKind.u64.wrap (a0)) 16) = 1)) (hs_c76 : ¬ ((Int.tmod (IntKind.u64.wrap (a0)) 16) = 2)) (hs_c111 : ¬ ((Int.tmod (IntKind.u64.wrap (a0)) 16) = 3)) (hs_c146 : ¬ ((Int.tmod (IntKind.u64.wrap (a0)) 16) = 4)) (hs_c181 : ¬ ((Int.tmod (IntKind.u64.wrap (a0)) 16) = 5)) (hs_c230 : ¬ ((Int.tmod (IntKind.u64.wrap (a0)) 16) = 6)) (hs_c279 : ¬ ((Int.tmod (IntKind.u64.wrap (a0)) 16) = 7)) (hs_c314 : ¬ ((Int.tmod (IntKind.u64.wrap (a0)) 16) = 8)) (hs_c349 : ¬ ((Int.tmod (IntKind.u64.wrap (a0)) 16) = 9)) (hs_c384 : ¬ ((Int.tmod (IntKind.u64.wrap (a0)) 16) = 10)) (hs_c419 : ¬ ((Int.tmod (IntKind.u64.wrap (a0)) 16) = 11)) (hs_c454 : (Int.tmod (IntKind.u64.wrap (a0)) 16) = 12) :
    Calls Try.prog 4 #[.int .i64 a0, .int .i64 a1] w fun e w' => e = .returned (.bool r) ∧ Below w.heap.size w w' := by
  have HRT := Aside0.mk hrt
  clear hrt
  have hu26 := Try.underlying26
  have HB := Aside0.mk (Below.refl w.heap.size w)
  have H := h
  clear h
  unfold grafterlaw19_ConfigForms.f at H
  replace H := Option.bind_eq_some_iff.mp H
  obtain ⟨t175, A30, H⟩ := H
  (try dsimp only at H)
  have A3 := Aside0.mk A30
  clear A30
  by_cases c4 : t175 = true
  · subst c4
    rw [if_pos rfl] at H
    replace H := Option.bind_eq_some_iff.mp H
    obtain ⟨⟨t176, t177, t178, t179, t182, t183, t184, t185, t186⟩, A50, H⟩ := H
    (try dsimp only at H)
    have A5 := Aside0.mk A50
    clear A50
    by_cases c6 : (Int.tmod (IntKind.u64.wrap (a0)) 16) = 0
    · exact absurd c6 hs_c6
    · rw [if_neg c6] at H
      have c6b0 : ((Int.tmod (IntKind.u64.wrap (a0)) 16) == 0) = false := beq_eq_false_iff_ne.mpr c6
      have c6b1 : ((Int.tmod (IntKind.u64.wrap (a0)) 16) != 0) = true := bne_iff_ne.mpr c6
      by_cases c41 : (Int.tmod (IntKind.u64.wrap (a0)) 16) = 1
      · exact absurd c41 hs_c41
      · rw [if_neg c41] at H
        have c41b0 : ((Int.tmod (IntKind.u64.wrap (a0)) 16) == 1) = false := beq_eq_false_iff_ne.mpr c41
        have c41b1 : ((Int.tmod (IntKind.u64.wrap (a0)) 16) != 1) = true := bne_iff_ne.mpr c41
        by_cases c76 : (Int.tmod (IntKind.u64.wrap (a0)) 16) = 2
        · exact absurd c76 hs_c76
        · rw [if_neg c76] at H
          have c76b0 : ((Int.tmod (IntKind.u64.wrap (a0)) 16) == 2) = false := beq_eq_false_iff_ne.mpr c76
          have c76b1 : ((Int.tmod (IntKind.u64.wrap (a0)) 16) != 2) = true := bne_iff_ne.mpr c76
          by_cases c111 : (Int.tmod (IntKind.u64.wrap (a0)) 16) = 3
          · exact absurd c111 hs_c111
          · rw [if_neg c111] at H
            have c111b0 : ((Int.tmod (IntKind.u64.wrap (a0)) 16) == 3) = false := beq_eq_false_iff_ne.mpr c111
            have c111b1 : ((Int.tmod (IntKind.u64.wrap (a0)) 16) != 3) = true := bne_iff_ne.mpr c111
            by_cases c146 : (Int.tmod (IntKind.u64.wrap (a0)) 16) = 4
            · exact absurd c146 hs_c146
            · rw [if_neg c146] at H
              have c146b0 : ((Int.tmod (IntKind.u64.wrap (a0)) 16) == 4) = false := beq_eq_false_iff_ne.mpr c146
              have c146b1 : ((Int.tmod (IntKind.u64.wrap (a0)) 16) != 4) = true := bne_iff_ne.mpr c146
              by_cases c181 : (Int.tmod (IntKind.u64.wrap (a0)) 16) = 5
              · exact absurd c181 hs_c181
              · rw [if_neg c181] at H
                have c181b0 : ((Int.tmod (IntKind.u64.wrap (a0)) 16) == 5) = false := beq_eq_false_iff_ne.mpr c181
                have c181b1 : ((Int.tmod (IntKind.u64.wrap (a0)) 16) != 5) = true := bne_iff_ne.mpr c181
                by_cases c230 : (Int.tmod (IntKind.u64.wrap (a0)) 16) = 6
                · exact absurd c230 hs_c230
                · rw [if_neg c230] at H
                  have c230b0 : ((Int.tmod (IntKind.u64.wrap (a0)) 16) == 6) = false := beq_eq_false_iff_ne.mpr c230
                  have c230b1 : ((Int.tmod (IntKind.u64.wrap (a0)) 16) != 6) = true := bne_iff_ne.mpr c230
                  by_cases c279 : (Int.tmod (IntKind.u64.wrap (a0)) 16) = 7
                  · exact absurd c279 hs_c279
                  · rw [if_neg c279] at H
                    have c279b0 : ((Int.tmod (IntKind.u64.wrap (a0)) 16) == 7) = false := beq_eq_false_iff_ne.mpr c279
                    have c279b1 : ((Int.tmod (IntKind.u64.wrap (a0)) 16) != 7) = true := bne_iff_ne.mpr c279
                    by_cases c314 : (Int.tmod (IntKind.u64.wrap (a0)) 16) = 8
                    · exact absurd c314 hs_c314
                    · rw [if_neg c314] at H
                      have c314b0 : ((Int.tmod (IntKind.u64.wrap (a0)) 16) == 8) = false := beq_eq_false_iff_ne.mpr c314
                      have c314b1 : ((Int.tmod (IntKind.u64.wrap (a0)) 16) != 8) = true := bne_iff_ne.mpr c314
                      by_cases c349 : (Int.tmod (IntKind.u64.wrap (a0)) 16) = 9
                      · exact absurd c349 hs_c349
                      · rw [if_neg c349] at H
                        have c349b0 : ((Int.tmod (IntKind.u64.wrap (a0)) 16) == 9) = false := beq_eq_false_iff_ne.mpr c349
                        have c349b1 : ((Int.tmod (IntKind.u64.wrap (a0)) 16) != 9) = true := bne_iff_ne.mpr c349
                        by_cases c384 : (Int.tmod (IntKind.u64.wrap (a0)) 16) = 10
                        · exact absurd c384 hs_c384
                        · rw [if_neg c384] at H
                          have c384b0 : ((Int.tmod (IntKind.u64.wrap (a0)) 16) == 10) = false := beq_eq_false_iff_ne.mpr c384
                          have c384b1 : ((Int.tmod (IntKind.u64.wrap (a0)) 16) != 10) = true := bne_iff_ne.mpr c384
                          by_cases c419 : (Int.tmod (IntKind.u64.wrap (a0)) 16) = 11
                          · exact absurd c419 hs_c419
                          · rw [if_neg c419] at H
                            have c419b0 : ((Int.tmod (IntKind.u64.wrap (a0)) 16) == 11) = false := beq_eq_false_iff_ne.mpr c419
                            have c419b1 : ((Int.tmod (IntKind.u64.wrap (a0)) 16) != 11) = true := bne_iff_ne.mpr c419
                            by_cases c454 : (Int.tmod (IntKind.u64.wrap (a0)) 16) = 12
                            · rw [if_pos c454] at H
                              have c454b0 : ((Int.tmod (IntKind.u64.wrap (a0)) 16) == 12) = true := beq_iff_eq.mpr c454
                              have c454b1 : ((Int.tmod (IntKind.u64.wrap (a0)) 16) != 12) = false := bne_eq_false_iff_eq.mpr c454
                              clear c454
                              replace H := Option.bind_eq_some_iff.mp H
                              obtain ⟨⟨t358, t359, t360, t361, t364, t365, t366, t367, t368⟩, A4550, H⟩ := H
                              (try dsimp only at H)
                              have A455 := Aside0.mk A4550
                              clear A4550
                              replace H := Option.bind_eq_some_iff.mp H
                              obtain ⟨t369, A4560, H⟩ := H
                              (try dsimp only at H)
                              have A456 := Aside0.mk A4560
                              clear A4560
                              by_cases c457 : t369 = true
                              · subst c457
                                rw [if_pos rfl] at H
                                replace H := Option.bind_eq_some_iff.mp H
                                obtain ⟨t370, A4580, H⟩ := H
                                replace H : (if t370 = true then (some false) else ((grafterlaw0_Num.f 0).bind fun t371 => (some (t371 == 0)))) = some r := H
                                have A458 := Aside0.mk A4580
                                clear A4580
                                by_cases c459 : t370 = true
                                · subst c459
                                  have H1 : (some false) = some r := by rw [if_pos rfl] at H; exact H
                                  clear H
                                  have H := H1
                                  clear H1
                                  exact absurd ((Option.some.inj H).trans HRT.out) Bool.false_ne_true
                                · replace c459 := Bool.eq_false_iff.mpr c459
                                  subst c459
                                  have H1 : ((grafterlaw0_Num.f 0).bind fun t371 => (some (t371 == 0))) = some r := by rw [if_neg (show ¬ (false = true) by decide)] at H; exact H
                                  clear H
                                  have H := H1
                                  clear H1
                                  replace H := Option.bind_eq_some_iff.mp H
                                  obtain ⟨t371, A4700, H⟩ := H
                                  replace H : (some (t371 == 0)) = some r := H
                                  have A470 := Aside0.mk A4700
                                  clear A4700
                                  obtain rfl := Option.some.inj H
                                  go_enter Try.func4, Try.ntmps4
                                  go_wp2_with (first | ((with_reducible refine gate_callee (f := 20) rfl ?_); refine goesL_ (some 8) rfl rfl Try.func20 (by kernel_rfl) rfl #[] rfl (by (try simp only [List.map_toArray, List.map_cons, List.map_nil]); first | done | rfl | (simp only [List.length_drop, List.length_take]; rfl)) ?_; (with_reducible refine (grafterlaw19_awake.calls k  true _ rfl A3.out).mono ?_); rintro e w471 ⟨rfl, hb⟩; refine ⟨_, rfl, ?_⟩; have n0_ := Aside0.mk (below_step (by repeat (first | (with_reducible first | exact HB.out | apply below_alloc | apply pw_below_drewN | apply below_drew1) | exact HB.out)) hb); clear HB; have HB := n0_; clear n0_; (try clear hb); (try clear hb2); (try clear hk); (try clear hi)) | ((with_reducible refine gate_callee (f := 21) rfl ?_); refine goesL_ (some 13) rfl rfl Try.func21 (by kernel_rfl) rfl #[] rfl (by (try simp only [List.map_toArray, List.map_cons, List.map_nil]); first | done | rfl | (simp only [List.length_drop, List.length_take]; rfl)) ?_; (with_reducible refine (grafterlaw19_small.calls  t176 t177 t178 t179 t182 t183 t184 t185 t186 _ A5.out).mono ?_); rintro e w472 ⟨v180, rfl, ho0, hb⟩; refine ⟨_, rfl, ?_⟩; have n0_ := Aside0.mk (Kd.N_lower (Kd.N_mono (ok' := fun k_ => True) ho0 (fun k_ hk_ => trivial)) (below_size (by repeat (first | (with_reducible first | exact HB.out | apply below_alloc | apply pw_below_drewN | apply below_drew1) | exact HB.out)))); have n1_ := Aside0.mk (below_step (by repeat (first | (with_reducible first | exact HB.out | apply below_alloc | apply pw_below_drewN | apply below_drew1) | exact HB.out)) hb); clear HB; have HO181 := n0_; have HB := n1_; clear n0_ n1_; (try clear hb); (try clear hb2); (try clear hk); (try clear hi); (try clear ho0); (try clear A5)) | ((with_reducible refine gate_dst (N := 6) rfl ?_); refine box_event ?hg (N := 6) ?hd (cs := #[.int .i64 0, .int .i64 0, .int .i64 0, .slice none 0 0, .int .i64 0, .int .i64 0, .int .i64 0, .int .i64 0, .bool false]) (t := 26) ?hr ?_; (case hd => rfl); (case hg => rfl); (case hr => first | (go_simp; done) | (go_simp; rfl)); intro gb187 hg w473 hbox hb; have n0_ := Aside0.mk (Kd.N_below (Kd.N_elderB (by (with_reducible repeat (first | apply Kd.N_alloc | apply Kd.N_drewN | apply Kd.N_drew)); exact HO181.out) gb187 (Nat.le_of_eq hg.symm)) hb); have n1_ := Aside0.mk (below_step (by repeat (first | (with_reducible first | exact HB.out | apply below_alloc | apply pw_below_drewN | apply below_drew1) | exact HB.out)) hb); have n2_ := Aside0.mk (hbox); have n3_ := Aside0.mk ((by rw [hg]; exact (below_size (by repeat (first | (with_reducible first | exact HB.out | apply below_alloc | apply pw_below_drewN | apply below_drew1) | exact HB.out))) : w.heap.size ≤ gb187)); have n4_ := Aside0.mk ((by rw [hg]; exact (below_size (by repeat (first | (with_reducible first | exact HB.out | apply below_alloc | apply pw_below_drewN | apply below_drew1) | exact HB.out))) : w.heap.size ≤ gb187)); clear HO181; clear HB; have HO181 := n0_; have HB := n1_; have BK187 := n2_; have GW187 := n3_; have GE187 := n4_; clear n0_ n1_ n2_ n3_ n4_; clear hb hbox hg; have hcz474_0 : w473.cell? ⟨gb187, 0, none⟩ = some (.int .i64 0) := (blk_cell BK187.out 0).trans rfl; have hcz474_1 : w473.cell? ⟨gb187, 1, none⟩ = some (.int .i64 0) := (blk_cell BK187.out 1).trans rfl; have hcz474_2 : w473.cell? ⟨gb187, 2, none⟩ = some (.int .i64 0) := (blk_cell BK187.out 2).trans rfl; have hcz474_3 : w473.cell? ⟨gb187, 3, none⟩ = some (.slice none 0 0) := (blk_cell BK187.out 3).trans rfl; have hcz474_4 : w473.cell? ⟨gb187, 4, none⟩ = some (.int .i64 0) := (blk_cell BK187.out 4).trans rfl; have hcz474_5 : w473.cell? ⟨gb187, 5, none⟩ = some (.int .i64 0) := (blk_cell BK187.out 5).trans rfl; have hcz474_6 : w473.cell? ⟨gb187, 6, none⟩ = some (.int .i64 0) := (blk_cell BK187.out 6).trans rfl; have hcz474_7 : w473.cell? ⟨gb187, 7, none⟩ = some (.int .i64 0) := (blk_cell BK187.out 7).trans rfl; have hcz474_8 : w473.cell? ⟨gb187, 8, none⟩ = some (.bool false) := (blk_cell BK187.out 8).trans rfl; have hfz474_0 := blk_frozen BK187.out 0; have hfz474_1 := blk_frozen BK187.out 1; have hfz474_2 := blk_frozen BK187.out 2; have hfz474_3 := blk_frozen BK187.out 3; have hfz474_4 := blk_frozen BK187.out 4; have hfz474_5 := blk_frozen BK187.out 5; have hfz474_6 := blk_frozen BK187.out 6; have hfz474_7 := blk_frozen BK187.out 7; have hfz474_8 := blk_frozen BK187.out 8; obtain ⟨Ao475, co475, eo475⟩ := Kd.N_slice HO181.out; subst eo475) | ((with_reducible refine gate_callee (f := 21) rfl ?_); refine goesL_ (some 111) rfl rfl Try.func21 (by kernel_rfl) rfl #[] rfl (by (try simp only [List.map_toArray, List.map_cons, List.map_nil]); first | done | rfl | (simp only [List.length_drop, List.length_take]; rfl)) ?_; (with_reducible refine (grafterlaw19_small.calls  t358 t359 t360 t361 t364 t365 t366 t367 t368 _ A455.out).mono ?_); rintro e w476 ⟨v362, rfl, ho0, hb⟩; refine ⟨_, rfl, ?_⟩; have n0_ := Aside0.mk (Kd.N_elder' (by (with_reducible repeat (first | apply Kd.N_alloc | apply Kd.N_drewN | apply Kd.N_drew)); exact (Kd.N_mono (Kd.N_far (p := ⟨gb187, 6, none⟩) (Kd.N_far (p := ⟨gb187, 8, none⟩) (Kd.N_far (p := ⟨gb187, 7, none⟩) (Kd.N_far (p := ⟨gb187, 6, none⟩) (Kd.N_far (p := ⟨gb187, 5, none⟩) (Kd.N_far (p := ⟨gb187, 4, none⟩) (Kd.N_far (p := ⟨gb187, 3, none⟩) (Kd.N_far (p := ⟨gb187, 2, none⟩) (Kd.N_far (p := ⟨gb187, 1, none⟩) (Kd.N_far (p := ⟨gb187, 0, none⟩) (Kd.N_mono HO181.out (fun k_ hk => (⟨hk, hk.2⟩ : _ ∧ k_ ≠ gb187))) (fun _ hk => hk.2) (.int .i64 t176)) (fun _ hk => hk.2) (.int .i64 t177)) (fun _ hk => hk.2) (.int .i64 t178)) (fun _ hk => hk.2) (.slice Ao475 t179.length co475)) (fun _ hk => hk.2) (.int .i64 t182)) (fun _ hk => hk.2) (.int .i64 t183)) (fun _ hk => hk.2) (.int .i64 t184)) (fun _ hk => hk.2) (.int .i64 t185)) (fun _ hk => hk.2) (.bool t186)) (fun _ hk => hk.2) (.int .i64 (wrap64 (8 + (wrap64 (1 + (Go.bits .and .i64 a1 1023))))))) (fun _ h_ => h_.1))) (Kd.N_base ho0) hb); have n1_ := Aside0.mk (Kd.N_lower (Kd.N_mono (ok' := fun k_ => some k_ ≠ (.slice Ao475 t179.length co475 : Value).ownBlock ∧ k_ ≠ gb187) ho0 (fun k_ hk_ => ⟨(Kd.fresh' (Kd.N_lt (by (with_reducible repeat (first | apply Kd.N_alloc | apply Kd.N_drewN | apply Kd.N_drew)); exact (Kd.N_mono (Kd.N_far (p := ⟨gb187, 6, none⟩) (Kd.N_far (p := ⟨gb187, 8, none⟩) (Kd.N_far (p := ⟨gb187, 7, none⟩) (Kd.N_far (p := ⟨gb187, 6, none⟩) (Kd.N_far (p := ⟨gb187, 5, none⟩) (Kd.N_far (p := ⟨gb187, 4, none⟩) (Kd.N_far (p := ⟨gb187, 3, none⟩) (Kd.N_far (p := ⟨gb187, 2, none⟩) (Kd.N_far (p := ⟨gb187, 1, none⟩) (Kd.N_far (p := ⟨gb187, 0, none⟩) (Kd.N_mono HO181.out (fun k_ hk => (⟨hk, hk.2⟩ : _ ∧ k_ ≠ gb187))) (fun _ hk => hk.2) (.int .i64 t176)) (fun _ hk => hk.2) (.int .i64 t177)) (fun _ hk => hk.2) (.int .i64 t178)) (fun _ hk => hk.2) (.slice Ao475 t179.length co475)) (fun _ hk => hk.2) (.int .i64 t182)) (fun _ hk => hk.2) (.int .i64 t183)) (fun _ hk => hk.2) (.int .i64 t184)) (fun _ hk => hk.2) (.int .i64 t185)) (fun _ hk => hk.2) (.bool t186)) (fun _ hk => hk.2) (.int .i64 (wrap64 (8 + (wrap64 (1 + (Go.bits .and .i64 a1 1023))))))) (fun _ h_ => h_.1)))) k_ hk_), (Kd.freshB (g := gb187) (o := .cells #[.int .i64 t176, .int .i64 t177, .int .i64 t178, .slice Ao475 t179.length co475, .int .i64 t182, .int .i64 t183, .int .i64 (wrap64 (8 + (wrap64 (1 + (Go.bits .and .i64 a1 1023))))), .int .i64 t185, .bool t186] 26 (0, 0)) (by (with_reducible repeat (first | refine blk_drewN ?_ _ | refine blk_drew ?_ | refine blk_alloc ?_ _)); refine blk_put (cs := #[.int .i64 t176, .int .i64 t177, .int .i64 t178, .slice Ao475 t179.length co475, .int .i64 t182, .int .i64 t183, .int .i64 t184, .int .i64 t185, .bool t186]) ?_ 6 _ rfl; (with_reducible repeat (first | refine blk_drewN ?_ _ | refine blk_drew ?_ | refine blk_alloc ?_ _)); refine blk_put (cs := #[.int .i64 t176, .int .i64 t177, .int .i64 t178, .slice Ao475 t179.length co475, .int .i64 t182, .int .i64 t183, .int .i64 t184, .int .i64 t185, .bool false]) ?_ 8 _ rfl; (with_reducible repeat (first | refine blk_drewN ?_ _ | refine blk_drew ?_ | refine blk_alloc ?_ _)); refine blk_put (cs := #[.int .i64 t176, .int .i64 t177, .int .i64 t178, .slice Ao475 t179.length co475, .int .i64 t182, .int .i64 t183, .int .i64 t184, .int .i64 0, .bool false]) ?_ 7 _ rfl; (with_reducible repeat (first | refine blk_drewN ?_ _ | refine blk_drew ?_ | refine blk_alloc ?_ _)); refine blk_put (cs := #[.int .i64 t176, .int .i64 t177, .int .i64 t178, .slice Ao475 t179.length co475, .int .i64 t182, .int .i64 t183, .int .i64 0, .int .i64 0, .bool false]) ?_ 6 _ rfl; (with_reducible repeat (first | refine blk_drewN ?_ _ | refine blk_drew ?_ | refine blk_alloc ?_ _)); refine blk_put (cs := #[.int .i64 t176, .int .i64 t177, .int .i64 t178, .slice Ao475 t179.length co475, .int .i64 t182, .int .i64 0, .int .i64 0, .int .i64 0, .bool false]) ?_ 5 _ rfl; (with_reducible repeat (first | refine blk_drewN ?_ _ | refine blk_drew ?_ | refine blk_alloc ?_ _)); refine blk_put (cs := #[.int .i64 t176, .int .i64 t177, .int .i64 t178, .slice Ao475 t179.length co475, .int .i64 0, .int .i64 0, .int .i64 0, .int .i64 0, .bool false]) ?_ 4 _ rfl; (with_reducible repeat (first | refine blk_drewN ?_ _ | refine blk_drew ?_ | refine blk_alloc ?_ _)); refine blk_put (cs := #[.int .i64 t176, .int .i64 t177, .int .i64 t178, .slice none 0 0, .int .i64 0, .int .i64 0, .int .i64 0, .int .i64 0, .bool false]) ?_ 3 _ rfl; (with_reducible repeat (first | refine blk_drewN ?_ _ | refine blk_drew ?_ | refine blk_alloc ?_ _)); refine blk_put (cs := #[.int .i64 t176, .int .i64 t177, .int .i64 0, .slice none 0 0, .int .i64 0, .int .i64 0, .int .i64 0, .int .i64 0, .bool false]) ?_ 2 _ rfl; (with_reducible repeat (first | refine blk_drewN ?_ _ | refine blk_drew ?_ | refine blk_alloc ?_ _)); refine blk_put (cs := #[.int .i64 t176, .int .i64 0, .int .i64 0, .slice none 0 0, .int .i64 0, .int .i64 0, .int .i64 0, .int .i64 0, .bool false]) ?_ 1 _ rfl; (with_reducible repeat (first | refine blk_drewN ?_ _ | refine blk_drew ?_ | refine blk_alloc ?_ _)); refine blk_put (cs := #[.int .i64 0, .int .i64 0, .int .i64 0, .slice none 0 0, .int .i64 0, .int .i64 0, .int .i64 0, .int .i64 0, .bool false]) ?_ 0 _ rfl; (with_reducible repeat (first | refine blk_drewN ?_ _ | refine blk_drew ?_ | refine blk_alloc ?_ _)); exact BK187.out) k_ hk_)⟩)) (below_size (by repeat (first | (with_reducible first | exact HB.out | apply below_alloc | apply pw_below_drewN | apply below_drew1 | refine below_set ?_ GE187.out) | exact HB.out)))); have n2_ := Aside0.mk (blk_below (g := gb187) (o := .cells #[.int .i64 t176, .int .i64 t177, .int .i64 t178, .slice Ao475 t179.length co475, .int .i64 t182, .int .i64 t183, .int .i64 (wrap64 (8 + (wrap64 (1 + (Go.bits .and .i64 a1 1023))))), .int .i64 t185, .bool t186] 26 (0, 0)) (by (with_reducible repeat (first | refine blk_drewN ?_ _ | refine blk_drew ?_ | refine blk_alloc ?_ _)); refine blk_put (cs := #[.int .i64 t176, .int .i64 t177, .int .i64 t178, .slice Ao475 t179.length co475, .int .i64 t182, .int .i64 t183, .int .i64 t184, .int .i64 t185, .bool t186]) ?_ 6 _ rfl; (with_reducible repeat (first | refine blk_drewN ?_ _ | refine blk_drew ?_ | refine blk_alloc ?_ _)); refine blk_put (cs := #[.int .i64 t176, .int .i64 t177, .int .i64 t178, .slice Ao475 t179.length co475, .int .i64 t182, .int .i64 t183, .int .i64 t184, .int .i64 t185, .bool false]) ?_ 8 _ rfl; (with_reducible repeat (first | refine blk_drewN ?_ _ | refine blk_drew ?_ | refine blk_alloc ?_ _)); refine blk_put (cs := #[.int .i64 t176, .int .i64 t177, .int .i64 t178, .slice Ao475 t179.length co475, .int .i64 t182, .int .i64 t183, .int .i64 t184, .int .i64 0, .bool false]) ?_ 7 _ rfl; (with_reducible repeat (first | refine blk_drewN ?_ _ | refine blk_drew ?_ | refine blk_alloc ?_ _)); refine blk_put (cs := #[.int .i64 t176, .int .i64 t177, .int .i64 t178, .slice Ao475 t179.length co475, .int .i64 t182, .int .i64 t183, .int .i64 0, .int .i64 0, .bool false]) ?_ 6 _ rfl; (with_reducible repeat (first | refine blk_drewN ?_ _ | refine blk_drew ?_ | refine blk_alloc ?_ _)); refine blk_put (cs := #[.int .i64 t176, .int .i64 t177, .int .i64 t178, .slice Ao475 t179.length co475, .int .i64 t182, .int .i64 0, .int .i64 0, .int .i64 0, .bool false]) ?_ 5 _ rfl; (with_reducible repeat (first | refine blk_drewN ?_ _ | refine blk_drew ?_ | refine blk_alloc ?_ _)); refine blk_put (cs := #[.int .i64 t176, .int .i64 t177, .int .i64 t178, .slice Ao475 t179.length co475, .int .i64 0, .int .i64 0, .int .i64 0, .int .i64 0, .bool false]) ?_ 4 _ rfl; (with_reducible repeat (first | refine blk_drewN ?_ _ | refine blk_drew ?_ | refine blk_alloc ?_ _)); refine blk_put (cs := #[.int .i64 t176, .int .i64 t177, .int .i64 t178, .slice none 0 0, .int .i64 0, .int .i64 0, .int .i64 0, .int .i64 0, .bool false]) ?_ 3 _ rfl; (with_reducible repeat (first | refine blk_drewN ?_ _ | refine blk_drew ?_ | refine blk_alloc ?_ _)); refine blk_put (cs := #[.int .i64 t176, .int .i64 t177, .int .i64 0, .slice none 0 0, .int .i64 0, .int .i64 0, .int .i64 0, .int .i64 0, .bool false]) ?_ 2 _ rfl; (with_reducible repeat (first | refine blk_drewN ?_ _ | refine blk_drew ?_ | refine blk_alloc ?_ _)); refine blk_put (cs := #[.int .i64 t176, .int .i64 0, .int .i64 0, .slice none 0 0, .int .i64 0, .int .i64 0, .int .i64 0, .int .i64 0, .bool false]) ?_ 1 _ rfl; (with_reducible repeat (first | refine blk_drewN ?_ _ | refine blk_drew ?_ | refine blk_alloc ?_ _)); refine blk_put (cs := #[.int .i64 0, .int .i64 0, .int .i64 0, .slice none 0 0, .int .i64 0, .int .i64 0, .int .i64 0, .int .i64 0, .bool false]) ?_ 0 _ rfl; (with_reducible repeat (first | refine blk_drewN ?_ _ | refine blk_drew ?_ | refine blk_alloc ?_ _)); exact BK187.out) hb); have n3_ := Aside0.mk (below_step (by repeat (first | (with_reducible first | exact HB.out | apply below_alloc | apply pw_below_drewN | apply below_drew1 | refine below_set ?_ GE187.out) | exact HB.out)) hb); clear HO181; clear BK187; clear HB; have HO181 := n0_; have HO363 := n1_; have BK187 := n2_; have HB := n3_; clear n0_ n1_ n2_ n3_; (try clear hb); (try clear hb2); (try clear hk); (try clear hi); (try clear ho0); obtain ⟨Ao477, co477, eo477⟩ := Kd.N_slice HO363.out; subst eo477; (try clear A455)) | ((with_reducible refine gate_callee (f := 17) rfl ?_); refine goesL_ (some 112) rfl rfl Try.func17 (by kernel_rfl) rfl #[.agg #[.int .i64 t358, .int .i64 t359, .int .i64 t360, .slice Ao477 t361.length co477, .int .i64 t364, .int .i64 t365, .int .i64 t366, .int .i64 t367, .bool t368]] rfl (by (try simp only [List.map_toArray, List.map_cons, List.map_nil]); first | done | rfl | (simp only [List.length_drop, List.length_take]; rfl)) ?_; (with_reducible refine (config_May.calls k t358 t359 t360 _ _ t361 t364 t365 t366 t367 t368 true _ ?side1 ?side2 A456.out).mono ?_); (case side1 => repeat (first | (with_reducible refine Kd.C_alloc ?_ _) | (with_reducible refine Kd.C_drewN ?_ _) | (with_reducible refine Kd.C_drew ?_) | exact (Kd.N_reads' HO363.out).2.2)); (case side2 => exact (Kd.N_reads' HO363.out).2.1); rintro e w478 ⟨rfl, hb⟩; refine ⟨_, rfl, ?_⟩; have n0_ := Aside0.mk (Kd.N_below (by (with_reducible repeat (first | apply Kd.N_alloc | apply Kd.N_drewN | apply Kd.N_drew)); exact HO181.out) hb); have n1_ := Aside0.mk (Kd.N_below (by (with_reducible repeat (first | apply Kd.N_alloc | apply Kd.N_drewN | apply Kd.N_drew)); exact HO363.out) hb); have n2_ := Aside0.mk (blk_below (g := gb187) (o := .cells #[.int .i64 t176, .int .i64 t177, .int .i64 t178, .slice Ao475 t179.length co475, .int .i64 t182, .int .i64 t183, .int .i64 (wrap64 (8 + (wrap64 (1 + (Go.bits .and .i64 a1 1023))))), .int .i64 t185, .bool t186] 26 (0, 0)) (by (with_reducible repeat (first | refine blk_drewN ?_ _ | refine blk_drew ?_ | refine blk_alloc ?_ _)); exact BK187.out) hb); have n3_ := Aside0.mk (below_step (by repeat (first | (with_reducible first | exact HB.out | apply below_alloc | apply pw_below_drewN | apply below_drew1 | refine below_set ?_ GE187.out) | exact HB.out)) hb); clear HO181; clear HO363; clear BK187; clear HB; have HO181 := n0_; have HO363 := n1_; have BK187 := n2_; have HB := n3_; clear n0_ n1_ n2_ n3_; (try clear hb); (try clear hb2); (try clear hk); (try clear hi); have hcz479_0 : w478.cell? ⟨gb187, 0, none⟩ = some (.int .i64 t176) := (blk_cell BK187.out 0).trans rfl; have hcz479_1 : w478.cell? ⟨gb187, 1, none⟩ = some (.int .i64 t177) := (blk_cell BK187.out 1).trans rfl; have hcz479_2 : w478.cell? ⟨gb187, 2, none⟩ = some (.int .i64 t178) := (blk_cell BK187.out 2).trans rfl; have hcz479_3 : w478.cell? ⟨gb187, 3, none⟩ = some (.slice Ao475 t179.length co475) := (blk_cell BK187.out 3).trans rfl; have hcz479_4 : w478.cell? ⟨gb187, 4, none⟩ = some (.int .i64 t182) := (blk_cell BK187.out 4).trans rfl; have hcz479_5 : w478.cell? ⟨gb187, 5, none⟩ = some (.int .i64 t183) := (blk_cell BK187.out 5).trans rfl; have hcz479_6 : w478.cell? ⟨gb187, 6, none⟩ = some (.int .i64 (wrap64 (8 + (wrap64 (1 + (Go.bits .and .i64 a1 1023)))))) := (blk_cell BK187.out 6).trans rfl; have hcz479_7 : w478.cell? ⟨gb187, 7, none⟩ = some (.int .i64 t185) := (blk_cell BK187.out 7).trans rfl; have hcz479_8 : w478.cell? ⟨gb187, 8, none⟩ = some (.bool t186) := (blk_cell BK187.out 8).trans rfl; have hfz479_0 := blk_frozen BK187.out 0; have hfz479_1 := blk_frozen BK187.out 1; have hfz479_2 := blk_frozen BK187.out 2; have hfz479_3 := blk_frozen BK187.out 3; have hfz479_4 := blk_frozen BK187.out 4; have hfz479_5 := blk_frozen BK187.out 5; have hfz479_6 := blk_frozen BK187.out 6; have hfz479_7 := blk_frozen BK187.out 7; have hfz479_8 := blk_frozen BK187.out 8; (try clear A456)) | (go_at_call 17; (with_reducible refine (config_May.calls k t176 t177 t178 _ _ t179 t182 t183 (wrap64 (8 + (wrap64 (1 + (Go.bits .and .i64 a1 1023))))) t185 t186 false _ ?side1 ?side2 A458.out).mono ?_); (case side1 => repeat (first | (with_reducible refine Kd.C_alloc ?_ _) | (with_reducible refine Kd.C_drewN ?_ _) | (with_reducible refine Kd.C_drew ?_) | exact (Kd.N_reads' HO181.out).2.2)); (case side2 => exact (Kd.N_reads' HO181.out).2.1); rintro e w480 ⟨rfl, hb⟩; have n0_ := Aside0.mk (Kd.N_below (by (with_reducible repeat (first | apply Kd.N_alloc | apply Kd.N_drewN | apply Kd.N_drew)); exact HO181.out) hb); have n1_ := Aside0.mk (Kd.N_below (by (with_reducible repeat (first | apply Kd.N_alloc | apply Kd.N_drewN | apply Kd.N_drew)); exact HO363.out) hb); have n2_ := Aside0.mk (blk_below (g := gb187) (o := .cells #[.int .i64 t176, .int .i64 t177, .int .i64 t178, .slice Ao475 t179.length co475, .int .i64 t182, .int .i64 t183, .int .i64 (wrap64 (8 + (wrap64 (1 + (Go.bits .and .i64 a1 1023))))), .int .i64 t185, .bool t186] 26 (0, 0)) (by (with_reducible repeat (first | refine blk_drewN ?_ _ | refine blk_drew ?_ | refine blk_alloc ?_ _)); exact BK187.out) hb); have n3_ := Aside0.mk (below_step (by repeat (first | (with_reducible first | exact HB.out | apply below_alloc | apply pw_below_drewN | apply below_drew1 | refine below_set ?_ GE187.out) | exact HB.out)) hb); clear HO181; clear HO363; clear BK187; clear HB; have HO181 := n0_; have HO363 := n1_; have BK187 := n2_; have HB := n3_; clear n0_ n1_ n2_ n3_; (try clear hb); (try clear hb2); (try clear hk); (try clear hi); (try clear A458)) | (go_at_call 22; (with_reducible refine (grafterlaw0_Num.calls 0 t371 _ A470.out).mono ?_); rintro e w' ⟨rfl, ⟨nd, rfl⟩⟩))
                                  go_ret
                                  exact ⟨by first | rfl | (simp [errW_none, errW_some] <;> rfl) | (simp [*, errW_none, errW_some] <;> rfl), by repeat (first | (with_reducible first | exact HB.out | apply below_alloc | apply pw_below_drewN | apply below_drew1 | refine below_set ?_ GE187.out) | exact HB.out)⟩
                              · replace c457 := Bool.eq_false_iff.mpr c457
                                subst c457
                                have H1 : (some false) = some r := by rw [if_neg (show ¬ (false = true) by decide)] at H; exact H
                                clear H
                                have H := H1
                                clear H1
                                exact absurd ((Option.some.inj H).trans HRT.out) Bool.false_ne_true
                            · exact absurd hs_c454 c454
  · replace c4 := Bool.eq_false_iff.mpr c4
    subst c4
    have H1 : (some false) = some r := by rw [if_neg (show ¬ (false = true) by decide)] at H; exact H
    clear H
    have H := H1
    clear H1
    exact absurd ((Option.some.inj H).trans HRT.out) Bool.false_ne_true
set_option maxHeartbeats 8000000 in
set_option maxRecDepth 100000 in
theorem grafterlaw19_ConfigForms.calls_13 (k : Nat) (a0 : Int) (a1 : Int) (r : Bool) (w : World) (hrt : r = true) (h : grafterlaw19_ConfigForms.f k a0 a1 = some r) (hs_c6 : ¬ ((Int.tmod (IntKind.u64.wrap (a0)) 16) = 0)) (hs_c41 : ¬ ((Int.tmod (IntKind.u64.wrap (a0)) 16) = 1)) (hs_c76 : ¬ ((Int.tmod (IntKind.u64.wrap (a0)) 16) = 2)) (hs_c111 : ¬ ((Int.tmod (IntKind.u64.wrap (a0)) 16) = 3)) (hs_c146 : ¬ ((Int.tmod (IntKind.u64.wrap (a0)) 16) = 4)) (hs_c181 : ¬ ((Int.tmod (IntKind.u64.wrap (a0)) 16) = 5)) (hs_c230 : ¬ ((Int.tmod (IntKind.u64.wrap (a0)) 16) = 6)) (hs_c279 : ¬ ((Int.tmod (IntKind.u64.wrap (a0)) 16) = 7)) (hs_c314 : ¬ ((Int.tmod (IntKind.u64.wrap (a0)) 16) = 8)) (hs_c349 : ¬ ((Int.tmod (IntKind.u64.wrap (a0)) 16) = 9)) (hs_c384 : ¬ ((Int.tmod (IntKind.u64.wrap (a0)) 16) = 10)) (hs_c419 : ¬ ((Int.tmod (IntKind.u64.wrap (a0)) 16) = 11)) (hs_c454 : ¬ ((Int.tmod (IntKind.u64.wrap (a0)) 16) = 12)) (hs_c489 : (Int.tmod (IntKind.u64.wrap (a0)) 16) = 13) :
    Calls Try.prog 4 #[.int .i64 a0, .int .i64 a1] w fun e w' => e = .returned (.bool r) ∧ Below w.heap.size w w' := by
  have HRT := Aside0.mk hrt
  clear hrt
  have hu26 := Try.underlying26
  have HB := Aside0.mk (Below.refl w.heap.size w)
  have H := h
  clear h
  unfold grafterlaw19_ConfigForms.f at H
  replace H := Option.bind_eq_some_iff.mp H
  obtain ⟨t175, A30, H⟩ := H
  (try dsimp only at H)
  have A3 := Aside0.mk A30
  clear A30
  by_cases c4 : t175 = true
  · subst c4
    rw [if_pos rfl] at H
    replace H := Option.bind_eq_some_iff.mp H
    obtain ⟨⟨t176, t177, t178, t179, t182, t183, t184, t185, t186⟩, A50, H⟩ := H
    (try dsimp only at H)
    have A5 := Aside0.mk A50
    clear A50
    by_cases c6 : (Int.tmod (IntKind.u64.wrap (a0)) 16) = 0
    · exact absurd c6 hs_c6
    · rw [if_neg c6] at H
      have c6b0 : ((Int.tmod (IntKind.u64.wrap (a0)) 16) == 0) = false := beq_eq_false_iff_ne.mpr c6
      have c6b1 : ((Int.tmod (IntKind.u64.wrap (a0)) 16) != 0) = true := bne_iff_ne.mpr c6
      by_cases c41 : (Int.tmod (IntKind.u64.wrap (a0)) 16) = 1
      · exact absurd c41 hs_c41
      · rw [if_neg c41] at H
        have c41b0 : ((Int.tmod (IntKind.u64.wrap (a0)) 16) == 1) = false := beq_eq_false_iff_ne.mpr c41
        have c41b1 : ((Int.tmod (IntKind.u64.wrap (a0)) 16) != 1) = true := bne_iff_ne.mpr c41
        by_cases c76 : (Int.tmod (IntKind.u64.wrap (a0)) 16) = 2
        · exact absurd c76 hs_c76
        · rw [if_neg c76] at H
          have c76b0 : ((Int.tmod (IntKind.u64.wrap (a0)) 16) == 2) = false := beq_eq_false_iff_ne.mpr c76
          have c76b1 : ((Int.tmod (IntKind.u64.wrap (a0)) 16) != 2) = true := bne_iff_ne.mpr c76
          by_cases c111 : (Int.tmod (IntKind.u64.wrap (a0)) 16) = 3
          · exact absurd c111 hs_c111
          · rw [if_neg c111] at H
            have c111b0 : ((Int.tmod (IntKind.u64.wrap (a0)) 16) == 3) = false := beq_eq_false_iff_ne.mpr c111
            have c111b1 : ((Int.tmod (IntKind.u64.wrap (a0)) 16) != 3) = true := bne_iff_ne.mpr c111
            by_cases c146 : (Int.tmod (IntKind.u64.wrap (a0)) 16) = 4
            · exact absurd c146 hs_c146
            · rw [if_neg c146] at H
              have c146b0 : ((Int.tmod (IntKind.u64.wrap (a0)) 16) == 4) = false := beq_eq_false_iff_ne.mpr c146
              have c146b1 : ((Int.tmod (IntKind.u64.wrap (a0)) 16) != 4) = true := bne_iff_ne.mpr c146
              by_cases c181 : (Int.tmod (IntKind.u64.wrap (a0)) 16) = 5
              · exact absurd c181 hs_c181
              · rw [if_neg c181] at H
                have c181b0 : ((Int.tmod (IntKind.u64.wrap (a0)) 16) == 5) = false := beq_eq_false_iff_ne.mpr c181
                have c181b1 : ((Int.tmod (IntKind.u64.wrap (a0)) 16) != 5) = true := bne_iff_ne.mpr c181
                by_cases c230 : (Int.tmod (IntKind.u64.wrap (a0)) 16) = 6
                · exact absurd c230 hs_c230
                · rw [if_neg c230] at H
                  have c230b0 : ((Int.tmod (IntKind.u64.wrap (a0)) 16) == 6) = false := beq_eq_false_iff_ne.mpr c230
                  have c230b1 : ((Int.tmod (IntKind.u64.wrap (a0)) 16) != 6) = true := bne_iff_ne.mpr c230
                  by_cases c279 : (Int.tmod (IntKind.u64.wrap (a0)) 16) = 7
                  · exact absurd c279 hs_c279
                  · rw [if_neg c279] at H
                    have c279b0 : ((Int.tmod (IntKind.u64.wrap (a0)) 16) == 7) = false := beq_eq_false_iff_ne.mpr c279
                    have c279b1 : ((Int.tmod (IntKind.u64.wrap (a0)) 16) != 7) = true := bne_iff_ne.mpr c279
                    by_cases c314 : (Int.tmod (IntKind.u64.wrap (a0)) 16) = 8
                    · exact absurd c314 hs_c314
                    · rw [if_neg c314] at H
                      have c314b0 : ((Int.tmod (IntKind.u64.wrap (a0)) 16) == 8) = false := beq_eq_false_iff_ne.mpr c314
                      have c314b1 : ((Int.tmod (IntKind.u64.wrap (a0)) 16) != 8) = true := bne_iff_ne.mpr c314
                      by_cases c349 : (Int.tmod (IntKind.u64.wrap (a0)) 16) = 9
                      · exact absurd c349 hs_c349
                      · rw [if_neg c349] at H
                        have c349b0 : ((Int.tmod (IntKind.u64.wrap (a0)) 16) == 9) = false := beq_eq_false_iff_ne.mpr c349
                        have c349b1 : ((Int.tmod (IntKind.u64.wrap (a0)) 16) != 9) = true := bne_iff_ne.mpr c349
                        by_cases c384 : (Int.tmod (IntKind.u64.wrap (a0)) 16) = 10
                        · exact absurd c384 hs_c384
                        · rw [if_neg c384] at H
                          have c384b0 : ((Int.tmod (IntKind.u64.wrap (a0)) 16) == 10) = false := beq_eq_false_iff_ne.mpr c384
                          have c384b1 : ((Int.tmod (IntKind.u64.wrap (a0)) 16) != 10) = true := bne_iff_ne.mpr c384
                          by_cases c419 : (Int.tmod (IntKind.u64.wrap (a0)) 16) = 11
                          · exact absurd c419 hs_c419
                          · rw [if_neg c419] at H
                            have c419b0 : ((Int.tmod (IntKind.u64.wrap (a0)) 16) == 11) = false := beq_eq_false_iff_ne.mpr c419
                            have c419b1 : ((Int.tmod (IntKind.u64.wrap (a0)) 16) != 11) = true := bne_iff_ne.mpr c419
                            by_cases c454 : (Int.tmod (IntKind.u64.wrap (a0)) 16) = 12
                            · exact absurd c454 hs_c454
                            · rw [if_neg c454] at H
                              have c454b0 : ((Int.tmod (IntKind.u64.wrap (a0)) 16) == 12) = false := beq_eq_false_iff_ne.mpr c454
                              have c454b1 : ((Int.tmod (IntKind.u64.wrap (a0)) 16) != 12) = true := bne_iff_ne.mpr c454
                              by_cases c489 : (Int.tmod (IntKind.u64.wrap (a0)) 16) = 13
                              · rw [if_pos c489] at H
                                have c489b0 : ((Int.tmod (IntKind.u64.wrap (a0)) 16) == 13) = true := beq_iff_eq.mpr c489
                                have c489b1 : ((Int.tmod (IntKind.u64.wrap (a0)) 16) != 13) = false := bne_eq_false_iff_eq.mpr c489
                                clear c489
                                replace H := Option.bind_eq_some_iff.mp H
                                obtain ⟨⟨t372, t373, t374, t375, t378, t379, t380, t381, t382⟩, A4900, H⟩ := H
                                (try dsimp only at H)
                                have A490 := Aside0.mk A4900
                                clear A4900
                                replace H := Option.bind_eq_some_iff.mp H
                                obtain ⟨t383, A4910, H⟩ := H
                                (try dsimp only at H)
                                have A491 := Aside0.mk A4910
                                clear A4910
                                by_cases c492 : t383 = true
                                · subst c492
                                  rw [if_pos rfl] at H
                                  replace H := Option.bind_eq_some_iff.mp H
                                  obtain ⟨t384, A4930, H⟩ := H
                                  replace H : (if t384 = true then (some false) else ((grafterlaw0_Num.f 0).bind fun t385 => (some (t385 == 0)))) = some r := H
                                  have A493 := Aside0.mk A4930
                                  clear A4930
                                  by_cases c494 : t384 = true
                                  · subst c494
                                    have H1 : (some false) = some r := by rw [if_pos rfl] at H; exact H
                                    clear H
                                    have H := H1
                                    clear H1
                                    exact absurd ((Option.some.inj H).trans HRT.out) Bool.false_ne_true
                                  · replace c494 := Bool.eq_false_iff.mpr c494
                                    subst c494
                                    have H1 : ((grafterlaw0_Num.f 0).bind fun t385 => (some (t385 == 0))) = some r := by rw [if_neg (show ¬ (false = true) by decide)] at H; exact H
                                    clear H
                                    have H := H1
                                    clear H1
                                    replace H := Option.bind_eq_some_iff.mp H
                                    obtain ⟨t385, A5050, H⟩ := H
                                    replace H : (some (t385 == 0)) = some r := H
                                    have A505 := Aside0.mk A5050
                                    clear A5050
                                    obtain rfl := Option.some.inj H
                                    go_enter Try.func4, Try.ntmps4
                                    go_wp2_with (first | ((with_reducible refine gate_callee (f := 20) rfl ?_); refine goesL_ (some 8) rfl rfl Try.func20 (by kernel_rfl) rfl #[] rfl (by (try simp only [List.map_toArray, List.map_cons, List.map_nil]); first | done | rfl | (simp only [List.length_drop, List.length_take]; rfl)) ?_; (with_reducible refine (grafterlaw19_awake.calls k  true _ rfl A3.out).mono ?_); rintro e w506 ⟨rfl, hb⟩; refine ⟨_, rfl, ?_⟩; have n0_ := Aside0.mk (below_step (by repeat (first | (with_reducible first | exact HB.out | apply below_alloc | apply pw_below_drewN | apply below_drew1) | exact HB.out)) hb); clear HB; have HB := n0_; clear n0_; (try clear hb); (try clear hb2); (try clear hk); (try clear hi)) | ((with_reducible refine gate_callee (f := 21) rfl ?_); refine goesL_ (some 13) rfl rfl Try.func21 (by kernel_rfl) rfl #[] rfl (by (try simp only [List.map_toArray, List.map_cons, List.map_nil]); first | done | rfl | (simp only [List.length_drop, List.length_take]; rfl)) ?_; (with_reducible refine (grafterlaw19_small.calls  t176 t177 t178 t179 t182 t183 t184 t185 t186 _ A5.out).mono ?_); rintro e w507 ⟨v180, rfl, ho0, hb⟩; refine ⟨_, rfl, ?_⟩; have n0_ := Aside0.mk (Kd.N_lower (Kd.N_mono (ok' := fun k_ => True) ho0 (fun k_ hk_ => trivial)) (below_size (by repeat (first | (with_reducible first | exact HB.out | apply below_alloc | apply pw_below_drewN | apply below_drew1) | exact HB.out)))); have n1_ := Aside0.mk (below_step (by repeat (first | (with_reducible first | exact HB.out | apply below_alloc | apply pw_below_drewN | apply below_drew1) | exact HB.out)) hb); clear HB; have HO181 := n0_; have HB := n1_; clear n0_ n1_; (try clear hb); (try clear hb2); (try clear hk); (try clear hi); (try clear ho0); (try clear A5)) | ((with_reducible refine gate_dst (N := 6) rfl ?_); refine box_event ?hg (N := 6) ?hd (cs := #[.int .i64 0, .int .i64 0, .int .i64 0, .slice none 0 0, .int .i64 0, .int .i64 0, .int .i64 0, .int .i64 0, .bool false]) (t := 26) ?hr ?_; (case hd => rfl); (case hg => rfl); (case hr => first | (go_simp; done) | (go_simp; rfl)); intro gb187 hg w508 hbox hb; have n0_ := Aside0.mk (Kd.N_below (Kd.N_elderB (by (with_reducible repeat (first | apply Kd.N_alloc | apply Kd.N_drewN | apply Kd.N_drew)); exact HO181.out) gb187 (Nat.le_of_eq hg.symm)) hb); have n1_ := Aside0.mk (below_step (by repeat (first | (with_reducible first | exact HB.out | apply below_alloc | apply pw_below_drewN | apply below_drew1) | exact HB.out)) hb); have n2_ := Aside0.mk (hbox); have n3_ := Aside0.mk ((by rw [hg]; exact (below_size (by repeat (first | (with_reducible first | exact HB.out | apply below_alloc | apply pw_below_drewN | apply below_drew1) | exact HB.out))) : w.heap.size ≤ gb187)); have n4_ := Aside0.mk ((by rw [hg]; exact (below_size (by repeat (first | (with_reducible first | exact HB.out | apply below_alloc | apply pw_below_drewN | apply below_drew1) | exact HB.out))) : w.heap.size ≤ gb187)); clear HO181; clear HB; have HO181 := n0_; have HB := n1_; have BK187 := n2_; have GW187 := n3_; have GE187 := n4_; clear n0_ n1_ n2_ n3_ n4_; clear hb hbox hg; have hcz509_0 : w508.cell? ⟨gb187, 0, none⟩ = some (.int .i64 0) := (blk_cell BK187.out 0).trans rfl; have hcz509_1 : w508.cell? ⟨gb187, 1, none⟩ = some (.int .i64 0) := (blk_cell BK187.out 1).trans rfl; have hcz509_2 : w508.cell? ⟨gb187, 2, none⟩ = some (.int .i64 0) := (blk_cell BK187.out 2).trans rfl; have hcz509_3 : w508.cell? ⟨gb187, 3, none⟩ = some (.slice none 0 0) := (blk_cell BK187.out 3).trans rfl; have hcz509_4 : w508.cell? ⟨gb187, 4, none⟩ = some (.int .i64 0) := (blk_cell BK187.out 4).trans rfl; have hcz509_5 : w508.cell? ⟨gb187, 5, none⟩ = some (.int .i64 0) := (blk_cell BK187.out 5).trans rfl; have hcz509_6 : w508.cell? ⟨gb187, 6, none⟩ = some (.int .i64 0) := (blk_cell BK187.out 6).trans rfl; have hcz509_7 : w508.cell? ⟨gb187, 7, none⟩ = some (.int .i64 0) := (blk_cell BK187.out 7).trans rfl; have hcz509_8 : w508.cell? ⟨gb187, 8, none⟩ = some (.bool false) := (blk_cell BK187.out 8).trans rfl; have hfz509_0 := blk_frozen BK187.out 0; have hfz509_1 := blk_frozen BK187.out 1; have hfz509_2 := blk_frozen BK187.out 2; have hfz509_3 := blk_frozen BK187.out 3; have hfz509_4 := blk_frozen BK187.out 4; have hfz509_5 := blk_frozen BK187.out 5; have hfz509_6 := blk_frozen BK187.out 6; have hfz509_7 := blk_frozen BK187.out 7; have hfz509_8 := blk_frozen BK187.out 8; obtain ⟨Ao510, co510, eo510⟩ := Kd.N_slice HO181.out; subst eo510) | ((with_reducible refine gate_callee (f := 21) rfl ?_); refine goesL_ (some 111) rfl rfl Try.func21 (by kernel_rfl) rfl #[] rfl (by (try simp only [List.map_toArray, List.map_cons, List.map_nil]); first | done | rfl | (simp only [List.length_drop, List.length_take]; rfl)) ?_; (with_reducible refine (grafterlaw19_small.calls  t372 t373 t374 t375 t378 t379 t380 t381 t382 _ A490.out).mono ?_); rintro e w511 ⟨v376, rfl, ho0, hb⟩; refine ⟨_, rfl, ?_⟩; have n0_ := Aside0.mk (Kd.N_elder' (by (with_reducible repeat (first | apply Kd.N_alloc | apply Kd.N_drewN | apply Kd.N_drew)); exact (Kd.N_mono (Kd.N_far (p := ⟨gb187, 7, none⟩) (Kd.N_far (p := ⟨gb187, 8, none⟩) (Kd.N_far (p := ⟨gb187, 7, none⟩) (Kd.N_far (p := ⟨gb187, 6, none⟩) (Kd.N_far (p := ⟨gb187, 5, none⟩) (Kd.N_far (p := ⟨gb187, 4, none⟩) (Kd.N_far (p := ⟨gb187, 3, none⟩) (Kd.N_far (p := ⟨gb187, 2, none⟩) (Kd.N_far (p := ⟨gb187, 1, none⟩) (Kd.N_far (p := ⟨gb187, 0, none⟩) (Kd.N_mono HO181.out (fun k_ hk => (⟨hk, hk.2⟩ : _ ∧ k_ ≠ gb187))) (fun _ hk => hk.2) (.int .i64 t176)) (fun _ hk => hk.2) (.int .i64 t177)) (fun _ hk => hk.2) (.int .i64 t178)) (fun _ hk => hk.2) (.slice Ao510 t179.length co510)) (fun _ hk => hk.2) (.int .i64 t182)) (fun _ hk => hk.2) (.int .i64 t183)) (fun _ hk => hk.2) (.int .i64 t184)) (fun _ hk => hk.2) (.int .i64 t185)) (fun _ hk => hk.2) (.bool t186)) (fun _ hk => hk.2) (.int .i64 (wrap64 (1 - (wrap64 (1 + (Go.bits .and .i64 a1 1023))))))) (fun _ h_ => h_.1))) (Kd.N_base ho0) hb); have n1_ := Aside0.mk (Kd.N_lower (Kd.N_mono (ok' := fun k_ => some k_ ≠ (.slice Ao510 t179.length co510 : Value).ownBlock ∧ k_ ≠ gb187) ho0 (fun k_ hk_ => ⟨(Kd.fresh' (Kd.N_lt (by (with_reducible repeat (first | apply Kd.N_alloc | apply Kd.N_drewN | apply Kd.N_drew)); exact (Kd.N_mono (Kd.N_far (p := ⟨gb187, 7, none⟩) (Kd.N_far (p := ⟨gb187, 8, none⟩) (Kd.N_far (p := ⟨gb187, 7, none⟩) (Kd.N_far (p := ⟨gb187, 6, none⟩) (Kd.N_far (p := ⟨gb187, 5, none⟩) (Kd.N_far (p := ⟨gb187, 4, none⟩) (Kd.N_far (p := ⟨gb187, 3, none⟩) (Kd.N_far (p := ⟨gb187, 2, none⟩) (Kd.N_far (p := ⟨gb187, 1, none⟩) (Kd.N_far (p := ⟨gb187, 0, none⟩) (Kd.N_mono HO181.out (fun k_ hk => (⟨hk, hk.2⟩ : _ ∧ k_ ≠ gb187))) (fun _ hk => hk.2) (.int .i64 t176)) (fun _ hk => hk.2) (.int .i64 t177)) (fun _ hk => hk.2) (.int .i64 t178)) (fun _ hk => hk.2) (.slice Ao510 t179.length co510)) (fun _ hk => hk.2) (.int .i64 t182)) (fun _ hk => hk.2) (.int .i64 t183)) (fun _ hk => hk.2) (.int .i64 t184)) (fun _ hk => hk.2) (.int .i64 t185)) (fun _ hk => hk.2) (.bool t186)) (fun _ hk => hk.2) (.int .i64 (wrap64 (1 - (wrap64 (1 + (Go.bits .and .i64 a1 1023))))))) (fun _ h_ => h_.1)))) k_ hk_), (Kd.freshB (g := gb187) (o := .cells #[.int .i64 t176, .int .i64 t177, .int .i64 t178, .slice Ao510 t179.length co510, .int .i64 t182, .int .i64 t183, .int .i64 t184, .int .i64 (wrap64 (1 - (wrap64 (1 + (Go.bits .and .i64 a1 1023))))), .bool t186] 26 (0, 0)) (by (with_reducible repeat (first | refine blk_drewN ?_ _ | refine blk_drew ?_ | refine blk_alloc ?_ _)); refine blk_put (cs := #[.int .i64 t176, .int .i64 t177, .int .i64 t178, .slice Ao510 t179.length co510, .int .i64 t182, .int .i64 t183, .int .i64 t184, .int .i64 t185, .bool t186]) ?_ 7 _ rfl; (with_reducible repeat (first | refine blk_drewN ?_ _ | refine blk_drew ?_ | refine blk_alloc ?_ _)); refine blk_put (cs := #[.int .i64 t176, .int .i64 t177, .int .i64 t178, .slice Ao510 t179.length co510, .int .i64 t182, .int .i64 t183, .int .i64 t184, .int .i64 t185, .bool false]) ?_ 8 _ rfl; (with_reducible repeat (first | refine blk_drewN ?_ _ | refine blk_drew ?_ | refine blk_alloc ?_ _)); refine blk_put (cs := #[.int .i64 t176, .int .i64 t177, .int .i64 t178, .slice Ao510 t179.length co510, .int .i64 t182, .int .i64 t183, .int .i64 t184, .int .i64 0, .bool false]) ?_ 7 _ rfl; (with_reducible repeat (first | refine blk_drewN ?_ _ | refine blk_drew ?_ | refine blk_alloc ?_ _)); refine blk_put (cs := #[.int .i64 t176, .int .i64 t177, .int .i64 t178, .slice Ao510 t179.length co510, .int .i64 t182, .int .i64 t183, .int .i64 0, .int .i64 0, .bool false]) ?_ 6 _ rfl; (with_reducible repeat (first | refine blk_drewN ?_ _ | refine blk_drew ?_ | refine blk_alloc ?_ _)); refine blk_put (cs := #[.int .i64 t176, .int .i64 t177, .int .i64 t178, .slice Ao510 t179.length co510, .int .i64 t182, .int .i64 0, .int .i64 0, .int .i64 0, .bool false]) ?_ 5 _ rfl; (with_reducible repeat (first | refine blk_drewN ?_ _ | refine blk_drew ?_ | refine blk_alloc ?_ _)); refine blk_put (cs := #[.int .i64 t176, .int .i64 t177, .int .i64 t178, .slice Ao510 t179.length co510, .int .i64 0, .int .i64 0, .int .i64 0, .int .i64 0, .bool false]) ?_ 4 _ rfl; (with_reducible repeat (first | refine blk_drewN ?_ _ | refine blk_drew ?_ | refine blk_alloc ?_ _)); refine blk_put (cs := #[.int .i64 t176, .int .i64 t177, .int .i64 t178, .slice none 0 0, .int .i64 0, .int .i64 0, .int .i64 0, .int .i64 0, .bool false]) ?_ 3 _ rfl; (with_reducible repeat (first | refine blk_drewN ?_ _ | refine blk_drew ?_ | refine blk_alloc ?_ _)); refine blk_put (cs := #[.int .i64 t176, .int .i64 t177, .int .i64 0, .slice none 0 0, .int .i64 0, .int .i64 0, .int .i64 0, .int .i64 0, .bool false]) ?_ 2 _ rfl; (with_reducible repeat (first | refine blk_drewN ?_ _ | refine blk_drew ?_ | refine blk_alloc ?_ _)); refine blk_put (cs := #[.int .i64 t176, .int .i64 0, .int .i64 0, .slice none 0 0, .int .i64 0, .int .i64 0, .int .i64 0, .int .i64 0, .bool false]) ?_ 1 _ rfl; (with_reducible repeat (first | refine blk_drewN ?_ _ | refine blk_drew ?_ | refine blk_alloc ?_ _)); refine blk_put (cs := #[.int .i64 0, .int .i64 0, .int .i64 0, .slice none 0 0, .int .i64 0, .int .i64 0, .int .i64 0, .int .i64 0, .bool false]) ?_ 0 _ rfl; (with_reducible repeat (first | refine blk_drewN ?_ _ | refine blk_drew ?_ | refine blk_alloc ?_ _)); exact BK187.out) k_ hk_)⟩)) (below_size (by repeat (first | (with_reducible first | exact HB.out | apply below_alloc | apply pw_below_drewN | apply below_drew1 | refine below_set ?_ GE187.out) | exact HB.out)))); have n2_ := Aside0.mk (blk_below (g := gb187) (o := .cells #[.int .i64 t176, .int .i64 t177, .int .i64 t178, .slice Ao510 t179.length co510, .int .i64 t182, .int .i64 t183, .int .i64 t184, .int .i64 (wrap64 (1 - (wrap64 (1 + (Go.bits .and .i64 a1 1023))))), .bool t186] 26 (0, 0)) (by (with_reducible repeat (first | refine blk_drewN ?_ _ | refine blk_drew ?_ | refine blk_alloc ?_ _)); refine blk_put (cs := #[.int .i64 t176, .int .i64 t177, .int .i64 t178, .slice Ao510 t179.length co510, .int .i64 t182, .int .i64 t183, .int .i64 t184, .int .i64 t185, .bool t186]) ?_ 7 _ rfl; (with_reducible repeat (first | refine blk_drewN ?_ _ | refine blk_drew ?_ | refine blk_alloc ?_ _)); refine blk_put (cs := #[.int .i64 t176, .int .i64 t177, .int .i64 t178, .slice Ao510 t179.length co510, .int .i64 t182, .int .i64 t183, .int .i64 t184, .int .i64 t185, .bool false]) ?_ 8 _ rfl; (with_reducible repeat (first | refine blk_drewN ?_ _ | refine blk_drew ?_ | refine blk_alloc ?_ _)); refine blk_put (cs := #[.int .i64 t176, .int .i64 t177, .int .i64 t178, .slice Ao510 t179.length co510, .int .i64 t182, .int .i64 t183, .int .i64 t184, .int .i64 0, .bool false]) ?_ 7 _ rfl; (with_reducible repeat (first | refine blk_drewN ?_ _ | refine blk_drew ?_ | refine blk_alloc ?_ _)); refine blk_put (cs := #[.int .i64 t176, .int .i64 t177, .int .i64 t178, .slice Ao510 t179.length co510, .int .i64 t182, .int .i64 t183, .int .i64 0, .int .i64 0, .bool false]) ?_ 6 _ rfl; (with_reducible repeat (first | refine blk_drewN ?_ _ | refine blk_drew ?_ | refine blk_alloc ?_ _)); refine blk_put (cs := #[.int .i64 t176, .int .i64 t177, .int .i64 t178, .slice Ao510 t179.length co510, .int .i64 t182, .int .i64 0, .int .i64 0, .int .i64 0, .bool false]) ?_ 5 _ rfl; (with_reducible repeat (first | refine blk_drewN ?_ _ | refine blk_drew ?_ | refine blk_alloc ?_ _)); refine blk_put (cs := #[.int .i64 t176, .int .i64 t177, .int .i64 t178, .slice Ao510 t179.length co510, .int .i64 0, .int .i64 0, .int .i64 0, .int .i64 0, .bool false]) ?_ 4 _ rfl; (with_reducible repeat (first | refine blk_drewN ?_ _ | refine blk_drew ?_ | refine blk_alloc ?_ _)); refine blk_put (cs := #[.int .i64 t176, .int .i64 t177, .int .i64 t178, .slice none 0 0, .int .i64 0, .int .i64 0, .int .i64 0, .int .i64 0, .bool false]) ?_ 3 _ rfl; (with_reducible repeat (first | refine blk_drewN ?_ _ | refine blk_drew ?_ | refine blk_alloc ?_ _)); refine blk_put (cs := #[.int .i64 t176, .int .i64 t177, .int .i64 0, .slice none 0 0, .int .i64 0, .int .i64 0, .int .i64 0, .int .i64 0, .bool false]) ?_ 2 _ rfl; (with_reducible repeat (first | refine blk_drewN ?_ _ | refine blk_drew ?_ | refine blk_alloc ?_ _)); refine blk_put (cs := #[.int .i64 t176, .int .i64 0, .int .i64 0, .slice none 0 0, .int .i64 0, .int .i64 0, .int .i64 0, .int .i64 0, .bool false]) ?_ 1 _ rfl; (with_reducible repeat (first | refine blk_drewN ?_ _ | refine blk_drew ?_ | refine blk_alloc ?_ _)); refine blk_put (cs := #[.int .i64 0, .int .i64 0, .int .i64 0, .slice none 0 0, .int .i64 0, .int .i64 0, .int .i64 0, .int .i64 0, .bool false]) ?_ 0 _ rfl; (with_reducible repeat (first | refine blk_drewN ?_ _ | refine blk_drew ?_ | refine blk_alloc ?_ _)); exact BK187.out) hb); have n3_ := Aside0.mk (below_step (by repeat (first | (with_reducible first | exact HB.out | apply below_alloc | apply pw_below_drewN | apply below_drew1 | refine below_set ?_ GE187.out) | exact HB.out)) hb); clear HO181; clear BK187; clear HB; have HO181 := n0_; have HO377 := n1_; have BK187 := n2_; have HB := n3_; clear n0_ n1_ n2_ n3_; (try clear hb); (try clear hb2); (try clear hk); (try clear hi); (try clear ho0); obtain ⟨Ao512, co512, eo512⟩ := Kd.N_slice HO377.out; subst eo512; (try clear A490)) | ((with_reducible refine gate_callee (f := 17) rfl ?_); refine goesL_ (some 112) rfl rfl Try.func17 (by kernel_rfl) rfl #[.agg #[.int .i64 t372, .int .i64 t373, .int .i64 t374, .slice Ao512 t375.length co512, .int .i64 t378, .int .i64 t379, .int .i64 t380, .int .i64 t381, .bool t382]] rfl (by (try simp only [List.map_toArray, List.map_cons, List.map_nil]); first | done | rfl | (simp only [List.length_drop, List.length_take]; rfl)) ?_; (with_reducible refine (config_May.calls k t372 t373 t374 _ _ t375 t378 t379 t380 t381 t382 true _ ?side1 ?side2 A491.out).mono ?_); (case side1 => repeat (first | (with_reducible refine Kd.C_alloc ?_ _) | (with_reducible refine Kd.C_drewN ?_ _) | (with_reducible refine Kd.C_drew ?_) | exact (Kd.N_reads' HO377.out).2.2)); (case side2 => exact (Kd.N_reads' HO377.out).2.1); rintro e w513 ⟨rfl, hb⟩; refine ⟨_, rfl, ?_⟩; have n0_ := Aside0.mk (Kd.N_below (by (with_reducible repeat (first | apply Kd.N_alloc | apply Kd.N_drewN | apply Kd.N_drew)); exact HO181.out) hb); have n1_ := Aside0.mk (Kd.N_below (by (with_reducible repeat (first | apply Kd.N_alloc | apply Kd.N_drewN | apply Kd.N_drew)); exact HO377.out) hb); have n2_ := Aside0.mk (blk_below (g := gb187) (o := .cells #[.int .i64 t176, .int .i64 t177, .int .i64 t178, .slice Ao510 t179.length co510, .int .i64 t182, .int .i64 t183, .int .i64 t184, .int .i64 (wrap64 (1 - (wrap64 (1 + (Go.bits .and .i64 a1 1023))))), .bool t186] 26 (0, 0)) (by (with_reducible repeat (first | refine blk_drewN ?_ _ | refine blk_drew ?_ | refine blk_alloc ?_ _)); exact BK187.out) hb); have n3_ := Aside0.mk (below_step (by repeat (first | (with_reducible first | exact HB.out | apply below_alloc | apply pw_below_drewN | apply below_drew1 | refine below_set ?_ GE187.out) | exact HB.out)) hb); clear HO181; clear HO377; clear BK187; clear HB; have HO181 := n0_; have HO377 := n1_; have BK187 := n2_; have HB := n3_; clear n0_ n1_ n2_ n3_; (try clear hb); (try clear hb2); (try clear hk); (try clear hi); have hcz514_0 : w513.cell? ⟨gb187, 0, none⟩ = some (.int .i64 t176) := (blk_cell BK187.out 0).trans rfl; have hcz514_1 : w513.cell? ⟨gb187, 1, none⟩ = some (.int .i64 t177) := (blk_cell BK187.out 1).trans rfl; have hcz514_2 : w513.cell? ⟨gb187, 2, none⟩ = some (.int .i64 t178) := (blk_cell BK187.out 2).trans rfl; have hcz514_3 : w513.cell? ⟨gb187, 3, none⟩ = some (.slice Ao510 t179.length co510) := (blk_cell BK187.out 3).trans rfl; have hcz514_4 : w513.cell? ⟨gb187, 4, none⟩ = some (.int .i64 t182) := (blk_cell BK187.out 4).trans rfl; have hcz514_5 : w513.cell? ⟨gb187, 5, none⟩ = some (.int .i64 t183) := (blk_cell BK187.out 5).trans rfl; have hcz514_6 : w513.cell? ⟨gb187, 6, none⟩ = some (.int .i64 t184) := (blk_cell BK187.out 6).trans rfl; have hcz514_7 : w513.cell? ⟨gb187, 7, none⟩ = some (.int .i64 (wrap64 (1 - (wrap64 (1 + (Go.bits .and .i64 a1 1023)))))) := (blk_cell BK187.out 7).trans rfl; have hcz514_8 : w513.cell? ⟨gb187, 8, none⟩ = some (.bool t186) := (blk_cell BK187.out 8).trans rfl; have hfz514_0 := blk_frozen BK187.out 0; have hfz514_1 := blk_frozen BK187.out 1; have hfz514_2 := blk_frozen BK187.out 2; have hfz514_3 := blk_frozen BK187.out 3; have hfz514_4 := blk_frozen BK187.out 4; have hfz514_5 := blk_frozen BK187.out 5; have hfz514_6 := blk_frozen BK187.out 6; have hfz514_7 := blk_frozen BK187.out 7; have hfz514_8 := blk_frozen BK187.out 8; (try clear A491)) | (go_at_call 17; (with_reducible refine (config_May.calls k t176 t177 t178 _ _ t179 t182 t183 t184 (wrap64 (1 - (wrap64 (1 + (Go.bits .and .i64 a1 1023))))) t186 false _ ?side1 ?side2 A493.out).mono ?_); (case side1 => repeat (first | (with_reducible refine Kd.C_alloc ?_ _) | (with_reducible refine Kd.C_drewN ?_ _) | (with_reducible refine Kd.C_drew ?_) | exact (Kd.N_reads' HO181.out).2.2)); (case side2 => exact (Kd.N_reads' HO181.out).2.1); rintro e w515 ⟨rfl, hb⟩; have n0_ := Aside0.mk (Kd.N_below (by (with_reducible repeat (first | apply Kd.N_alloc | apply Kd.N_drewN | apply Kd.N_drew)); exact HO181.out) hb); have n1_ := Aside0.mk (Kd.N_below (by (with_reducible repeat (first | apply Kd.N_alloc | apply Kd.N_drewN | apply Kd.N_drew)); exact HO377.out) hb); have n2_ := Aside0.mk (blk_below (g := gb187) (o := .cells #[.int .i64 t176, .int .i64 t177, .int .i64 t178, .slice Ao510 t179.length co510, .int .i64 t182, .int .i64 t183, .int .i64 t184, .int .i64 (wrap64 (1 - (wrap64 (1 + (Go.bits .and .i64 a1 1023))))), .bool t186] 26 (0, 0)) (by (with_reducible repeat (first | refine blk_drewN ?_ _ | refine blk_drew ?_ | refine blk_alloc ?_ _)); exact BK187.out) hb); have n3_ := Aside0.mk (below_step (by repeat (first | (with_reducible first | exact HB.out | apply below_alloc | apply pw_below_drewN | apply below_drew1 | refine below_set ?_ GE187.out) | exact HB.out)) hb); clear HO181; clear HO377; clear BK187; clear HB; have HO181 := n0_; have HO377 := n1_; have BK187 := n2_; have HB := n3_; clear n0_ n1_ n2_ n3_; (try clear hb); (try clear hb2); (try clear hk); (try clear hi); (try clear A493)) | (go_at_call 22; (with_reducible refine (grafterlaw0_Num.calls 0 t385 _ A505.out).mono ?_); rintro e w' ⟨rfl, ⟨nd, rfl⟩⟩))
                                    go_ret
                                    exact ⟨by first | rfl | (simp [errW_none, errW_some] <;> rfl) | (simp [*, errW_none, errW_some] <;> rfl), by repeat (first | (with_reducible first | exact HB.out | apply below_alloc | apply pw_below_drewN | apply below_drew1 | refine below_set ?_ GE187.out) | exact HB.out)⟩
                                · replace c492 := Bool.eq_false_iff.mpr c492
                                  subst c492
                                  have H1 : (some false) = some r := by rw [if_neg (show ¬ (false = true) by decide)] at H; exact H
                                  clear H
                                  have H := H1
                                  clear H1
                                  exact absurd ((Option.some.inj H).trans HRT.out) Bool.false_ne_true
                              · exact absurd hs_c489 c489
  · replace c4 := Bool.eq_false_iff.mpr c4
    subst c4
    have H1 : (some false) = some r := by rw [if_neg (show ¬ (false = true) by decide)] at H; exact H
    clear H
    have H := H1
    clear H1
    exact absurd ((Option.some.inj H).trans HRT.out) Bool.false_ne_true
set_option maxHeartbeats 8000000 in
set_option maxRecDepth 100000 in
theorem grafterlaw19_ConfigForms.calls_14 (k : Nat) (a0 : Int) (a1 : Int) (r : Bool) (w : World) (hrt : r = true) (h : grafterlaw19_ConfigForms.f k a0 a1 = some r) (hs_c6 : ¬ ((Int.tmod (IntKind.u64.wrap (a0)) 16) = 0)) (hs_c41 : ¬ ((Int.tmod (IntKind.u64.wrap (a0)) 16) = 1)) (hs_c76 : ¬ ((Int.tmod (IntKind.u64.wrap (a0)) 16) = 2)) (hs_c111 : ¬ ((Int.tmod (IntKind.u64.wrap (a0)) 16) = 3)) (hs_c146 : ¬ ((Int.tmod (IntKind.u64.wrap (a0)) 16) = 4)) (hs_c181 : ¬ ((Int.tmod (IntKind.u64.wrap (a0)) 16) = 5)) (hs_c230 : ¬ ((Int.tmod (IntKind.u64.wrap (a0)) 16) = 6)) (hs_c279 : ¬ ((Int.tmod (IntKind.u64.wrap (a0)) 16) = 7)) (hs_c314 : ¬ ((Int.tmod (IntKind.u64.wrap (a0)) 16) = 8)) (hs_c349 : ¬ ((Int.tmod (IntKind.u64.wrap (a0)) 16) = 9)) (hs_c384 : ¬ ((Int.tmod (IntKind.u64.wrap (a0)) 16) = 10)) (hs_c419 : ¬ ((Int.tmod (IntKind.u64.wrap (a0)) 16) = 11)) (hs_c454 : ¬ ((Int.tmod (IntKind.u64.wrap (a0)) 16) = 12)) (hs_c489 : ¬ ((Int.tmod (IntKind.u64.wrap (a0)) 16) = 13)) (hs_c524 : (Int.tmod (IntKind.u64.wrap (a0)) 16) = 14) :
    Calls Try.prog 4 #[.int .i64 a0, .int .i64 a1] w fun e w' => e = .returned (.bool r) ∧ Below w.heap.size w w' := by
  have HRT := Aside0.mk hrt
  clear hrt
  have hu26 := Try.underlying26
  have HB := Aside0.mk (Below.refl w.heap.size w)
  have H := h
  clear h
  unfold grafterlaw19_ConfigForms.f at H
  replace H := Option.bind_eq_some_iff.mp H
  obtain ⟨t175, A30, H⟩ := H
  (try dsimp only at H)
  have A3 := Aside0.mk A30
  clear A30
  by_cases c4 : t175 = true
  · subst c4
    rw [if_pos rfl] at H
    replace H := Option.bind_eq_some_iff.mp H
    obtain ⟨⟨t176, t177, t178, t179, t182, t183, t184, t185, t186⟩, A50, H⟩ := H
    (try dsimp only at H)
    have A5 := Aside0.mk A50
    clear A50
    by_cases c6 : (Int.tmod (IntKind.u64.wrap (a0)) 16) = 0
    · exact absurd c6 hs_c6
    · rw [if_neg c6] at H
      have c6b0 : ((Int.tmod (IntKind.u64.wrap (a0)) 16) == 0) = false := beq_eq_false_iff_ne.mpr c6
      have c6b1 : ((Int.tmod (IntKind.u64.wrap (a0)) 16) != 0) = true := bne_iff_ne.mpr c6
      by_cases c41 : (Int.tmod (IntKind.u64.wrap (a0)) 16) = 1
      · exact absurd c41 hs_c41
      · rw [if_neg c41] at H
        have c41b0 : ((Int.tmod (IntKind.u64.wrap (a0)) 16) == 1) = false := beq_eq_false_iff_ne.mpr c41
        have c41b1 : ((Int.tmod (IntKind.u64.wrap (a0)) 16) != 1) = true := bne_iff_ne.mpr c41
        by_cases c76 : (Int.tmod (IntKind.u64.wrap (a0)) 16) = 2
        · exact absurd c76 hs_c76
        · rw [if_neg c76] at H
          have c76b0 : ((Int.tmod (IntKind.u64.wrap (a0)) 16) == 2) = false := beq_eq_false_iff_ne.mpr c76
          have c76b1 : ((Int.tmod (IntKind.u64.wrap (a0)) 16) != 2) = true := bne_iff_ne.mpr c76
          by_cases c111 : (Int.tmod (IntKind.u64.wrap (a0)) 16) = 3
          · exact absurd c111 hs_c111
          · rw [if_neg c111] at H
            have c111b0 : ((Int.tmod (IntKind.u64.wrap (a0)) 16) == 3) = false := beq_eq_false_iff_ne.mpr c111
            have c111b1 : ((Int.tmod (IntKind.u64.wrap (a0)) 16) != 3) = true := bne_iff_ne.mpr c111
            by_cases c146 : (Int.tmod (IntKind.u64.wrap (a0)) 16) = 4
            · exact absurd c146 hs_c146
            · rw [if_neg c146] at H
              have c146b0 : ((Int.tmod (IntKind.u64.wrap (a0)) 16) == 4) = false := beq_eq_false_iff_ne.mpr c146
              have c146b1 : ((Int.tmod (IntKind.u64.wrap (a0)) 16) != 4) = true := bne_iff_ne.mpr c146
              by_cases c181 : (Int.tmod (IntKind.u64.wrap (a0)) 16) = 5
              · exact absurd c181 hs_c181
              · rw [if_neg c181] at H
                have c181b0 : ((Int.tmod (IntKind.u64.wrap (a0)) 16) == 5) = false := beq_eq_false_iff_ne.mpr c181
                have c181b1 : ((Int.tmod (IntKind.u64.wrap (a0)) 16) != 5) = true := bne_iff_ne.mpr c181
                by_cases c230 : (Int.tmod (IntKind.u64.wrap (a0)) 16) = 6
                · exact absurd c230 hs_c230
                · rw [if_neg c230] at H
                  have c230b0 : ((Int.tmod (IntKind.u64.wrap (a0)) 16) == 6) = false := beq_eq_false_iff_ne.mpr c230
                  have c230b1 : ((Int.tmod (IntKind.u64.wrap (a0)) 16) != 6) = true := bne_iff_ne.mpr c230
                  by_cases c279 : (Int.tmod (IntKind.u64.wrap (a0)) 16) = 7
                  · exact absurd c279 hs_c279
                  · rw [if_neg c279] at H
                    have c279b0 : ((Int.tmod (IntKind.u64.wrap (a0)) 16) == 7) = false := beq_eq_false_iff_ne.mpr c279
                    have c279b1 : ((Int.tmod (IntKind.u64.wrap (a0)) 16) != 7) = true := bne_iff_ne.mpr c279
                    by_cases c314 : (Int.tmod (IntKind.u64.wrap (a0)) 16) = 8
                    · exact absurd c314 hs_c314
                    · rw [if_neg c314] at H
                      have c314b0 : ((Int.tmod (IntKind.u64.wrap (a0)) 16) == 8) = false := beq_eq_false_iff_ne.mpr c314
                      have c314b1 : ((Int.tmod (IntKind.u64.wrap (a0)) 16) != 8) = true := bne_iff_ne.mpr c314
                      by_cases c349 : (Int.tmod (IntKind.u64.wrap (a0)) 16) = 9
                      · exact absurd c349 hs_c349
                      · rw [if_neg c349] at H
                        have c349b0 : ((Int.tmod (IntKind.u64.wrap (a0)) 16) == 9) = false := beq_eq_false_iff_ne.mpr c349
                        have c349b1 : ((Int.tmod (IntKind.u64.wrap (a0)) 16) != 9) = true := bne_iff_ne.mpr c349
                        by_cases c384 : (Int.tmod (IntKind.u64.wrap (a0)) 16) = 10
                        · exact absurd c384 hs_c384
                        · rw [if_neg c384] at H
                          have c384b0 : ((Int.tmod (IntKind.u64.wrap (a0)) 16) == 10) = false := beq_eq_false_iff_ne.mpr c384
                          have c384b1 : ((Int.tmod (IntKind.u64.wrap (a0)) 16) != 10) = true := bne_iff_ne.mpr c384
                          by_cases c419 : (Int.tmod (IntKind.u64.wrap (a0)) 16) = 11
                          · exact absurd c419 hs_c419
                          · rw [if_neg c419] at H
                            have c419b0 : ((Int.tmod (IntKind.u64.wrap (a0)) 16) == 11) = false := beq_eq_false_iff_ne.mpr c419
                            have c419b1 : ((Int.tmod (IntKind.u64.wrap (a0)) 16) != 11) = true := bne_iff_ne.mpr c419
                            by_cases c454 : (Int.tmod (IntKind.u64.wrap (a0)) 16) = 12
                            · exact absurd c454 hs_c454
                            · rw [if_neg c454] at H
                              have c454b0 : ((Int.tmod (IntKind.u64.wrap (a0)) 16) == 12) = false := beq_eq_false_iff_ne.mpr c454
                              have c454b1 : ((Int.tmod (IntKind.u64.wrap (a0)) 16) != 12) = true := bne_iff_ne.mpr c454
                              by_cases c489 : (Int.tmod (IntKind.u64.wrap (a0)) 16) = 13
                              · exact absurd c489 hs_c489
                              · rw [if_neg c489] at H
                                have c489b0 : ((Int.tmod (IntKind.u64.wrap (a0)) 16) == 13) = false := beq_eq_false_iff_ne.mpr c489
                                have c489b1 : ((Int.tmod (IntKind.u64.wrap (a0)) 16) != 13) = true := bne_iff_ne.mpr c489
                                by_cases c524 : (Int.tmod (IntKind.u64.wrap (a0)) 16) = 14
                                · rw [if_pos c524] at H
                                  have c524b0 : ((Int.tmod (IntKind.u64.wrap (a0)) 16) == 14) = true := beq_iff_eq.mpr c524
                                  have c524b1 : ((Int.tmod (IntKind.u64.wrap (a0)) 16) != 14) = false := bne_eq_false_iff_eq.mpr c524
                                  clear c524
                                  replace H := Option.bind_eq_some_iff.mp H
                                  obtain ⟨⟨t386, t387, t388, t389, t392, t393, t394, t395, t396⟩, A5250, H⟩ := H
                                  (try dsimp only at H)
                                  have A525 := Aside0.mk A5250
                                  clear A5250
                                  replace H := Option.bind_eq_some_iff.mp H
                                  obtain ⟨t397, A5260, H⟩ := H
                                  (try dsimp only at H)
                                  have A526 := Aside0.mk A5260
                                  clear A5260
                                  by_cases c527 : t397 = true
                                  · subst c527
                                    rw [if_pos rfl] at H
                                    replace H := Option.bind_eq_some_iff.mp H
                                    obtain ⟨t398, A5280, H⟩ := H
                                    replace H : (if t398 = true then (some false) else ((grafterlaw0_Num.f 0).bind fun t399 => (some (t399 == 0)))) = some r := H
                                    have A528 := Aside0.mk A5280
                                    clear A5280
                                    by_cases c529 : t398 = true
                                    · subst c529
                                      have H1 : (some false) = some r := by rw [if_pos rfl] at H; exact H
                                      clear H
                                      have H := H1
                                      clear H1
                                      exact absurd ((Option.some.inj H).trans HRT.out) Bool.false_ne_true
                                    · replace c529 := Bool.eq_false_iff.mpr c529
                                      subst c529
                                      have H1 : ((grafterlaw0_Num.f 0).bind fun t399 => (some (t399 == 0))) = some r := by rw [if_neg (show ¬ (false = true) by decide)] at H; exact H
                                      clear H
                                      have H := H1
                                      clear H1
                                      replace H := Option.bind_eq_some_iff.mp H
                                      obtain ⟨t399, A5400, H⟩ := H
                                      replace H : (some (t399 == 0)) = some r := H
                                      have A540 := Aside0.mk A5400
                                      clear A5400
                                      obtain rfl := Option.some.inj H
                                      go_enter Try.func4, Try.ntmps4
                                      go_wp2_with (first | ((with_reducible refine gate_callee (f := 20) rfl ?_); refine goesL_ (some 8) rfl rfl Try.func20 (by kernel_rfl) rfl #[] rfl (by (try simp only [List.map_toArray, List.map_cons, List.map_nil]); first | done | rfl | (simp only [List.length_drop, List.length_take]; rfl)) ?_; (with_reducible refine (grafterlaw19_awake.calls k  true _ rfl A3.out).mono ?_); rintro e w541 ⟨rfl, hb⟩; refine ⟨_, rfl, ?_⟩; have n0_ := Aside0.mk (below_step (by repeat (first | (with_reducible first | exact HB.out | apply below_alloc | apply pw_below_drewN | apply below_drew1) | exact HB.out)) hb); clear HB; have HB := n0_; clear n0_; (try clear hb); (try clear hb2); (try clear hk); (try clear hi)) | ((with_reducible refine gate_callee (f := 21) rfl ?_); refine goesL_ (some 13) rfl rfl Try.func21 (by kernel_rfl) rfl #[] rfl (by (try simp only [List.map_toArray, List.map_cons, List.map_nil]); first | done | rfl | (simp only [List.length_drop, List.length_take]; rfl)) ?_; (with_reducible refine (grafterlaw19_small.calls  t176 t177 t178 t179 t182 t183 t184 t185 t186 _ A5.out).mono ?_); rintro e w542 ⟨v180, rfl, ho0, hb⟩; refine ⟨_, rfl, ?_⟩; have n0_ := Aside0.mk (Kd.N_lower (Kd.N_mono (ok' := fun k_ => True) ho0 (fun k_ hk_ => trivial)) (below_size (by repeat (first | (with_reducible first | exact HB.out | apply below_alloc | apply pw_below_drewN | apply below_drew1) | exact HB.out)))); have n1_ := Aside0.mk (below_step (by repeat (first | (with_reducible first | exact HB.out | apply below_alloc | apply pw_below_drewN | apply below_drew1) | exact HB.out)) hb); clear HB; have HO181 := n0_; have HB := n1_; clear n0_ n1_; (try clear hb); (try clear hb2); (try clear hk); (try clear hi); (try clear ho0); (try clear A5)) | ((with_reducible refine gate_dst (N := 6) rfl ?_); refine box_event ?hg (N := 6) ?hd (cs := #[.int .i64 0, .int .i64 0, .int .i64 0, .slice none 0 0, .int .i64 0, .int .i64 0, .int .i64 0, .int .i64 0, .bool false]) (t := 26) ?hr ?_; (case hd => rfl); (case hg => rfl); (case hr => first | (go_simp; done) | (go_simp; rfl)); intro gb187 hg w543 hbox hb; have n0_ := Aside0.mk (Kd.N_below (Kd.N_elderB (by (with_reducible repeat (first | apply Kd.N_alloc | apply Kd.N_drewN | apply Kd.N_drew)); exact HO181.out) gb187 (Nat.le_of_eq hg.symm)) hb); have n1_ := Aside0.mk (below_step (by repeat (first | (with_reducible first | exact HB.out | apply below_alloc | apply pw_below_drewN | apply below_drew1) | exact HB.out)) hb); have n2_ := Aside0.mk (hbox); have n3_ := Aside0.mk ((by rw [hg]; exact (below_size (by repeat (first | (with_reducible first | exact HB.out | apply below_alloc | apply pw_below_drewN | apply below_drew1) | exact HB.out))) : w.heap.size ≤ gb187)); have n4_ := Aside0.mk ((by rw [hg]; exact (below_size (by repeat (first | (with_reducible first | exact HB.out | apply below_alloc | apply pw_below_drewN | apply below_drew1) | exact HB.out))) : w.heap.size ≤ gb187)); clear HO181; clear HB; have HO181 := n0_; have HB := n1_; have BK187 := n2_; have GW187 := n3_; have GE187 := n4_; clear n0_ n1_ n2_ n3_ n4_; clear hb hbox hg; have hcz544_0 : w543.cell? ⟨gb187, 0, none⟩ = some (.int .i64 0) := (blk_cell BK187.out 0).trans rfl; have hcz544_1 : w543.cell? ⟨gb187, 1, none⟩ = some (.int .i64 0) := (blk_cell BK187.out 1).trans rfl; have hcz544_2 : w543.cell? ⟨gb187, 2, none⟩ = some (.int .i64 0) := (blk_cell BK187.out 2).trans rfl; have hcz544_3 : w543.cell? ⟨gb187, 3, none⟩ = some (.slice none 0 0) := (blk_cell BK187.out 3).trans rfl; have hcz544_4 : w543.cell? ⟨gb187, 4, none⟩ = some (.int .i64 0) := (blk_cell BK187.out 4).trans rfl; have hcz544_5 : w543.cell? ⟨gb187, 5, none⟩ = some (.int .i64 0) := (blk_cell BK187.out 5).trans rfl; have hcz544_6 : w543.cell? ⟨gb187, 6, none⟩ = some (.int .i64 0) := (blk_cell BK187.out 6).trans rfl; have hcz544_7 : w543.cell? ⟨gb187, 7, none⟩ = some (.int .i64 0) := (blk_cell BK187.out 7).trans rfl; have hcz544_8 : w543.cell? ⟨gb187, 8, none⟩ = some (.bool false) := (blk_cell BK187.out 8).trans rfl; have hfz544_0 := blk_frozen BK187.out 0; have hfz544_1 := blk_frozen BK187.out 1; have hfz544_2 := blk_frozen BK187.out 2; have hfz544_3 := blk_frozen BK187.out 3; have hfz544_4 := blk_frozen BK187.out 4; have hfz544_5 := blk_frozen BK187.out 5; have hfz544_6 := blk_frozen BK187.out 6; have hfz544_7 := blk_frozen BK187.out 7; have hfz544_8 := blk_frozen BK187.out 8; obtain ⟨Ao545, co545, eo545⟩ := Kd.N_slice HO181.out; subst eo545) | ((with_reducible refine gate_callee (f := 21) rfl ?_); refine goesL_ (some 111) rfl rfl Try.func21 (by kernel_rfl) rfl #[] rfl (by (try simp only [List.map_toArray, List.map_cons, List.map_nil]); first | done | rfl | (simp only [List.length_drop, List.length_take]; rfl)) ?_; (with_reducible refine (grafterlaw19_small.calls  t386 t387 t388 t389 t392 t393 t394 t395 t396 _ A525.out).mono ?_); rintro e w546 ⟨v390, rfl, ho0, hb⟩; refine ⟨_, rfl, ?_⟩; have n0_ := Aside0.mk (Kd.N_elder' (by (with_reducible repeat (first | apply Kd.N_alloc | apply Kd.N_drewN | apply Kd.N_drew)); exact (Kd.N_mono (Kd.N_far (p := ⟨gb187, 7, none⟩) (Kd.N_far (p := ⟨gb187, 8, none⟩) (Kd.N_far (p := ⟨gb187, 7, none⟩) (Kd.N_far (p := ⟨gb187, 6, none⟩) (Kd.N_far (p := ⟨gb187, 5, none⟩) (Kd.N_far (p := ⟨gb187, 4, none⟩) (Kd.N_far (p := ⟨gb187, 3, none⟩) (Kd.N_far (p := ⟨gb187, 2, none⟩) (Kd.N_far (p := ⟨gb187, 1, none⟩) (Kd.N_far (p := ⟨gb187, 0, none⟩) (Kd.N_mono HO181.out (fun k_ hk => (⟨hk, hk.2⟩ : _ ∧ k_ ≠ gb187))) (fun _ hk => hk.2) (.int .i64 t176)) (fun _ hk => hk.2) (.int .i64 t177)) (fun _ hk => hk.2) (.int .i64 t178)) (fun _ hk => hk.2) (.slice Ao545 t179.length co545)) (fun _ hk => hk.2) (.int .i64 t182)) (fun _ hk => hk.2) (.int .i64 t183)) (fun _ hk => hk.2) (.int .i64 t184)) (fun _ hk => hk.2) (.int .i64 t185)) (fun _ hk => hk.2) (.bool t186)) (fun _ hk => hk.2) (.int .i64 (wrap64 (1 + (wrap64 (1 + (Go.bits .and .i64 a1 1023))))))) (fun _ h_ => h_.1))) (Kd.N_base ho0) hb); have n1_ := Aside0.mk (Kd.N_lower (Kd.N_mono (ok' := fun k_ => some k_ ≠ (.slice Ao545 t179.length co545 : Value).ownBlock ∧ k_ ≠ gb187) ho0 (fun k_ hk_ => ⟨(Kd.fresh' (Kd.N_lt (by (with_reducible repeat (first | apply Kd.N_alloc | apply Kd.N_drewN | apply Kd.N_drew)); exact (Kd.N_mono (Kd.N_far (p := ⟨gb187, 7, none⟩) (Kd.N_far (p := ⟨gb187, 8, none⟩) (Kd.N_far (p := ⟨gb187, 7, none⟩) (Kd.N_far (p := ⟨gb187, 6, none⟩) (Kd.N_far (p := ⟨gb187, 5, none⟩) (Kd.N_far (p := ⟨gb187, 4, none⟩) (Kd.N_far (p := ⟨gb187, 3, none⟩) (Kd.N_far (p := ⟨gb187, 2, none⟩) (Kd.N_far (p := ⟨gb187, 1, none⟩) (Kd.N_far (p := ⟨gb187, 0, none⟩) (Kd.N_mono HO181.out (fun k_ hk => (⟨hk, hk.2⟩ : _ ∧ k_ ≠ gb187))) (fun _ hk => hk.2) (.int .i64 t176)) (fun _ hk => hk.2) (.int .i64 t177)) (fun _ hk => hk.2) (.int .i64 t178)) (fun _ hk => hk.2) (.slice Ao545 t179.length co545)) (fun _ hk => hk.2) (.int .i64 t182)) (fun _ hk => hk.2) (.int .i64 t183)) (fun _ hk => hk.2) (.int .i64 t184)) (fun _ hk => hk.2) (.int .i64 t185)) (fun _ hk => hk.2) (.bool t186)) (fun _ hk => hk.2) (.int .i64 (wrap64 (1 + (wrap64 (1 + (Go.bits .and .i64 a1 1023))))))) (fun _ h_ => h_.1)))) k_ hk_), (Kd.freshB (g := gb187) (o := .cells #[.int .i64 t176, .int .i64 t177, .int .i64 t178, .slice Ao545 t179.length co545, .int .i64 t182, .int .i64 t183, .int .i64 t184, .int .i64 (wrap64 (1 + (wrap64 (1 + (Go.bits .and .i64 a1 1023))))), .bool t186] 26 (0, 0)) (by (with_reducible repeat (first | refine blk_drewN ?_ _ | refine blk_drew ?_ | refine blk_alloc ?_ _)); refine blk_put (cs := #[.int .i64 t176, .int .i64 t177, .int .i64 t178, .slice Ao545 t179.length co545, .int .i64 t182, .int .i64 t183, .int .i64 t184, .int .i64 t185, .bool t186]) ?_ 7 _ rfl; (with_reducible repeat (first | refine blk_drewN ?_ _ | refine blk_drew ?_ | refine blk_alloc ?_ _)); refine blk_put (cs := #[.int .i64 t176, .int .i64 t177, .int .i64 t178, .slice Ao545 t179.length co545, .int .i64 t182, .int .i64 t183, .int .i64 t184, .int .i64 t185, .bool false]) ?_ 8 _ rfl; (with_reducible repeat (first | refine blk_drewN ?_ _ | refine blk_drew ?_ | refine blk_alloc ?_ _)); refine blk_put (cs := #[.int .i64 t176, .int .i64 t177, .int .i64 t178, .slice Ao545 t179.length co545, .int .i64 t182, .int .i64 t183, .int .i64 t184, .int .i64 0, .bool false]) ?_ 7 _ rfl; (with_reducible repeat (first | refine blk_drewN ?_ _ | refine blk_drew ?_ | refine blk_alloc ?_ _)); refine blk_put (cs := #[.int .i64 t176, .int .i64 t177, .int .i64 t178, .slice Ao545 t179.length co545, .int .i64 t182, .int .i64 t183, .int .i64 0, .int .i64 0, .bool false]) ?_ 6 _ rfl; (with_reducible repeat (first | refine blk_drewN ?_ _ | refine blk_drew ?_ | refine blk_alloc ?_ _)); refine blk_put (cs := #[.int .i64 t176, .int .i64 t177, .int .i64 t178, .slice Ao545 t179.length co545, .int .i64 t182, .int .i64 0, .int .i64 0, .int .i64 0, .bool false]) ?_ 5 _ rfl; (with_reducible repeat (first | refine blk_drewN ?_ _ | refine blk_drew ?_ | refine blk_alloc ?_ _)); refine blk_put (cs := #[.int .i64 t176, .int .i64 t177, .int .i64 t178, .slice Ao545 t179.length co545, .int .i64 0, .int .i64 0, .int .i64 0, .int .i64 0, .bool false]) ?_ 4 _ rfl; (with_reducible repeat (first | refine blk_drewN ?_ _ | refine blk_drew ?_ | refine blk_alloc ?_ _)); refine blk_put (cs := #[.int .i64 t176, .int .i64 t177, .int .i64 t178, .slice none 0 0, .int .i64 0, .int .i64 0, .int .i64 0, .int .i64 0, .bool false]) ?_ 3 _ rfl; (with_reducible repeat (first | refine blk_drewN ?_ _ | refine blk_drew ?_ | refine blk_alloc ?_ _)); refine blk_put (cs := #[.int .i64 t176, .int .i64 t177, .int .i64 0, .slice none 0 0, .int .i64 0, .int .i64 0, .int .i64 0, .int .i64 0, .bool false]) ?_ 2 _ rfl; (with_reducible repeat (first | refine blk_drewN ?_ _ | refine blk_drew ?_ | refine blk_alloc ?_ _)); refine blk_put (cs := #[.int .i64 t176, .int .i64 0, .int .i64 0, .slice none 0 0, .int .i64 0, .int .i64 0, .int .i64 0, .int .i64 0, .bool false]) ?_ 1 _ rfl; (with_reducible repeat (first | refine blk_drewN ?_ _ | refine blk_drew ?_ | refine blk_alloc ?_ _)); refine blk_put (cs := #[.int .i64 0, .int .i64 0, .int .i64 0, .slice none 0 0, .int .i64 0, .int .i64 0, .int .i64 0, .int .i64 0, .bool false]) ?_ 0 _ rfl; (with_reducible repeat (first | refine blk_drewN ?_ _ | refine blk_drew ?_ | refine blk_alloc ?_ _)); exact BK187.out) k_ hk_)⟩)) (below_size (by repeat (first | (with_reducible first | exact HB.out | apply below_alloc | apply pw_below_drewN | apply below_drew1 | refine below_set ?_ GE187.out) | exact HB.out)))); have n2_ := Aside0.mk (blk_below (g := gb187) (o := .cells #[.int .i64 t176, .int .i64 t177, .int .i64 t178, .slice Ao545 t179.length co545, .int .i64 t182, .int .i64 t183, .int .i64 t184, .int .i64 (wrap64 (1 + (wrap64 (1 + (Go.bits .and .i64 a1 1023))))), .bool t186] 26 (0, 0)) (by (with_reducible repeat (first | refine blk_drewN ?_ _ | refine blk_drew ?_ | refine blk_alloc ?_ _)); refine blk_put (cs := #[.int .i64 t176, .int .i64 t177, .int .i64 t178, .slice Ao545 t179.length co545, .int .i64 t182, .int .i64 t183, .int .i64 t184, .int .i64 t185, .bool t186]) ?_ 7 _ rfl; (with_reducible repeat (first | refine blk_drewN ?_ _ | refine blk_drew ?_ | refine blk_alloc ?_ _)); refine blk_put (cs := #[.int .i64 t176, .int .i64 t177, .int .i64 t178, .slice Ao545 t179.length co545, .int .i64 t182, .int .i64 t183, .int .i64 t184, .int .i64 t185, .bool false]) ?_ 8 _ rfl; (with_reducible repeat (first | refine blk_drewN ?_ _ | refine blk_drew ?_ | refine blk_alloc ?_ _)); refine blk_put (cs := #[.int .i64 t176, .int .i64 t177, .int .i64 t178, .slice Ao545 t179.length co545, .int .i64 t182, .int .i64 t183, .int .i64 t184, .int .i64 0, .bool false]) ?_ 7 _ rfl; (with_reducible repeat (first | refine blk_drewN ?_ _ | refine blk_drew ?_ | refine blk_alloc ?_ _)); refine blk_put (cs := #[.int .i64 t176, .int .i64 t177, .int .i64 t178, .slice Ao545 t179.length co545, .int .i64 t182, .int .i64 t183, .int .i64 0, .int .i64 0, .bool false]) ?_ 6 _ rfl; (with_reducible repeat (first | refine blk_drewN ?_ _ | refine blk_drew ?_ | refine blk_alloc ?_ _)); refine blk_put (cs := #[.int .i64 t176, .int .i64 t177, .int .i64 t178, .slice Ao545 t179.length co545, .int .i64 t182, .int .i64 0, .int .i64 0, .int .i64 0, .bool false]) ?_ 5 _ rfl; (with_reducible repeat (first | refine blk_drewN ?_ _ | refine blk_drew ?_ | refine blk_alloc ?_ _)); refine blk_put (cs := #[.int .i64 t176, .int .i64 t177, .int .i64 t178, .slice Ao545 t179.length co545, .int .i64 0, .int .i64 0, .int .i64 0, .int .i64 0, .bool false]) ?_ 4 _ rfl; (with_reducible repeat (first | refine blk_drewN ?_ _ | refine blk_drew ?_ | refine blk_alloc ?_ _)); refine blk_put (cs := #[.int .i64 t176, .int .i64 t177, .int .i64 t178, .slice none 0 0, .int .i64 0, .int .i64 0, .int .i64 0, .int .i64 0, .bool false]) ?_ 3 _ rfl; (with_reducible repeat (first | refine blk_drewN ?_ _ | refine blk_drew ?_ | refine blk_alloc ?_ _)); refine blk_put (cs := #[.int .i64 t176, .int .i64 t177, .int .i64 0, .slice none 0 0, .int .i64 0, .int .i64 0, .int .i64 0, .int .i64 0, .bool false]) ?_ 2 _ rfl; (with_reducible repeat (first | refine blk_drewN ?_ _ | refine blk_drew ?_ | refine blk_alloc ?_ _)); refine blk_put (cs := #[.int .i64 t176, .int .i64 0, .int .i64 0, .slice none 0 0, .int .i64 0, .int .i64 0, .int .i64 0, .int .i64 0, .bool false]) ?_ 1 _ rfl; (with_reducible repeat (first | refine blk_drewN ?_ _ | refine blk_drew ?_ | refine blk_alloc ?_ _)); refine blk_put (cs := #[.int .i64 0, .int .i64 0, .int .i64 0, .slice none 0 0, .int .i64 0, .int .i64 0, .int .i64 0, .int .i64 0, .bool false]) ?_ 0 _ rfl; (with_reducible repeat (first | refine blk_drewN ?_ _ | refine blk_drew ?_ | refine blk_alloc ?_ _)); exact BK187.out) hb); have n3_ := Aside0.mk (below_step (by repeat (first | (with_reducible first | exact HB.out | apply below_alloc | apply pw_below_drewN | apply below_drew1 | refine below_set ?_ GE187.out) | exact HB.out)) hb); clear HO181; clear BK187; clear HB; have HO181 := n0_; have HO391 := n1_; have BK187 := n2_; have HB := n3_; clear n0_ n1_ n2_ n3_; (try clear hb); (try clear hb2); (try clear hk); (try clear hi); (try clear ho0); obtain ⟨Ao547, co547, eo547⟩ := Kd.N_slice HO391.out; subst eo547; (try clear A525)) | ((with_reducible refine gate_callee (f := 17) rfl ?_); refine goesL_ (some 112) rfl rfl Try.func17 (by kernel_rfl) rfl #[.agg #[.int .i64 t386, .int .i64 t387, .int .i64 t388, .slice Ao547 t389.length co547, .int .i64 t392, .int .i64 t393, .int .i64 t394, .int .i64 t395, .bool t396]] rfl (by (try simp only [List.map_toArray, List.map_cons, List.map_nil]); first | done | rfl | (simp only [List.length_drop, List.length_take]; rfl)) ?_; (with_reducible refine (config_May.calls k t386 t387 t388 _ _ t389 t392 t393 t394 t395 t396 true _ ?side1 ?side2 A526.out).mono ?_); (case side1 => repeat (first | (with_reducible refine Kd.C_alloc ?_ _) | (with_reducible refine Kd.C_drewN ?_ _) | (with_reducible refine Kd.C_drew ?_) | exact (Kd.N_reads' HO391.out).2.2)); (case side2 => exact (Kd.N_reads' HO391.out).2.1); rintro e w548 ⟨rfl, hb⟩; refine ⟨_, rfl, ?_⟩; have n0_ := Aside0.mk (Kd.N_below (by (with_reducible repeat (first | apply Kd.N_alloc | apply Kd.N_drewN | apply Kd.N_drew)); exact HO181.out) hb); have n1_ := Aside0.mk (Kd.N_below (by (with_reducible repeat (first | apply Kd.N_alloc | apply Kd.N_drewN | apply Kd.N_drew)); exact HO391.out) hb); have n2_ := Aside0.mk (blk_below (g := gb187) (o := .cells #[.int .i64 t176, .int .i64 t177, .int .i64 t178, .slice Ao545 t179.length co545, .int .i64 t182, .int .i64 t183, .int .i64 t184, .int .i64 (wrap64 (1 + (wrap64 (1 + (Go.bits .and .i64 a1 1023))))), .bool t186] 26 (0, 0)) (by (with_reducible repeat (first | refine blk_drewN ?_ _ | refine blk_drew ?_ | refine blk_alloc ?_ _)); exact BK187.out) hb); have n3_ := Aside0.mk (below_step (by repeat (first | (with_reducible first | exact HB.out | apply below_alloc | apply pw_below_drewN | apply below_drew1 | refine below_set ?_ GE187.out) | exact HB.out)) hb); clear HO181; clear HO391; clear BK187; clear HB; have HO181 := n0_; have HO391 := n1_; have BK187 := n2_; have HB := n3_; clear n0_ n1_ n2_ n3_; (try clear hb); (try clear hb2); (try clear hk); (try clear hi); have hcz549_0 : w548.cell? ⟨gb187, 0, none⟩ = some (.int .i64 t176) := (blk_cell BK187.out 0).trans rfl; have hcz549_1 : w548.cell? ⟨gb187, 1, none⟩ = some (.int .i64 t177) := (blk_cell BK187.out 1).trans rfl; have hcz549_2 : w548.cell? ⟨gb187, 2, none⟩ = some (.int .i64 t178) := (blk_cell BK187.out 2).trans rfl; have hcz549_3 : w548.cell? ⟨gb187, 3, none⟩ = some (.slice Ao545 t179.length co545) := (blk_cell BK187.out 3).trans rfl; have hcz549_4 : w548.cell? ⟨gb187, 4, none⟩ = some (.int .i64 t182) := (blk_cell BK187.out 4).trans rfl; have hcz549_5 : w548.cell? ⟨gb187, 5, none⟩ = some (.int .i64 t183) := (blk_cell BK187.out 5).trans rfl; have hcz549_6 : w548.cell? ⟨gb187, 6, none⟩ = some (.int .i64 t184) := (blk_cell BK187.out 6).trans rfl; have hcz549_7 : w548.cell? ⟨gb187, 7, none⟩ = some (.int .i64 (wrap64 (1 + (wrap64 (1 + (Go.bits .and .i64 a1 1023)))))) := (blk_cell BK187.out 7).trans rfl; have hcz549_8 : w548.cell? ⟨gb187, 8, none⟩ = some (.bool t186) := (blk_cell BK187.out 8).trans rfl; have hfz549_0 := blk_frozen BK187.out 0; have hfz549_1 := blk_frozen BK187.out 1; have hfz549_2 := blk_frozen BK187.out 2; have hfz549_3 := blk_frozen BK187.out 3; have hfz549_4 := blk_frozen BK187.out 4; have hfz549_5 := blk_frozen BK187.out 5; have hfz549_6 := blk_frozen BK187.out 6; have hfz549_7 := blk_frozen BK187.out 7; have hfz549_8 := blk_frozen BK187.out 8; (try clear A526)) | (go_at_call 17; (with_reducible refine (config_May.calls k t176 t177 t178 _ _ t179 t182 t183 t184 (wrap64 (1 + (wrap64 (1 + (Go.bits .and .i64 a1 1023))))) t186 false _ ?side1 ?side2 A528.out).mono ?_); (case side1 => repeat (first | (with_reducible refine Kd.C_alloc ?_ _) | (with_reducible refine Kd.C_drewN ?_ _) | (with_reducible refine Kd.C_drew ?_) | exact (Kd.N_reads' HO181.out).2.2)); (case side2 => exact (Kd.N_reads' HO181.out).2.1); rintro e w550 ⟨rfl, hb⟩; have n0_ := Aside0.mk (Kd.N_below (by (with_reducible repeat (first | apply Kd.N_alloc | apply Kd.N_drewN | apply Kd.N_drew)); exact HO181.out) hb); have n1_ := Aside0.mk (Kd.N_below (by (with_reducible repeat (first | apply Kd.N_alloc | apply Kd.N_drewN | apply Kd.N_drew)); exact HO391.out) hb); have n2_ := Aside0.mk (blk_below (g := gb187) (o := .cells #[.int .i64 t176, .int .i64 t177, .int .i64 t178, .slice Ao545 t179.length co545, .int .i64 t182, .int .i64 t183, .int .i64 t184, .int .i64 (wrap64 (1 + (wrap64 (1 + (Go.bits .and .i64 a1 1023))))), .bool t186] 26 (0, 0)) (by (with_reducible repeat (first | refine blk_drewN ?_ _ | refine blk_drew ?_ | refine blk_alloc ?_ _)); exact BK187.out) hb); have n3_ := Aside0.mk (below_step (by repeat (first | (with_reducible first | exact HB.out | apply below_alloc | apply pw_below_drewN | apply below_drew1 | refine below_set ?_ GE187.out) | exact HB.out)) hb); clear HO181; clear HO391; clear BK187; clear HB; have HO181 := n0_; have HO391 := n1_; have BK187 := n2_; have HB := n3_; clear n0_ n1_ n2_ n3_; (try clear hb); (try clear hb2); (try clear hk); (try clear hi); (try clear A528)) | (go_at_call 22; (with_reducible refine (grafterlaw0_Num.calls 0 t399 _ A540.out).mono ?_); rintro e w' ⟨rfl, ⟨nd, rfl⟩⟩))
                                      go_ret
                                      exact ⟨by first | rfl | (simp [errW_none, errW_some] <;> rfl) | (simp [*, errW_none, errW_some] <;> rfl), by repeat (first | (with_reducible first | exact HB.out | apply below_alloc | apply pw_below_drewN | apply below_drew1 | refine below_set ?_ GE187.out) | exact HB.out)⟩
                                  · replace c527 := Bool.eq_false_iff.mpr c527
                                    subst c527
                                    have H1 : (some false) = some r := by rw [if_neg (show ¬ (false = true) by decide)] at H; exact H
                                    clear H
                                    have H := H1
                                    clear H1
                                    exact absurd ((Option.some.inj H).trans HRT.out) Bool.false_ne_true
                                · exact absurd hs_c524 c524
  · replace c4 := Bool.eq_false_iff.mpr c4
    subst c4
    have H1 : (some false) = some r := by rw [if_neg (show ¬ (false = true) by decide)] at H; exact H
    clear H
    have H := H1
    clear H1
    exact absurd ((Option.some.inj H).trans HRT.out) Bool.false_ne_true
end Go.Proofs.Ytdgbfgnmeoihiaa.PConfigForms
