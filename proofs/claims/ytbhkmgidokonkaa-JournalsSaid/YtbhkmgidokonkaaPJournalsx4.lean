-- Written by a program of this session (pprint.py) out of the translation, with hand-proved walks pasted in.
import Derived.Test.YtbhkmgidokonkaaPJournalsx0
import Derived.Test.YtbhkmgidokonkaaPJournalsx1
import Derived.Test.YtbhkmgidokonkaaPJournalsx2
import Derived.Test.YtbhkmgidokonkaaPJournalsx3
namespace Go.Proofs.Ytbhkmgidokonkaa.PJournals
open Go.RowKit Go.Proofs.YtbhkmgidokonkaaW.PrintWords Go.Proofs.YtbhkmgidokonkaaW.PrintLast Go.Proofs.YtbhkmgidokonkaaW.PrintMore
attribute [local go_sem] max2_int min2_int max_two min_two max_three min_three max_four min_four   -- for this text's walks alone
set_option linter.unusedVariables false
set_option linter.unusedSimpArgs false

attribute [local go_sem] Go.Proofs.Ytbhkmgidokonkaa.Ld.cut2_slice
/-! ### grafterlaw17_Journals: function 8 -/
def grafterlaw17_Journals.j0 : Nat → List ByteArray → List ByteArray → List ByteArray → Bool → Option (Bool)
  | 0, _, _, _, _ => none
  | k + 1, x0, x5, x10, x79 => if x79 = true then (some false) else ((grafterlaw0_SpoilTexts.f k x10).bind fun t221 => ((grafterlaw0_KeptTexts.f k x5 x0).bind fun t222 => (if t222 = true then ((grafterlaw17_awake.f k).bind fun t223 => (some t223)) else (some false))))
def grafterlaw17_Journals.f (k : Nat) (l0 : List ByteArray) (a1 : ByteArray) : Option (Bool) := (grafterlaw0_LendTexts.f l0).bind fun t198 => ((journal_Text_lent.f k t198).bind fun bt201 => ((grafterref12_JournalText.f k l0).bind fun bt203 => ((journal_Load.f k a1).bind fun bt205 => ((grafterref12_LoadJournal.f k a1).bind fun bt209 => ((journal_Load.f k bt201.1).bind fun bt213 => (if bt201.1.toList = bt203.1.toList then ((grafterlaw0_Num.f bt201.2).bind fun t217 => (if t217 = bt203.2 then ((grafterlaw0_SameTexts.f k bt205.1 bt209.1).bind fun t218 => (if t218 = true then (if bt205.2 = bt209.2 then ((grafterlaw0_Num.f bt201.2).bind fun t219 => (if t219 = 0 then ((grafterlaw0_SameTexts.f k bt213.1 l0).bind fun t220 => (if t220 = true then (grafterlaw17_Journals.j0 k l0 t198 bt205.1 (bt213.2 != (bt201.1.size : Int))) else (grafterlaw17_Journals.j0 k l0 t198 bt205.1 true))) else (grafterlaw17_Journals.j0 k l0 t198 bt205.1 false))) else (grafterlaw17_Journals.j0 k l0 t198 bt205.1 true)) else (grafterlaw17_Journals.j0 k l0 t198 bt205.1 true))) else (grafterlaw17_Journals.j0 k l0 t198 bt205.1 true))) else (grafterlaw17_Journals.j0 k l0 t198 bt205.1 true)))))))
theorem grafterlaw17_Journals.mono_l : ∀ k, (∀ y0 y1 y2 y3, LeO (grafterlaw17_Journals.j0 k y0 y1 y2 y3) (grafterlaw17_Journals.j0 (k + 1) y0 y1 y2 y3))
  | 0 => fun _ _ _ _ r h => by simp [grafterlaw17_Journals.j0] at h
  | k + 1 => by
    have ih0 := grafterlaw17_Journals.mono_l k
    · intro y0 y1 y2 y3
      unfold grafterlaw17_Journals.j0
      repeat' first
      | (with_reducible exact ih0 _ _ _ _)
      | (with_reducible exact grafterlaw0_KeptTexts.mono _ _ _)
      | (with_reducible exact grafterlaw0_SameTexts.mono _ _ _)
      | (with_reducible exact grafterlaw0_SpoilTexts.mono _ _)
      | (with_reducible exact grafterlaw17_awake.mono _)
      | (with_reducible exact grafterref12_JournalText.mono _ _)
      | (with_reducible exact grafterref12_LoadJournal.mono _ _)
      | (with_reducible exact journal_Load.mono _ _)
      | (with_reducible exact journal_Text_lent.mono _ _)
      | (with_reducible exact LeO.refl _)
      | (with_reducible exact LeO.none _)
      | (with_reducible refine LeO.ite ?_ ?_)
      | (with_reducible refine LeO.bind ?_ (fun _ => ?_))
      | exact ih0 _ _ _ _
      | exact grafterlaw0_KeptTexts.mono _ _ _
      | exact grafterlaw0_SameTexts.mono _ _ _
      | exact grafterlaw0_SpoilTexts.mono _ _
      | exact grafterlaw17_awake.mono _
      | exact grafterref12_JournalText.mono _ _
      | exact grafterref12_LoadJournal.mono _ _
      | exact journal_Load.mono _ _
      | exact journal_Text_lent.mono _ _
      | exact LeO.none _
      | refine LeO.ite ?_ ?_
      | refine LeO.bind ?_ (fun _ => ?_)
theorem grafterlaw17_Journals.mono : ∀ a0 a1 k, LeO (grafterlaw17_Journals.f k a0 a1) (grafterlaw17_Journals.f (k + 1) a0 a1) := by
  intro a0 a1 k
  have ih0 := grafterlaw17_Journals.mono_l k
  unfold grafterlaw17_Journals.f
  repeat' first
      | (with_reducible exact ih0 _ _ _ _)
      | (with_reducible exact grafterlaw0_KeptTexts.mono _ _ _)
      | (with_reducible exact grafterlaw0_SameTexts.mono _ _ _)
      | (with_reducible exact grafterlaw0_SpoilTexts.mono _ _)
      | (with_reducible exact grafterlaw17_awake.mono _)
      | (with_reducible exact grafterref12_JournalText.mono _ _)
      | (with_reducible exact grafterref12_LoadJournal.mono _ _)
      | (with_reducible exact journal_Load.mono _ _)
      | (with_reducible exact journal_Text_lent.mono _ _)
      | (with_reducible exact LeO.refl _)
      | (with_reducible exact LeO.none _)
      | (with_reducible refine LeO.ite ?_ ?_)
      | (with_reducible refine LeO.bind ?_ (fun _ => ?_))
      | exact ih0 _ _ _ _
      | exact grafterlaw0_KeptTexts.mono _ _ _
      | exact grafterlaw0_SameTexts.mono _ _ _
      | exact grafterlaw0_SpoilTexts.mono _ _
      | exact grafterlaw17_awake.mono _
      | exact grafterref12_JournalText.mono _ _
      | exact grafterref12_LoadJournal.mono _ _
      | exact journal_Load.mono _ _
      | exact journal_Text_lent.mono _ _
      | exact LeO.none _
      | refine LeO.ite ?_ ?_
      | refine LeO.bind ?_ (fun _ => ?_)
set_option maxHeartbeats 8000000 in
set_option maxRecDepth 100000 in
theorem grafterlaw17_Journals.calls (k : Nat) (A0 : Option Addr) (c0 : Nat) (l0 : List ByteArray) (a1 : ByteArray) (r : Bool) (w : World) (hrt : r = true) (hr0 : Kd.C Kd.string w A0 l0.length l0) (hc0 : l0.length ≤ c0) (h : grafterlaw17_Journals.f k l0 a1 = some r) :
    Calls Try.prog 8 #[.slice A0 l0.length c0, .string a1] w fun e w' => e = .returned (.bool r) ∧ Below w.heap.size w w' := by
  have HRT := Aside0.mk hrt
  clear hrt
  have HR0 := Aside0.mk hr0
  have HC0 := Aside0.mk hc0
  clear hr0 hc0
  have HB := Aside0.mk (Below.refl w.heap.size w)
  have H : ((grafterlaw0_LendTexts.f l0).bind fun t198 => ((journal_Text_lent.f k t198).bind fun bt201 => ((grafterref12_JournalText.f k l0).bind fun bt203 => ((journal_Load.f k a1).bind fun bt205 => ((grafterref12_LoadJournal.f k a1).bind fun bt209 => ((journal_Load.f k bt201.1).bind fun bt213 => (if bt201.1.toList = bt203.1.toList then ((grafterlaw0_Num.f bt201.2).bind fun t217 => (if t217 = bt203.2 then ((grafterlaw0_SameTexts.f k bt205.1 bt209.1).bind fun t218 => (if t218 = true then (if bt205.2 = bt209.2 then ((grafterlaw0_Num.f bt201.2).bind fun t219 => (if t219 = 0 then ((grafterlaw0_SameTexts.f k bt213.1 l0).bind fun t220 => (if t220 = true then (grafterlaw17_Journals.j0 k l0 t198 bt205.1 (bt213.2 != (bt201.1.size : Int))) else (grafterlaw17_Journals.j0 k l0 t198 bt205.1 true))) else (grafterlaw17_Journals.j0 k l0 t198 bt205.1 false))) else (grafterlaw17_Journals.j0 k l0 t198 bt205.1 true)) else (grafterlaw17_Journals.j0 k l0 t198 bt205.1 true))) else (grafterlaw17_Journals.j0 k l0 t198 bt205.1 true))) else (grafterlaw17_Journals.j0 k l0 t198 bt205.1 true)))))))) = some r := h
  clear h
  replace H := Option.bind_eq_some_iff.mp H
  obtain ⟨t198, A30, H⟩ := H
  replace H : ((journal_Text_lent.f k t198).bind fun bt201 => ((grafterref12_JournalText.f k l0).bind fun bt203 => ((journal_Load.f k a1).bind fun bt205 => ((grafterref12_LoadJournal.f k a1).bind fun bt209 => ((journal_Load.f k bt201.1).bind fun bt213 => (if bt201.1.toList = bt203.1.toList then ((grafterlaw0_Num.f bt201.2).bind fun t217 => (if t217 = bt203.2 then ((grafterlaw0_SameTexts.f k bt205.1 bt209.1).bind fun t218 => (if t218 = true then (if bt205.2 = bt209.2 then ((grafterlaw0_Num.f bt201.2).bind fun t219 => (if t219 = 0 then ((grafterlaw0_SameTexts.f k bt213.1 l0).bind fun t220 => (if t220 = true then (grafterlaw17_Journals.j0 k l0 t198 bt205.1 (bt213.2 != (bt201.1.size : Int))) else (grafterlaw17_Journals.j0 k l0 t198 bt205.1 true))) else (grafterlaw17_Journals.j0 k l0 t198 bt205.1 false))) else (grafterlaw17_Journals.j0 k l0 t198 bt205.1 true)) else (grafterlaw17_Journals.j0 k l0 t198 bt205.1 true))) else (grafterlaw17_Journals.j0 k l0 t198 bt205.1 true))) else (grafterlaw17_Journals.j0 k l0 t198 bt205.1 true))))))) = some r := H
  have A3 := Aside0.mk A30
  clear A30
  replace H := Option.bind_eq_some_iff.mp H
  obtain ⟨⟨t201, t202⟩, A40, H⟩ := H
  replace H : ((grafterref12_JournalText.f k l0).bind fun bt203 => ((journal_Load.f k a1).bind fun bt205 => ((grafterref12_LoadJournal.f k a1).bind fun bt209 => ((journal_Load.f k t201).bind fun bt213 => (if t201.toList = bt203.1.toList then ((grafterlaw0_Num.f t202).bind fun t217 => (if t217 = bt203.2 then ((grafterlaw0_SameTexts.f k bt205.1 bt209.1).bind fun t218 => (if t218 = true then (if bt205.2 = bt209.2 then ((grafterlaw0_Num.f t202).bind fun t219 => (if t219 = 0 then ((grafterlaw0_SameTexts.f k bt213.1 l0).bind fun t220 => (if t220 = true then (grafterlaw17_Journals.j0 k l0 t198 bt205.1 (bt213.2 != (t201.size : Int))) else (grafterlaw17_Journals.j0 k l0 t198 bt205.1 true))) else (grafterlaw17_Journals.j0 k l0 t198 bt205.1 false))) else (grafterlaw17_Journals.j0 k l0 t198 bt205.1 true)) else (grafterlaw17_Journals.j0 k l0 t198 bt205.1 true))) else (grafterlaw17_Journals.j0 k l0 t198 bt205.1 true))) else (grafterlaw17_Journals.j0 k l0 t198 bt205.1 true)))))) = some r := H
  have A4 := Aside0.mk A40
  clear A40
  replace H := Option.bind_eq_some_iff.mp H
  obtain ⟨⟨t203, t204⟩, A50, H⟩ := H
  replace H : ((journal_Load.f k a1).bind fun bt205 => ((grafterref12_LoadJournal.f k a1).bind fun bt209 => ((journal_Load.f k t201).bind fun bt213 => (if t201.toList = t203.toList then ((grafterlaw0_Num.f t202).bind fun t217 => (if t217 = t204 then ((grafterlaw0_SameTexts.f k bt205.1 bt209.1).bind fun t218 => (if t218 = true then (if bt205.2 = bt209.2 then ((grafterlaw0_Num.f t202).bind fun t219 => (if t219 = 0 then ((grafterlaw0_SameTexts.f k bt213.1 l0).bind fun t220 => (if t220 = true then (grafterlaw17_Journals.j0 k l0 t198 bt205.1 (bt213.2 != (t201.size : Int))) else (grafterlaw17_Journals.j0 k l0 t198 bt205.1 true))) else (grafterlaw17_Journals.j0 k l0 t198 bt205.1 false))) else (grafterlaw17_Journals.j0 k l0 t198 bt205.1 true)) else (grafterlaw17_Journals.j0 k l0 t198 bt205.1 true))) else (grafterlaw17_Journals.j0 k l0 t198 bt205.1 true))) else (grafterlaw17_Journals.j0 k l0 t198 bt205.1 true))))) = some r := H
  have A5 := Aside0.mk A50
  clear A50
  replace H := Option.bind_eq_some_iff.mp H
  obtain ⟨⟨t205, t206⟩, A60, H⟩ := H
  replace H : ((grafterref12_LoadJournal.f k a1).bind fun bt209 => ((journal_Load.f k t201).bind fun bt213 => (if t201.toList = t203.toList then ((grafterlaw0_Num.f t202).bind fun t217 => (if t217 = t204 then ((grafterlaw0_SameTexts.f k t205 bt209.1).bind fun t218 => (if t218 = true then (if t206 = bt209.2 then ((grafterlaw0_Num.f t202).bind fun t219 => (if t219 = 0 then ((grafterlaw0_SameTexts.f k bt213.1 l0).bind fun t220 => (if t220 = true then (grafterlaw17_Journals.j0 k l0 t198 t205 (bt213.2 != (t201.size : Int))) else (grafterlaw17_Journals.j0 k l0 t198 t205 true))) else (grafterlaw17_Journals.j0 k l0 t198 t205 false))) else (grafterlaw17_Journals.j0 k l0 t198 t205 true)) else (grafterlaw17_Journals.j0 k l0 t198 t205 true))) else (grafterlaw17_Journals.j0 k l0 t198 t205 true))) else (grafterlaw17_Journals.j0 k l0 t198 t205 true)))) = some r := H
  have A6 := Aside0.mk A60
  clear A60
  replace H := Option.bind_eq_some_iff.mp H
  obtain ⟨⟨t209, t210⟩, A70, H⟩ := H
  replace H : ((journal_Load.f k t201).bind fun bt213 => (if t201.toList = t203.toList then ((grafterlaw0_Num.f t202).bind fun t217 => (if t217 = t204 then ((grafterlaw0_SameTexts.f k t205 t209).bind fun t218 => (if t218 = true then (if t206 = t210 then ((grafterlaw0_Num.f t202).bind fun t219 => (if t219 = 0 then ((grafterlaw0_SameTexts.f k bt213.1 l0).bind fun t220 => (if t220 = true then (grafterlaw17_Journals.j0 k l0 t198 t205 (bt213.2 != (t201.size : Int))) else (grafterlaw17_Journals.j0 k l0 t198 t205 true))) else (grafterlaw17_Journals.j0 k l0 t198 t205 false))) else (grafterlaw17_Journals.j0 k l0 t198 t205 true)) else (grafterlaw17_Journals.j0 k l0 t198 t205 true))) else (grafterlaw17_Journals.j0 k l0 t198 t205 true))) else (grafterlaw17_Journals.j0 k l0 t198 t205 true))) = some r := H
  have A7 := Aside0.mk A70
  clear A70
  replace H := Option.bind_eq_some_iff.mp H
  obtain ⟨⟨t213, t214⟩, A80, H⟩ := H
  replace H : (if t201.toList = t203.toList then ((grafterlaw0_Num.f t202).bind fun t217 => (if t217 = t204 then ((grafterlaw0_SameTexts.f k t205 t209).bind fun t218 => (if t218 = true then (if t206 = t210 then ((grafterlaw0_Num.f t202).bind fun t219 => (if t219 = 0 then ((grafterlaw0_SameTexts.f k t213 l0).bind fun t220 => (if t220 = true then (grafterlaw17_Journals.j0 k l0 t198 t205 (t214 != (t201.size : Int))) else (grafterlaw17_Journals.j0 k l0 t198 t205 true))) else (grafterlaw17_Journals.j0 k l0 t198 t205 false))) else (grafterlaw17_Journals.j0 k l0 t198 t205 true)) else (grafterlaw17_Journals.j0 k l0 t198 t205 true))) else (grafterlaw17_Journals.j0 k l0 t198 t205 true))) else (grafterlaw17_Journals.j0 k l0 t198 t205 true)) = some r := H
  have A8 := Aside0.mk A80
  clear A80
  have HC9 := Aside0.mk H
  clear H
  go_enter Try.func8, Try.ntmps8
  go_upto_region 7 with (first | ((with_reducible refine gate_callee (f := 29) rfl ?_); refine goesL_ (some 17) rfl rfl Try.func29 (by kernel_rfl) rfl #[.slice A0 l0.length c0] rfl (by (try simp only [List.map_toArray, List.map_cons, List.map_nil]); first | done | rfl | (simp only [List.length_drop, List.length_take]; rfl)) ?_; (with_reducible refine (grafterlaw0_LendTexts.calls _ _ l0 t198 _ ?side1 ?side2 A3.out).mono ?_); (case side1 => repeat (first | exact HR0.out | (with_reducible refine Kd.C_alloc ?_ _) | (with_reducible refine Kd.C_drewN ?_ _) | (with_reducible refine Kd.C_drew ?_))); (case side2 => exact HC0.out); rintro e w10 ⟨v199, rfl, ho0, hb⟩; refine ⟨_, rfl, ?_⟩; have n0_ := Aside0.mk (Kd.R_lower ho0 (below_size (by repeat (first | (with_reducible first | exact HB.out | apply below_alloc | apply pw_below_drewN | apply below_drew1) | exact HB.out)))); have n1_ := Aside0.mk (below_step (by repeat (first | (with_reducible first | exact HB.out | apply below_alloc | apply pw_below_drewN | apply below_drew1) | exact HB.out)) hb); clear HB; have HO200 := n0_; have HB := n1_; clear n0_ n1_; (try clear hb); (try clear hb2); (try clear hk); (try clear hi); (try clear ho0); obtain ⟨Ao11, co11, eo11⟩ := Kd.R_slice HO200.out; subst eo11) | ((with_reducible refine gate_callee (f := 30) rfl ?_); refine goesL_ (some 20) rfl rfl Try.func30 (by kernel_rfl) rfl #[.slice Ao11 (t198.length - 2) co11] rfl (by (try simp only [List.map_toArray, List.map_cons, List.map_nil]); first | done | rfl | (simp only [List.length_drop, List.length_take]; rfl)) ?_; (with_reducible refine (journal_Text_lent.calls k _ _ t198 t201 t202 _ ?side1 ?side2 A4.out).mono ?_); (case side1 => repeat (first | exact (Kd.R_reads' HO200.out).2.2 | (with_reducible refine Kd.C_alloc ?_ _) | (with_reducible refine Kd.C_drewN ?_ _) | (with_reducible refine Kd.C_drew ?_))); (case side2 => exact (Kd.R_reads' HO200.out).2.1); rintro e w12 ⟨rfl, hb⟩; refine ⟨_, rfl, ?_⟩; have n0_ := Aside0.mk (Kd.R_below (by (with_reducible repeat (first | apply Kd.R_alloc | apply Kd.R_drewN | apply Kd.R_drew)); exact HO200.out) hb); have n1_ := Aside0.mk (below_step (by repeat (first | (with_reducible first | exact HB.out | apply below_alloc | apply pw_below_drewN | apply below_drew1) | exact HB.out)) hb); clear HO200; clear HB; have HO200 := n0_; have HB := n1_; clear n0_ n1_; (try clear hb); (try clear hb2); (try clear hk); (try clear hi)) | ((with_reducible refine gate_callee (f := 31) rfl ?_); refine goesL_ (some 25) rfl rfl Try.func31 (by kernel_rfl) rfl #[.slice A0 l0.length c0] rfl (by (try simp only [List.map_toArray, List.map_cons, List.map_nil]); first | done | rfl | (simp only [List.length_drop, List.length_take]; rfl)) ?_; (with_reducible refine (grafterref12_JournalText.calls k _ _ l0 t203 t204 _ ?side1 ?side2 A5.out).mono ?_); (case side1 => repeat (first | exact (Kd.C_below HR0.out HB.out) | (with_reducible refine Kd.C_alloc ?_ _) | (with_reducible refine Kd.C_drewN ?_ _) | (with_reducible refine Kd.C_drew ?_))); (case side2 => exact HC0.out); rintro e w13 ⟨rfl, hb⟩; refine ⟨_, rfl, ?_⟩; have n0_ := Aside0.mk (Kd.R_below (by (with_reducible repeat (first | apply Kd.R_alloc | apply Kd.R_drewN | apply Kd.R_drew)); exact HO200.out) hb); have n1_ := Aside0.mk (below_step (by repeat (first | (with_reducible first | exact HB.out | apply below_alloc | apply pw_below_drewN | apply below_drew1) | exact HB.out)) hb); clear HO200; clear HB; have HO200 := n0_; have HB := n1_; clear n0_ n1_; (try clear hb); (try clear hb2); (try clear hk); (try clear hi)) | ((with_reducible refine gate_callee (f := 32) rfl ?_); refine goesL_ (some 30) rfl rfl Try.func32 (by kernel_rfl) rfl #[.string a1] rfl (by (try simp only [List.map_toArray, List.map_cons, List.map_nil]); first | done | rfl | (simp only [List.length_drop, List.length_take]; rfl)) ?_; (with_reducible refine (journal_Load.calls k a1 t205 t206 _ A6.out).mono ?_); rintro e w14 ⟨v207, rfl, ho0, hb⟩; refine ⟨_, rfl, ?_⟩; have n0_ := Aside0.mk (Kd.R_elder' (by (with_reducible repeat (first | apply Kd.R_alloc | apply Kd.R_drewN | apply Kd.R_drew)); exact HO200.out) (Kd.R_base ho0) hb); have n1_ := Aside0.mk (Kd.R_lower (Kd.R_new' ho0 (Kd.R_lt (by (with_reducible repeat (first | apply Kd.R_alloc | apply Kd.R_drewN | apply Kd.R_drew)); exact HO200.out))) (below_size (by repeat (first | (with_reducible first | exact HB.out | apply below_alloc | apply pw_below_drewN | apply below_drew1) | exact HB.out)))); have n2_ := Aside0.mk (below_step (by repeat (first | (with_reducible first | exact HB.out | apply below_alloc | apply pw_below_drewN | apply below_drew1) | exact HB.out)) hb); clear HO200; clear HB; have HO200 := n0_; have HO208 := n1_; have HB := n2_; clear n0_ n1_ n2_; (try clear hb); (try clear hb2); (try clear hk); (try clear hi); (try clear ho0)) | ((with_reducible refine gate_callee (f := 33) rfl ?_); refine goesL_ (some 35) rfl rfl Try.func33 (by kernel_rfl) rfl #[.string a1] rfl (by (try simp only [List.map_toArray, List.map_cons, List.map_nil]); first | done | rfl | (simp only [List.length_drop, List.length_take]; rfl)) ?_; (with_reducible refine (grafterref12_LoadJournal.calls k a1 t209 t210 _ A7.out).mono ?_); rintro e w15 ⟨v211, rfl, ho0, hb⟩; refine ⟨_, rfl, ?_⟩; have n0_ := Aside0.mk (Kd.R_elder' (by (with_reducible repeat (first | apply Kd.R_alloc | apply Kd.R_drewN | apply Kd.R_drew)); exact HO200.out) (Kd.R_base ho0) hb); have n1_ := Aside0.mk (Kd.R_elder' (by (with_reducible repeat (first | apply Kd.R_alloc | apply Kd.R_drewN | apply Kd.R_drew)); exact HO208.out) (Kd.R_base ho0) hb); have n2_ := Aside0.mk (Kd.R_lower (Kd.R_new' (Kd.R_new' ho0 (Kd.R_lt (by (with_reducible repeat (first | apply Kd.R_alloc | apply Kd.R_drewN | apply Kd.R_drew)); exact HO200.out))) (Kd.R_lt (by (with_reducible repeat (first | apply Kd.R_alloc | apply Kd.R_drewN | apply Kd.R_drew)); exact HO208.out))) (below_size (by repeat (first | (with_reducible first | exact HB.out | apply below_alloc | apply pw_below_drewN | apply below_drew1) | exact HB.out)))); have n3_ := Aside0.mk (below_step (by repeat (first | (with_reducible first | exact HB.out | apply below_alloc | apply pw_below_drewN | apply below_drew1) | exact HB.out)) hb); clear HO200; clear HO208; clear HB; have HO200 := n0_; have HO208 := n1_; have HO212 := n2_; have HB := n3_; clear n0_ n1_ n2_ n3_; (try clear hb); (try clear hb2); (try clear hk); (try clear hi); (try clear ho0)) | ((with_reducible refine gate_callee (f := 32) rfl ?_); refine goesL_ (some 40) rfl rfl Try.func32 (by kernel_rfl) rfl #[.string t201] rfl (by (try simp only [List.map_toArray, List.map_cons, List.map_nil]); first | done | rfl | (simp only [List.length_drop, List.length_take]; rfl)) ?_; (with_reducible refine (journal_Load.calls k t201 t213 t214 _ A8.out).mono ?_); rintro e w16 ⟨v215, rfl, ho0, hb⟩; refine ⟨_, rfl, ?_⟩; have n0_ := Aside0.mk (Kd.R_elder' (by (with_reducible repeat (first | apply Kd.R_alloc | apply Kd.R_drewN | apply Kd.R_drew)); exact HO200.out) (Kd.R_base ho0) hb); have n1_ := Aside0.mk (Kd.R_elder' (by (with_reducible repeat (first | apply Kd.R_alloc | apply Kd.R_drewN | apply Kd.R_drew)); exact HO208.out) (Kd.R_base ho0) hb); have n2_ := Aside0.mk (Kd.R_elder' (by (with_reducible repeat (first | apply Kd.R_alloc | apply Kd.R_drewN | apply Kd.R_drew)); exact HO212.out) (Kd.R_base ho0) hb); have n3_ := Aside0.mk (Kd.R_lower (Kd.R_new' (Kd.R_new' (Kd.R_new' ho0 (Kd.R_lt (by (with_reducible repeat (first | apply Kd.R_alloc | apply Kd.R_drewN | apply Kd.R_drew)); exact HO200.out))) (Kd.R_lt (by (with_reducible repeat (first | apply Kd.R_alloc | apply Kd.R_drewN | apply Kd.R_drew)); exact HO208.out))) (Kd.R_lt (by (with_reducible repeat (first | apply Kd.R_alloc | apply Kd.R_drewN | apply Kd.R_drew)); exact HO212.out))) (below_size (by repeat (first | (with_reducible first | exact HB.out | apply below_alloc | apply pw_below_drewN | apply below_drew1) | exact HB.out)))); have n4_ := Aside0.mk (below_step (by repeat (first | (with_reducible first | exact HB.out | apply below_alloc | apply pw_below_drewN | apply below_drew1) | exact HB.out)) hb); clear HO200; clear HO208; clear HO212; clear HB; have HO200 := n0_; have HO208 := n1_; have HO212 := n2_; have HO216 := n3_; have HB := n4_; clear n0_ n1_ n2_ n3_ n4_; (try clear hb); (try clear hb2); (try clear hk); (try clear hi); (try clear ho0)))
  (try simp only [Act.put, List.setIfInBounds_toArray, List.set_cons_zero, List.set_cons_succ])
  go_cut [79] (fun v79 wc => ∃ (kq : Nat) (x79_8 : Bool), v79 = .bool x79_8 ∧ Aside0 (grafterlaw17_Journals.j0 kq l0 t198 t205 x79_8 = some r) ∧ Aside0 (kq ≤ k) ∧ Aside0 (Kd.R Kd.string 9 wc w.heap.size (fun k_ => some k_ ≠ (v207 : Value).ownBlock) (.slice Ao11 t198.length co11) t198) ∧ Aside0 (Kd.R Kd.string 9 wc w.heap.size (fun k_ => some k_ ≠ ((.slice Ao11 t198.length co11) : Value).ownBlock) v207 t205) ∧ Aside0 (Below w.heap.size w wc))
  case first =>
    have H := HC9.out
    clear HC9
    by_cases c17 : t201.toList = t203.toList
    · rw [if_pos c17] at H
      have c17b0 : (t201.toList == t203.toList) = true := beq_iff_eq.mpr c17
      have c17b1 : (t201.toList != t203.toList) = false := bne_eq_false_iff_eq.mpr c17
      clear c17
      (first | rw [c17b0] | (simp only [i64_w, i32_w]; rw [c17b0]) | skip)
      replace H := Option.bind_eq_some_iff.mp H
      obtain ⟨t217, A180, H⟩ := H
      replace H : (if t217 = t204 then ((grafterlaw0_SameTexts.f k t205 t209).bind fun t218 => (if t218 = true then (if t206 = t210 then ((grafterlaw0_Num.f t202).bind fun t219 => (if t219 = 0 then ((grafterlaw0_SameTexts.f k t213 l0).bind fun t220 => (if t220 = true then (grafterlaw17_Journals.j0 k l0 t198 t205 (t214 != (t201.size : Int))) else (grafterlaw17_Journals.j0 k l0 t198 t205 true))) else (grafterlaw17_Journals.j0 k l0 t198 t205 false))) else (grafterlaw17_Journals.j0 k l0 t198 t205 true)) else (grafterlaw17_Journals.j0 k l0 t198 t205 true))) else (grafterlaw17_Journals.j0 k l0 t198 t205 true)) = some r := H
      have A18 := Aside0.mk A180
      clear A180
      by_cases c19 : t217 = t204
      · rw [if_pos c19] at H
        have c19b0 : (t217 == t204) = true := beq_iff_eq.mpr c19
        have c19b1 : (t217 != t204) = false := bne_eq_false_iff_eq.mpr c19
        clear c19
        replace H := Option.bind_eq_some_iff.mp H
        obtain ⟨t218, A200, H⟩ := H
        replace H : (if t218 = true then (if t206 = t210 then ((grafterlaw0_Num.f t202).bind fun t219 => (if t219 = 0 then ((grafterlaw0_SameTexts.f k t213 l0).bind fun t220 => (if t220 = true then (grafterlaw17_Journals.j0 k l0 t198 t205 (t214 != (t201.size : Int))) else (grafterlaw17_Journals.j0 k l0 t198 t205 true))) else (grafterlaw17_Journals.j0 k l0 t198 t205 false))) else (grafterlaw17_Journals.j0 k l0 t198 t205 true)) else (grafterlaw17_Journals.j0 k l0 t198 t205 true)) = some r := H
        have A20 := Aside0.mk A200
        clear A200
        by_cases c21 : t218 = true
        · subst c21
          have H1 : (if t206 = t210 then ((grafterlaw0_Num.f t202).bind fun t219 => (if t219 = 0 then ((grafterlaw0_SameTexts.f k t213 l0).bind fun t220 => (if t220 = true then (grafterlaw17_Journals.j0 k l0 t198 t205 (t214 != (t201.size : Int))) else (grafterlaw17_Journals.j0 k l0 t198 t205 true))) else (grafterlaw17_Journals.j0 k l0 t198 t205 false))) else (grafterlaw17_Journals.j0 k l0 t198 t205 true)) = some r := by rw [if_pos rfl] at H; exact H
          clear H
          have H := H1
          clear H1
          by_cases c22 : t206 = t210
          · rw [if_pos c22] at H
            have c22b0 : (t206 == t210) = true := beq_iff_eq.mpr c22
            have c22b1 : (t206 != t210) = false := bne_eq_false_iff_eq.mpr c22
            clear c22
            replace H := Option.bind_eq_some_iff.mp H
            obtain ⟨t219, A230, H⟩ := H
            replace H : (if t219 = 0 then ((grafterlaw0_SameTexts.f k t213 l0).bind fun t220 => (if t220 = true then (grafterlaw17_Journals.j0 k l0 t198 t205 (t214 != (t201.size : Int))) else (grafterlaw17_Journals.j0 k l0 t198 t205 true))) else (grafterlaw17_Journals.j0 k l0 t198 t205 false)) = some r := H
            have A23 := Aside0.mk A230
            clear A230
            by_cases c24 : t219 = 0
            · rw [if_pos c24] at H
              have c24b0 : (t219 == 0) = true := beq_iff_eq.mpr c24
              have c24b1 : (t219 != 0) = false := bne_eq_false_iff_eq.mpr c24
              clear c24
              replace H := Option.bind_eq_some_iff.mp H
              obtain ⟨t220, A250, H⟩ := H
              replace H : (if t220 = true then (grafterlaw17_Journals.j0 k l0 t198 t205 (t214 != (t201.size : Int))) else (grafterlaw17_Journals.j0 k l0 t198 t205 true)) = some r := H
              have A25 := Aside0.mk A250
              clear A250
              by_cases c26 : t220 = true
              · subst c26
                have H1 : (grafterlaw17_Journals.j0 k l0 t198 t205 (t214 != (t201.size : Int))) = some r := by rw [if_pos rfl] at H; exact H
                clear H
                have H := H1
                clear H1
                have H' := Aside0.mk H
                clear H
                go_wp2_with (first | (go_at_call 26; (with_reducible refine (grafterlaw0_Num.calls t202 t217 _ A18.out).mono ?_); rintro e w' ⟨rfl, ⟨nd, rfl⟩⟩; obtain ⟨Ao27, co27, eo27⟩ := Kd.R_slice HO208.out; subst eo27; obtain ⟨Ao28, co28, eo28⟩ := Kd.R_slice HO212.out; subst eo28; (try clear A18)) | (go_at_call 34; (with_reducible refine (grafterlaw0_SameTexts.calls k _ _ t205 _ _ t209 true _ ?side1 ?side2 ?side3 ?side4 A20.out).mono ?_); (case side1 => repeat (first | exact (Kd.R_reads' HO208.out).2.2 | (with_reducible refine Kd.C_alloc ?_ _) | (with_reducible refine Kd.C_drewN ?_ _) | (with_reducible refine Kd.C_drew ?_))); (case side2 => exact (Kd.R_reads' HO208.out).2.1); (case side3 => repeat (first | exact (Kd.R_reads' HO212.out).2.2 | (with_reducible refine Kd.C_alloc ?_ _) | (with_reducible refine Kd.C_drewN ?_ _) | (with_reducible refine Kd.C_drew ?_))); (case side4 => exact (Kd.R_reads' HO212.out).2.1); rintro e w' ⟨rfl, ⟨nd, rfl⟩⟩; (try clear A20)) | (go_at_call 26; (with_reducible refine (grafterlaw0_Num.calls t202 t219 _ A23.out).mono ?_); rintro e w' ⟨rfl, ⟨nd, rfl⟩⟩; obtain ⟨Ao29, co29, eo29⟩ := Kd.R_slice HO216.out; subst eo29; (try clear A23)) | (go_at_call 34; (with_reducible refine (grafterlaw0_SameTexts.calls k _ _ t213 _ _ l0 true _ ?side1 ?side2 ?side3 ?side4 A25.out).mono ?_); (case side1 => repeat (first | exact (Kd.R_reads' HO216.out).2.2 | (with_reducible refine Kd.C_alloc ?_ _) | (with_reducible refine Kd.C_drewN ?_ _) | (with_reducible refine Kd.C_drew ?_))); (case side2 => exact (Kd.R_reads' HO216.out).2.1); (case side3 => repeat (first | exact (Kd.C_below HR0.out (by repeat (first | (with_reducible first | exact HB.out | apply below_alloc | apply pw_below_drewN | apply below_drew1) | exact HB.out))) | (with_reducible refine Kd.C_alloc ?_ _) | (with_reducible refine Kd.C_drewN ?_ _) | (with_reducible refine Kd.C_drew ?_))); (case side4 => exact HC0.out); rintro e w' ⟨rfl, ⟨nd, rfl⟩⟩; (try clear A25)))
                go_meet
                case rel => exact ⟨_, ((t214 != (t201.size : Int))), (by first | rfl | (simp; done) | (simp [*]; done)), H', ⟨by first | omega | exact Nat.le_refl _⟩, ⟨by (with_reducible repeat (first | apply Kd.R_alloc | apply Kd.R_drewN | apply Kd.R_drew)); exact Kd.R_mono HO200.out (fun _ hk => hk.1.1.2)⟩, ⟨by (with_reducible repeat (first | apply Kd.R_alloc | apply Kd.R_drewN | apply Kd.R_drew)); exact Kd.R_mono HO208.out (fun _ hk => hk.1.1.2)⟩, ⟨by repeat (first | (with_reducible first | exact HB.out | apply below_alloc | apply pw_below_drewN | apply below_drew1) | exact HB.out)⟩⟩
              · replace c26 := Bool.eq_false_iff.mpr c26
                subst c26
                have H1 : (grafterlaw17_Journals.j0 k l0 t198 t205 true) = some r := by rw [if_neg (show ¬ (false = true) by decide)] at H; exact H
                clear H
                have H := H1
                clear H1
                have H' := Aside0.mk H
                clear H
                go_wp2_with (first | (go_at_call 26; (with_reducible refine (grafterlaw0_Num.calls t202 t217 _ A18.out).mono ?_); rintro e w' ⟨rfl, ⟨nd, rfl⟩⟩; obtain ⟨Ao30, co30, eo30⟩ := Kd.R_slice HO208.out; subst eo30; obtain ⟨Ao31, co31, eo31⟩ := Kd.R_slice HO212.out; subst eo31; (try clear A18)) | (go_at_call 34; (with_reducible refine (grafterlaw0_SameTexts.calls k _ _ t205 _ _ t209 true _ ?side1 ?side2 ?side3 ?side4 A20.out).mono ?_); (case side1 => repeat (first | exact (Kd.R_reads' HO208.out).2.2 | (with_reducible refine Kd.C_alloc ?_ _) | (with_reducible refine Kd.C_drewN ?_ _) | (with_reducible refine Kd.C_drew ?_))); (case side2 => exact (Kd.R_reads' HO208.out).2.1); (case side3 => repeat (first | exact (Kd.R_reads' HO212.out).2.2 | (with_reducible refine Kd.C_alloc ?_ _) | (with_reducible refine Kd.C_drewN ?_ _) | (with_reducible refine Kd.C_drew ?_))); (case side4 => exact (Kd.R_reads' HO212.out).2.1); rintro e w' ⟨rfl, ⟨nd, rfl⟩⟩; (try clear A20)) | (go_at_call 26; (with_reducible refine (grafterlaw0_Num.calls t202 t219 _ A23.out).mono ?_); rintro e w' ⟨rfl, ⟨nd, rfl⟩⟩; obtain ⟨Ao32, co32, eo32⟩ := Kd.R_slice HO216.out; subst eo32; (try clear A23)) | (go_at_call 34; (with_reducible refine (grafterlaw0_SameTexts.calls k _ _ t213 _ _ l0 false _ ?side1 ?side2 ?side3 ?side4 A25.out).mono ?_); (case side1 => repeat (first | exact (Kd.R_reads' HO216.out).2.2 | (with_reducible refine Kd.C_alloc ?_ _) | (with_reducible refine Kd.C_drewN ?_ _) | (with_reducible refine Kd.C_drew ?_))); (case side2 => exact (Kd.R_reads' HO216.out).2.1); (case side3 => repeat (first | exact (Kd.C_below HR0.out (by repeat (first | (with_reducible first | exact HB.out | apply below_alloc | apply pw_below_drewN | apply below_drew1) | exact HB.out))) | (with_reducible refine Kd.C_alloc ?_ _) | (with_reducible refine Kd.C_drewN ?_ _) | (with_reducible refine Kd.C_drew ?_))); (case side4 => exact HC0.out); rintro e w' ⟨rfl, ⟨nd, rfl⟩⟩; (try clear A25)))
                go_meet
                case rel => exact ⟨_, (true), (by first | rfl | (simp; done) | (simp [*]; done)), H', ⟨by first | omega | exact Nat.le_refl _⟩, ⟨by (with_reducible repeat (first | apply Kd.R_alloc | apply Kd.R_drewN | apply Kd.R_drew)); exact Kd.R_mono HO200.out (fun _ hk => hk.1.1.2)⟩, ⟨by (with_reducible repeat (first | apply Kd.R_alloc | apply Kd.R_drewN | apply Kd.R_drew)); exact Kd.R_mono HO208.out (fun _ hk => hk.1.1.2)⟩, ⟨by repeat (first | (with_reducible first | exact HB.out | apply below_alloc | apply pw_below_drewN | apply below_drew1) | exact HB.out)⟩⟩
            · rw [if_neg c24] at H
              have c24b0 : (t219 == 0) = false := beq_eq_false_iff_ne.mpr c24
              have c24b1 : (t219 != 0) = true := bne_iff_ne.mpr c24
              have H' := Aside0.mk H
              clear H
              go_wp2_with (first | (go_at_call 26; (with_reducible refine (grafterlaw0_Num.calls t202 t217 _ A18.out).mono ?_); rintro e w' ⟨rfl, ⟨nd, rfl⟩⟩; obtain ⟨Ao33, co33, eo33⟩ := Kd.R_slice HO208.out; subst eo33; obtain ⟨Ao34, co34, eo34⟩ := Kd.R_slice HO212.out; subst eo34; (try clear A18)) | (go_at_call 34; (with_reducible refine (grafterlaw0_SameTexts.calls k _ _ t205 _ _ t209 true _ ?side1 ?side2 ?side3 ?side4 A20.out).mono ?_); (case side1 => repeat (first | exact (Kd.R_reads' HO208.out).2.2 | (with_reducible refine Kd.C_alloc ?_ _) | (with_reducible refine Kd.C_drewN ?_ _) | (with_reducible refine Kd.C_drew ?_))); (case side2 => exact (Kd.R_reads' HO208.out).2.1); (case side3 => repeat (first | exact (Kd.R_reads' HO212.out).2.2 | (with_reducible refine Kd.C_alloc ?_ _) | (with_reducible refine Kd.C_drewN ?_ _) | (with_reducible refine Kd.C_drew ?_))); (case side4 => exact (Kd.R_reads' HO212.out).2.1); rintro e w' ⟨rfl, ⟨nd, rfl⟩⟩) | (go_at_call 26; (with_reducible refine (grafterlaw0_Num.calls t202 t219 _ A23.out).mono ?_); rintro e w' ⟨rfl, ⟨nd, rfl⟩⟩; (try clear A23)))
              go_meet
              case rel => exact ⟨_, (false), (by first | rfl | (simp; done) | (simp [*]; done)), H', ⟨by first | omega | exact Nat.le_refl _⟩, ⟨by (with_reducible repeat (first | apply Kd.R_alloc | apply Kd.R_drewN | apply Kd.R_drew)); exact Kd.R_mono HO200.out (fun _ hk => hk.1.1.2)⟩, ⟨by (with_reducible repeat (first | apply Kd.R_alloc | apply Kd.R_drewN | apply Kd.R_drew)); exact Kd.R_mono HO208.out (fun _ hk => hk.1.1.2)⟩, ⟨by repeat (first | (with_reducible first | exact HB.out | apply below_alloc | apply pw_below_drewN | apply below_drew1) | exact HB.out)⟩⟩
          · rw [if_neg c22] at H
            have c22b0 : (t206 == t210) = false := beq_eq_false_iff_ne.mpr c22
            have c22b1 : (t206 != t210) = true := bne_iff_ne.mpr c22
            have H' := Aside0.mk H
            clear H
            go_wp2_with (first | (go_at_call 26; (with_reducible refine (grafterlaw0_Num.calls t202 t217 _ A18.out).mono ?_); rintro e w' ⟨rfl, ⟨nd, rfl⟩⟩; obtain ⟨Ao35, co35, eo35⟩ := Kd.R_slice HO208.out; subst eo35; obtain ⟨Ao36, co36, eo36⟩ := Kd.R_slice HO212.out; subst eo36) | (go_at_call 34; (with_reducible refine (grafterlaw0_SameTexts.calls k _ _ t205 _ _ t209 true _ ?side1 ?side2 ?side3 ?side4 A20.out).mono ?_); (case side1 => repeat (first | exact (Kd.R_reads' HO208.out).2.2 | (with_reducible refine Kd.C_alloc ?_ _) | (with_reducible refine Kd.C_drewN ?_ _) | (with_reducible refine Kd.C_drew ?_))); (case side2 => exact (Kd.R_reads' HO208.out).2.1); (case side3 => repeat (first | exact (Kd.R_reads' HO212.out).2.2 | (with_reducible refine Kd.C_alloc ?_ _) | (with_reducible refine Kd.C_drewN ?_ _) | (with_reducible refine Kd.C_drew ?_))); (case side4 => exact (Kd.R_reads' HO212.out).2.1); rintro e w' ⟨rfl, ⟨nd, rfl⟩⟩))
            go_meet
            case rel => exact ⟨_, (true), (by first | rfl | (simp; done) | (simp [*]; done)), H', ⟨by first | omega | exact Nat.le_refl _⟩, ⟨by (with_reducible repeat (first | apply Kd.R_alloc | apply Kd.R_drewN | apply Kd.R_drew)); exact Kd.R_mono HO200.out (fun _ hk => hk.1.1.2)⟩, ⟨by (with_reducible repeat (first | apply Kd.R_alloc | apply Kd.R_drewN | apply Kd.R_drew)); exact Kd.R_mono HO208.out (fun _ hk => hk.1.1.2)⟩, ⟨by repeat (first | (with_reducible first | exact HB.out | apply below_alloc | apply pw_below_drewN | apply below_drew1) | exact HB.out)⟩⟩
        · replace c21 := Bool.eq_false_iff.mpr c21
          subst c21
          have H1 : (grafterlaw17_Journals.j0 k l0 t198 t205 true) = some r := by rw [if_neg (show ¬ (false = true) by decide)] at H; exact H
          clear H
          have H := H1
          clear H1
          have H' := Aside0.mk H
          clear H
          go_wp2_with (first | (go_at_call 26; (with_reducible refine (grafterlaw0_Num.calls t202 t217 _ A18.out).mono ?_); rintro e w' ⟨rfl, ⟨nd, rfl⟩⟩; obtain ⟨Ao37, co37, eo37⟩ := Kd.R_slice HO208.out; subst eo37; obtain ⟨Ao38, co38, eo38⟩ := Kd.R_slice HO212.out; subst eo38) | (go_at_call 34; (with_reducible refine (grafterlaw0_SameTexts.calls k _ _ t205 _ _ t209 false _ ?side1 ?side2 ?side3 ?side4 A20.out).mono ?_); (case side1 => repeat (first | exact (Kd.R_reads' HO208.out).2.2 | (with_reducible refine Kd.C_alloc ?_ _) | (with_reducible refine Kd.C_drewN ?_ _) | (with_reducible refine Kd.C_drew ?_))); (case side2 => exact (Kd.R_reads' HO208.out).2.1); (case side3 => repeat (first | exact (Kd.R_reads' HO212.out).2.2 | (with_reducible refine Kd.C_alloc ?_ _) | (with_reducible refine Kd.C_drewN ?_ _) | (with_reducible refine Kd.C_drew ?_))); (case side4 => exact (Kd.R_reads' HO212.out).2.1); rintro e w' ⟨rfl, ⟨nd, rfl⟩⟩))
          go_meet
          case rel => exact ⟨_, (true), (by first | rfl | (simp; done) | (simp [*]; done)), H', ⟨by first | omega | exact Nat.le_refl _⟩, ⟨by (with_reducible repeat (first | apply Kd.R_alloc | apply Kd.R_drewN | apply Kd.R_drew)); exact Kd.R_mono HO200.out (fun _ hk => hk.1.1.2)⟩, ⟨by (with_reducible repeat (first | apply Kd.R_alloc | apply Kd.R_drewN | apply Kd.R_drew)); exact Kd.R_mono HO208.out (fun _ hk => hk.1.1.2)⟩, ⟨by repeat (first | (with_reducible first | exact HB.out | apply below_alloc | apply pw_below_drewN | apply below_drew1) | exact HB.out)⟩⟩
      · rw [if_neg c19] at H
        have c19b0 : (t217 == t204) = false := beq_eq_false_iff_ne.mpr c19
        have c19b1 : (t217 != t204) = true := bne_iff_ne.mpr c19
        have H' := Aside0.mk H
        clear H
        go_wp2_with (first | (go_at_call 26; (with_reducible refine (grafterlaw0_Num.calls t202 t217 _ A18.out).mono ?_); rintro e w' ⟨rfl, ⟨nd, rfl⟩⟩))
        go_meet
        case rel => exact ⟨_, (true), (by first | rfl | (simp; done) | (simp [*]; done)), H', ⟨by first | omega | exact Nat.le_refl _⟩, ⟨by (with_reducible repeat (first | apply Kd.R_alloc | apply Kd.R_drewN | apply Kd.R_drew)); exact Kd.R_mono HO200.out (fun _ hk => hk.1.1.2)⟩, ⟨by (with_reducible repeat (first | apply Kd.R_alloc | apply Kd.R_drewN | apply Kd.R_drew)); exact Kd.R_mono HO208.out (fun _ hk => hk.1.1.2)⟩, ⟨by repeat (first | (with_reducible first | exact HB.out | apply below_alloc | apply pw_below_drewN | apply below_drew1) | exact HB.out)⟩⟩
    · rw [if_neg c17] at H
      have c17b0 : (t201.toList == t203.toList) = false := beq_eq_false_iff_ne.mpr c17
      have c17b1 : (t201.toList != t203.toList) = true := bne_iff_ne.mpr c17
      (first | rw [c17b0] | (simp only [i64_w, i32_w]; rw [c17b0]) | skip)
      have H' := Aside0.mk H
      clear H
      go_wp2
      go_meet
      case rel => exact ⟨_, (true), (by first | rfl | (simp; done) | (simp [*]; done)), H', ⟨by first | omega | exact Nat.le_refl _⟩, ⟨by (with_reducible repeat (first | apply Kd.R_alloc | apply Kd.R_drewN | apply Kd.R_drew)); exact Kd.R_mono HO200.out (fun _ hk => hk.1.1.2)⟩, ⟨by (with_reducible repeat (first | apply Kd.R_alloc | apply Kd.R_drewN | apply Kd.R_drew)); exact Kd.R_mono HO208.out (fun _ hk => hk.1.1.2)⟩, ⟨by repeat (first | (with_reducible first | exact HB.out | apply below_alloc | apply pw_below_drewN | apply below_drew1) | exact HB.out)⟩⟩
  case rest =>
    clear HC9
    try clear c1
    try clear c2
    try clear p2
    try clear c3
    try clear c8
    try clear c12
    try clear c17
    try clear c17b0
    try clear c17b1
    try clear c19
    try clear c19b0
    try clear c19b1
    try clear c21
    try clear c22
    try clear c22b0
    try clear c22b1
    try clear c24
    try clear c24b0
    try clear c24b1
    try clear c26
    try clear c29
    try clear c31
    try clear c32
    try clear c33
    obtain ⟨kq, x79_8, rfl, HA, HJ8, HO_5, HO_10, HB⟩ := hcut
    cases kq with
    | zero => exact absurd HA.out (by simp [grafterlaw17_Journals.j0])
    | succ kj8 =>
      have H := HA.out
      clear HA
      simp only [grafterlaw17_Journals.j0] at H
      by_cases c39 : x79_8 = true
      · subst c39
        have H1 : (some false) = some r := by rw [if_pos rfl] at H; exact H
        clear H
        have H := H1
        clear H1
        exact absurd ((Option.some.inj H).trans HRT.out) Bool.false_ne_true
      · replace c39 := Bool.eq_false_iff.mpr c39
        subst c39
        have H1 : ((grafterlaw0_SpoilTexts.f kj8 t205).bind fun t221 => ((grafterlaw0_KeptTexts.f kj8 t198 l0).bind fun t222 => (if t222 = true then ((grafterlaw17_awake.f kj8).bind fun t223 => (some t223)) else (some false)))) = some r := by rw [if_neg (show ¬ (false = true) by decide)] at H; exact H
        clear H
        have H := H1
        clear H1
        replace H := Option.bind_eq_some_iff.mp H
        obtain ⟨t221, A400, H⟩ := H
        replace H : ((grafterlaw0_KeptTexts.f kj8 t198 l0).bind fun t222 => (if t222 = true then ((grafterlaw17_awake.f kj8).bind fun t223 => (some t223)) else (some false))) = some r := H
        have A40 := Aside0.mk A400
        clear A400
        replace H := Option.bind_eq_some_iff.mp H
        obtain ⟨t222, A410, H⟩ := H
        replace H : (if t222 = true then ((grafterlaw17_awake.f kj8).bind fun t223 => (some t223)) else (some false)) = some r := H
        have A41 := Aside0.mk A410
        clear A410
        by_cases c42 : t222 = true
        · subst c42
          have H1 : ((grafterlaw17_awake.f kj8).bind fun t223 => (some t223)) = some r := by rw [if_pos rfl] at H; exact H
          clear H
          have H := H1
          clear H1
          replace H := Option.bind_eq_some_iff.mp H
          obtain ⟨t223, A430, H⟩ := H
          replace H : (some t223) = some r := H
          have A43 := Aside0.mk A430
          clear A430
          obtain rfl := Option.some.inj H
          obtain ⟨Ao44, co44, eo44⟩ := Kd.R_slice HO_10.out
          subst eo44
          go_wp2_with (first | ((with_reducible refine gate_callee (f := 35) rfl ?_); refine goesL_ (some 81) rfl rfl Try.func35 (by kernel_rfl) rfl #[.slice Ao44 t205.length co44] rfl (by (try simp only [List.map_toArray, List.map_cons, List.map_nil]); first | done | rfl | (simp only [List.length_drop, List.length_take]; rfl)) ?_; (with_reducible refine (grafterlaw0_SpoilTexts.calls kj8 (fun k_ => some k_ = (.slice Ao44 t205.length co44 : Value).ownBlock) (.slice Ao44 t205.length co44) t205 t221 w _ ?side1 ?side2 A40.out).mono ?_); (case side1 => repeat (first | (with_reducible first | exact HB.out | apply below_alloc | apply pw_below_drewN | apply below_drew1) | exact HB.out)); (case side2 => exact Kd.R_tight rfl HO_10.out); rintro e w45 ⟨rfl, hy0, hb, hkp⟩; refine ⟨_, rfl, ?_⟩; have n0_ := Aside0.mk (Kd.R_mono (ok' := fun k_ => some k_ ≠ (.slice Ao44 t205.length co44 : Value).ownBlock) (Kd.R_keptB (HO_5.out) hkp (fun k_ hk_ hs_ => (hk_) hs_)) (fun k_ hk_ => hk_.1)); have n1_ := Aside0.mk (Kd.R_reok rfl hy0 (fun k_ e_ => HO_10.out.1 k_ e_)); have n2_ := Aside0.mk (hb); clear HO_5; clear HO_10; clear HB; have HO_5 := n0_; have HO_10 := n1_; have HB := n2_; clear n0_ n1_ n2_; (try clear hb); (try clear hkp); (try clear hy0)) | ((with_reducible refine gate_callee (f := 36) rfl ?_); refine goesL_ (some 84) rfl rfl Try.func36 (by kernel_rfl) rfl #[.slice Ao11 (t198.length - 2) co11, .slice A0 l0.length c0] rfl (by (try simp only [List.map_toArray, List.map_cons, List.map_nil]); first | done | rfl | (simp only [List.length_drop, List.length_take]; rfl)) ?_; (with_reducible refine (grafterlaw0_KeptTexts.calls kj8 _ _ t198 _ _ l0 true _ ?side1 ?side2 ?side3 ?side4 A41.out).mono ?_); (case side1 => repeat (first | exact (Kd.R_reads' HO_5.out).2.2 | (with_reducible refine Kd.C_alloc ?_ _) | (with_reducible refine Kd.C_drewN ?_ _) | (with_reducible refine Kd.C_drew ?_))); (case side2 => exact (Kd.R_reads' HO_5.out).2.1); (case side3 => repeat (first | exact (Kd.C_below HR0.out HB.out) | (with_reducible refine Kd.C_alloc ?_ _) | (with_reducible refine Kd.C_drewN ?_ _) | (with_reducible refine Kd.C_drew ?_))); (case side4 => exact HC0.out); rintro e w' ⟨rfl, ⟨nd, rfl⟩⟩; refine ⟨_, rfl, ?_⟩) | (go_at_call 37; (with_reducible refine (grafterlaw17_awake.calls kj8  t223 _ HRT.out A43.out).mono ?_); rintro e w46 ⟨rfl, hb⟩; have n0_ := Aside0.mk (Kd.R_below (by (with_reducible repeat (first | apply Kd.R_alloc | apply Kd.R_drewN | apply Kd.R_drew)); exact HO_5.out) hb); have n1_ := Aside0.mk (Kd.R_below (by (with_reducible repeat (first | apply Kd.R_alloc | apply Kd.R_drewN | apply Kd.R_drew)); exact HO_10.out) hb); have n2_ := Aside0.mk (below_step (by repeat (first | (with_reducible first | exact HB.out | apply below_alloc | apply pw_below_drewN | apply below_drew1) | exact HB.out)) hb); clear HO_5; clear HO_10; clear HB; have HO_5 := n0_; have HO_10 := n1_; have HB := n2_; clear n0_ n1_ n2_; (try clear hb); (try clear hb2); (try clear hk); (try clear hi)))
          go_ret
          exact ⟨by first | rfl | (simp [errW_none, errW_some] <;> rfl) | (simp [*, errW_none, errW_some] <;> rfl), by repeat (first | (with_reducible first | exact HB.out | apply below_alloc | apply pw_below_drewN | apply below_drew1) | exact HB.out)⟩
        · replace c42 := Bool.eq_false_iff.mpr c42
          subst c42
          have H1 : (some false) = some r := by rw [if_neg (show ¬ (false = true) by decide)] at H; exact H
          clear H
          have H := H1
          clear H1
          exact absurd ((Option.some.inj H).trans HRT.out) Bool.false_ne_true

def grafterlaw17_Journals.Pure : Prop := ∀ (l0 : List ByteArray) (a1 : ByteArray), l0.length * 16 ≤ 140737488351232 → a1.size ≤ 140737488351232 → ∃ k, grafterlaw17_Journals.f k l0 a1 = some true
theorem grafterlaw17_Journals.walk (P : grafterlaw17_Journals.Pure) (a0 : Option Addr) (cap0 : Nat) (l0 : List ByteArray) (a1 : ByteArray) (w : World) (hr0 : Kd.C Kd.string w a0 l0.length l0) (hc0 : l0.length ≤ cap0) (y0 : l0.length * 16 ≤ 140737488351232) (w1 : a1.size ≤ 140737488351232) :
    Calls Try.prog 8 #[.slice a0 l0.length cap0, .string a1] w fun e w' => e = .returned (.bool true) ∧ Below w.heap.size w w' := by
  obtain ⟨k, h⟩ := P l0 a1 y0 w1
  refine (grafterlaw17_Journals.calls k _ _ l0 a1 true w rfl hr0 hc0 h).mono ?_
  rintro e w' ⟨rfl, hd⟩
  exact ⟨rfl, hd⟩

end Go.Proofs.Ytbhkmgidokonkaa.PJournals
