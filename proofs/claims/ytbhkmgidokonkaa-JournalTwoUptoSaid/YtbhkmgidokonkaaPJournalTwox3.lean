-- Written by a program of this session (pprint.py) out of the translation, with hand-proved walks pasted in.
import Derived.Test.YtbhkmgidokonkaaPJournalTwox0
import Derived.Test.YtbhkmgidokonkaaPJournalTwox1
import Derived.Test.YtbhkmgidokonkaaPJournalTwox2
namespace Go.Proofs.Ytbhkmgidokonkaa.PJournalTwo
open Go.RowKit Go.Proofs.YtbhkmgidokonkaaW.PrintWords Go.Proofs.YtbhkmgidokonkaaW.PrintLast Go.Proofs.YtbhkmgidokonkaaW.PrintMore
attribute [local go_sem] max2_int min2_int max_two min_two max_three min_three max_four min_four   -- for this text's walks alone
set_option linter.unusedVariables false
set_option linter.unusedSimpArgs false

/-! ### grafterlaw17_JournalTwo: function 12 -/
def grafterlaw17_JournalTwo.j0 : Nat → ByteArray → ByteArray → List ByteArray → ByteArray → Int → Int → Bool → Option (Bool)
  | 0, _, _, _, _, _, _, _ => none
  | k + 1, x5, x7, x9, x10, x11, x13, x56 => if x56 = true then ((grafterlaw0_Num.f x11).bind fun t190 => (some (t190 == x13))) else (if x5.size + x7.size ≤ 9223372036854775807 then ((journal_Load.f k (x5 ++ x7)).bind fun bt191 => (if x10.toList = (x5 ++ x7).toList then ((grafterlaw0_SameTexts.f k bt191.1 x9).bind fun t195 => (if t195 = true then (some (bt191.2 == (x10.size : Int))) else (some false))) else (some false))) else (none))
def grafterlaw17_JournalTwo.f (k : Nat) (l0 : List ByteArray) (l1 : List ByteArray) : Option (Bool) := (grafterlaw17_awake.f k).bind fun t169 => (if t169 = true then ((journal_Text.f k l0).bind fun bt170 => ((journal_Text.f k l1).bind fun bt172 => ((some (([] : List ByteArray) : List ByteArray)).bind fun y174 => (if y174.length + l0.length < 8796093022208 then ((some (y174 ++ l0 : List ByteArray)).bind fun y177 => (if y177.length + l1.length < 8796093022208 then ((some (y177 ++ l1 : List ByteArray)).bind fun y180 => ((journal_Text.f k y180).bind fun bt183 => ((grafterref12_JournalText.f k y180).bind fun bt185 => ((grafterlaw0_Num.f bt170.2).bind fun t187 => (if t187 = 0 then ((grafterlaw0_Num.f bt172.2).bind fun t188 => (if t188 = 0 then ((grafterlaw0_Num.f bt183.2).bind fun t189 => (grafterlaw17_JournalTwo.j0 k bt170.1 bt172.1 y180 bt183.1 bt183.2 bt185.2 (t189 != 0))) else (grafterlaw17_JournalTwo.j0 k bt170.1 bt172.1 y180 bt183.1 bt183.2 bt185.2 true))) else (grafterlaw17_JournalTwo.j0 k bt170.1 bt172.1 y180 bt183.1 bt183.2 bt185.2 true)))))) else (none))) else (none))))) else (some false))
theorem grafterlaw17_JournalTwo.mono_l : ∀ k, (∀ y0 y1 y2 y3 y4 y5 y6, LeO (grafterlaw17_JournalTwo.j0 k y0 y1 y2 y3 y4 y5 y6) (grafterlaw17_JournalTwo.j0 (k + 1) y0 y1 y2 y3 y4 y5 y6))
  | 0 => fun _ _ _ _ _ _ _ r h => by simp [grafterlaw17_JournalTwo.j0] at h
  | k + 1 => by
    have ih0 := grafterlaw17_JournalTwo.mono_l k
    · intro y0 y1 y2 y3 y4 y5 y6
      unfold grafterlaw17_JournalTwo.j0
      repeat' first
      | (with_reducible exact ih0 _ _ _ _ _ _ _)
      | (with_reducible exact grafterlaw0_SameTexts.mono _ _ _)
      | (with_reducible exact grafterlaw17_awake.mono _)
      | (with_reducible exact grafterref12_JournalText.mono _ _)
      | (with_reducible exact journal_Load.mono _ _)
      | (with_reducible exact journal_Text.mono _ _)
      | (with_reducible exact LeO.refl _)
      | (with_reducible exact LeO.none _)
      | (with_reducible refine LeO.ite ?_ ?_)
      | (with_reducible refine LeO.bind ?_ (fun _ => ?_))
      | exact ih0 _ _ _ _ _ _ _
      | exact grafterlaw0_SameTexts.mono _ _ _
      | exact grafterlaw17_awake.mono _
      | exact grafterref12_JournalText.mono _ _
      | exact journal_Load.mono _ _
      | exact journal_Text.mono _ _
      | exact LeO.none _
      | refine LeO.ite ?_ ?_
      | refine LeO.bind ?_ (fun _ => ?_)
theorem grafterlaw17_JournalTwo.mono : ∀ a0 a1 k, LeO (grafterlaw17_JournalTwo.f k a0 a1) (grafterlaw17_JournalTwo.f (k + 1) a0 a1) := by
  intro a0 a1 k
  have ih0 := grafterlaw17_JournalTwo.mono_l k
  unfold grafterlaw17_JournalTwo.f
  repeat' first
      | (with_reducible exact ih0 _ _ _ _ _ _ _)
      | (with_reducible exact grafterlaw0_SameTexts.mono _ _ _)
      | (with_reducible exact grafterlaw17_awake.mono _)
      | (with_reducible exact grafterref12_JournalText.mono _ _)
      | (with_reducible exact journal_Load.mono _ _)
      | (with_reducible exact journal_Text.mono _ _)
      | (with_reducible exact LeO.refl _)
      | (with_reducible exact LeO.none _)
      | (with_reducible refine LeO.ite ?_ ?_)
      | (with_reducible refine LeO.bind ?_ (fun _ => ?_))
      | exact ih0 _ _ _ _ _ _ _
      | exact grafterlaw0_SameTexts.mono _ _ _
      | exact grafterlaw17_awake.mono _
      | exact grafterref12_JournalText.mono _ _
      | exact journal_Load.mono _ _
      | exact journal_Text.mono _ _
      | exact LeO.none _
      | refine LeO.ite ?_ ?_
      | refine LeO.bind ?_ (fun _ => ?_)
set_option maxHeartbeats 8000000 in
set_option maxRecDepth 100000 in
theorem grafterlaw17_JournalTwo.calls (k : Nat) (A0 : Option Addr) (c0 : Nat) (l0 : List ByteArray) (A1 : Option Addr) (c1 : Nat) (l1 : List ByteArray) (r : Bool) (w : World) (hrt : r = true) (hr0 : Kd.C Kd.string w A0 l0.length l0) (hc0 : l0.length ≤ c0) (hr1 : Kd.C Kd.string w A1 l1.length l1) (hc1 : l1.length ≤ c1) (h : grafterlaw17_JournalTwo.f k l0 l1 = some r) :
    Calls Try.prog 12 #[.slice A0 l0.length c0, .slice A1 l1.length c1] w fun e w' => e = .returned (.bool r) ∧ Below w.heap.size w w' := by
  have HRT := Aside0.mk hrt
  clear hrt
  have HR0 := Aside0.mk hr0
  have HC0 := Aside0.mk hc0
  clear hr0 hc0
  have HR1 := Aside0.mk hr1
  have HC1 := Aside0.mk hc1
  clear hr1 hc1
  have HB := Aside0.mk (Below.refl w.heap.size w)
  have H : ((grafterlaw17_awake.f k).bind fun t169 => (if t169 = true then ((journal_Text.f k l0).bind fun bt170 => ((journal_Text.f k l1).bind fun bt172 => ((some (([] : List ByteArray) : List ByteArray)).bind fun y174 => (if y174.length + l0.length < 8796093022208 then ((some (y174 ++ l0 : List ByteArray)).bind fun y177 => (if y177.length + l1.length < 8796093022208 then ((some (y177 ++ l1 : List ByteArray)).bind fun y180 => ((journal_Text.f k y180).bind fun bt183 => ((grafterref12_JournalText.f k y180).bind fun bt185 => ((grafterlaw0_Num.f bt170.2).bind fun t187 => (if t187 = 0 then ((grafterlaw0_Num.f bt172.2).bind fun t188 => (if t188 = 0 then ((grafterlaw0_Num.f bt183.2).bind fun t189 => (grafterlaw17_JournalTwo.j0 k bt170.1 bt172.1 y180 bt183.1 bt183.2 bt185.2 (t189 != 0))) else (grafterlaw17_JournalTwo.j0 k bt170.1 bt172.1 y180 bt183.1 bt183.2 bt185.2 true))) else (grafterlaw17_JournalTwo.j0 k bt170.1 bt172.1 y180 bt183.1 bt183.2 bt185.2 true)))))) else (none))) else (none))))) else (some false))) = some r := h
  clear h
  replace H := Option.bind_eq_some_iff.mp H
  obtain ⟨t169, A30, H⟩ := H
  replace H : (if t169 = true then ((journal_Text.f k l0).bind fun bt170 => ((journal_Text.f k l1).bind fun bt172 => ((some (([] : List ByteArray) : List ByteArray)).bind fun y174 => (if y174.length + l0.length < 8796093022208 then ((some (y174 ++ l0 : List ByteArray)).bind fun y177 => (if y177.length + l1.length < 8796093022208 then ((some (y177 ++ l1 : List ByteArray)).bind fun y180 => ((journal_Text.f k y180).bind fun bt183 => ((grafterref12_JournalText.f k y180).bind fun bt185 => ((grafterlaw0_Num.f bt170.2).bind fun t187 => (if t187 = 0 then ((grafterlaw0_Num.f bt172.2).bind fun t188 => (if t188 = 0 then ((grafterlaw0_Num.f bt183.2).bind fun t189 => (grafterlaw17_JournalTwo.j0 k bt170.1 bt172.1 y180 bt183.1 bt183.2 bt185.2 (t189 != 0))) else (grafterlaw17_JournalTwo.j0 k bt170.1 bt172.1 y180 bt183.1 bt183.2 bt185.2 true))) else (grafterlaw17_JournalTwo.j0 k bt170.1 bt172.1 y180 bt183.1 bt183.2 bt185.2 true)))))) else (none))) else (none))))) else (some false)) = some r := H
  have A3 := Aside0.mk A30
  clear A30
  by_cases c4 : t169 = true
  · subst c4
    have H1 : ((journal_Text.f k l0).bind fun bt170 => ((journal_Text.f k l1).bind fun bt172 => ((some (([] : List ByteArray) : List ByteArray)).bind fun y174 => (if y174.length + l0.length < 8796093022208 then ((some (y174 ++ l0 : List ByteArray)).bind fun y177 => (if y177.length + l1.length < 8796093022208 then ((some (y177 ++ l1 : List ByteArray)).bind fun y180 => ((journal_Text.f k y180).bind fun bt183 => ((grafterref12_JournalText.f k y180).bind fun bt185 => ((grafterlaw0_Num.f bt170.2).bind fun t187 => (if t187 = 0 then ((grafterlaw0_Num.f bt172.2).bind fun t188 => (if t188 = 0 then ((grafterlaw0_Num.f bt183.2).bind fun t189 => (grafterlaw17_JournalTwo.j0 k bt170.1 bt172.1 y180 bt183.1 bt183.2 bt185.2 (t189 != 0))) else (grafterlaw17_JournalTwo.j0 k bt170.1 bt172.1 y180 bt183.1 bt183.2 bt185.2 true))) else (grafterlaw17_JournalTwo.j0 k bt170.1 bt172.1 y180 bt183.1 bt183.2 bt185.2 true)))))) else (none))) else (none))))) = some r := by rw [if_pos rfl] at H; exact H
    clear H
    have H := H1
    clear H1
    replace H := Option.bind_eq_some_iff.mp H
    obtain ⟨⟨t170, t171⟩, A50, H⟩ := H
    replace H : ((journal_Text.f k l1).bind fun bt172 => ((some (([] : List ByteArray) : List ByteArray)).bind fun y174 => (if y174.length + l0.length < 8796093022208 then ((some (y174 ++ l0 : List ByteArray)).bind fun y177 => (if y177.length + l1.length < 8796093022208 then ((some (y177 ++ l1 : List ByteArray)).bind fun y180 => ((journal_Text.f k y180).bind fun bt183 => ((grafterref12_JournalText.f k y180).bind fun bt185 => ((grafterlaw0_Num.f t171).bind fun t187 => (if t187 = 0 then ((grafterlaw0_Num.f bt172.2).bind fun t188 => (if t188 = 0 then ((grafterlaw0_Num.f bt183.2).bind fun t189 => (grafterlaw17_JournalTwo.j0 k t170 bt172.1 y180 bt183.1 bt183.2 bt185.2 (t189 != 0))) else (grafterlaw17_JournalTwo.j0 k t170 bt172.1 y180 bt183.1 bt183.2 bt185.2 true))) else (grafterlaw17_JournalTwo.j0 k t170 bt172.1 y180 bt183.1 bt183.2 bt185.2 true)))))) else (none))) else (none)))) = some r := H
    have A5 := Aside0.mk A50
    clear A50
    replace H := Option.bind_eq_some_iff.mp H
    obtain ⟨⟨t172, t173⟩, A60, H⟩ := H
    replace H : ((some (([] : List ByteArray) : List ByteArray)).bind fun y174 => (if y174.length + l0.length < 8796093022208 then ((some (y174 ++ l0 : List ByteArray)).bind fun y177 => (if y177.length + l1.length < 8796093022208 then ((some (y177 ++ l1 : List ByteArray)).bind fun y180 => ((journal_Text.f k y180).bind fun bt183 => ((grafterref12_JournalText.f k y180).bind fun bt185 => ((grafterlaw0_Num.f t171).bind fun t187 => (if t187 = 0 then ((grafterlaw0_Num.f t173).bind fun t188 => (if t188 = 0 then ((grafterlaw0_Num.f bt183.2).bind fun t189 => (grafterlaw17_JournalTwo.j0 k t170 t172 y180 bt183.1 bt183.2 bt185.2 (t189 != 0))) else (grafterlaw17_JournalTwo.j0 k t170 t172 y180 bt183.1 bt183.2 bt185.2 true))) else (grafterlaw17_JournalTwo.j0 k t170 t172 y180 bt183.1 bt183.2 bt185.2 true)))))) else (none))) else (none))) = some r := H
    have A6 := Aside0.mk A60
    clear A60
    obtain ⟨y174, hy174⟩ : ∃ y_ : List ByteArray, y_ = (([] : List ByteArray)) := ⟨_, rfl⟩
    replace H : (if y174.length + l0.length < 8796093022208 then ((some (y174 ++ l0 : List ByteArray)).bind fun y177 => (if y177.length + l1.length < 8796093022208 then ((some (y177 ++ l1 : List ByteArray)).bind fun y180 => ((journal_Text.f k y180).bind fun bt183 => ((grafterref12_JournalText.f k y180).bind fun bt185 => ((grafterlaw0_Num.f t171).bind fun t187 => (if t187 = 0 then ((grafterlaw0_Num.f t173).bind fun t188 => (if t188 = 0 then ((grafterlaw0_Num.f bt183.2).bind fun t189 => (grafterlaw17_JournalTwo.j0 k t170 t172 y180 bt183.1 bt183.2 bt185.2 (t189 != 0))) else (grafterlaw17_JournalTwo.j0 k t170 t172 y180 bt183.1 bt183.2 bt185.2 true))) else (grafterlaw17_JournalTwo.j0 k t170 t172 y180 bt183.1 bt183.2 bt185.2 true)))))) else (none))) else (none)) = some r := by first | (rw [hy174]; with_reducible exact H) | (have H2_ := (Option.bind_some _ _).symm.trans H; rw [hy174]; with_reducible exact H2_) | (have H2_ := (Option.bind_some _ _).symm.trans H; with_reducible exact H2_) | with_reducible exact H | (rw [hy174]; exact H) | exact H
    have Ny174 := Aside0.mk hy174
    clear hy174
    by_cases c7 : y174.length + l0.length < 8796093022208
    · rw [if_pos c7] at H
      have LMc7 := Aside0.mk c7
      clear c7
      obtain ⟨y177, hy177⟩ : ∃ y_ : List ByteArray, y_ = (y174 ++ l0) := ⟨_, rfl⟩
      replace H : (if y177.length + l1.length < 8796093022208 then ((some (y177 ++ l1 : List ByteArray)).bind fun y180 => ((journal_Text.f k y180).bind fun bt183 => ((grafterref12_JournalText.f k y180).bind fun bt185 => ((grafterlaw0_Num.f t171).bind fun t187 => (if t187 = 0 then ((grafterlaw0_Num.f t173).bind fun t188 => (if t188 = 0 then ((grafterlaw0_Num.f bt183.2).bind fun t189 => (grafterlaw17_JournalTwo.j0 k t170 t172 y180 bt183.1 bt183.2 bt185.2 (t189 != 0))) else (grafterlaw17_JournalTwo.j0 k t170 t172 y180 bt183.1 bt183.2 bt185.2 true))) else (grafterlaw17_JournalTwo.j0 k t170 t172 y180 bt183.1 bt183.2 bt185.2 true)))))) else (none)) = some r := by first | (rw [hy177]; with_reducible exact H) | (have H2_ := (Option.bind_some _ _).symm.trans H; rw [hy177]; with_reducible exact H2_) | (have H2_ := (Option.bind_some _ _).symm.trans H; with_reducible exact H2_) | with_reducible exact H | (rw [hy177]; exact H) | exact H
      have Ny177 := Aside0.mk hy177
      clear hy177
      by_cases c8 : y177.length + l1.length < 8796093022208
      · rw [if_pos c8] at H
        have LMc8 := Aside0.mk c8
        clear c8
        obtain ⟨y180, hy180⟩ : ∃ y_ : List ByteArray, y_ = (y177 ++ l1) := ⟨_, rfl⟩
        replace H : ((journal_Text.f k y180).bind fun bt183 => ((grafterref12_JournalText.f k y180).bind fun bt185 => ((grafterlaw0_Num.f t171).bind fun t187 => (if t187 = 0 then ((grafterlaw0_Num.f t173).bind fun t188 => (if t188 = 0 then ((grafterlaw0_Num.f bt183.2).bind fun t189 => (grafterlaw17_JournalTwo.j0 k t170 t172 y180 bt183.1 bt183.2 bt185.2 (t189 != 0))) else (grafterlaw17_JournalTwo.j0 k t170 t172 y180 bt183.1 bt183.2 bt185.2 true))) else (grafterlaw17_JournalTwo.j0 k t170 t172 y180 bt183.1 bt183.2 bt185.2 true))))) = some r := by first | (rw [hy180]; with_reducible exact H) | (have H2_ := (Option.bind_some _ _).symm.trans H; rw [hy180]; with_reducible exact H2_) | (have H2_ := (Option.bind_some _ _).symm.trans H; with_reducible exact H2_) | with_reducible exact H | (rw [hy180]; exact H) | exact H
        have Ny180 := Aside0.mk hy180
        clear hy180
        replace H := Option.bind_eq_some_iff.mp H
        obtain ⟨⟨t183, t184⟩, A90, H⟩ := H
        replace H : ((grafterref12_JournalText.f k y180).bind fun bt185 => ((grafterlaw0_Num.f t171).bind fun t187 => (if t187 = 0 then ((grafterlaw0_Num.f t173).bind fun t188 => (if t188 = 0 then ((grafterlaw0_Num.f t184).bind fun t189 => (grafterlaw17_JournalTwo.j0 k t170 t172 y180 t183 t184 bt185.2 (t189 != 0))) else (grafterlaw17_JournalTwo.j0 k t170 t172 y180 t183 t184 bt185.2 true))) else (grafterlaw17_JournalTwo.j0 k t170 t172 y180 t183 t184 bt185.2 true)))) = some r := H
        have A9 := Aside0.mk A90
        clear A90
        replace H := Option.bind_eq_some_iff.mp H
        obtain ⟨⟨t185, t186⟩, A100, H⟩ := H
        replace H : ((grafterlaw0_Num.f t171).bind fun t187 => (if t187 = 0 then ((grafterlaw0_Num.f t173).bind fun t188 => (if t188 = 0 then ((grafterlaw0_Num.f t184).bind fun t189 => (grafterlaw17_JournalTwo.j0 k t170 t172 y180 t183 t184 t186 (t189 != 0))) else (grafterlaw17_JournalTwo.j0 k t170 t172 y180 t183 t184 t186 true))) else (grafterlaw17_JournalTwo.j0 k t170 t172 y180 t183 t184 t186 true))) = some r := H
        have A10 := Aside0.mk A100
        clear A100
        have HC11 := Aside0.mk H
        clear H
        go_enter Try.func12, Try.ntmps12
        go_upto_region 9 with (first | ((with_reducible refine gate_callee (f := 37) rfl ?_); refine goesL_ (some 16) rfl rfl Try.func37 (by kernel_rfl) rfl #[] rfl (by (try simp only [List.map_toArray, List.map_cons, List.map_nil]); first | done | rfl | (simp only [List.length_drop, List.length_take]; rfl)) ?_; (with_reducible refine (grafterlaw17_awake.calls k  true _ rfl A3.out).mono ?_); rintro e w12 ⟨rfl, hb⟩; refine ⟨_, rfl, ?_⟩; have n0_ := Aside0.mk (below_step (by repeat (first | (with_reducible first | exact HB.out | apply below_alloc | apply pw_below_drewN | apply below_drew1) | exact HB.out)) hb); clear HB; have HB := n0_; clear n0_; (try clear hb); (try clear hb2); (try clear hk); (try clear hi)) | ((with_reducible refine gate_callee (f := 30) rfl ?_); refine goesL_ (some 20) rfl rfl Try.func30 (by kernel_rfl) rfl #[.slice A0 l0.length c0] rfl (by (try simp only [List.map_toArray, List.map_cons, List.map_nil]); first | done | rfl | (simp only [List.length_drop, List.length_take]; rfl)) ?_; (with_reducible refine (journal_Text.calls k _ _ l0 t170 t171 _ ?side1 ?side2 A5.out).mono ?_); (case side1 => repeat (first | exact (Kd.C_below HR0.out HB.out) | (with_reducible refine Kd.C_alloc ?_ _) | (with_reducible refine Kd.C_drewN ?_ _) | (with_reducible refine Kd.C_drew ?_))); (case side2 => exact HC0.out); rintro e w13 ⟨rfl, hb⟩; refine ⟨_, rfl, ?_⟩; have n0_ := Aside0.mk (below_step (by repeat (first | (with_reducible first | exact HB.out | apply below_alloc | apply pw_below_drewN | apply below_drew1) | exact HB.out)) hb); clear HB; have HB := n0_; clear n0_; (try clear hb); (try clear hb2); (try clear hk); (try clear hi)) | ((with_reducible refine gate_callee (f := 30) rfl ?_); refine goesL_ (some 25) rfl rfl Try.func30 (by kernel_rfl) rfl #[.slice A1 l1.length c1] rfl (by (try simp only [List.map_toArray, List.map_cons, List.map_nil]); first | done | rfl | (simp only [List.length_drop, List.length_take]; rfl)) ?_; (with_reducible refine (journal_Text.calls k _ _ l1 t172 t173 _ ?side1 ?side2 A6.out).mono ?_); (case side1 => repeat (first | exact (Kd.C_below HR1.out HB.out) | (with_reducible refine Kd.C_alloc ?_ _) | (with_reducible refine Kd.C_drewN ?_ _) | (with_reducible refine Kd.C_drew ?_))); (case side2 => exact HC1.out); rintro e w14 ⟨rfl, hb⟩; refine ⟨_, rfl, ?_⟩; have n0_ := Aside0.mk (below_step (by repeat (first | (with_reducible first | exact HB.out | apply below_alloc | apply pw_below_drewN | apply below_drew1) | exact HB.out)) hb); clear HB; have HB := n0_; clear n0_; (try clear hb); (try clear hb2); (try clear hk); (try clear hi)) | ((with_reducible refine gate_dst (N := 28) rfl ?_); (try (refine gate_guard (by rfl) ?_; dsimp only)); refine Kd.R_lit Kd.string _ 9 ?hg (N := 28) ?hd (xs := ([] : List ByteArray)) (inner := []) (ok := fun _ => True) (okp := fun _ => True) ?hr ?hp (fun _ hk => hk) trivial (Below.refl _ _) (Nat.le_refl _) (by simp) ?_; (case hd => rfl); (case hg => rfl); (case hr => first | (go_simp; done) | (go_simp; rfl)); (case hp => exact (Reps.none _ _)); intro v175 w15 ho16 hb hg_ hnew_; clear hg_ hnew_; (first | rw [← Ny174.out] at ho16 | (simp only [Int.reduceToNat] at ho16; rw [← Ny174.out] at ho16)); have n0_ := Aside0.mk (Kd.R_lower ho16 (below_size (by repeat (first | (with_reducible first | exact HB.out | apply below_alloc | apply pw_below_drewN | apply below_drew1) | exact HB.out)))); have n1_ := Aside0.mk (below_step (by repeat (first | (with_reducible first | exact HB.out | apply below_alloc | apply pw_below_drewN | apply below_drew1) | exact HB.out)) hb); clear HB; have HO176 := n0_; have HB := n1_; clear n0_ n1_; clear hb ho16) | ((with_reducible refine gate_builtin (b := .append) (xs := #[.tmp 28, .tmp 29]) rfl ?_); (try (refine gate_guard (by rfl) ?_; dsimp only)); at_builtin; refine Kd.R_append_rows Kd.string (w0 := w) w.heap.size rfl (.tmp 28) (.tmp 29) 42 9 (.string ⟨#[]⟩) 16 rfl Try.underlying42 info9 rfl (by decide) (by omega) v175 y174 l0 _ _ _ (fun _ => True) (fun _ => False) rfl rfl ?aO ?aR (fun _ _ h => h) (fun _ h => h.elim) ?aF ?aB ?aS ?aL ?_; (case aR => repeat (first | exact (Kd.C_below HR0.out HB.out) | (with_reducible refine Kd.C_alloc ?_ _) | (with_reducible refine Kd.C_drewN ?_ _) | (with_reducible refine Kd.C_drew ?_))); (case aB => exact (by repeat (first | (with_reducible first | exact HB.out | apply below_alloc | apply pw_below_drewN | apply below_drew1) | exact HB.out))); (case aF => exact (fun _ _ => trivial)); (case aO => exact (by (with_reducible repeat (first | apply Kd.R_alloc | apply Kd.R_drewN | apply Kd.R_drew)); exact HO176.out)); (case aS => exact (below_size (by repeat (first | (with_reducible first | exact HB.out | apply below_alloc | apply pw_below_drewN | apply below_drew1) | exact HB.out)))); (case aL => have := LMc7.out; omega); intro v178 w17 ho hb hg hat; rw [← Ny177.out] at ho; have n0_ := Aside0.mk (hb); have n1_ := Aside0.mk (ho); clear HB; clear HO176; have HB := n0_; have HO179 := n1_; clear n0_ n1_; clear ho hb hg hat) | ((with_reducible refine gate_builtin (b := .append) (xs := #[.tmp 31, .tmp 32]) rfl ?_); (try (refine gate_guard (by rfl) ?_; dsimp only)); at_builtin; refine Kd.R_append_rows Kd.string (w0 := w) w.heap.size rfl (.tmp 31) (.tmp 32) 42 9 (.string ⟨#[]⟩) 16 rfl Try.underlying42 info9 rfl (by decide) (by omega) v178 y177 l1 _ _ _ (fun _ => True) (fun _ => False) rfl rfl ?aO ?aR (fun _ _ h => h) (fun _ h => h.elim) ?aF ?aB ?aS ?aL ?_; (case aR => repeat (first | exact (Kd.C_below HR1.out HB.out) | (with_reducible refine Kd.C_alloc ?_ _) | (with_reducible refine Kd.C_drewN ?_ _) | (with_reducible refine Kd.C_drew ?_))); (case aB => exact (by repeat (first | (with_reducible first | exact HB.out | apply below_alloc | apply pw_below_drewN | apply below_drew1) | exact HB.out))); (case aF => exact (fun _ _ => trivial)); (case aO => exact (by (with_reducible repeat (first | apply Kd.R_alloc | apply Kd.R_drewN | apply Kd.R_drew)); exact HO179.out)); (case aS => exact (below_size (by repeat (first | (with_reducible first | exact HB.out | apply below_alloc | apply pw_below_drewN | apply below_drew1) | exact HB.out)))); (case aL => have := LMc8.out; omega); intro v181 w18 ho hb hg hat; rw [← Ny180.out] at ho; have n0_ := Aside0.mk (hb); have n1_ := Aside0.mk (ho); clear HB; clear HO179; have HB := n0_; have HO182 := n1_; clear n0_ n1_; clear ho hb hg hat; obtain ⟨Ao19, co19, eo19⟩ := Kd.R_slice HO182.out; subst eo19) | ((with_reducible refine gate_callee (f := 30) rfl ?_); refine goesL_ (some 36) rfl rfl Try.func30 (by kernel_rfl) rfl #[.slice Ao19 y180.length co19] rfl (by (try simp only [List.map_toArray, List.map_cons, List.map_nil]); first | done | rfl | (simp only [List.length_drop, List.length_take]; rfl)) ?_; (with_reducible refine (journal_Text.calls k _ _ y180 t183 t184 _ ?side1 ?side2 A9.out).mono ?_); (case side1 => repeat (first | exact (Kd.R_reads' HO182.out).2.2 | (with_reducible refine Kd.C_alloc ?_ _) | (with_reducible refine Kd.C_drewN ?_ _) | (with_reducible refine Kd.C_drew ?_))); (case side2 => exact (Kd.R_reads' HO182.out).2.1); rintro e w20 ⟨rfl, hb⟩; refine ⟨_, rfl, ?_⟩; have n0_ := Aside0.mk (Kd.R_below (by (with_reducible repeat (first | apply Kd.R_alloc | apply Kd.R_drewN | apply Kd.R_drew)); exact HO182.out) hb); have n1_ := Aside0.mk (below_step (by repeat (first | (with_reducible first | exact HB.out | apply below_alloc | apply pw_below_drewN | apply below_drew1) | exact HB.out)) hb); clear HO182; clear HB; have HO182 := n0_; have HB := n1_; clear n0_ n1_; (try clear hb); (try clear hb2); (try clear hk); (try clear hi)) | ((with_reducible refine gate_callee (f := 31) rfl ?_); refine goesL_ (some 41) rfl rfl Try.func31 (by kernel_rfl) rfl #[.slice Ao19 y180.length co19] rfl (by (try simp only [List.map_toArray, List.map_cons, List.map_nil]); first | done | rfl | (simp only [List.length_drop, List.length_take]; rfl)) ?_; (with_reducible refine (grafterref12_JournalText.calls k _ _ y180 t185 t186 _ ?side1 ?side2 A10.out).mono ?_); (case side1 => repeat (first | exact (Kd.R_reads' HO182.out).2.2 | (with_reducible refine Kd.C_alloc ?_ _) | (with_reducible refine Kd.C_drewN ?_ _) | (with_reducible refine Kd.C_drew ?_))); (case side2 => exact (Kd.R_reads' HO182.out).2.1); rintro e w21 ⟨rfl, hb⟩; refine ⟨_, rfl, ?_⟩; have n0_ := Aside0.mk (Kd.R_below (by (with_reducible repeat (first | apply Kd.R_alloc | apply Kd.R_drewN | apply Kd.R_drew)); exact HO182.out) hb); have n1_ := Aside0.mk (below_step (by repeat (first | (with_reducible first | exact HB.out | apply below_alloc | apply pw_below_drewN | apply below_drew1) | exact HB.out)) hb); clear HO182; clear HB; have HO182 := n0_; have HB := n1_; clear n0_ n1_; (try clear hb); (try clear hb2); (try clear hk); (try clear hi)))
        (try simp only [Act.put, List.setIfInBounds_toArray, List.set_cons_zero, List.set_cons_succ])
        go_cut [56] (fun v56 wc => ∃ (kq : Nat) (x56_10 : Bool), v56 = .bool x56_10 ∧ Aside0 (grafterlaw17_JournalTwo.j0 kq t170 t172 y180 t183 t184 t186 x56_10 = some r) ∧ Aside0 (kq ≤ k) ∧ Aside0 (Kd.R Kd.string 9 wc w.heap.size (fun _ => True) (.slice Ao19 y180.length co19) y180) ∧ Aside0 (Below w.heap.size w wc))
        case first =>
          have H := HC11.out
          clear HC11
          replace H := Option.bind_eq_some_iff.mp H
          obtain ⟨t187, A220, H⟩ := H
          replace H : (if t187 = 0 then ((grafterlaw0_Num.f t173).bind fun t188 => (if t188 = 0 then ((grafterlaw0_Num.f t184).bind fun t189 => (grafterlaw17_JournalTwo.j0 k t170 t172 y180 t183 t184 t186 (t189 != 0))) else (grafterlaw17_JournalTwo.j0 k t170 t172 y180 t183 t184 t186 true))) else (grafterlaw17_JournalTwo.j0 k t170 t172 y180 t183 t184 t186 true)) = some r := H
          have A22 := Aside0.mk A220
          clear A220
          by_cases c23 : t187 = 0
          · rw [if_pos c23] at H
            have c23b0 : (t187 == 0) = true := beq_iff_eq.mpr c23
            have c23b1 : (t187 != 0) = false := bne_eq_false_iff_eq.mpr c23
            clear c23
            (first | rw [c23b0] | (simp only [i64_w, i32_w]; rw [c23b0]) | skip)
            replace H := Option.bind_eq_some_iff.mp H
            obtain ⟨t188, A240, H⟩ := H
            replace H : (if t188 = 0 then ((grafterlaw0_Num.f t184).bind fun t189 => (grafterlaw17_JournalTwo.j0 k t170 t172 y180 t183 t184 t186 (t189 != 0))) else (grafterlaw17_JournalTwo.j0 k t170 t172 y180 t183 t184 t186 true)) = some r := H
            have A24 := Aside0.mk A240
            clear A240
            by_cases c25 : t188 = 0
            · rw [if_pos c25] at H
              have c25b0 : (t188 == 0) = true := beq_iff_eq.mpr c25
              have c25b1 : (t188 != 0) = false := bne_eq_false_iff_eq.mpr c25
              clear c25
              replace H := Option.bind_eq_some_iff.mp H
              obtain ⟨t189, A260, H⟩ := H
              replace H : (grafterlaw17_JournalTwo.j0 k t170 t172 y180 t183 t184 t186 (t189 != 0)) = some r := H
              have A26 := Aside0.mk A260
              clear A260
              have H' := Aside0.mk H
              clear H
              go_wp2_with (first | ((with_reducible refine gate_callee (f := 26) rfl ?_); refine goesL_ (some 45) rfl rfl Try.func26 (by kernel_rfl) rfl #[.int .i64 t171] rfl (by (try simp only [List.map_toArray, List.map_cons, List.map_nil]); first | done | rfl | (simp only [List.length_drop, List.length_take]; rfl)) ?_; (with_reducible refine (grafterlaw0_Num.calls t171 t187 _ A22.out).mono ?_); rintro e w' ⟨rfl, ⟨nd, rfl⟩⟩; refine ⟨_, rfl, ?_⟩; (try clear A22)) | (go_at_call 26; (with_reducible refine (grafterlaw0_Num.calls t173 t188 _ A24.out).mono ?_); rintro e w' ⟨rfl, ⟨nd, rfl⟩⟩; (try clear A24)) | (go_at_call 26; (with_reducible refine (grafterlaw0_Num.calls t184 t189 _ A26.out).mono ?_); rintro e w' ⟨rfl, ⟨nd, rfl⟩⟩; (try clear A26)))
              go_meet
              case rel => exact ⟨_, ((t189 != 0)), (by first | rfl | (simp; done) | (simp [*]; done)), H', ⟨by first | omega | exact Nat.le_refl _⟩, ⟨by (with_reducible repeat (first | apply Kd.R_alloc | apply Kd.R_drewN | apply Kd.R_drew)); exact HO182.out⟩, ⟨by repeat (first | (with_reducible first | exact HB.out | apply below_alloc | apply pw_below_drewN | apply below_drew1) | exact HB.out)⟩⟩
            · rw [if_neg c25] at H
              have c25b0 : (t188 == 0) = false := beq_eq_false_iff_ne.mpr c25
              have c25b1 : (t188 != 0) = true := bne_iff_ne.mpr c25
              have H' := Aside0.mk H
              clear H
              go_wp2_with (first | ((with_reducible refine gate_callee (f := 26) rfl ?_); refine goesL_ (some 45) rfl rfl Try.func26 (by kernel_rfl) rfl #[.int .i64 t171] rfl (by (try simp only [List.map_toArray, List.map_cons, List.map_nil]); first | done | rfl | (simp only [List.length_drop, List.length_take]; rfl)) ?_; (with_reducible refine (grafterlaw0_Num.calls t171 t187 _ A22.out).mono ?_); rintro e w' ⟨rfl, ⟨nd, rfl⟩⟩; refine ⟨_, rfl, ?_⟩; (try clear A22)) | (go_at_call 26; (with_reducible refine (grafterlaw0_Num.calls t173 t188 _ A24.out).mono ?_); rintro e w' ⟨rfl, ⟨nd, rfl⟩⟩; (try clear A24)))
              go_meet
              case rel => exact ⟨_, (true), (by first | rfl | (simp; done) | (simp [*]; done)), H', ⟨by first | omega | exact Nat.le_refl _⟩, ⟨by (with_reducible repeat (first | apply Kd.R_alloc | apply Kd.R_drewN | apply Kd.R_drew)); exact HO182.out⟩, ⟨by repeat (first | (with_reducible first | exact HB.out | apply below_alloc | apply pw_below_drewN | apply below_drew1) | exact HB.out)⟩⟩
          · rw [if_neg c23] at H
            have c23b0 : (t187 == 0) = false := beq_eq_false_iff_ne.mpr c23
            have c23b1 : (t187 != 0) = true := bne_iff_ne.mpr c23
            (first | rw [c23b0] | (simp only [i64_w, i32_w]; rw [c23b0]) | skip)
            have H' := Aside0.mk H
            clear H
            go_wp2_with (first | ((with_reducible refine gate_callee (f := 26) rfl ?_); refine goesL_ (some 45) rfl rfl Try.func26 (by kernel_rfl) rfl #[.int .i64 t171] rfl (by (try simp only [List.map_toArray, List.map_cons, List.map_nil]); first | done | rfl | (simp only [List.length_drop, List.length_take]; rfl)) ?_; (with_reducible refine (grafterlaw0_Num.calls t171 t187 _ A22.out).mono ?_); rintro e w' ⟨rfl, ⟨nd, rfl⟩⟩; refine ⟨_, rfl, ?_⟩))
            go_meet
            case rel => exact ⟨_, (true), (by first | rfl | (simp; done) | (simp [*]; done)), H', ⟨by first | omega | exact Nat.le_refl _⟩, ⟨by (with_reducible repeat (first | apply Kd.R_alloc | apply Kd.R_drewN | apply Kd.R_drew)); exact HO182.out⟩, ⟨by repeat (first | (with_reducible first | exact HB.out | apply below_alloc | apply pw_below_drewN | apply below_drew1) | exact HB.out)⟩⟩
        case rest =>
          clear HC11
          try clear c1
          try clear c2
          try clear p2
          try clear c3
          try clear c4
          try clear c7
          try clear c8
          try clear c12
          try clear c23
          try clear c23b0
          try clear c23b1
          try clear c25
          try clear c25b0
          try clear c25b1
          try clear c26
          obtain ⟨kq, x56_10, rfl, HA, HJ10, HO_9, HB⟩ := hcut
          cases kq with
          | zero => exact absurd HA.out (by simp [grafterlaw17_JournalTwo.j0])
          | succ kj10 =>
            have H := HA.out
            clear HA
            simp only [grafterlaw17_JournalTwo.j0] at H
            by_cases c27 : x56_10 = true
            · subst c27
              have H1 : ((grafterlaw0_Num.f t184).bind fun t190 => (some (t190 == t186))) = some r := by rw [if_pos rfl] at H; exact H
              clear H
              have H := H1
              clear H1
              replace H := Option.bind_eq_some_iff.mp H
              obtain ⟨t190, A280, H⟩ := H
              replace H : (some (t190 == t186)) = some r := H
              have A28 := Aside0.mk A280
              clear A280
              obtain rfl := Option.some.inj H
              go_wp2_with (first | ((with_reducible refine gate_callee (f := 26) rfl ?_); refine goesL_ (some 58) rfl rfl Try.func26 (by kernel_rfl) rfl #[.int .i64 t184] rfl (by (try simp only [List.map_toArray, List.map_cons, List.map_nil]); first | done | rfl | (simp only [List.length_drop, List.length_take]; rfl)) ?_; (with_reducible refine (grafterlaw0_Num.calls t184 t190 _ A28.out).mono ?_); rintro e w' ⟨rfl, ⟨nd, rfl⟩⟩; refine ⟨_, rfl, ?_⟩))
              go_ret
              exact ⟨by first | rfl | (simp [errW_none, errW_some] <;> rfl) | (simp [*, errW_none, errW_some] <;> rfl), by repeat (first | (with_reducible first | exact HB.out | apply below_alloc | apply pw_below_drewN | apply below_drew1) | exact HB.out)⟩
            · replace c27 := Bool.eq_false_iff.mpr c27
              subst c27
              have H1 : (if t170.size + t172.size ≤ 9223372036854775807 then ((journal_Load.f kj10 (t170 ++ t172)).bind fun bt191 => (if t183.toList = (t170 ++ t172).toList then ((grafterlaw0_SameTexts.f kj10 bt191.1 y180).bind fun t195 => (if t195 = true then (some (bt191.2 == (t183.size : Int))) else (some false))) else (some false))) else (none)) = some r := by rw [if_neg (show ¬ (false = true) by decide)] at H; exact H
              clear H
              have H := H1
              clear H1
              by_cases c29 : t170.size + t172.size ≤ 9223372036854775807
              · rw [if_pos c29] at H
                have c29b0 := eq_true c29
                have c29b1 : decide (t170.size + t172.size ≤ 9223372036854775807) = true := decide_eq_true c29
                try have c29b2 : (9223372036854775807 < t170.size + t172.size) = False := eq_false (Nat.not_lt.2 c29)
                try simp only [ByteArray.size_append] at c29b2
                replace H := Option.bind_eq_some_iff.mp H
                obtain ⟨⟨t191, t192⟩, A300, H⟩ := H
                replace H : (if t183.toList = (t170 ++ t172).toList then ((grafterlaw0_SameTexts.f kj10 t191 y180).bind fun t195 => (if t195 = true then (some (t192 == (t183.size : Int))) else (some false))) else (some false)) = some r := H
                have A30 := Aside0.mk A300
                clear A300
                by_cases c31 : t183.toList = (t170 ++ t172).toList
                · rw [if_pos c31] at H
                  have c31b0 : (t183.toList == (t170 ++ t172).toList) = true := beq_iff_eq.mpr c31
                  have c31b1 : (t183.toList != (t170 ++ t172).toList) = false := bne_eq_false_iff_eq.mpr c31
                  clear c31
                  replace H := Option.bind_eq_some_iff.mp H
                  obtain ⟨t195, A320, H⟩ := H
                  replace H : (if t195 = true then (some (t192 == (t183.size : Int))) else (some false)) = some r := H
                  have A32 := Aside0.mk A320
                  clear A320
                  by_cases c33 : t195 = true
                  · subst c33
                    have H1 : (some (t192 == (t183.size : Int))) = some r := by rw [if_pos rfl] at H; exact H
                    clear H
                    have H := H1
                    clear H1
                    obtain rfl := Option.some.inj H
                    go_wp2_with (first | ((with_reducible refine gate_callee (f := 32) rfl ?_); refine goesL_ (some 65) rfl rfl Try.func32 (by kernel_rfl) rfl #[.string (t170 ++ t172)] rfl (by (try simp only [List.map_toArray, List.map_cons, List.map_nil]); first | done | rfl | (simp only [List.length_drop, List.length_take]; rfl)) ?_; (with_reducible refine (journal_Load.calls kj10 (t170 ++ t172) t191 t192 _ A30.out).mono ?_); rintro e w34 ⟨v193, rfl, ho0, hb⟩; refine ⟨_, rfl, ?_⟩; have n0_ := Aside0.mk (Kd.R_elder' (by (with_reducible repeat (first | apply Kd.R_alloc | apply Kd.R_drewN | apply Kd.R_drew)); exact HO_9.out) (Kd.R_base ho0) hb); have n1_ := Aside0.mk (Kd.R_lower (Kd.R_new' ho0 (Kd.R_lt (by (with_reducible repeat (first | apply Kd.R_alloc | apply Kd.R_drewN | apply Kd.R_drew)); exact HO_9.out))) (below_size (by repeat (first | (with_reducible first | exact HB.out | apply below_alloc | apply pw_below_drewN | apply below_drew1) | exact HB.out)))); have n2_ := Aside0.mk (below_step (by repeat (first | (with_reducible first | exact HB.out | apply below_alloc | apply pw_below_drewN | apply below_drew1) | exact HB.out)) hb); clear HO_9; clear HB; have HO_9 := n0_; have HO194 := n1_; have HB := n2_; clear n0_ n1_ n2_; (try clear hb); (try clear hb2); (try clear hk); (try clear hi); (try clear ho0); obtain ⟨Ao35, co35, eo35⟩ := Kd.R_slice HO194.out; subst eo35) | (go_at_call 34; (with_reducible refine (grafterlaw0_SameTexts.calls kj10 _ _ t191 _ _ y180 true _ ?side1 ?side2 ?side3 ?side4 A32.out).mono ?_); (case side1 => repeat (first | exact (Kd.R_reads' HO194.out).2.2 | (with_reducible refine Kd.C_alloc ?_ _) | (with_reducible refine Kd.C_drewN ?_ _) | (with_reducible refine Kd.C_drew ?_))); (case side2 => exact (Kd.R_reads' HO194.out).2.1); (case side3 => repeat (first | exact (Kd.R_reads' HO_9.out).2.2 | (with_reducible refine Kd.C_alloc ?_ _) | (with_reducible refine Kd.C_drewN ?_ _) | (with_reducible refine Kd.C_drew ?_))); (case side4 => exact (Kd.R_reads' HO_9.out).2.1); rintro e w' ⟨rfl, ⟨nd, rfl⟩⟩))
                    go_ret
                    exact ⟨by first | rfl | (simp [errW_none, errW_some] <;> rfl) | (simp [*, errW_none, errW_some] <;> rfl), by repeat (first | (with_reducible first | exact HB.out | apply below_alloc | apply pw_below_drewN | apply below_drew1) | exact HB.out)⟩
                  · replace c33 := Bool.eq_false_iff.mpr c33
                    subst c33
                    have H1 : (some false) = some r := by rw [if_neg (show ¬ (false = true) by decide)] at H; exact H
                    clear H
                    have H := H1
                    clear H1
                    exact absurd ((Option.some.inj H).trans HRT.out) Bool.false_ne_true
                · rw [if_neg c31] at H
                  have c31b0 : (t183.toList == (t170 ++ t172).toList) = false := beq_eq_false_iff_ne.mpr c31
                  have c31b1 : (t183.toList != (t170 ++ t172).toList) = true := bne_iff_ne.mpr c31
                  exact absurd ((Option.some.inj H).trans HRT.out) Bool.false_ne_true
              · rw [if_neg c29] at H
                exact absurd H (by simp)
      · rw [if_neg c8] at H
        exact absurd H (by simp)
    · rw [if_neg c7] at H
      exact absurd H (by simp)
  · replace c4 := Bool.eq_false_iff.mpr c4
    subst c4
    have H1 : (some false) = some r := by rw [if_neg (show ¬ (false = true) by decide)] at H; exact H
    clear H
    have H := H1
    clear H1
    exact absurd ((Option.some.inj H).trans HRT.out) Bool.false_ne_true

def grafterlaw17_JournalTwo.Pure : Prop := ∀ (l0 : List ByteArray) (l1 : List ByteArray), l0.length * 16 ≤ 140737488351232 → l1.length * 16 ≤ 140737488351232 → ∃ k, grafterlaw17_JournalTwo.f k l0 l1 = some true
theorem grafterlaw17_JournalTwo.walk (P : grafterlaw17_JournalTwo.Pure) (a0 : Option Addr) (cap0 : Nat) (l0 : List ByteArray) (a1 : Option Addr) (cap1 : Nat) (l1 : List ByteArray) (w : World) (hr0 : Kd.C Kd.string w a0 l0.length l0) (hc0 : l0.length ≤ cap0) (y0 : l0.length * 16 ≤ 140737488351232) (hr1 : Kd.C Kd.string w a1 l1.length l1) (hc1 : l1.length ≤ cap1) (y1 : l1.length * 16 ≤ 140737488351232) :
    Calls Try.prog 12 #[.slice a0 l0.length cap0, .slice a1 l1.length cap1] w fun e w' => e = .returned (.bool true) ∧ Below w.heap.size w w' := by
  obtain ⟨k, h⟩ := P l0 l1 y0 y1
  refine (grafterlaw17_JournalTwo.calls k _ _ l0 _ _ l1 true w rfl hr0 hc0 hr1 hc1 h).mono ?_
  rintro e w' ⟨rfl, hd⟩
  exact ⟨rfl, hd⟩

end Go.Proofs.Ytbhkmgidokonkaa.PJournalTwo
