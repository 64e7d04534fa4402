-- Written by a program of this session (pprint.py) out of the translation, with hand-proved walks pasted in.
import Derived.Test.YtbhkmgidokonkaaPJournalFormsx0
import Derived.Test.YtbhkmgidokonkaaPJournalFormsx1
import Derived.Test.YtbhkmgidokonkaaPJournalFormsx2
namespace Go.Proofs.Ytbhkmgidokonkaa.PJournalForms
open Go.RowKit Go.Proofs.YtbhkmgidokonkaaW.PrintWords Go.Proofs.YtbhkmgidokonkaaW.PrintLast Go.Proofs.YtbhkmgidokonkaaW.PrintMore
attribute [local go_sem] max2_int min2_int max_two min_two max_three min_three max_four min_four   -- for this text's walks alone
set_option linter.unusedVariables false
set_option linter.unusedSimpArgs false

/-! ### grafterlaw17_JournalForms: function 10 -/
def grafterlaw17_JournalForms.l0 : Nat → Int → Int → List ByteArray → Int → Option (Bool)
  | 0, _, _, _, _ => none
  | k + 1, x0, x7, x8, x9 => if x9 < 63 then (if 1024 ≤ 281474976710656 then (if x8.length < 8796093022208 then (grafterlaw17_JournalForms.l0 k x0 x7 (x8 ++ [strOfNums (List.replicate 1024 0)]) (wrap64 (x9 + 1))) else (none)) else (none)) else ((journal_Text.f k x8).bind fun bt174 => (if 0 ≤ (wrap64 (640 + (Go.bits .and .i64 x0 63))) then (if (wrap64 (640 + (Go.bits .and .i64 x0 63)) : Int).toNat ≤ 281474976710656 then (if x8.length < 8796093022208 then ((journal_Text.f k (x8 ++ [strOfNums (List.replicate (wrap64 (640 + (Go.bits .and .i64 x0 63)) : Int).toNat 0)])).bind fun bt182 => ((grafterlaw0_Num.f x7).bind fun t184 => (if t184 = 1700 then (if (bt174.1.size : Int) = 64890 then ((grafterlaw0_Num.f bt174.2).bind fun t185 => (if t185 = 0 then (if (Go.bits .and .i64 x0 63) = 0 then ((grafterlaw0_Num.f bt182.2).bind fun t186 => (if t186 = 0 then (if (bt182.1.size : Int) = 65536 then (some true) else (if (Go.bits .and .i64 x0 63) > 0 then (if bt182.1.toList = ([] : List UInt8) then ((grafterlaw0_Num.f bt182.2).bind fun t187 => (some (t187 == 1700))) else (some false)) else (some false))) else (if (Go.bits .and .i64 x0 63) > 0 then (if bt182.1.toList = ([] : List UInt8) then ((grafterlaw0_Num.f bt182.2).bind fun t188 => (some (t188 == 1700))) else (some false)) else (some false)))) else (if (Go.bits .and .i64 x0 63) > 0 then (if bt182.1.toList = ([] : List UInt8) then ((grafterlaw0_Num.f bt182.2).bind fun t189 => (some (t189 == 1700))) else (some false)) else (some false))) else (some false))) else (some false)) else (some false)))) else (none)) else (none)) else (none)))
def grafterlaw17_JournalForms.f (k : Nat) (a0 : Int) (a1 : Int) : Option (Bool) := (grafterlaw17_awake.f k).bind fun t159 => (if t159 = true then (if 0 ≤ (wrap64 (1024 + (wrap64 (1 + (Go.bits .and .i64 a1 1023))))) then (if (wrap64 (1024 + (wrap64 (1 + (Go.bits .and .i64 a1 1023)))) : Int).toNat ≤ 281474976710656 then ((journal_Text.f k (([(⟨#[97]⟩ : ByteArray), strOfNums (List.replicate (wrap64 (1024 + (wrap64 (1 + (Go.bits .and .i64 a1 1023)))) : Int).toNat 0)] : List ByteArray))).bind fun bt166 => (grafterlaw17_JournalForms.l0 k a0 bt166.2 ([] : List ByteArray) 0)) else (none)) else (none)) else (some false))
theorem grafterlaw17_JournalForms.mono_l : ∀ k, (∀ y0 y1 y2 y3, LeO (grafterlaw17_JournalForms.l0 k y0 y1 y2 y3) (grafterlaw17_JournalForms.l0 (k + 1) y0 y1 y2 y3))
  | 0 => fun _ _ _ _ r h => by simp [grafterlaw17_JournalForms.l0] at h
  | k + 1 => by
    have ih0 := grafterlaw17_JournalForms.mono_l k
    · intro y0 y1 y2 y3
      unfold grafterlaw17_JournalForms.l0
      repeat' first
      | (with_reducible exact ih0 _ _ _ _)
      | (with_reducible exact grafterlaw17_awake.mono _)
      | (with_reducible exact journal_Text.mono _ _)
      | (with_reducible exact LeO.refl _)
      | (with_reducible exact LeO.none _)
      | (with_reducible refine LeO.ite ?_ ?_)
      | (with_reducible refine LeO.bind ?_ (fun _ => ?_))
      | exact ih0 _ _ _ _
      | exact grafterlaw17_awake.mono _
      | exact journal_Text.mono _ _
      | exact LeO.none _
      | refine LeO.ite ?_ ?_
      | refine LeO.bind ?_ (fun _ => ?_)
theorem grafterlaw17_JournalForms.mono : ∀ a0 a1 k, LeO (grafterlaw17_JournalForms.f k a0 a1) (grafterlaw17_JournalForms.f (k + 1) a0 a1) := by
  intro a0 a1 k
  have ih0 := grafterlaw17_JournalForms.mono_l k
  unfold grafterlaw17_JournalForms.f
  repeat' first
      | (with_reducible exact ih0 _ _ _ _)
      | (with_reducible exact grafterlaw17_awake.mono _)
      | (with_reducible exact journal_Text.mono _ _)
      | (with_reducible exact LeO.refl _)
      | (with_reducible exact LeO.none _)
      | (with_reducible refine LeO.ite ?_ ?_)
      | (with_reducible refine LeO.bind ?_ (fun _ => ?_))
      | exact ih0 _ _ _ _
      | exact grafterlaw17_awake.mono _
      | exact journal_Text.mono _ _
      | exact LeO.none _
      | refine LeO.ite ?_ ?_
      | refine LeO.bind ?_ (fun _ => ?_)
set_option maxHeartbeats 8000000 in
set_option maxRecDepth 100000 in
theorem grafterlaw17_JournalForms.calls (k : Nat) (a0 : Int) (a1 : Int) (r : Bool) (w : World) (hrt : r = true) (h : grafterlaw17_JournalForms.f k a0 a1 = some r) :
    Calls Try.prog 10 #[.int .i64 a0, .int .i64 a1] w fun e w' => e = .returned (.bool r) ∧ Below w.heap.size w w' := by
  have HRT := Aside0.mk hrt
  clear hrt
  have HB := Aside0.mk (Below.refl w.heap.size w)
  have H : ((grafterlaw17_awake.f k).bind fun t159 => (if t159 = true then (if 0 ≤ (wrap64 (1024 + (wrap64 (1 + (Go.bits .and .i64 a1 1023))))) then (if (wrap64 (1024 + (wrap64 (1 + (Go.bits .and .i64 a1 1023)))) : Int).toNat ≤ 281474976710656 then ((journal_Text.f k (([(⟨#[97]⟩ : ByteArray), strOfNums (List.replicate (wrap64 (1024 + (wrap64 (1 + (Go.bits .and .i64 a1 1023)))) : Int).toNat 0)] : List ByteArray))).bind fun bt166 => (grafterlaw17_JournalForms.l0 k a0 bt166.2 ([] : List ByteArray) 0)) else (none)) else (none)) else (some false))) = some r := h
  clear h
  replace H := Option.bind_eq_some_iff.mp H
  obtain ⟨t159, A30, H⟩ := H
  replace H : (if t159 = true then (if 0 ≤ (wrap64 (1024 + (wrap64 (1 + (Go.bits .and .i64 a1 1023))))) then (if (wrap64 (1024 + (wrap64 (1 + (Go.bits .and .i64 a1 1023)))) : Int).toNat ≤ 281474976710656 then ((journal_Text.f k (([(⟨#[97]⟩ : ByteArray), strOfNums (List.replicate (wrap64 (1024 + (wrap64 (1 + (Go.bits .and .i64 a1 1023)))) : Int).toNat 0)] : List ByteArray))).bind fun bt166 => (grafterlaw17_JournalForms.l0 k a0 bt166.2 ([] : List ByteArray) 0)) else (none)) else (none)) else (some false)) = some r := H
  have A3 := Aside0.mk A30
  clear A30
  by_cases c4 : t159 = true
  · subst c4
    have H1 : (if 0 ≤ (wrap64 (1024 + (wrap64 (1 + (Go.bits .and .i64 a1 1023))))) then (if (wrap64 (1024 + (wrap64 (1 + (Go.bits .and .i64 a1 1023)))) : Int).toNat ≤ 281474976710656 then ((journal_Text.f k (([(⟨#[97]⟩ : ByteArray), strOfNums (List.replicate (wrap64 (1024 + (wrap64 (1 + (Go.bits .and .i64 a1 1023)))) : Int).toNat 0)] : List ByteArray))).bind fun bt166 => (grafterlaw17_JournalForms.l0 k a0 bt166.2 ([] : List ByteArray) 0)) else (none)) else (none)) = some r := by rw [if_pos rfl] at H; exact H
    clear H
    have H := H1
    clear H1
    obtain ⟨ji5, hji5⟩ : ∃ j_ : Int, (wrap64 (1024 + (wrap64 (1 + (Go.bits .and .i64 a1 1023))))) = j_ := ⟨_, rfl⟩
    replace H : (if 0 ≤ (ji5) then (if (ji5 : Int).toNat ≤ 281474976710656 then ((journal_Text.f k (([(⟨#[97]⟩ : ByteArray), strOfNums (List.replicate (ji5 : Int).toNat 0)] : List ByteArray))).bind fun bt166 => (grafterlaw17_JournalForms.l0 k a0 bt166.2 ([] : List ByteArray) 0)) else (none)) else (none)) = some r := by first | (rw [hji5] at H; exact H) | (simp only [hji5] at H ⊢; exact H)
    (try rw [hji5] at A3)
    have hji5w : (IntKind.i64.wrap (1024 + (wrap64 (1 + (Go.bits .and .i64 a1 1023))))) = ji5 := (i64_w _).trans hji5
    by_cases c6 : 0 ≤ (ji5)
    · rw [if_pos c6] at H
      have c6b0 := eq_true c6
      have c6b1 : decide (0 ≤ (ji5)) = true := decide_eq_true c6
      clear c6
      by_cases c7 : (ji5 : Int).toNat ≤ 281474976710656
      · rw [if_pos c7] at H
        have c7b0 := eq_true c7
        have c7b1 : decide ((ji5 : Int).toNat ≤ 281474976710656) = true := decide_eq_true c7
        clear c7
        obtain ⟨y160, hy160⟩ : ∃ y_ : List Int, y_ = (List.replicate (ji5 : Int).toNat 0) := ⟨_, rfl⟩
        replace H : ((journal_Text.f k (([(⟨#[97]⟩ : ByteArray), strOfNums y160] : List ByteArray))).bind fun bt166 => (grafterlaw17_JournalForms.l0 k a0 bt166.2 ([] : List ByteArray) 0)) = some r := by first | (rw [hy160]; with_reducible exact H) | (have H2_ := (Option.bind_some _ _).symm.trans H; rw [hy160]; with_reducible exact H2_) | (have H2_ := (Option.bind_some _ _).symm.trans H; with_reducible exact H2_) | with_reducible exact H | (rw [hy160]; exact H) | exact H
        have Ny160 := Aside0.mk hy160
        clear hy160
        obtain ⟨y163, hy163⟩ : ∃ y_ : List ByteArray, y_ = (([(⟨#[97]⟩ : ByteArray), strOfNums y160] : List ByteArray)) := ⟨_, rfl⟩
        replace H : ((journal_Text.f k y163).bind fun bt166 => (grafterlaw17_JournalForms.l0 k a0 bt166.2 ([] : List ByteArray) 0)) = some r := by first | (rw [hy163]; with_reducible exact H) | (have H2_ := (Option.bind_some _ _).symm.trans H; rw [hy163]; with_reducible exact H2_) | (have H2_ := (Option.bind_some _ _).symm.trans H; with_reducible exact H2_) | with_reducible exact H | (rw [hy163]; exact H) | exact H
        have Ny163 := Aside0.mk hy163
        clear hy163
        replace H := Option.bind_eq_some_iff.mp H
        obtain ⟨⟨t166, t167⟩, A80, H⟩ := H
        replace H : (grafterlaw17_JournalForms.l0 k a0 t167 ([] : List ByteArray) 0) = some r := H
        have A8 := Aside0.mk A80
        clear A80
        have H' := Aside0.mk H
        clear H
        go_enter Try.func10, Try.ntmps10
        go_wp2_with (first | ((with_reducible refine gate_callee (f := 37) rfl ?_); refine goesL_ (some 14) rfl rfl Try.func37 (by kernel_rfl) rfl #[] rfl (by (try simp only [List.map_toArray, List.map_cons, List.map_nil]); first | done | rfl | (simp only [List.length_drop, List.length_take]; rfl)) ?_; (with_reducible refine (grafterlaw17_awake.calls k  true _ rfl A3.out).mono ?_); rintro e w9 ⟨rfl, hb⟩; refine ⟨_, rfl, ?_⟩; have n0_ := Aside0.mk (below_step (by repeat (first | (with_reducible first | exact HB.out | apply below_alloc | apply pw_below_drewN | apply below_drew1) | exact HB.out)) hb); clear HB; have HB := n0_; clear n0_; (try clear hb); (try clear hb2); (try clear hk); (try clear hi)) | ((with_reducible refine gate_dst (N := 22) rfl ?_); (try (refine gate_guard (by rfl) ?_; dsimp only)); refine Kd.R_make (Kd.int .u8) _ 5 rfl (N := 22) rfl 34 _ _ rfl ji5 rfl rfl Try.underlying34 (.int .u8 0) 1 info5 rfl (by decide) (by omega) 0 (ok := fun _ => True) (okp := fun _ => True) rfl (fun _ hk => hk) trivial (of_decide_eq_true (by first | (with_reducible assumption) | assumption)) (Nat.le_trans (Nat.mul_le_mul_right _ (of_decide_eq_true (by first | (with_reducible assumption) | assumption) : ji5.toNat ≤ 281474976710656)) (by omega)) (Below.refl _ _) (Nat.le_refl _) ?_; intro v161 w10 ho11 hb hg_ hnew_; clear hg_ hnew_; (first | rw [← Ny160.out] at ho11 | (simp only [Int.reduceToNat] at ho11; rw [← Ny160.out] at ho11)); have n0_ := Aside0.mk (Kd.R_lower ho11 (below_size (by repeat (first | (with_reducible first | exact HB.out | apply below_alloc | apply pw_below_drewN | apply below_drew1) | exact HB.out)))); have n1_ := Aside0.mk (below_step (by repeat (first | (with_reducible first | exact HB.out | apply below_alloc | apply pw_below_drewN | apply below_drew1) | exact HB.out)) hb); clear HB; have HO162 := n0_; have HB := n1_; clear n0_ n1_; clear hb ho11; have hcv12 := own_string (P := Try.prog) Try.underlying34 Try.underlying5 Try.underlying9 (Kd.own_of_R HO162.out)) | ((with_reducible refine gate_dst (N := 24) rfl ?_); (try (refine gate_guard (by rfl) ?_; dsimp only)); refine Kd.R_lit Kd.string _ 9 ?hg (N := 24) ?hd (xs := ([(⟨#[97]⟩ : ByteArray), strOfNums y160] : List ByteArray)) (inner := [.string (⟨#[97]⟩ : ByteArray), .string (strOfNums y160)]) (ok := fun _ => True) (okp := fun _ => True) ?hr ?hp (fun _ hk => hk) trivial (Below.refl _ _) (Nat.le_refl _) (by simp) ?_; (case hd => rfl); (case hg => rfl); (case hr => first | (go_simp; done) | (go_simp; rfl)); (case hp => exact (Reps.one (show Kd.M Kd.string _ _ _ (⟨#[97]⟩ : ByteArray) [.string (⟨#[97]⟩ : ByteArray)] from rfl) (Reps.one (show Kd.M Kd.string _ _ _ (strOfNums y160) [.string (strOfNums y160)] from rfl) (Reps.none _ _)))); intro v164 w13 ho14 hb hg_ hnew_; clear hg_ hnew_; (first | rw [← Ny163.out] at ho14 | (simp only [Int.reduceToNat] at ho14; rw [← Ny163.out] at ho14)); have n0_ := Aside0.mk (Kd.R_below (by (with_reducible repeat (first | apply Kd.R_alloc | apply Kd.R_drewN | apply Kd.R_drew)); exact HO162.out) hb); have n1_ := Aside0.mk (Kd.R_lower ho14 (below_size (by repeat (first | (with_reducible first | exact HB.out | apply below_alloc | apply pw_below_drewN | apply below_drew1) | exact HB.out)))); have n2_ := Aside0.mk (below_step (by repeat (first | (with_reducible first | exact HB.out | apply below_alloc | apply pw_below_drewN | apply below_drew1) | exact HB.out)) hb); clear HO162; clear HB; have HO162 := n0_; have HO165 := n1_; have HB := n2_; clear n0_ n1_ n2_; clear hb ho14; obtain ⟨Ao15, co15, eo15⟩ := Kd.R_slice HO165.out; subst eo15) | ((with_reducible refine gate_callee (f := 30) rfl ?_); refine goesL_ (some 25) rfl rfl Try.func30 (by kernel_rfl) rfl #[.slice Ao15 y163.length co15] rfl (by (try simp only [List.map_toArray, List.map_cons, List.map_nil]); first | done | rfl | (simp only [List.length_drop, List.length_take]; rfl)) ?_; (with_reducible refine (journal_Text.calls k _ _ y163 t166 t167 _ ?side1 ?side2 A8.out).mono ?_); (case side1 => repeat (first | exact (Kd.R_reads' HO165.out).2.2 | (with_reducible refine Kd.C_alloc ?_ _) | (with_reducible refine Kd.C_drewN ?_ _) | (with_reducible refine Kd.C_drew ?_))); (case side2 => exact (Kd.R_reads' HO165.out).2.1); rintro e w16 ⟨rfl, hb⟩; refine ⟨_, rfl, ?_⟩; have n0_ := Aside0.mk (Kd.R_below (by (with_reducible repeat (first | apply Kd.R_alloc | apply Kd.R_drewN | apply Kd.R_drew)); exact HO162.out) hb); have n1_ := Aside0.mk (Kd.R_below (by (with_reducible repeat (first | apply Kd.R_alloc | apply Kd.R_drewN | apply Kd.R_drew)); exact HO165.out) hb); have n2_ := Aside0.mk (below_step (by repeat (first | (with_reducible first | exact HB.out | apply below_alloc | apply pw_below_drewN | apply below_drew1) | exact HB.out)) hb); clear HO162; clear HO165; clear HB; have HO162 := n0_; have HO165 := n1_; have HB := n2_; clear n0_ n1_ n2_; (try clear hb); (try clear hb2); (try clear hk); (try clear hi)))
        go_loopg [8, 9] k (fun kq v8 v9 w' => ∃ (x8_1 : List ByteArray) (x9_1 : Int), v9 = .int .i64 x9_1 ∧ Aside0 (grafterlaw17_JournalForms.l0 kq a0 t167 x8_1 x9_1 = some r) ∧ Aside0 (kq ≤ k) ∧ Aside0 (Kd.R Kd.string 9 w' w.heap.size (fun _ => True) v8 x8_1) ∧ Aside0 (Below w.heap.size w w'))
        case atStart => exact ⟨(([] : List ByteArray)), (0), (by first | rfl | (simp; done) | (simp [*]; done)), H', ⟨Nat.le_refl _⟩, ⟨by first | exact Kd.R_nil _ _ _ _ _ | exact Kd.N_nil _ _ _ _ _ | exact Kd.V_nil _ _ _ _ _ | exact Kd.Q_nil _ _ _ _ _ | exact Kd.S_nil _ _ _ _ _⟩, ⟨by repeat (first | (with_reducible first | exact HB.out | apply below_alloc | apply pw_below_drewN | apply below_drew1) | exact HB.out)⟩⟩
        case round =>
          clear H'
          try clear c1
          try clear hcv1
          try clear p2
          try clear c3
          try clear c4
          try clear c6
          try clear c6b0
          try clear c6b1
          try clear p6
          try clear c7
          try clear c7b0
          try clear c7b1
          try clear c10
          try clear hcv12
          obtain ⟨x8_1, x9_1, rfl, HA, HK1, HO_8, HB⟩ := hrel
          cases gk with
          | zero => exact absurd HA.out (by simp [grafterlaw17_JournalForms.l0])
          | succ k1 =>
            have H := HA.out
            clear HA
            simp only [grafterlaw17_JournalForms.l0] at H
            by_cases c17 : x9_1 < 63
            · rw [if_pos c17] at H
              have c17b0 : decide (x9_1 < 63) = true := decide_eq_true c17
              clear c17
              by_cases c18 : 1024 ≤ 281474976710656
              · rw [if_pos c18] at H
                have c18b0 := eq_true c18
                have c18b1 : decide (1024 ≤ 281474976710656) = true := decide_eq_true c18
                clear c18
                obtain ⟨y168, hy168⟩ : ∃ y_ : List Int, y_ = (List.replicate 1024 0) := ⟨_, rfl⟩
                replace H : (if x8_1.length < 8796093022208 then (grafterlaw17_JournalForms.l0 k1 a0 t167 (x8_1 ++ [strOfNums y168]) (wrap64 (x9_1 + 1))) else (none)) = some r := by first | (rw [hy168]; with_reducible exact H) | (have H2_ := (Option.bind_some _ _).symm.trans H; rw [hy168]; with_reducible exact H2_) | (have H2_ := (Option.bind_some _ _).symm.trans H; with_reducible exact H2_) | with_reducible exact H | (rw [hy168]; exact H) | exact H
                have Ny168 := Aside0.mk hy168
                clear hy168
                by_cases c19 : x8_1.length < 8796093022208
                · rw [if_pos c19] at H
                  have LMc19 := Aside0.mk c19
                  clear c19
                  obtain ⟨y171, hy171⟩ : ∃ y_ : List ByteArray, y_ = (x8_1 ++ [strOfNums y168]) := ⟨_, rfl⟩
                  replace H : (grafterlaw17_JournalForms.l0 k1 a0 t167 y171 (wrap64 (x9_1 + 1))) = some r := by first | (rw [hy171]; with_reducible exact H) | (have H2_ := (Option.bind_some _ _).symm.trans H; rw [hy171]; with_reducible exact H2_) | (have H2_ := (Option.bind_some _ _).symm.trans H; with_reducible exact H2_) | with_reducible exact H | (rw [hy171]; exact H) | exact H
                  have Ny171 := Aside0.mk hy171
                  clear hy171
                  have H' := Aside0.mk H
                  clear H
                  go_wp2_with (first | ((with_reducible refine gate_dst (N := 33) rfl ?_); (try (refine gate_guard (by rfl) ?_; dsimp only)); refine Kd.R_make (Kd.int .u8) _ 5 rfl (N := 33) rfl 34 _ _ rfl 1024 rfl rfl Try.underlying34 (.int .u8 0) 1 info5 rfl (by decide) (by omega) 0 (ok := fun _ => True) (okp := fun _ => True) rfl (fun _ hk => hk) trivial (by omega) (by omega) (Below.refl _ _) (Nat.le_refl _) ?_; intro v169 w20 ho21 hb hg_ hnew_; clear hg_ hnew_; (first | rw [← Ny168.out] at ho21 | (simp only [Int.reduceToNat] at ho21; rw [← Ny168.out] at ho21)); have n0_ := Aside0.mk (Kd.R_below (by (with_reducible repeat (first | apply Kd.R_alloc | apply Kd.R_drewN | apply Kd.R_drew)); exact HO_8.out) hb); have n1_ := Aside0.mk (Kd.R_lower ho21 (below_size (by repeat (first | (with_reducible first | exact HB.out | apply below_alloc | apply pw_below_drewN | apply below_drew1) | exact HB.out)))); have n2_ := Aside0.mk (below_step (by repeat (first | (with_reducible first | exact HB.out | apply below_alloc | apply pw_below_drewN | apply below_drew1) | exact HB.out)) hb); clear HO_8; clear HB; have HO_8 := n0_; have HO170 := n1_; have HB := n2_; clear n0_ n1_ n2_; clear hb ho21; have hcv22 := own_string (P := Try.prog) Try.underlying34 Try.underlying5 Try.underlying9 (Kd.own_of_R HO170.out)) | ((with_reducible refine gate_builtin (b := .append) (xs := #[.tmp 32, .tmp 35]) rfl ?_); (try (refine gate_guard (by rfl) ?_; dsimp only)); at_builtin; refine Kd.R_append Kd.string (w0 := w) w.heap.size rfl (.tmp 32) (.tmp 35) 42 9 (.string ⟨#[]⟩) 16 rfl Try.underlying42 info9 rfl (by decide) (by omega) u8 x8_1 (strOfNums y168) [.string (strOfNums y168)] (fun _ => True) (fun _ => False) rfl rfl ?aP (fun _ hk => hk.elim) ?aF ?aO ?aB ?aS ?aL ?_; (case aP => exact rfl); (case aB => exact (by repeat (first | (with_reducible first | exact HB.out | apply below_alloc | apply pw_below_drewN | apply below_drew1) | exact HB.out))); (case aF => exact (fun _ _ => trivial)); (case aO => exact (by (with_reducible repeat (first | apply Kd.R_alloc | apply Kd.R_drewN | apply Kd.R_drew)); exact HO_8.out)); (case aS => exact (below_size (by repeat (first | (with_reducible first | exact HB.out | apply below_alloc | apply pw_below_drewN | apply below_drew1) | exact HB.out)))); (case aL => have := LMc19.out; omega); intro v172 w23 ho hb hg hat; rw [← Ny171.out] at ho; have n0_ := Aside0.mk (Kd.R_over' (by (with_reducible repeat (first | apply Kd.R_alloc | apply Kd.R_drewN | apply Kd.R_drew)); exact HO170.out) (Kd.R_typed (by (with_reducible repeat (first | apply Kd.R_alloc | apply Kd.R_drewN | apply Kd.R_drew)); exact HO_8.out)) (by decide) hg); have n1_ := Aside0.mk (hb); have n2_ := Aside0.mk (ho); clear HO170; clear HB; clear HO_8; have HO170 := n0_; have HB := n1_; have HO173 := n2_; clear n0_ n1_ n2_; clear ho hb hg hat))
                  go_roundg k1
                  case measure => have := HK1.out; omega
                  case rel => exact ⟨(y171), (wrap64 (x9_1 + 1)), (by first | rfl | (simp; done) | (simp [*]; done)), H', ⟨by have := HK1.out; omega⟩, ⟨by (with_reducible repeat (first | apply Kd.R_alloc | apply Kd.R_drewN | apply Kd.R_drew)); exact HO173.out⟩, ⟨by repeat (first | (with_reducible first | exact HB.out | apply below_alloc | apply pw_below_drewN | apply below_drew1) | exact HB.out)⟩⟩
                · rw [if_neg c19] at H
                  exact absurd H (by simp)
              · rw [if_neg c18] at H
                exact absurd H (by simp)
            · rw [if_neg c17] at H
              have c17b0 : decide (x9_1 < 63) = false := decide_eq_false c17
              clear c17
              replace H := Option.bind_eq_some_iff.mp H
              obtain ⟨⟨t174, t175⟩, A240, H⟩ := H
              replace H : (if 0 ≤ (wrap64 (640 + (Go.bits .and .i64 a0 63))) then (if (wrap64 (640 + (Go.bits .and .i64 a0 63)) : Int).toNat ≤ 281474976710656 then (if x8_1.length < 8796093022208 then ((journal_Text.f k1 (x8_1 ++ [strOfNums (List.replicate (wrap64 (640 + (Go.bits .and .i64 a0 63)) : Int).toNat 0)])).bind fun bt182 => ((grafterlaw0_Num.f t167).bind fun t184 => (if t184 = 1700 then (if (t174.size : Int) = 64890 then ((grafterlaw0_Num.f t175).bind fun t185 => (if t185 = 0 then (if (Go.bits .and .i64 a0 63) = 0 then ((grafterlaw0_Num.f bt182.2).bind fun t186 => (if t186 = 0 then (if (bt182.1.size : Int) = 65536 then (some true) else (if (Go.bits .and .i64 a0 63) > 0 then (if bt182.1.toList = ([] : List UInt8) then ((grafterlaw0_Num.f bt182.2).bind fun t187 => (some (t187 == 1700))) else (some false)) else (some false))) else (if (Go.bits .and .i64 a0 63) > 0 then (if bt182.1.toList = ([] : List UInt8) then ((grafterlaw0_Num.f bt182.2).bind fun t188 => (some (t188 == 1700))) else (some false)) else (some false)))) else (if (Go.bits .and .i64 a0 63) > 0 then (if bt182.1.toList = ([] : List UInt8) then ((grafterlaw0_Num.f bt182.2).bind fun t189 => (some (t189 == 1700))) else (some false)) else (some false))) else (some false))) else (some false)) else (some false)))) else (none)) else (none)) else (none)) = some r := H
              have A24 := Aside0.mk A240
              clear A240
              obtain ⟨ji25, hji25⟩ : ∃ j_ : Int, (wrap64 (640 + (Go.bits .and .i64 a0 63))) = j_ := ⟨_, rfl⟩
              replace H : (if 0 ≤ (ji25) then (if (ji25 : Int).toNat ≤ 281474976710656 then (if x8_1.length < 8796093022208 then ((journal_Text.f k1 (x8_1 ++ [strOfNums (List.replicate (ji25 : Int).toNat 0)])).bind fun bt182 => ((grafterlaw0_Num.f t167).bind fun t184 => (if t184 = 1700 then (if (t174.size : Int) = 64890 then ((grafterlaw0_Num.f t175).bind fun t185 => (if t185 = 0 then (if (Go.bits .and .i64 a0 63) = 0 then ((grafterlaw0_Num.f bt182.2).bind fun t186 => (if t186 = 0 then (if (bt182.1.size : Int) = 65536 then (some true) else (if (Go.bits .and .i64 a0 63) > 0 then (if bt182.1.toList = ([] : List UInt8) then ((grafterlaw0_Num.f bt182.2).bind fun t187 => (some (t187 == 1700))) else (some false)) else (some false))) else (if (Go.bits .and .i64 a0 63) > 0 then (if bt182.1.toList = ([] : List UInt8) then ((grafterlaw0_Num.f bt182.2).bind fun t188 => (some (t188 == 1700))) else (some false)) else (some false)))) else (if (Go.bits .and .i64 a0 63) > 0 then (if bt182.1.toList = ([] : List UInt8) then ((grafterlaw0_Num.f bt182.2).bind fun t189 => (some (t189 == 1700))) else (some false)) else (some false))) else (some false))) else (some false)) else (some false)))) else (none)) else (none)) else (none)) = some r := by first | (rw [hji25] at H; exact H) | (simp only [hji25] at H ⊢; exact H)
              (try rw [hji25] at A24)
              have hji25w : (IntKind.i64.wrap (640 + (Go.bits .and .i64 a0 63))) = ji25 := (i64_w _).trans hji25
              by_cases c26 : 0 ≤ (ji25)
              · rw [if_pos c26] at H
                have c26b0 := eq_true c26
                have c26b1 : decide (0 ≤ (ji25)) = true := decide_eq_true c26
                clear c26
                by_cases c27 : (ji25 : Int).toNat ≤ 281474976710656
                · rw [if_pos c27] at H
                  have c27b0 := eq_true c27
                  have c27b1 : decide ((ji25 : Int).toNat ≤ 281474976710656) = true := decide_eq_true c27
                  clear c27
                  obtain ⟨y176, hy176⟩ : ∃ y_ : List Int, y_ = (List.replicate (ji25 : Int).toNat 0) := ⟨_, rfl⟩
                  replace H : (if x8_1.length < 8796093022208 then ((journal_Text.f k1 (x8_1 ++ [strOfNums y176])).bind fun bt182 => ((grafterlaw0_Num.f t167).bind fun t184 => (if t184 = 1700 then (if (t174.size : Int) = 64890 then ((grafterlaw0_Num.f t175).bind fun t185 => (if t185 = 0 then (if (Go.bits .and .i64 a0 63) = 0 then ((grafterlaw0_Num.f bt182.2).bind fun t186 => (if t186 = 0 then (if (bt182.1.size : Int) = 65536 then (some true) else (if (Go.bits .and .i64 a0 63) > 0 then (if bt182.1.toList = ([] : List UInt8) then ((grafterlaw0_Num.f bt182.2).bind fun t187 => (some (t187 == 1700))) else (some false)) else (some false))) else (if (Go.bits .and .i64 a0 63) > 0 then (if bt182.1.toList = ([] : List UInt8) then ((grafterlaw0_Num.f bt182.2).bind fun t188 => (some (t188 == 1700))) else (some false)) else (some false)))) else (if (Go.bits .and .i64 a0 63) > 0 then (if bt182.1.toList = ([] : List UInt8) then ((grafterlaw0_Num.f bt182.2).bind fun t189 => (some (t189 == 1700))) else (some false)) else (some false))) else (some false))) else (some false)) else (some false)))) else (none)) = some r := by first | (rw [hy176]; with_reducible exact H) | (have H2_ := (Option.bind_some _ _).symm.trans H; rw [hy176]; with_reducible exact H2_) | (have H2_ := (Option.bind_some _ _).symm.trans H; with_reducible exact H2_) | with_reducible exact H | (rw [hy176]; exact H) | exact H
                  have Ny176 := Aside0.mk hy176
                  clear hy176
                  by_cases c28 : x8_1.length < 8796093022208
                  · rw [if_pos c28] at H
                    have LMc28 := Aside0.mk c28
                    clear c28
                    obtain ⟨y179, hy179⟩ : ∃ y_ : List ByteArray, y_ = (x8_1 ++ [strOfNums y176]) := ⟨_, rfl⟩
                    replace H : ((journal_Text.f k1 y179).bind fun bt182 => ((grafterlaw0_Num.f t167).bind fun t184 => (if t184 = 1700 then (if (t174.size : Int) = 64890 then ((grafterlaw0_Num.f t175).bind fun t185 => (if t185 = 0 then (if (Go.bits .and .i64 a0 63) = 0 then ((grafterlaw0_Num.f bt182.2).bind fun t186 => (if t186 = 0 then (if (bt182.1.size : Int) = 65536 then (some true) else (if (Go.bits .and .i64 a0 63) > 0 then (if bt182.1.toList = ([] : List UInt8) then ((grafterlaw0_Num.f bt182.2).bind fun t187 => (some (t187 == 1700))) else (some false)) else (some false))) else (if (Go.bits .and .i64 a0 63) > 0 then (if bt182.1.toList = ([] : List UInt8) then ((grafterlaw0_Num.f bt182.2).bind fun t188 => (some (t188 == 1700))) else (some false)) else (some false)))) else (if (Go.bits .and .i64 a0 63) > 0 then (if bt182.1.toList = ([] : List UInt8) then ((grafterlaw0_Num.f bt182.2).bind fun t189 => (some (t189 == 1700))) else (some false)) else (some false))) else (some false))) else (some false)) else (some false)))) = some r := by first | (rw [hy179]; with_reducible exact H) | (have H2_ := (Option.bind_some _ _).symm.trans H; rw [hy179]; with_reducible exact H2_) | (have H2_ := (Option.bind_some _ _).symm.trans H; with_reducible exact H2_) | with_reducible exact H | (rw [hy179]; exact H) | exact H
                    have Ny179 := Aside0.mk hy179
                    clear hy179
                    replace H := Option.bind_eq_some_iff.mp H
                    obtain ⟨⟨t182, t183⟩, A290, H⟩ := H
                    replace H : ((grafterlaw0_Num.f t167).bind fun t184 => (if t184 = 1700 then (if (t174.size : Int) = 64890 then ((grafterlaw0_Num.f t175).bind fun t185 => (if t185 = 0 then (if (Go.bits .and .i64 a0 63) = 0 then ((grafterlaw0_Num.f t183).bind fun t186 => (if t186 = 0 then (if (t182.size : Int) = 65536 then (some true) else (if (Go.bits .and .i64 a0 63) > 0 then (if t182.toList = ([] : List UInt8) then ((grafterlaw0_Num.f t183).bind fun t187 => (some (t187 == 1700))) else (some false)) else (some false))) else (if (Go.bits .and .i64 a0 63) > 0 then (if t182.toList = ([] : List UInt8) then ((grafterlaw0_Num.f t183).bind fun t188 => (some (t188 == 1700))) else (some false)) else (some false)))) else (if (Go.bits .and .i64 a0 63) > 0 then (if t182.toList = ([] : List UInt8) then ((grafterlaw0_Num.f t183).bind fun t189 => (some (t189 == 1700))) else (some false)) else (some false))) else (some false))) else (some false)) else (some false))) = some r := H
                    have A29 := Aside0.mk A290
                    clear A290
                    replace H := Option.bind_eq_some_iff.mp H
                    obtain ⟨t184, A300, H⟩ := H
                    replace H : (if t184 = 1700 then (if (t174.size : Int) = 64890 then ((grafterlaw0_Num.f t175).bind fun t185 => (if t185 = 0 then (if (Go.bits .and .i64 a0 63) = 0 then ((grafterlaw0_Num.f t183).bind fun t186 => (if t186 = 0 then (if (t182.size : Int) = 65536 then (some true) else (if (Go.bits .and .i64 a0 63) > 0 then (if t182.toList = ([] : List UInt8) then ((grafterlaw0_Num.f t183).bind fun t187 => (some (t187 == 1700))) else (some false)) else (some false))) else (if (Go.bits .and .i64 a0 63) > 0 then (if t182.toList = ([] : List UInt8) then ((grafterlaw0_Num.f t183).bind fun t188 => (some (t188 == 1700))) else (some false)) else (some false)))) else (if (Go.bits .and .i64 a0 63) > 0 then (if t182.toList = ([] : List UInt8) then ((grafterlaw0_Num.f t183).bind fun t189 => (some (t189 == 1700))) else (some false)) else (some false))) else (some false))) else (some false)) else (some false)) = some r := H
                    have A30 := Aside0.mk A300
                    clear A300
                    by_cases c31 : t184 = 1700
                    · rw [if_pos c31] at H
                      have c31b0 : (t184 == 1700) = true := beq_iff_eq.mpr c31
                      have c31b1 : (t184 != 1700) = false := bne_eq_false_iff_eq.mpr c31
                      clear c31
                      by_cases c32 : (t174.size : Int) = 64890
                      · rw [if_pos c32] at H
                        have c32b0 : ((t174.size : Int) == 64890) = true := beq_iff_eq.mpr c32
                        have c32b1 : ((t174.size : Int) != 64890) = false := bne_eq_false_iff_eq.mpr c32
                        clear c32
                        replace H := Option.bind_eq_some_iff.mp H
                        obtain ⟨t185, A330, H⟩ := H
                        replace H : (if t185 = 0 then (if (Go.bits .and .i64 a0 63) = 0 then ((grafterlaw0_Num.f t183).bind fun t186 => (if t186 = 0 then (if (t182.size : Int) = 65536 then (some true) else (if (Go.bits .and .i64 a0 63) > 0 then (if t182.toList = ([] : List UInt8) then ((grafterlaw0_Num.f t183).bind fun t187 => (some (t187 == 1700))) else (some false)) else (some false))) else (if (Go.bits .and .i64 a0 63) > 0 then (if t182.toList = ([] : List UInt8) then ((grafterlaw0_Num.f t183).bind fun t188 => (some (t188 == 1700))) else (some false)) else (some false)))) else (if (Go.bits .and .i64 a0 63) > 0 then (if t182.toList = ([] : List UInt8) then ((grafterlaw0_Num.f t183).bind fun t189 => (some (t189 == 1700))) else (some false)) else (some false))) else (some false)) = some r := H
                        have A33 := Aside0.mk A330
                        clear A330
                        by_cases c34 : t185 = 0
                        · rw [if_pos c34] at H
                          have c34b0 : (t185 == 0) = true := beq_iff_eq.mpr c34
                          have c34b1 : (t185 != 0) = false := bne_eq_false_iff_eq.mpr c34
                          clear c34
                          by_cases c35 : (Go.bits .and .i64 a0 63) = 0
                          · rw [if_pos c35] at H
                            have c35b0 : ((Go.bits .and .i64 a0 63) == 0) = true := beq_iff_eq.mpr c35
                            have c35b1 : ((Go.bits .and .i64 a0 63) != 0) = false := bne_eq_false_iff_eq.mpr c35
                            clear c35
                            replace H := Option.bind_eq_some_iff.mp H
                            obtain ⟨t186, A360, H⟩ := H
                            replace H : (if t186 = 0 then (if (t182.size : Int) = 65536 then (some true) else (if (Go.bits .and .i64 a0 63) > 0 then (if t182.toList = ([] : List UInt8) then ((grafterlaw0_Num.f t183).bind fun t187 => (some (t187 == 1700))) else (some false)) else (some false))) else (if (Go.bits .and .i64 a0 63) > 0 then (if t182.toList = ([] : List UInt8) then ((grafterlaw0_Num.f t183).bind fun t188 => (some (t188 == 1700))) else (some false)) else (some false))) = some r := H
                            have A36 := Aside0.mk A360
                            clear A360
                            by_cases c37 : t186 = 0
                            · rw [if_pos c37] at H
                              have c37b0 : (t186 == 0) = true := beq_iff_eq.mpr c37
                              have c37b1 : (t186 != 0) = false := bne_eq_false_iff_eq.mpr c37
                              clear c37
                              by_cases c38 : (t182.size : Int) = 65536
                              · rw [if_pos c38] at H
                                have c38b0 : ((t182.size : Int) == 65536) = true := beq_iff_eq.mpr c38
                                have c38b1 : ((t182.size : Int) != 65536) = false := bne_eq_false_iff_eq.mpr c38
                                clear c38
                                obtain rfl := Option.some.inj H
                                obtain ⟨Ao39, co39, eo39⟩ := Kd.R_slice HO_8.out
                                subst eo39
                                go_wp2_with (first | ((with_reducible refine gate_callee (f := 30) rfl ?_); refine goesL_ (some 39) rfl rfl Try.func30 (by kernel_rfl) rfl #[.slice Ao39 x8_1.length co39] rfl (by (try simp only [List.map_toArray, List.map_cons, List.map_nil]); first | done | rfl | (simp only [List.length_drop, List.length_take]; rfl)) ?_; (with_reducible refine (journal_Text.calls k1 _ _ x8_1 t174 t175 _ ?side1 ?side2 A24.out).mono ?_); (case side1 => repeat (first | exact (Kd.R_reads' HO_8.out).2.2 | (with_reducible refine Kd.C_alloc ?_ _) | (with_reducible refine Kd.C_drewN ?_ _) | (with_reducible refine Kd.C_drew ?_))); (case side2 => exact (Kd.R_reads' HO_8.out).2.1); rintro e w40 ⟨rfl, hb⟩; refine ⟨_, rfl, ?_⟩; have n0_ := Aside0.mk (Kd.R_below (by (with_reducible repeat (first | apply Kd.R_alloc | apply Kd.R_drewN | apply Kd.R_drew)); exact HO_8.out) hb); have n1_ := Aside0.mk (below_step (by repeat (first | (with_reducible first | exact HB.out | apply below_alloc | apply pw_below_drewN | apply below_drew1) | exact HB.out)) hb); clear HO_8; clear HB; have HO_8 := n0_; have HB := n1_; clear n0_ n1_; (try clear hb); (try clear hb2); (try clear hk); (try clear hi); (try clear A24)) | ((with_reducible refine gate_dst (N := 46) rfl ?_); (try (refine gate_guard (by rfl) ?_; dsimp only)); refine Kd.R_make (Kd.int .u8) _ 5 rfl (N := 46) rfl 34 _ _ rfl ji25 rfl rfl Try.underlying34 (.int .u8 0) 1 info5 rfl (by decide) (by omega) 0 (ok := fun _ => True) (okp := fun _ => True) rfl (fun _ hk => hk) trivial (of_decide_eq_true (by first | (with_reducible assumption) | assumption)) (Nat.le_trans (Nat.mul_le_mul_right _ (of_decide_eq_true (by first | (with_reducible assumption) | assumption) : ji25.toNat ≤ 281474976710656)) (by omega)) (Below.refl _ _) (Nat.le_refl _) ?_; intro v177 w41 ho42 hb hg_ hnew_; clear hg_ hnew_; (first | rw [← Ny176.out] at ho42 | (simp only [Int.reduceToNat] at ho42; rw [← Ny176.out] at ho42)); have n0_ := Aside0.mk (Kd.R_below (by (with_reducible repeat (first | apply Kd.R_alloc | apply Kd.R_drewN | apply Kd.R_drew)); exact HO_8.out) hb); have n1_ := Aside0.mk (Kd.R_lower ho42 (below_size (by repeat (first | (with_reducible first | exact HB.out | apply below_alloc | apply pw_below_drewN | apply below_drew1) | exact HB.out)))); have n2_ := Aside0.mk (below_step (by repeat (first | (with_reducible first | exact HB.out | apply below_alloc | apply pw_below_drewN | apply below_drew1) | exact HB.out)) hb); clear HO_8; clear HB; have HO_8 := n0_; have HO178 := n1_; have HB := n2_; clear n0_ n1_ n2_; clear hb ho42; have hcv43 := own_string (P := Try.prog) Try.underlying34 Try.underlying5 Try.underlying9 (Kd.own_of_R HO178.out)) | ((with_reducible refine gate_builtin (b := .append) (xs := #[.tmp 42, .tmp 48]) rfl ?_); (try (refine gate_guard (by rfl) ?_; dsimp only)); at_builtin; refine Kd.R_append Kd.string (w0 := w) w.heap.size rfl (.tmp 42) (.tmp 48) 42 9 (.string ⟨#[]⟩) 16 rfl Try.underlying42 info9 rfl (by decide) (by omega) (.slice Ao39 x8_1.length co39) x8_1 (strOfNums y176) [.string (strOfNums y176)] (fun _ => True) (fun _ => False) rfl rfl ?aP (fun _ hk => hk.elim) ?aF ?aO ?aB ?aS ?aL ?_; (case aP => exact rfl); (case aB => exact (by repeat (first | (with_reducible first | exact HB.out | apply below_alloc | apply pw_below_drewN | apply below_drew1) | exact HB.out))); (case aF => exact (fun _ _ => trivial)); (case aO => exact (by (with_reducible repeat (first | apply Kd.R_alloc | apply Kd.R_drewN | apply Kd.R_drew)); exact HO_8.out)); (case aS => exact (below_size (by repeat (first | (with_reducible first | exact HB.out | apply below_alloc | apply pw_below_drewN | apply below_drew1) | exact HB.out)))); (case aL => have := LMc28.out; omega); intro v180 w44 ho hb hg hat; rw [← Ny179.out] at ho; have n0_ := Aside0.mk (Kd.R_over' (by (with_reducible repeat (first | apply Kd.R_alloc | apply Kd.R_drewN | apply Kd.R_drew)); exact HO178.out) (Kd.R_typed (by (with_reducible repeat (first | apply Kd.R_alloc | apply Kd.R_drewN | apply Kd.R_drew)); exact HO_8.out)) (by decide) hg); have n1_ := Aside0.mk (hb); have n2_ := Aside0.mk (ho); clear HO178; clear HB; clear HO_8; have HO178 := n0_; have HB := n1_; have HO181 := n2_; clear n0_ n1_ n2_; clear ho hb hg hat; obtain ⟨Ao45, co45, eo45⟩ := Kd.R_slice HO181.out; subst eo45) | ((with_reducible refine gate_callee (f := 30) rfl ?_); refine goesL_ (some 52) rfl rfl Try.func30 (by kernel_rfl) rfl #[.slice Ao45 y179.length co45] rfl (by (try simp only [List.map_toArray, List.map_cons, List.map_nil]); first | done | rfl | (simp only [List.length_drop, List.length_take]; rfl)) ?_; (with_reducible refine (journal_Text.calls k1 _ _ y179 t182 t183 _ ?side1 ?side2 A29.out).mono ?_); (case side1 => repeat (first | exact (Kd.R_reads' HO181.out).2.2 | (with_reducible refine Kd.C_alloc ?_ _) | (with_reducible refine Kd.C_drewN ?_ _) | (with_reducible refine Kd.C_drew ?_))); (case side2 => exact (Kd.R_reads' HO181.out).2.1); rintro e w46 ⟨rfl, hb⟩; refine ⟨_, rfl, ?_⟩; have n0_ := Aside0.mk (Kd.R_below (by (with_reducible repeat (first | apply Kd.R_alloc | apply Kd.R_drewN | apply Kd.R_drew)); exact HO178.out) hb); have n1_ := Aside0.mk (Kd.R_below (by (with_reducible repeat (first | apply Kd.R_alloc | apply Kd.R_drewN | apply Kd.R_drew)); exact HO181.out) hb); have n2_ := Aside0.mk (below_step (by repeat (first | (with_reducible first | exact HB.out | apply below_alloc | apply pw_below_drewN | apply below_drew1) | exact HB.out)) hb); clear HO178; clear HO181; clear HB; have HO178 := n0_; have HO181 := n1_; have HB := n2_; clear n0_ n1_ n2_; (try clear hb); (try clear hb2); (try clear hk); (try clear hi); (try clear A29)) | ((with_reducible refine gate_callee (f := 26) rfl ?_); refine goesL_ (some 56) rfl rfl Try.func26 (by kernel_rfl) rfl #[.int .i64 t167] rfl (by (try simp only [List.map_toArray, List.map_cons, List.map_nil]); first | done | rfl | (simp only [List.length_drop, List.length_take]; rfl)) ?_; (with_reducible refine (grafterlaw0_Num.calls t167 t184 _ A30.out).mono ?_); rintro e w' ⟨rfl, ⟨nd, rfl⟩⟩; refine ⟨_, rfl, ?_⟩; (try clear A30)) | (go_at_call 26; (with_reducible refine (grafterlaw0_Num.calls t175 t185 _ A33.out).mono ?_); rintro e w' ⟨rfl, ⟨nd, rfl⟩⟩; (try clear A33)) | (go_at_call 26; (with_reducible refine (grafterlaw0_Num.calls t183 t186 _ A36.out).mono ?_); rintro e w' ⟨rfl, ⟨nd, rfl⟩⟩; (try clear A36)))
                                go_ret
                                exact ⟨by first | rfl | (simp [errW_none, errW_some] <;> rfl) | (simp only [← hji5, ← hji25]; first | rfl | (simp [errW_none, errW_some] <;> rfl)) | (simp [*, errW_none, errW_some] <;> rfl), by repeat (first | (with_reducible first | exact HB.out | apply below_alloc | apply pw_below_drewN | apply below_drew1) | exact HB.out)⟩
                              · rw [if_neg c38] at H
                                have c38b0 : ((t182.size : Int) == 65536) = false := beq_eq_false_iff_ne.mpr c38
                                have c38b1 : ((t182.size : Int) != 65536) = true := bne_iff_ne.mpr c38
                                by_cases c47 : (Go.bits .and .i64 a0 63) > 0
                                · rw [if_pos c47] at H
                                  have c47b0 : decide (0 < (Go.bits .and .i64 a0 63)) = true := decide_eq_true c47
                                  clear c47
                                  by_cases c48 : t182.toList = ([] : List UInt8)
                                  · rw [if_pos c48] at H
                                    have c48b0 : (t182.toList == ([] : List UInt8)) = true := beq_iff_eq.mpr c48
                                    have c48b1 : (t182.toList != ([] : List UInt8)) = false := bne_eq_false_iff_eq.mpr c48
                                    clear c48
                                    replace H := Option.bind_eq_some_iff.mp H
                                    obtain ⟨t187, A490, H⟩ := H
                                    replace H : (some (t187 == 1700)) = some r := H
                                    have A49 := Aside0.mk A490
                                    clear A490
                                    obtain rfl := Option.some.inj H
                                    obtain ⟨Ao50, co50, eo50⟩ := Kd.R_slice HO_8.out
                                    subst eo50
                                    go_wp2_with (first | ((with_reducible refine gate_callee (f := 30) rfl ?_); refine goesL_ (some 39) rfl rfl Try.func30 (by kernel_rfl) rfl #[.slice Ao50 x8_1.length co50] rfl (by (try simp only [List.map_toArray, List.map_cons, List.map_nil]); first | done | rfl | (simp only [List.length_drop, List.length_take]; rfl)) ?_; (with_reducible refine (journal_Text.calls k1 _ _ x8_1 t174 t175 _ ?side1 ?side2 A24.out).mono ?_); (case side1 => repeat (first | exact (Kd.R_reads' HO_8.out).2.2 | (with_reducible refine Kd.C_alloc ?_ _) | (with_reducible refine Kd.C_drewN ?_ _) | (with_reducible refine Kd.C_drew ?_))); (case side2 => exact (Kd.R_reads' HO_8.out).2.1); rintro e w51 ⟨rfl, hb⟩; refine ⟨_, rfl, ?_⟩; have n0_ := Aside0.mk (Kd.R_below (by (with_reducible repeat (first | apply Kd.R_alloc | apply Kd.R_drewN | apply Kd.R_drew)); exact HO_8.out) hb); have n1_ := Aside0.mk (below_step (by repeat (first | (with_reducible first | exact HB.out | apply below_alloc | apply pw_below_drewN | apply below_drew1) | exact HB.out)) hb); clear HO_8; clear HB; have HO_8 := n0_; have HB := n1_; clear n0_ n1_; (try clear hb); (try clear hb2); (try clear hk); (try clear hi); (try clear A24)) | ((with_reducible refine gate_dst (N := 46) rfl ?_); (try (refine gate_guard (by rfl) ?_; dsimp only)); refine Kd.R_make (Kd.int .u8) _ 5 rfl (N := 46) rfl 34 _ _ rfl ji25 rfl rfl Try.underlying34 (.int .u8 0) 1 info5 rfl (by decide) (by omega) 0 (ok := fun _ => True) (okp := fun _ => True) rfl (fun _ hk => hk) trivial (of_decide_eq_true (by first | (with_reducible assumption) | assumption)) (Nat.le_trans (Nat.mul_le_mul_right _ (of_decide_eq_true (by first | (with_reducible assumption) | assumption) : ji25.toNat ≤ 281474976710656)) (by omega)) (Below.refl _ _) (Nat.le_refl _) ?_; intro v177 w52 ho53 hb hg_ hnew_; clear hg_ hnew_; (first | rw [← Ny176.out] at ho53 | (simp only [Int.reduceToNat] at ho53; rw [← Ny176.out] at ho53)); have n0_ := Aside0.mk (Kd.R_below (by (with_reducible repeat (first | apply Kd.R_alloc | apply Kd.R_drewN | apply Kd.R_drew)); exact HO_8.out) hb); have n1_ := Aside0.mk (Kd.R_lower ho53 (below_size (by repeat (first | (with_reducible first | exact HB.out | apply below_alloc | apply pw_below_drewN | apply below_drew1) | exact HB.out)))); have n2_ := Aside0.mk (below_step (by repeat (first | (with_reducible first | exact HB.out | apply below_alloc | apply pw_below_drewN | apply below_drew1) | exact HB.out)) hb); clear HO_8; clear HB; have HO_8 := n0_; have HO178 := n1_; have HB := n2_; clear n0_ n1_ n2_; clear hb ho53; have hcv54 := own_string (P := Try.prog) Try.underlying34 Try.underlying5 Try.underlying9 (Kd.own_of_R HO178.out)) | ((with_reducible refine gate_builtin (b := .append) (xs := #[.tmp 42, .tmp 48]) rfl ?_); (try (refine gate_guard (by rfl) ?_; dsimp only)); at_builtin; refine Kd.R_append Kd.string (w0 := w) w.heap.size rfl (.tmp 42) (.tmp 48) 42 9 (.string ⟨#[]⟩) 16 rfl Try.underlying42 info9 rfl (by decide) (by omega) (.slice Ao50 x8_1.length co50) x8_1 (strOfNums y176) [.string (strOfNums y176)] (fun _ => True) (fun _ => False) rfl rfl ?aP (fun _ hk => hk.elim) ?aF ?aO ?aB ?aS ?aL ?_; (case aP => exact rfl); (case aB => exact (by repeat (first | (with_reducible first | exact HB.out | apply below_alloc | apply pw_below_drewN | apply below_drew1) | exact HB.out))); (case aF => exact (fun _ _ => trivial)); (case aO => exact (by (with_reducible repeat (first | apply Kd.R_alloc | apply Kd.R_drewN | apply Kd.R_drew)); exact HO_8.out)); (case aS => exact (below_size (by repeat (first | (with_reducible first | exact HB.out | apply below_alloc | apply pw_below_drewN | apply below_drew1) | exact HB.out)))); (case aL => have := LMc28.out; omega); intro v180 w55 ho hb hg hat; rw [← Ny179.out] at ho; have n0_ := Aside0.mk (Kd.R_over' (by (with_reducible repeat (first | apply Kd.R_alloc | apply Kd.R_drewN | apply Kd.R_drew)); exact HO178.out) (Kd.R_typed (by (with_reducible repeat (first | apply Kd.R_alloc | apply Kd.R_drewN | apply Kd.R_drew)); exact HO_8.out)) (by decide) hg); have n1_ := Aside0.mk (hb); have n2_ := Aside0.mk (ho); clear HO178; clear HB; clear HO_8; have HO178 := n0_; have HB := n1_; have HO181 := n2_; clear n0_ n1_ n2_; clear ho hb hg hat; obtain ⟨Ao56, co56, eo56⟩ := Kd.R_slice HO181.out; subst eo56) | ((with_reducible refine gate_callee (f := 30) rfl ?_); refine goesL_ (some 52) rfl rfl Try.func30 (by kernel_rfl) rfl #[.slice Ao56 y179.length co56] rfl (by (try simp only [List.map_toArray, List.map_cons, List.map_nil]); first | done | rfl | (simp only [List.length_drop, List.length_take]; rfl)) ?_; (with_reducible refine (journal_Text.calls k1 _ _ y179 t182 t183 _ ?side1 ?side2 A29.out).mono ?_); (case side1 => repeat (first | exact (Kd.R_reads' HO181.out).2.2 | (with_reducible refine Kd.C_alloc ?_ _) | (with_reducible refine Kd.C_drewN ?_ _) | (with_reducible refine Kd.C_drew ?_))); (case side2 => exact (Kd.R_reads' HO181.out).2.1); rintro e w57 ⟨rfl, hb⟩; refine ⟨_, rfl, ?_⟩; have n0_ := Aside0.mk (Kd.R_below (by (with_reducible repeat (first | apply Kd.R_alloc | apply Kd.R_drewN | apply Kd.R_drew)); exact HO178.out) hb); have n1_ := Aside0.mk (Kd.R_below (by (with_reducible repeat (first | apply Kd.R_alloc | apply Kd.R_drewN | apply Kd.R_drew)); exact HO181.out) hb); have n2_ := Aside0.mk (below_step (by repeat (first | (with_reducible first | exact HB.out | apply below_alloc | apply pw_below_drewN | apply below_drew1) | exact HB.out)) hb); clear HO178; clear HO181; clear HB; have HO178 := n0_; have HO181 := n1_; have HB := n2_; clear n0_ n1_ n2_; (try clear hb); (try clear hb2); (try clear hk); (try clear hi); (try clear A29)) | ((with_reducible refine gate_callee (f := 26) rfl ?_); refine goesL_ (some 56) rfl rfl Try.func26 (by kernel_rfl) rfl #[.int .i64 t167] rfl (by (try simp only [List.map_toArray, List.map_cons, List.map_nil]); first | done | rfl | (simp only [List.length_drop, List.length_take]; rfl)) ?_; (with_reducible refine (grafterlaw0_Num.calls t167 t184 _ A30.out).mono ?_); rintro e w' ⟨rfl, ⟨nd, rfl⟩⟩; refine ⟨_, rfl, ?_⟩; (try clear A30)) | (go_at_call 26; (with_reducible refine (grafterlaw0_Num.calls t175 t185 _ A33.out).mono ?_); rintro e w' ⟨rfl, ⟨nd, rfl⟩⟩; (try clear A33)) | (go_at_call 26; (with_reducible refine (grafterlaw0_Num.calls t183 t186 _ A36.out).mono ?_); rintro e w' ⟨rfl, ⟨nd, rfl⟩⟩; (try clear A36)) | (go_at_call 26; (with_reducible refine (grafterlaw0_Num.calls t183 t187 _ A49.out).mono ?_); rintro e w' ⟨rfl, ⟨nd, rfl⟩⟩; (try clear A49)))
                                    go_ret
                                    exact ⟨by first | rfl | (simp [errW_none, errW_some] <;> rfl) | (simp only [← hji5, ← hji25]; first | rfl | (simp [errW_none, errW_some] <;> rfl)) | (simp [*, errW_none, errW_some] <;> rfl), by repeat (first | (with_reducible first | exact HB.out | apply below_alloc | apply pw_below_drewN | apply below_drew1) | exact HB.out)⟩
                                  · rw [if_neg c48] at H
                                    have c48b0 : (t182.toList == ([] : List UInt8)) = false := beq_eq_false_iff_ne.mpr c48
                                    have c48b1 : (t182.toList != ([] : List UInt8)) = true := bne_iff_ne.mpr c48
                                    exact absurd ((Option.some.inj H).trans HRT.out) Bool.false_ne_true
                                · rw [if_neg c47] at H
                                  have c47b0 : decide (0 < (Go.bits .and .i64 a0 63)) = false := decide_eq_false c47
                                  clear c47
                                  exact absurd ((Option.some.inj H).trans HRT.out) Bool.false_ne_true
                            · rw [if_neg c37] at H
                              have c37b0 : (t186 == 0) = false := beq_eq_false_iff_ne.mpr c37
                              have c37b1 : (t186 != 0) = true := bne_iff_ne.mpr c37
                              by_cases c74 : (Go.bits .and .i64 a0 63) > 0
                              · rw [if_pos c74] at H
                                have c74b0 : decide (0 < (Go.bits .and .i64 a0 63)) = true := decide_eq_true c74
                                clear c74
                                by_cases c75 : t182.toList = ([] : List UInt8)
                                · rw [if_pos c75] at H
                                  have c75b0 : (t182.toList == ([] : List UInt8)) = true := beq_iff_eq.mpr c75
                                  have c75b1 : (t182.toList != ([] : List UInt8)) = false := bne_eq_false_iff_eq.mpr c75
                                  clear c75
                                  replace H := Option.bind_eq_some_iff.mp H
                                  obtain ⟨t188, A760, H⟩ := H
                                  replace H : (some (t188 == 1700)) = some r := H
                                  have A76 := Aside0.mk A760
                                  clear A760
                                  obtain rfl := Option.some.inj H
                                  obtain ⟨Ao77, co77, eo77⟩ := Kd.R_slice HO_8.out
                                  subst eo77
                                  go_wp2_with (first | ((with_reducible refine gate_callee (f := 30) rfl ?_); refine goesL_ (some 39) rfl rfl Try.func30 (by kernel_rfl) rfl #[.slice Ao77 x8_1.length co77] rfl (by (try simp only [List.map_toArray, List.map_cons, List.map_nil]); first | done | rfl | (simp only [List.length_drop, List.length_take]; rfl)) ?_; (with_reducible refine (journal_Text.calls k1 _ _ x8_1 t174 t175 _ ?side1 ?side2 A24.out).mono ?_); (case side1 => repeat (first | exact (Kd.R_reads' HO_8.out).2.2 | (with_reducible refine Kd.C_alloc ?_ _) | (with_reducible refine Kd.C_drewN ?_ _) | (with_reducible refine Kd.C_drew ?_))); (case side2 => exact (Kd.R_reads' HO_8.out).2.1); rintro e w78 ⟨rfl, hb⟩; refine ⟨_, rfl, ?_⟩; have n0_ := Aside0.mk (Kd.R_below (by (with_reducible repeat (first | apply Kd.R_alloc | apply Kd.R_drewN | apply Kd.R_drew)); exact HO_8.out) hb); have n1_ := Aside0.mk (below_step (by repeat (first | (with_reducible first | exact HB.out | apply below_alloc | apply pw_below_drewN | apply below_drew1) | exact HB.out)) hb); clear HO_8; clear HB; have HO_8 := n0_; have HB := n1_; clear n0_ n1_; (try clear hb); (try clear hb2); (try clear hk); (try clear hi); (try clear A24)) | ((with_reducible refine gate_dst (N := 46) rfl ?_); (try (refine gate_guard (by rfl) ?_; dsimp only)); refine Kd.R_make (Kd.int .u8) _ 5 rfl (N := 46) rfl 34 _ _ rfl ji25 rfl rfl Try.underlying34 (.int .u8 0) 1 info5 rfl (by decide) (by omega) 0 (ok := fun _ => True) (okp := fun _ => True) rfl (fun _ hk => hk) trivial (of_decide_eq_true (by first | (with_reducible assumption) | assumption)) (Nat.le_trans (Nat.mul_le_mul_right _ (of_decide_eq_true (by first | (with_reducible assumption) | assumption) : ji25.toNat ≤ 281474976710656)) (by omega)) (Below.refl _ _) (Nat.le_refl _) ?_; intro v177 w79 ho80 hb hg_ hnew_; clear hg_ hnew_; (first | rw [← Ny176.out] at ho80 | (simp only [Int.reduceToNat] at ho80; rw [← Ny176.out] at ho80)); have n0_ := Aside0.mk (Kd.R_below (by (with_reducible repeat (first | apply Kd.R_alloc | apply Kd.R_drewN | apply Kd.R_drew)); exact HO_8.out) hb); have n1_ := Aside0.mk (Kd.R_lower ho80 (below_size (by repeat (first | (with_reducible first | exact HB.out | apply below_alloc | apply pw_below_drewN | apply below_drew1) | exact HB.out)))); have n2_ := Aside0.mk (below_step (by repeat (first | (with_reducible first | exact HB.out | apply below_alloc | apply pw_below_drewN | apply below_drew1) | exact HB.out)) hb); clear HO_8; clear HB; have HO_8 := n0_; have HO178 := n1_; have HB := n2_; clear n0_ n1_ n2_; clear hb ho80; have hcv81 := own_string (P := Try.prog) Try.underlying34 Try.underlying5 Try.underlying9 (Kd.own_of_R HO178.out)) | ((with_reducible refine gate_builtin (b := .append) (xs := #[.tmp 42, .tmp 48]) rfl ?_); (try (refine gate_guard (by rfl) ?_; dsimp only)); at_builtin; refine Kd.R_append Kd.string (w0 := w) w.heap.size rfl (.tmp 42) (.tmp 48) 42 9 (.string ⟨#[]⟩) 16 rfl Try.underlying42 info9 rfl (by decide) (by omega) (.slice Ao77 x8_1.length co77) x8_1 (strOfNums y176) [.string (strOfNums y176)] (fun _ => True) (fun _ => False) rfl rfl ?aP (fun _ hk => hk.elim) ?aF ?aO ?aB ?aS ?aL ?_; (case aP => exact rfl); (case aB => exact (by repeat (first | (with_reducible first | exact HB.out | apply below_alloc | apply pw_below_drewN | apply below_drew1) | exact HB.out))); (case aF => exact (fun _ _ => trivial)); (case aO => exact (by (with_reducible repeat (first | apply Kd.R_alloc | apply Kd.R_drewN | apply Kd.R_drew)); exact HO_8.out)); (case aS => exact (below_size (by repeat (first | (with_reducible first | exact HB.out | apply below_alloc | apply pw_below_drewN | apply below_drew1) | exact HB.out)))); (case aL => have := LMc28.out; omega); intro v180 w82 ho hb hg hat; rw [← Ny179.out] at ho; have n0_ := Aside0.mk (Kd.R_over' (by (with_reducible repeat (first | apply Kd.R_alloc | apply Kd.R_drewN | apply Kd.R_drew)); exact HO178.out) (Kd.R_typed (by (with_reducible repeat (first | apply Kd.R_alloc | apply Kd.R_drewN | apply Kd.R_drew)); exact HO_8.out)) (by decide) hg); have n1_ := Aside0.mk (hb); have n2_ := Aside0.mk (ho); clear HO178; clear HB; clear HO_8; have HO178 := n0_; have HB := n1_; have HO181 := n2_; clear n0_ n1_ n2_; clear ho hb hg hat; obtain ⟨Ao83, co83, eo83⟩ := Kd.R_slice HO181.out; subst eo83) | ((with_reducible refine gate_callee (f := 30) rfl ?_); refine goesL_ (some 52) rfl rfl Try.func30 (by kernel_rfl) rfl #[.slice Ao83 y179.length co83] rfl (by (try simp only [List.map_toArray, List.map_cons, List.map_nil]); first | done | rfl | (simp only [List.length_drop, List.length_take]; rfl)) ?_; (with_reducible refine (journal_Text.calls k1 _ _ y179 t182 t183 _ ?side1 ?side2 A29.out).mono ?_); (case side1 => repeat (first | exact (Kd.R_reads' HO181.out).2.2 | (with_reducible refine Kd.C_alloc ?_ _) | (with_reducible refine Kd.C_drewN ?_ _) | (with_reducible refine Kd.C_drew ?_))); (case side2 => exact (Kd.R_reads' HO181.out).2.1); rintro e w84 ⟨rfl, hb⟩; refine ⟨_, rfl, ?_⟩; have n0_ := Aside0.mk (Kd.R_below (by (with_reducible repeat (first | apply Kd.R_alloc | apply Kd.R_drewN | apply Kd.R_drew)); exact HO178.out) hb); have n1_ := Aside0.mk (Kd.R_below (by (with_reducible repeat (first | apply Kd.R_alloc | apply Kd.R_drewN | apply Kd.R_drew)); exact HO181.out) hb); have n2_ := Aside0.mk (below_step (by repeat (first | (with_reducible first | exact HB.out | apply below_alloc | apply pw_below_drewN | apply below_drew1) | exact HB.out)) hb); clear HO178; clear HO181; clear HB; have HO178 := n0_; have HO181 := n1_; have HB := n2_; clear n0_ n1_ n2_; (try clear hb); (try clear hb2); (try clear hk); (try clear hi); (try clear A29)) | ((with_reducible refine gate_callee (f := 26) rfl ?_); refine goesL_ (some 56) rfl rfl Try.func26 (by kernel_rfl) rfl #[.int .i64 t167] rfl (by (try simp only [List.map_toArray, List.map_cons, List.map_nil]); first | done | rfl | (simp only [List.length_drop, List.length_take]; rfl)) ?_; (with_reducible refine (grafterlaw0_Num.calls t167 t184 _ A30.out).mono ?_); rintro e w' ⟨rfl, ⟨nd, rfl⟩⟩; refine ⟨_, rfl, ?_⟩; (try clear A30)) | (go_at_call 26; (with_reducible refine (grafterlaw0_Num.calls t175 t185 _ A33.out).mono ?_); rintro e w' ⟨rfl, ⟨nd, rfl⟩⟩; (try clear A33)) | (go_at_call 26; (with_reducible refine (grafterlaw0_Num.calls t183 t186 _ A36.out).mono ?_); rintro e w' ⟨rfl, ⟨nd, rfl⟩⟩; (try clear A36)) | (go_at_call 26; (with_reducible refine (grafterlaw0_Num.calls t183 t188 _ A76.out).mono ?_); rintro e w' ⟨rfl, ⟨nd, rfl⟩⟩; (try clear A76)))
                                  go_ret
                                  exact ⟨by first | rfl | (simp [errW_none, errW_some] <;> rfl) | (simp only [← hji5, ← hji25]; first | rfl | (simp [errW_none, errW_some] <;> rfl)) | (simp [*, errW_none, errW_some] <;> rfl), by repeat (first | (with_reducible first | exact HB.out | apply below_alloc | apply pw_below_drewN | apply below_drew1) | exact HB.out)⟩
                                · rw [if_neg c75] at H
                                  have c75b0 : (t182.toList == ([] : List UInt8)) = false := beq_eq_false_iff_ne.mpr c75
                                  have c75b1 : (t182.toList != ([] : List UInt8)) = true := bne_iff_ne.mpr c75
                                  exact absurd ((Option.some.inj H).trans HRT.out) Bool.false_ne_true
                              · rw [if_neg c74] at H
                                have c74b0 : decide (0 < (Go.bits .and .i64 a0 63)) = false := decide_eq_false c74
                                clear c74
                                exact absurd ((Option.some.inj H).trans HRT.out) Bool.false_ne_true
                          · rw [if_neg c35] at H
                            have c35b0 : ((Go.bits .and .i64 a0 63) == 0) = false := beq_eq_false_iff_ne.mpr c35
                            have c35b1 : ((Go.bits .and .i64 a0 63) != 0) = true := bne_iff_ne.mpr c35
                            by_cases c101 : (Go.bits .and .i64 a0 63) > 0
                            · rw [if_pos c101] at H
                              have c101b0 : decide (0 < (Go.bits .and .i64 a0 63)) = true := decide_eq_true c101
                              clear c101
                              by_cases c102 : t182.toList = ([] : List UInt8)
                              · rw [if_pos c102] at H
                                have c102b0 : (t182.toList == ([] : List UInt8)) = true := beq_iff_eq.mpr c102
                                have c102b1 : (t182.toList != ([] : List UInt8)) = false := bne_eq_false_iff_eq.mpr c102
                                clear c102
                                replace H := Option.bind_eq_some_iff.mp H
                                obtain ⟨t189, A1030, H⟩ := H
                                replace H : (some (t189 == 1700)) = some r := H
                                have A103 := Aside0.mk A1030
                                clear A1030
                                obtain rfl := Option.some.inj H
                                obtain ⟨Ao104, co104, eo104⟩ := Kd.R_slice HO_8.out
                                subst eo104
                                go_wp2_with (first | ((with_reducible refine gate_callee (f := 30) rfl ?_); refine goesL_ (some 39) rfl rfl Try.func30 (by kernel_rfl) rfl #[.slice Ao104 x8_1.length co104] rfl (by (try simp only [List.map_toArray, List.map_cons, List.map_nil]); first | done | rfl | (simp only [List.length_drop, List.length_take]; rfl)) ?_; (with_reducible refine (journal_Text.calls k1 _ _ x8_1 t174 t175 _ ?side1 ?side2 A24.out).mono ?_); (case side1 => repeat (first | exact (Kd.R_reads' HO_8.out).2.2 | (with_reducible refine Kd.C_alloc ?_ _) | (with_reducible refine Kd.C_drewN ?_ _) | (with_reducible refine Kd.C_drew ?_))); (case side2 => exact (Kd.R_reads' HO_8.out).2.1); rintro e w105 ⟨rfl, hb⟩; refine ⟨_, rfl, ?_⟩; have n0_ := Aside0.mk (Kd.R_below (by (with_reducible repeat (first | apply Kd.R_alloc | apply Kd.R_drewN | apply Kd.R_drew)); exact HO_8.out) hb); have n1_ := Aside0.mk (below_step (by repeat (first | (with_reducible first | exact HB.out | apply below_alloc | apply pw_below_drewN | apply below_drew1) | exact HB.out)) hb); clear HO_8; clear HB; have HO_8 := n0_; have HB := n1_; clear n0_ n1_; (try clear hb); (try clear hb2); (try clear hk); (try clear hi); (try clear A24)) | ((with_reducible refine gate_dst (N := 46) rfl ?_); (try (refine gate_guard (by rfl) ?_; dsimp only)); refine Kd.R_make (Kd.int .u8) _ 5 rfl (N := 46) rfl 34 _ _ rfl ji25 rfl rfl Try.underlying34 (.int .u8 0) 1 info5 rfl (by decide) (by omega) 0 (ok := fun _ => True) (okp := fun _ => True) rfl (fun _ hk => hk) trivial (of_decide_eq_true (by first | (with_reducible assumption) | assumption)) (Nat.le_trans (Nat.mul_le_mul_right _ (of_decide_eq_true (by first | (with_reducible assumption) | assumption) : ji25.toNat ≤ 281474976710656)) (by omega)) (Below.refl _ _) (Nat.le_refl _) ?_; intro v177 w106 ho107 hb hg_ hnew_; clear hg_ hnew_; (first | rw [← Ny176.out] at ho107 | (simp only [Int.reduceToNat] at ho107; rw [← Ny176.out] at ho107)); have n0_ := Aside0.mk (Kd.R_below (by (with_reducible repeat (first | apply Kd.R_alloc | apply Kd.R_drewN | apply Kd.R_drew)); exact HO_8.out) hb); have n1_ := Aside0.mk (Kd.R_lower ho107 (below_size (by repeat (first | (with_reducible first | exact HB.out | apply below_alloc | apply pw_below_drewN | apply below_drew1) | exact HB.out)))); have n2_ := Aside0.mk (below_step (by repeat (first | (with_reducible first | exact HB.out | apply below_alloc | apply pw_below_drewN | apply below_drew1) | exact HB.out)) hb); clear HO_8; clear HB; have HO_8 := n0_; have HO178 := n1_; have HB := n2_; clear n0_ n1_ n2_; clear hb ho107; have hcv108 := own_string (P := Try.prog) Try.underlying34 Try.underlying5 Try.underlying9 (Kd.own_of_R HO178.out)) | ((with_reducible refine gate_builtin (b := .append) (xs := #[.tmp 42, .tmp 48]) rfl ?_); (try (refine gate_guard (by rfl) ?_; dsimp only)); at_builtin; refine Kd.R_append Kd.string (w0 := w) w.heap.size rfl (.tmp 42) (.tmp 48) 42 9 (.string ⟨#[]⟩) 16 rfl Try.underlying42 info9 rfl (by decide) (by omega) (.slice Ao104 x8_1.length co104) x8_1 (strOfNums y176) [.string (strOfNums y176)] (fun _ => True) (fun _ => False) rfl rfl ?aP (fun _ hk => hk.elim) ?aF ?aO ?aB ?aS ?aL ?_; (case aP => exact rfl); (case aB => exact (by repeat (first | (with_reducible first | exact HB.out | apply below_alloc | apply pw_below_drewN | apply below_drew1) | exact HB.out))); (case aF => exact (fun _ _ => trivial)); (case aO => exact (by (with_reducible repeat (first | apply Kd.R_alloc | apply Kd.R_drewN | apply Kd.R_drew)); exact HO_8.out)); (case aS => exact (below_size (by repeat (first | (with_reducible first | exact HB.out | apply below_alloc | apply pw_below_drewN | apply below_drew1) | exact HB.out)))); (case aL => have := LMc28.out; omega); intro v180 w109 ho hb hg hat; rw [← Ny179.out] at ho; have n0_ := Aside0.mk (Kd.R_over' (by (with_reducible repeat (first | apply Kd.R_alloc | apply Kd.R_drewN | apply Kd.R_drew)); exact HO178.out) (Kd.R_typed (by (with_reducible repeat (first | apply Kd.R_alloc | apply Kd.R_drewN | apply Kd.R_drew)); exact HO_8.out)) (by decide) hg); have n1_ := Aside0.mk (hb); have n2_ := Aside0.mk (ho); clear HO178; clear HB; clear HO_8; have HO178 := n0_; have HB := n1_; have HO181 := n2_; clear n0_ n1_ n2_; clear ho hb hg hat; obtain ⟨Ao110, co110, eo110⟩ := Kd.R_slice HO181.out; subst eo110) | ((with_reducible refine gate_callee (f := 30) rfl ?_); refine goesL_ (some 52) rfl rfl Try.func30 (by kernel_rfl) rfl #[.slice Ao110 y179.length co110] rfl (by (try simp only [List.map_toArray, List.map_cons, List.map_nil]); first | done | rfl | (simp only [List.length_drop, List.length_take]; rfl)) ?_; (with_reducible refine (journal_Text.calls k1 _ _ y179 t182 t183 _ ?side1 ?side2 A29.out).mono ?_); (case side1 => repeat (first | exact (Kd.R_reads' HO181.out).2.2 | (with_reducible refine Kd.C_alloc ?_ _) | (with_reducible refine Kd.C_drewN ?_ _) | (with_reducible refine Kd.C_drew ?_))); (case side2 => exact (Kd.R_reads' HO181.out).2.1); rintro e w111 ⟨rfl, hb⟩; refine ⟨_, rfl, ?_⟩; have n0_ := Aside0.mk (Kd.R_below (by (with_reducible repeat (first | apply Kd.R_alloc | apply Kd.R_drewN | apply Kd.R_drew)); exact HO178.out) hb); have n1_ := Aside0.mk (Kd.R_below (by (with_reducible repeat (first | apply Kd.R_alloc | apply Kd.R_drewN | apply Kd.R_drew)); exact HO181.out) hb); have n2_ := Aside0.mk (below_step (by repeat (first | (with_reducible first | exact HB.out | apply below_alloc | apply pw_below_drewN | apply below_drew1) | exact HB.out)) hb); clear HO178; clear HO181; clear HB; have HO178 := n0_; have HO181 := n1_; have HB := n2_; clear n0_ n1_ n2_; (try clear hb); (try clear hb2); (try clear hk); (try clear hi); (try clear A29)) | ((with_reducible refine gate_callee (f := 26) rfl ?_); refine goesL_ (some 56) rfl rfl Try.func26 (by kernel_rfl) rfl #[.int .i64 t167] rfl (by (try simp only [List.map_toArray, List.map_cons, List.map_nil]); first | done | rfl | (simp only [List.length_drop, List.length_take]; rfl)) ?_; (with_reducible refine (grafterlaw0_Num.calls t167 t184 _ A30.out).mono ?_); rintro e w' ⟨rfl, ⟨nd, rfl⟩⟩; refine ⟨_, rfl, ?_⟩; (try clear A30)) | (go_at_call 26; (with_reducible refine (grafterlaw0_Num.calls t175 t185 _ A33.out).mono ?_); rintro e w' ⟨rfl, ⟨nd, rfl⟩⟩; (try clear A33)) | (go_at_call 26; (with_reducible refine (grafterlaw0_Num.calls t183 t189 _ A103.out).mono ?_); rintro e w' ⟨rfl, ⟨nd, rfl⟩⟩; (try clear A103)))
                                go_ret
                                exact ⟨by first | rfl | (simp [errW_none, errW_some] <;> rfl) | (simp only [← hji5, ← hji25]; first | rfl | (simp [errW_none, errW_some] <;> rfl)) | (simp [*, errW_none, errW_some] <;> rfl), by repeat (first | (with_reducible first | exact HB.out | apply below_alloc | apply pw_below_drewN | apply below_drew1) | exact HB.out)⟩
                              · rw [if_neg c102] at H
                                have c102b0 : (t182.toList == ([] : List UInt8)) = false := beq_eq_false_iff_ne.mpr c102
                                have c102b1 : (t182.toList != ([] : List UInt8)) = true := bne_iff_ne.mpr c102
                                exact absurd ((Option.some.inj H).trans HRT.out) Bool.false_ne_true
                            · rw [if_neg c101] at H
                              have c101b0 : decide (0 < (Go.bits .and .i64 a0 63)) = false := decide_eq_false c101
                              clear c101
                              exact absurd ((Option.some.inj H).trans HRT.out) Bool.false_ne_true
                        · rw [if_neg c34] at H
                          have c34b0 : (t185 == 0) = false := beq_eq_false_iff_ne.mpr c34
                          have c34b1 : (t185 != 0) = true := bne_iff_ne.mpr c34
                          exact absurd ((Option.some.inj H).trans HRT.out) Bool.false_ne_true
                      · rw [if_neg c32] at H
                        have c32b0 : ((t174.size : Int) == 64890) = false := beq_eq_false_iff_ne.mpr c32
                        have c32b1 : ((t174.size : Int) != 64890) = true := bne_iff_ne.mpr c32
                        exact absurd ((Option.some.inj H).trans HRT.out) Bool.false_ne_true
                    · rw [if_neg c31] at H
                      have c31b0 : (t184 == 1700) = false := beq_eq_false_iff_ne.mpr c31
                      have c31b1 : (t184 != 1700) = true := bne_iff_ne.mpr c31
                      exact absurd ((Option.some.inj H).trans HRT.out) Bool.false_ne_true
                  · rw [if_neg c28] at H
                    exact absurd H (by simp)
                · rw [if_neg c27] at H
                  exact absurd H (by simp)
              · rw [if_neg c26] at H
                exact absurd H (by simp)
      · rw [if_neg c7] at H
        exact absurd H (by simp)
    · rw [if_neg c6] at H
      exact absurd H (by simp)
  · replace c4 := Bool.eq_false_iff.mpr c4
    subst c4
    have H1 : (some false) = some r := by rw [if_neg (show ¬ (false = true) by decide)] at H; exact H
    clear H
    have H := H1
    clear H1
    exact absurd ((Option.some.inj H).trans HRT.out) Bool.false_ne_true

/-- THE ONE PURE STATEMENT of grafterlaw17_JournalForms: yours. -/
def grafterlaw17_JournalForms.Pure : Prop := ∀ (a0 : Int) (a1 : Int), (Lit.int .i64 a0).wf = true → (Lit.int .i64 a1).wf = true → ∃ k, grafterlaw17_JournalForms.f k a0 a1 = some true
theorem grafterlaw17_JournalForms.walk (P : grafterlaw17_JournalForms.Pure) (a0 : Int) (a1 : Int) (w : World) (w0 : (Lit.int .i64 a0).wf = true) (w1 : (Lit.int .i64 a1).wf = true) :
    Calls Try.prog 10 #[.int .i64 a0, .int .i64 a1] w fun e w' => e = .returned (.bool true) ∧ Below w.heap.size w w' := by
  obtain ⟨k, h⟩ := P a0 a1 w0 w1
  refine (grafterlaw17_JournalForms.calls k a0 a1 true w rfl h).mono ?_
  rintro e w' ⟨rfl, hd⟩
  exact ⟨rfl, hd⟩

end Go.Proofs.Ytbhkmgidokonkaa.PJournalForms
