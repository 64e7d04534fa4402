-- Written by a program of this session (pprint.py) out of the translation, with hand-proved walks pasted in.
import Derived.Test.YtbhkmgidokonkaaPJournalsx0
import Derived.Test.YtbhkmgidokonkaaPJournalsx1
import Derived.Test.YtbhkmgidokonkaaPJournalsx2
namespace Go.Proofs.Ytbhkmgidokonkaa.PJournals
open Go.RowKit Go.Proofs.YtbhkmgidokonkaaW.PrintWords Go.Proofs.YtbhkmgidokonkaaW.PrintLast Go.Proofs.YtbhkmgidokonkaaW.PrintMore
attribute [local go_sem] max2_int min2_int max_two min_two max_three min_three max_four min_four   -- for this text's walks alone
set_option linter.unusedVariables false
set_option linter.unusedSimpArgs false

/-! ### grafterref12_LoadJournal: function 33 -/
def grafterref12_LoadJournal.l0 : Nat → ByteArray → List ByteArray → Int → Option (List ByteArray × Int)
  | 0, _, _, _ => none
  | k + 1, x0, x4, x5 => (grafterref12_GetFrame.f k x0 x5).bind fun bt149 => (if bt149.2.2 = 0 then (if x4.length < 8796093022208 then (grafterref12_LoadJournal.l0 k x0 (x4 ++ [bt149.1]) bt149.2.1) else (none)) else (some (x4, x5)))
def grafterref12_LoadJournal.f (k : Nat) (a0 : ByteArray) : Option (List ByteArray × Int) := if 0 ≤ (mn (a0.size : Int) 65536) then (if (mn (a0.size : Int) 65536) ≤ (a0.size : Int) then (grafterref12_LoadJournal.l0 k (a0.extract 0 ((mn (a0.size : Int) 65536) : Int).toNat) ([] : List ByteArray) 0) else (none)) else (none)
theorem grafterref12_LoadJournal.mono_l : ∀ k, (∀ y0 y1 y2, LeO (grafterref12_LoadJournal.l0 k y0 y1 y2) (grafterref12_LoadJournal.l0 (k + 1) y0 y1 y2))
  | 0 => fun _ _ _ r h => by simp [grafterref12_LoadJournal.l0] at h
  | k + 1 => by
    have ih0 := grafterref12_LoadJournal.mono_l k
    · intro y0 y1 y2
      unfold grafterref12_LoadJournal.l0
      repeat' first
      | (with_reducible exact ih0 _ _ _)
      | (with_reducible exact grafterref12_GetFrame.mono _ _ _)
      | (with_reducible exact LeO.refl _)
      | (with_reducible exact LeO.none _)
      | (with_reducible refine LeO.ite ?_ ?_)
      | (with_reducible refine LeO.bind ?_ (fun _ => ?_))
      | exact ih0 _ _ _
      | exact grafterref12_GetFrame.mono _ _ _
      | exact LeO.none _
      | refine LeO.ite ?_ ?_
      | refine LeO.bind ?_ (fun _ => ?_)
theorem grafterref12_LoadJournal.mono : ∀ a0 k, LeO (grafterref12_LoadJournal.f k a0) (grafterref12_LoadJournal.f (k + 1) a0) := by
  intro a0 k
  have ih0 := grafterref12_LoadJournal.mono_l k
  unfold grafterref12_LoadJournal.f
  repeat' first
      | (with_reducible exact ih0 _ _ _)
      | (with_reducible exact grafterref12_GetFrame.mono _ _ _)
      | (with_reducible exact LeO.refl _)
      | (with_reducible exact LeO.none _)
      | (with_reducible refine LeO.ite ?_ ?_)
      | (with_reducible refine LeO.bind ?_ (fun _ => ?_))
      | exact ih0 _ _ _
      | exact grafterref12_GetFrame.mono _ _ _
      | exact LeO.none _
      | refine LeO.ite ?_ ?_
      | refine LeO.bind ?_ (fun _ => ?_)
set_option maxHeartbeats 8000000 in
set_option maxRecDepth 100000 in
theorem grafterref12_LoadJournal.calls (k : Nat) (a0 : ByteArray) (r1 : List ByteArray) (r2 : Int) (w : World) (h : grafterref12_LoadJournal.f k a0 = some (r1, r2)) :
    Calls Try.prog 33 #[.string a0] w fun e w' => ∃ v0_ : Value, e = .returned (.tuple #[v0_, .int .i64 r2]) ∧ Kd.R Kd.string 9 w' w.heap.size (fun _ => True) v0_ r1 ∧ Below w.heap.size w w' := by
  have HB := Aside0.mk (Below.refl w.heap.size w)
  have H : (if 0 ≤ (mn (a0.size : Int) 65536) then (if (mn (a0.size : Int) 65536) ≤ (a0.size : Int) then (grafterref12_LoadJournal.l0 k (a0.extract 0 ((mn (a0.size : Int) 65536) : Int).toNat) ([] : List ByteArray) 0) else (none)) else (none)) = some (r1, r2) := h
  clear h
  obtain ⟨ji2, hji2⟩ : ∃ j_ : Int, (mn (a0.size : Int) 65536) = j_ := ⟨_, rfl⟩
  replace H : (if 0 ≤ (ji2) then (if (ji2) ≤ (a0.size : Int) then (grafterref12_LoadJournal.l0 k (a0.extract 0 ((ji2) : Int).toNat) ([] : List ByteArray) 0) else (none)) else (none)) = some (r1, r2) := by first | (rw [hji2] at H; exact H) | (simp only [hji2] at H ⊢; exact H)
  (try (have hji2h : ji2 ≤ 65536 := by (rw [← hji2]; unfold mn; (repeat' split) <;> omega)))
  (try (have hji2g : ji2 ≤ 64 := by omega))
  (try (have hji2l : 0 ≤ ji2 := by (rw [← hji2]; unfold mn; (repeat' split) <;> omega)))
  (try (have hji2m : 0 ≤ ji2 := by omega))
  have hji2_ : (if 65536 < (a0.size : Int) then 65536 else (a0.size : Int)) = ji2 := hji2
  by_cases c3 : 0 ≤ (ji2)
  · rw [if_pos c3] at H
    have c3b0 := eq_true c3
    have c3b1 : decide (0 ≤ (ji2)) = true := decide_eq_true c3
    clear c3
    by_cases c4 : (ji2) ≤ (a0.size : Int)
    · rw [if_pos c4] at H
      have c4b0 := eq_true c4
      have c4b1 : decide ((ji2) ≤ (a0.size : Int)) = true := decide_eq_true c4
      clear c4
      have H' := Aside0.mk H
      clear H
      go_enter Try.func33, Try.ntmps33
      go_wp2
      go_loopg [4, 5] k (fun kq v4 v5 w' => ∃ (x4_1 : List ByteArray) (x5_1 : Int), v5 = .int .i64 x5_1 ∧ Aside0 (grafterref12_LoadJournal.l0 kq (a0.extract 0 ((ji2) : Int).toNat) x4_1 x5_1 = some (r1, r2)) ∧ Aside0 (kq ≤ k) ∧ Aside0 (Kd.R Kd.string 9 w' w.heap.size (fun _ => True) v4 x4_1) ∧ Aside0 (Below w.heap.size w w'))
      case atStart => exact ⟨(([] : List ByteArray)), (0), (by first | rfl | (simp; done) | (simp [*]; done)), H', ⟨Nat.le_refl _⟩, ⟨by first | exact Kd.R_nil _ _ _ _ _ | exact Kd.N_nil _ _ _ _ _ | exact Kd.V_nil _ _ _ _ _ | exact Kd.Q_nil _ _ _ _ _ | exact Kd.S_nil _ _ _ _ _⟩, ⟨by repeat (first | (with_reducible first | exact HB.out | apply below_alloc | apply pw_below_drewN | apply below_drew1) | exact HB.out)⟩⟩
      case round =>
        clear H'
        try clear p2
        try clear c3
        try clear c3b0
        try clear c3b1
        try clear c4
        try clear c4b0
        try clear c4b1
        obtain ⟨x4_1, x5_1, rfl, HA, HK1, HO_4, HB⟩ := hrel
        cases gk with
        | zero => exact absurd HA.out (by simp [grafterref12_LoadJournal.l0])
        | succ k1 =>
          have H := HA.out
          clear HA
          simp only [grafterref12_LoadJournal.l0] at H
          replace H := Option.bind_eq_some_iff.mp H
          obtain ⟨⟨t149, t150, t151⟩, A50, H⟩ := H
          replace H : (if t151 = 0 then (if x4_1.length < 8796093022208 then (grafterref12_LoadJournal.l0 k1 (a0.extract 0 ((ji2) : Int).toNat) (x4_1 ++ [t149]) t150) else (none)) else (some (x4_1, x5_1))) = some (r1, r2) := H
          have A5 := Aside0.mk A50
          clear A50
          by_cases c6 : t151 = 0
          · rw [if_pos c6] at H
            have c6b0 : (t151 == 0) = true := beq_iff_eq.mpr c6
            have c6b1 : (t151 != 0) = false := bne_eq_false_iff_eq.mpr c6
            clear c6
            by_cases c7 : x4_1.length < 8796093022208
            · rw [if_pos c7] at H
              have LMc7 := Aside0.mk c7
              clear c7
              obtain ⟨y152, hy152⟩ : ∃ y_ : List ByteArray, y_ = (x4_1 ++ [t149]) := ⟨_, rfl⟩
              replace H : (grafterref12_LoadJournal.l0 k1 (a0.extract 0 ((ji2) : Int).toNat) y152 t150) = some (r1, r2) := by first | (rw [hy152]; with_reducible exact H) | (have H2_ := (Option.bind_some _ _).symm.trans H; rw [hy152]; with_reducible exact H2_) | (have H2_ := (Option.bind_some _ _).symm.trans H; with_reducible exact H2_) | with_reducible exact H | (rw [hy152]; exact H) | exact H
              have Ny152 := Aside0.mk hy152
              clear hy152
              have H' := Aside0.mk H
              clear H
              go_wp2_with (first | ((with_reducible refine gate_callee (f := 25) rfl ?_); refine goesL_ (some 17) rfl rfl Try.func25 (by kernel_rfl) rfl #[.string (a0.extract 0 ((ji2) : Int).toNat), .int .i64 x5_1] rfl (by (try simp only [List.map_toArray, List.map_cons, List.map_nil]); first | done | (simp only [hji2]; rfl) | rfl | (simp only [List.length_drop, List.length_take]; rfl)) ?_; (with_reducible refine (grafterref12_GetFrame.calls k1 (a0.extract 0 ((ji2) : Int).toNat) x5_1 t149 t150 t151 _ A5.out).mono ?_); rintro e w8 ⟨rfl, hb⟩; refine ⟨_, rfl, ?_⟩; have n0_ := Aside0.mk (Kd.R_below (by (with_reducible repeat (first | apply Kd.R_alloc | apply Kd.R_drewN | apply Kd.R_drew)); exact HO_4.out) hb); have n1_ := Aside0.mk (below_step (by repeat (first | (with_reducible first | exact HB.out | apply below_alloc | apply pw_below_drewN | apply below_drew1) | exact HB.out)) hb); clear HO_4; clear HB; have HO_4 := n0_; have HB := n1_; clear n0_ n1_; (try clear hb); (try clear hb2); (try clear hk); (try clear hi)) | ((with_reducible refine gate_builtin (b := .append) (xs := #[.tmp 25, .tmp 27]) rfl ?_); at_builtin; refine Kd.R_append Kd.string (w0 := w) w.heap.size rfl (.tmp 25) (.tmp 27) 42 9 (.string ⟨#[]⟩) 16 rfl Try.underlying42 info9 rfl (by decide) (by omega) u4 x4_1 t149 [.string t149] (fun _ => True) (fun _ => False) rfl rfl ?aP (fun _ hk => hk.elim) ?aF ?aO ?aB ?aS ?aL ?_; (case aP => exact rfl); (case aB => exact (by repeat (first | (with_reducible first | exact HB.out | apply below_alloc | apply pw_below_drewN | apply below_drew1) | exact HB.out))); (case aF => exact (fun _ _ => trivial)); (case aO => exact (by (with_reducible repeat (first | apply Kd.R_alloc | apply Kd.R_drewN | apply Kd.R_drew)); exact HO_4.out)); (case aS => exact (below_size (by repeat (first | (with_reducible first | exact HB.out | apply below_alloc | apply pw_below_drewN | apply below_drew1) | exact HB.out)))); (case aL => have := LMc7.out; omega); intro v153 w9 ho hb hg hat; rw [← Ny152.out] at ho; have n0_ := Aside0.mk (hb); have n1_ := Aside0.mk (ho); clear HB; clear HO_4; have HB := n0_; have HO154 := n1_; clear n0_ n1_; clear ho hb hg hat))
              go_roundg k1
              case measure => have := HK1.out; omega
              case rel => exact ⟨(y152), (t150), (by first | rfl | (simp; done) | (simp [*]; done)), H', ⟨by have := HK1.out; omega⟩, ⟨by (with_reducible repeat (first | apply Kd.R_alloc | apply Kd.R_drewN | apply Kd.R_drew)); exact HO154.out⟩, ⟨by repeat (first | (with_reducible first | exact HB.out | apply below_alloc | apply pw_below_drewN | apply below_drew1) | exact HB.out)⟩⟩
            · rw [if_neg c7] at H
              exact absurd H (by simp)
          · rw [if_neg c6] at H
            have c6b0 : (t151 == 0) = false := beq_eq_false_iff_ne.mpr c6
            have c6b1 : (t151 != 0) = true := bne_iff_ne.mpr c6
            simp only [Option.some.injEq, Prod.mk.injEq] at H
            obtain ⟨rfl, rfl⟩ := H
            go_wp2_with (first | ((with_reducible refine gate_callee (f := 25) rfl ?_); refine goesL_ (some 17) rfl rfl Try.func25 (by kernel_rfl) rfl #[.string (a0.extract 0 ((ji2) : Int).toNat), .int .i64 x5_1] rfl (by (try simp only [List.map_toArray, List.map_cons, List.map_nil]); first | done | (simp only [hji2]; rfl) | rfl | (simp only [List.length_drop, List.length_take]; rfl)) ?_; (with_reducible refine (grafterref12_GetFrame.calls k1 (a0.extract 0 ((ji2) : Int).toNat) x5_1 t149 t150 t151 _ A5.out).mono ?_); rintro e w10 ⟨rfl, hb⟩; refine ⟨_, rfl, ?_⟩; have n0_ := Aside0.mk (Kd.R_below (by (with_reducible repeat (first | apply Kd.R_alloc | apply Kd.R_drewN | apply Kd.R_drew)); exact HO_4.out) hb); have n1_ := Aside0.mk (below_step (by repeat (first | (with_reducible first | exact HB.out | apply below_alloc | apply pw_below_drewN | apply below_drew1) | exact HB.out)) hb); clear HO_4; clear HB; have HO_4 := n0_; have HB := n1_; clear n0_ n1_; (try clear hb); (try clear hb2); (try clear hk); (try clear hi)))
            go_ret2
            exact ⟨_, by first | rfl | (simp [errW_none, errW_some] <;> rfl) | (simp only [← hji2]; first | rfl | (simp [errW_none, errW_some] <;> rfl)) | (simp [*, errW_none, errW_some] <;> rfl), by (with_reducible repeat (first | apply Kd.R_alloc | apply Kd.R_drewN | apply Kd.R_drew)); exact HO_4.out, by repeat (first | (with_reducible first | exact HB.out | apply below_alloc | apply pw_below_drewN | apply below_drew1) | exact HB.out)⟩
    · rw [if_neg c4] at H
      exact absurd H (by simp)
  · rw [if_neg c3] at H
    exact absurd H (by simp)

/-! ### grafterlaw0_SameTexts: function 34 -/
def grafterlaw0_SameTexts.l0 : Nat → List ByteArray → List ByteArray → Int → Option (Bool)
  | 0, _, _, _ => none
  | k + 1, x0, x1, x5 => if x5 < (x0.length : Int) then (if 0 ≤ x5 then (if x5 < (x1.length : Int) then (if (rdOf ByteArray.empty x0 x5).toList = (rdOf ByteArray.empty x1 x5).toList then (grafterlaw0_SameTexts.l0 k x0 x1 (wrap64 (x5 + 1))) else (some false)) else (none)) else (none)) else (some true)
def grafterlaw0_SameTexts.f (k : Nat) (l0 : List ByteArray) (l1 : List ByteArray) : Option (Bool) := if (l0.length : Int) = (l1.length : Int) then (grafterlaw0_SameTexts.l0 k l0 l1 0) else (some false)
theorem grafterlaw0_SameTexts.mono_l : ∀ k, (∀ y0 y1 y2, LeO (grafterlaw0_SameTexts.l0 k y0 y1 y2) (grafterlaw0_SameTexts.l0 (k + 1) y0 y1 y2))
  | 0 => fun _ _ _ r h => by simp [grafterlaw0_SameTexts.l0] at h
  | k + 1 => by
    have ih0 := grafterlaw0_SameTexts.mono_l k
    · intro y0 y1 y2
      unfold grafterlaw0_SameTexts.l0
      repeat' first
      | (with_reducible exact ih0 _ _ _)
      | (with_reducible exact LeO.refl _)
      | (with_reducible exact LeO.none _)
      | (with_reducible refine LeO.ite ?_ ?_)
      | (with_reducible refine LeO.bind ?_ (fun _ => ?_))
      | exact ih0 _ _ _
      | exact LeO.none _
      | refine LeO.ite ?_ ?_
      | refine LeO.bind ?_ (fun _ => ?_)
theorem grafterlaw0_SameTexts.mono : ∀ a0 a1 k, LeO (grafterlaw0_SameTexts.f k a0 a1) (grafterlaw0_SameTexts.f (k + 1) a0 a1) := by
  intro a0 a1 k
  have ih0 := grafterlaw0_SameTexts.mono_l k
  unfold grafterlaw0_SameTexts.f
  repeat' first
      | (with_reducible exact ih0 _ _ _)
      | (with_reducible exact LeO.refl _)
      | (with_reducible exact LeO.none _)
      | (with_reducible refine LeO.ite ?_ ?_)
      | (with_reducible refine LeO.bind ?_ (fun _ => ?_))
      | exact ih0 _ _ _
      | exact LeO.none _
      | refine LeO.ite ?_ ?_
      | refine LeO.bind ?_ (fun _ => ?_)
set_option maxHeartbeats 8000000 in
set_option maxRecDepth 100000 in
theorem grafterlaw0_SameTexts.calls (k : Nat) (A0 : Option Addr) (c0 : Nat) (l0 : List ByteArray) (A1 : Option Addr) (c1 : Nat) (l1 : List ByteArray) (r : Bool) (w : World) (hr0 : Kd.C Kd.string w A0 l0.length l0) (hc0 : l0.length ≤ c0) (hr1 : Kd.C Kd.string w A1 l1.length l1) (hc1 : l1.length ≤ c1) (h : grafterlaw0_SameTexts.f k l0 l1 = some r) :
    Calls Try.prog 34 #[.slice A0 l0.length c0, .slice A1 l1.length c1] w fun e w' => e = .returned (.bool r) ∧ Drawn0 w w' := by
  have HR0 := Aside0.mk hr0
  have HC0 := Aside0.mk hc0
  clear hr0 hc0
  have HR1 := Aside0.mk hr1
  have HC1 := Aside0.mk hc1
  clear hr1 hc1
  have H : (if (l0.length : Int) = (l1.length : Int) then (grafterlaw0_SameTexts.l0 k l0 l1 0) else (some false)) = some r := h
  clear h
  by_cases c3 : (l0.length : Int) = (l1.length : Int)
  · rw [if_pos c3] at H
    have c3b0 : ((l0.length : Int) == (l1.length : Int)) = true := beq_iff_eq.mpr c3
    have c3b1 : ((l0.length : Int) != (l1.length : Int)) = false := bne_eq_false_iff_eq.mpr c3
    have c3b2 : (l0.length == l1.length) = true := by first | simpa using c3 | (simp at c3 ⊢; omega)
    clear c3
    have H' := Aside0.mk H
    clear H
    go_enter Try.func34, Try.ntmps34
    go_wp2
    repeat (go_quiet (fail); try go_wp2)
    go_loopg [5] k (fun kq v5 w' => ∃ (x5_1 : Int), v5 = .int .i64 x5_1 ∧ Aside0 (grafterlaw0_SameTexts.l0 kq l0 l1 x5_1 = some r) ∧ Aside0 (kq ≤ k) ∧ Drawn0 w w')
    case atStart => exact ⟨(0), (by first | rfl | (simp; done) | (simp [*]; done)), H', ⟨Nat.le_refl _⟩, by repeat (first | exact Drawn0.refl _ | apply Drawn0.step)⟩
    case round =>
      clear H'
      try clear c1
      try clear p2
      try clear c3
      try clear c3b0
      try clear c3b1
      try clear c3b2
      obtain ⟨x5_1, rfl, HA, HK1, ⟨m1, rfl⟩⟩ := hrel
      cases gk with
      | zero => exact absurd HA.out (by simp [grafterlaw0_SameTexts.l0])
      | succ k1 =>
        have H := HA.out
        clear HA
        simp only [grafterlaw0_SameTexts.l0] at H
        by_cases c4 : x5_1 < (l0.length : Int)
        · rw [if_pos c4] at H
          have c4b0 : decide (x5_1 < (l0.length : Int)) = true := decide_eq_true c4
          clear c4
          by_cases c5 : 0 ≤ x5_1
          · rw [if_pos c5] at H
            have c5b0 : decide (0 ≤ x5_1) = true := decide_eq_true c5
            clear c5
            by_cases c6 : x5_1 < (l1.length : Int)
            · rw [if_pos c6] at H
              have c6b0 : decide (x5_1 < (l1.length : Int)) = true := decide_eq_true c6
              clear c6
              by_cases c7 : (rdOf ByteArray.empty l0 x5_1).toList = (rdOf ByteArray.empty l1 x5_1).toList
              · rw [if_pos c7] at H
                have c7b0 : ((rdOf ByteArray.empty l0 x5_1).toList == (rdOf ByteArray.empty l1 x5_1).toList) = true := beq_iff_eq.mpr c7
                have c7b1 : ((rdOf ByteArray.empty l0 x5_1).toList != (rdOf ByteArray.empty l1 x5_1).toList) = false := bne_eq_false_iff_eq.mpr c7
                clear c7
                have H' := Aside0.mk H
                clear H
                have p155 : 0 ≤ (x5_1 : Int) := of_decide_eq_true (by first | (with_reducible assumption) | assumption)
                have q155 : x5_1 < (l0.length : Int) := of_decide_eq_true (by first | (with_reducible assumption) | assumption)
                obtain ⟨ad155, e155, hx155_0⟩ := Kd.at_string HR0.out x5_1 p155 q155
                cases e155
                replace p155 := eq_true p155
                replace q155 := eq_true q155
                have p156 : 0 ≤ (x5_1 : Int) := of_decide_eq_true (by first | (with_reducible assumption) | assumption)
                have q156 : x5_1 < (l1.length : Int) := of_decide_eq_true (by first | (with_reducible assumption) | assumption)
                obtain ⟨ad156, e156, hx156_0⟩ := Kd.at_string HR1.out x5_1 p156 q156
                cases e156
                replace p156 := eq_true p156
                replace q156 := eq_true q156
                go_wp2
                repeat (go_quiet (fail); try go_wp2)
                go_roundg k1
                case measure => have := HK1.out; omega
                case rel => exact ⟨(wrap64 (x5_1 + 1)), (by first | rfl | (simp; done) | (simp [*]; done)), H', ⟨by have := HK1.out; omega⟩, by repeat (first | exact Drawn0.refl _ | apply Drawn0.step)⟩
              · rw [if_neg c7] at H
                have c7b0 : ((rdOf ByteArray.empty l0 x5_1).toList == (rdOf ByteArray.empty l1 x5_1).toList) = false := beq_eq_false_iff_ne.mpr c7
                have c7b1 : ((rdOf ByteArray.empty l0 x5_1).toList != (rdOf ByteArray.empty l1 x5_1).toList) = true := bne_iff_ne.mpr c7
                obtain rfl := Option.some.inj H
                have p155 : 0 ≤ (x5_1 : Int) := of_decide_eq_true (by first | (with_reducible assumption) | assumption)
                have q155 : x5_1 < (l0.length : Int) := of_decide_eq_true (by first | (with_reducible assumption) | assumption)
                obtain ⟨ad155, e155, hx155_0⟩ := Kd.at_string HR0.out x5_1 p155 q155
                cases e155
                replace p155 := eq_true p155
                replace q155 := eq_true q155
                have p156 : 0 ≤ (x5_1 : Int) := of_decide_eq_true (by first | (with_reducible assumption) | assumption)
                have q156 : x5_1 < (l1.length : Int) := of_decide_eq_true (by first | (with_reducible assumption) | assumption)
                obtain ⟨ad156, e156, hx156_0⟩ := Kd.at_string HR1.out x5_1 p156 q156
                cases e156
                replace p156 := eq_true p156
                replace q156 := eq_true q156
                go_wp2
                repeat (go_quiet (fail); try go_wp2)
                go_ret
                exact ⟨by first | rfl | (simp; done) | (simp [*]; done), by repeat (first | exact Drawn0.refl _ | apply Drawn0.step)⟩
            · rw [if_neg c6] at H
              exact absurd H (by simp)
          · rw [if_neg c5] at H
            exact absurd H (by simp)
        · rw [if_neg c4] at H
          have c4b0 : decide (x5_1 < (l0.length : Int)) = false := decide_eq_false c4
          clear c4
          obtain rfl := Option.some.inj H
          go_wp2
          repeat (go_quiet (fail); try go_wp2)
          go_ret
          exact ⟨by first | rfl | (simp; done) | (simp [*]; done), by repeat (first | exact Drawn0.refl _ | apply Drawn0.step)⟩
  · rw [if_neg c3] at H
    have c3b0 : ((l0.length : Int) == (l1.length : Int)) = false := beq_eq_false_iff_ne.mpr c3
    have c3b1 : ((l0.length : Int) != (l1.length : Int)) = true := bne_iff_ne.mpr c3
    have c3b2 : (l0.length == l1.length) = false := by first | simpa using c3 | (simp at c3 ⊢; omega)
    obtain rfl := Option.some.inj H
    go_enter Try.func34, Try.ntmps34
    go_wp2
    repeat (go_quiet (fail); try go_wp2)
    go_ret
    exact ⟨by first | rfl | (simp; done) | (simp [*]; done), by repeat (first | exact Drawn0.refl _ | apply Drawn0.step)⟩

/-! ### grafterlaw0_SpoilTexts: function 35 -/
def grafterlaw0_SpoilTexts.l0 : Nat → List ByteArray → Int → Option (List ByteArray)
  | 0, _, _ => none
  | k + 1, x0, x2 => if x2 < (x0.length : Int) then (if 0 ≤ x2 then (if 1 + (rdOf ByteArray.empty x0 x2).size ≤ 9223372036854775807 then (grafterlaw0_SpoilTexts.l0 k (x0.set (x2 : Int).toNat ((⟨#[126]⟩ : ByteArray) ++ (rdOf ByteArray.empty x0 x2))) (wrap64 (x2 + 1))) else (none)) else (none)) else (some x0)
def grafterlaw0_SpoilTexts.f (k : Nat) (l0 : List ByteArray) : Option (List ByteArray) := grafterlaw0_SpoilTexts.l0 k l0 0
theorem grafterlaw0_SpoilTexts.mono_l : ∀ k, (∀ y0 y1, LeO (grafterlaw0_SpoilTexts.l0 k y0 y1) (grafterlaw0_SpoilTexts.l0 (k + 1) y0 y1))
  | 0 => fun _ _ r h => by simp [grafterlaw0_SpoilTexts.l0] at h
  | k + 1 => by
    have ih0 := grafterlaw0_SpoilTexts.mono_l k
    · intro y0 y1
      unfold grafterlaw0_SpoilTexts.l0
      repeat' first
      | (with_reducible exact ih0 _ _)
      | (with_reducible exact LeO.refl _)
      | (with_reducible exact LeO.none _)
      | (with_reducible refine LeO.ite ?_ ?_)
      | (with_reducible refine LeO.bind ?_ (fun _ => ?_))
      | exact ih0 _ _
      | exact LeO.none _
      | refine LeO.ite ?_ ?_
      | refine LeO.bind ?_ (fun _ => ?_)
theorem grafterlaw0_SpoilTexts.mono : ∀ a0 k, LeO (grafterlaw0_SpoilTexts.f k a0) (grafterlaw0_SpoilTexts.f (k + 1) a0) := by
  intro a0 k
  have ih0 := grafterlaw0_SpoilTexts.mono_l k
  unfold grafterlaw0_SpoilTexts.f
  repeat' first
      | (with_reducible exact ih0 _ _)
      | (with_reducible exact LeO.refl _)
      | (with_reducible exact LeO.none _)
      | (with_reducible refine LeO.ite ?_ ?_)
      | (with_reducible refine LeO.bind ?_ (fun _ => ?_))
      | exact ih0 _ _
      | exact LeO.none _
      | refine LeO.ite ?_ ?_
      | refine LeO.bind ?_ (fun _ => ?_)
set_option maxHeartbeats 8000000 in
set_option maxRecDepth 100000 in
theorem grafterlaw0_SpoilTexts.calls (k : Nat) (P0_ : Nat → Prop) (u9000_ : Value) (l0 : List ByteArray) (r : List ByteArray) (w0 w : World) (hB : Below w0.heap.size w0 w) (ho0 : Kd.R Kd.string 9 w w0.heap.size P0_ u9000_ l0) (h : grafterlaw0_SpoilTexts.f k l0 = some r) :
    Calls Try.prog 35 #[u9000_] w fun e w' => e = .returned (.tuple #[]) ∧ Kd.R Kd.string 9 w' w0.heap.size (fun k_ => (P0_ k_ ∨ w.heap.size ≤ k_)) u9000_ r ∧ Below w0.heap.size w0 w' ∧ Kept w w' (fun k_ => P0_ k_) := by
  have HO0 := Aside0.mk (show Kd.R Kd.string 9 w w0.heap.size (fun k_ => (P0_ k_ ∨ w.heap.size ≤ k_)) u9000_ l0 from Kd.R_mono ho0 (fun k_ hk => (.inl hk)))
  have HK := Aside0.mk (Kept.refl w (fun k_ => P0_ k_))
  have HW0 := Aside0.mk hB.size
  have HB := Aside0.mk hB
  clear hB
  have H : (grafterlaw0_SpoilTexts.l0 k l0 0) = some r := h
  clear h
  have H' := Aside0.mk H
  clear H
  go_enter Try.func35, Try.ntmps35
  go_wp2
  go_loopg [2] k (fun kq v2 w' => ∃ (x0_1 : List ByteArray) (x2_1 : Int), v2 = .int .i64 x2_1 ∧ Aside0 (grafterlaw0_SpoilTexts.l0 kq x0_1 x2_1 = some r) ∧ Aside0 (kq ≤ k) ∧ Aside0 (Kd.R Kd.string 9 w' w0.heap.size (fun k_ => (P0_ k_ ∨ w.heap.size ≤ k_)) u9000_ x0_1) ∧ Aside0 (Kept w w' (fun k_ => P0_ k_)) ∧ Aside0 (Below w0.heap.size w0 w'))
  case atStart => exact ⟨(l0), (0), (by first | rfl | (simp; done) | (simp [*]; done)), H', ⟨Nat.le_refl _⟩, ⟨by (with_reducible repeat (first | apply Kd.R_alloc | apply Kd.R_drewN | apply Kd.R_drew)); exact HO0.out⟩, ⟨by repeat (first | (with_reducible first | exact HK.out | apply Kept.alloc | apply Kept.drewN | apply Kept.drew) | exact HK.out)⟩, ⟨by repeat (first | (with_reducible first | exact HB.out | apply below_alloc | apply pw_below_drewN | apply below_drew1) | exact HB.out)⟩⟩
  case round =>
    clear H'
    obtain ⟨x0_1, x2_1, rfl, HA, HK1, HO_0, HK, HB⟩ := hrel
    cases gk with
    | zero => exact absurd HA.out (by simp [grafterlaw0_SpoilTexts.l0])
    | succ k1 =>
      have H := HA.out
      clear HA
      simp only [grafterlaw0_SpoilTexts.l0] at H
      by_cases c2 : x2_1 < (x0_1.length : Int)
      · rw [if_pos c2] at H
        have c2b0 : decide (x2_1 < (x0_1.length : Int)) = true := decide_eq_true c2
        clear c2
        by_cases c3 : 0 ≤ x2_1
        · rw [if_pos c3] at H
          have c3b0 : decide (0 ≤ x2_1) = true := decide_eq_true c3
          clear c3
          by_cases c4 : 1 + (rdOf ByteArray.empty x0_1 x2_1).size ≤ 9223372036854775807
          · rw [if_pos c4] at H
            have c4b0 := eq_true c4
            have c4b1 : decide (1 + (rdOf ByteArray.empty x0_1 x2_1).size ≤ 9223372036854775807) = true := decide_eq_true c4
            try have c4b2 : (9223372036854775807 < 1 + (rdOf ByteArray.empty x0_1 x2_1).size) = False := eq_false (Nat.not_lt.2 c4)
            try simp only [ByteArray.size_append] at c4b2
            obtain ⟨y158, hy158⟩ : ∃ y_ : List ByteArray, y_ = (x0_1.set (x2_1 : Int).toNat ((⟨#[126]⟩ : ByteArray) ++ (rdOf ByteArray.empty x0_1 x2_1))) := ⟨_, rfl⟩
            replace H : (grafterlaw0_SpoilTexts.l0 k1 y158 (wrap64 (x2_1 + 1))) = some r := by first | (rw [hy158]; with_reducible exact H) | (have H2_ := (Option.bind_some _ _).symm.trans H; rw [hy158]; with_reducible exact H2_) | (have H2_ := (Option.bind_some _ _).symm.trans H; with_reducible exact H2_) | with_reducible exact H | (rw [hy158]; exact H) | exact H
            have Ny158 := Aside0.mk hy158
            clear hy158
            have H' := Aside0.mk H
            clear H
            obtain ⟨Ao6, co6, eo6⟩ := Kd.R_slice HO_0.out
            subst eo6
            have p157 : 0 ≤ (x2_1 : Int) := of_decide_eq_true (by first | (with_reducible assumption) | assumption)
            have q157 : x2_1 < (x0_1.length : Int) := of_decide_eq_true (by first | (with_reducible assumption) | assumption)
            obtain ⟨ad157, e157, hx157_0⟩ := Kd.at_string (Kd.R_reads' HO_0.out).2.2 x2_1 p157 q157
            cases e157
            replace p157 := eq_true p157
            replace q157 := eq_true q157
            have p5 : 0 ≤ (x2_1 : Int) := of_decide_eq_true (by first | (with_reducible assumption) | assumption)
            have q5 : (x2_1 : Int) < ((x0_1.length : Int) : Int) := of_decide_eq_true (by first | (with_reducible assumption) | assumption)
            obtain ⟨go5, co5, eo5, gb5, gl5, cl5, HG5⟩ := Kd.R_form HO_0.out (by omega)
            (first | cases eo5 | (injection eo5 with ea_ en_ ec_; (first | subst ea_ | (injection ea_ with ea_; subst ea_)); subst ec_; clear en_))
            have GB5 := Aside0.mk gb5
            have GG5 := Aside0.mk HG5
            clear gb5 gl5 HG5
            have HMgo5 := Aside0.mk (show (P0_ go5 ∨ w.heap.size ≤ go5) from (HO_0.out.1 _ rfl))
            (first | simp only [add_plain] at hx157_0 | skip)
            obtain ⟨hx5_0, hf5_0⟩ := Kd.R_celln (⟨#[]⟩ : ByteArray) HO_0.out (x2_1 : Int) p5 q5
            replace p5 := eq_true p5
            replace q5 := eq_true q5
            have HP7 := Kd.R_putg HO_0.out (x2_1 : Int) ((⟨#[126]⟩ : ByteArray) ++ (rdOf ByteArray.empty x0_1 x2_1))
            go_wp2_with (first | ((with_reducible refine gate_store (t := 9) (p := 16) rfl ?_); refine store_event (t := 9) (p := 16) (v := ?vo_w8) (w1 := (wr.setCell ⟨go5, (x2_1 : Int).toNat, none⟩ (.string ((⟨#[126]⟩ : ByteArray) ++ (rdOf ByteArray.empty x0_1 x2_1))))) ?hg ?ho ?hn ?hr ?_; (case ho => rfl); (case hg => rfl); (case hn => rfl); (case hr => first | (go_simp; done) | (go_simp; rfl)); intro w8 hw; have hg : wr.grownBy w8 (some go5) := (by rw [hw]; exact HP7.2); have hp_ : Kd.R Kd.string 9 w8 w0.heap.size (fun k_ => (P0_ k_ ∨ w.heap.size ≤ k_)) (.slice (some ⟨go5, 0, none⟩) x0_1.length co6) y158 := (by rw [hw, Ny158.out]; exact HP7.1); clear HP7; have n0_ := Aside0.mk (hp_); have n1_ := Aside0.mk ((by rw [hw]; exact below_set (HB.out) GB5.out : Below w0.heap.size w0 w8)); have n2_ := Aside0.mk (Kept.of_grown (S := (fun k_ => P0_ k_)) hg (by repeat (first | (with_reducible first | exact HK.out | apply Kept.alloc | apply Kept.drewN | apply Kept.drew) | exact HK.out)) (fun k_ e_ => (HO_0.out.1 k_ e_))); clear HO_0; clear HB; clear HK; have HO_0 := n0_; have HB := n1_; have HK := n2_; clear n0_ n1_ n2_; clear hg hw hp_))
            go_roundg k1
            case measure => have := HK1.out; omega
            case rel => exact ⟨(y158), (wrap64 (x2_1 + 1)), (by first | rfl | (simp; done) | (simp [*]; done)), H', ⟨by have := HK1.out; omega⟩, ⟨by (with_reducible repeat (first | apply Kd.R_alloc | apply Kd.R_drewN | apply Kd.R_drew)); exact HO_0.out⟩, ⟨by repeat (first | (with_reducible first | exact HK.out | apply Kept.alloc | apply Kept.drewN | apply Kept.drew) | exact HK.out)⟩, ⟨by repeat (first | (with_reducible first | exact HB.out | apply below_alloc | apply pw_below_drewN | apply below_drew1) | exact HB.out)⟩⟩
          · rw [if_neg c4] at H
            exact absurd H (by simp)
        · rw [if_neg c3] at H
          exact absurd H (by simp)
      · rw [if_neg c2] at H
        have c2b0 : decide (x2_1 < (x0_1.length : Int)) = false := decide_eq_false c2
        clear c2
        obtain rfl := Option.some.inj H
        obtain ⟨Ao9, co9, eo9⟩ := Kd.R_slice HO_0.out
        subst eo9
        go_wp2
        first | go_end0 | ((try simp only [Exit.inBlock, Exit.then]); refine bodyPost_ret (results_none rfl _ _ _) rfl ?_)
        exact ⟨by first | rfl | (simp [errW_none, errW_some] <;> rfl) | (simp [*, errW_none, errW_some] <;> rfl), by (with_reducible repeat (first | apply Kd.R_alloc | apply Kd.R_drewN | apply Kd.R_drew)); exact HO_0.out, by repeat (first | (with_reducible first | exact HB.out | apply below_alloc | apply pw_below_drewN | apply below_drew1) | exact HB.out), by repeat (first | (with_reducible first | exact HK.out | apply Kept.alloc | apply Kept.drewN | apply Kept.drew) | exact HK.out)⟩

/-! ### grafterlaw0_KeptTexts: function 36 -/
def grafterlaw0_KeptTexts.f (k : Nat) (l0 : List ByteArray) (l1 : List ByteArray) : Option (Bool) := if 2 ≤ l0.length then ((grafterlaw0_SameTexts.f k (l0.take (l0.length - 2)) l1).bind fun t => (some (t && ((rdOf ByteArray.empty l0 ((l1.length : Int))).toList == (⟨#[126, 114, 111, 111, 109]⟩ : ByteArray).toList) && ((rdOf ByteArray.empty l0 ((l1.length : Int) + 1)).toList == (⟨#[126, 98, 101, 104, 105, 110, 100]⟩ : ByteArray).toList)))) else (none)
theorem grafterlaw0_KeptTexts.mono : ∀ a0 a1 k, LeO (grafterlaw0_KeptTexts.f k a0 a1) (grafterlaw0_KeptTexts.f (k + 1) a0 a1) := by
  intro a0 a1 k
  unfold grafterlaw0_KeptTexts.f
  repeat' first
      | (with_reducible exact grafterlaw0_SameTexts.mono _ _ _)
      | (with_reducible exact LeO.refl _)
      | (with_reducible exact LeO.none _)
      | (with_reducible refine LeO.ite ?_ ?_)
      | (with_reducible refine LeO.bind ?_ (fun _ => ?_))
      | exact grafterlaw0_SameTexts.mono _ _ _
      | exact LeO.none _
      | refine LeO.ite ?_ ?_
      | refine LeO.bind ?_ (fun _ => ?_)
set_option maxHeartbeats 8000000 in
set_option maxRecDepth 100000 in
theorem grafterlaw0_KeptTexts.calls (k : Nat) (A0 : Option Addr) (c0 : Nat) (l0 : List ByteArray) (A1 : Option Addr) (c1 : Nat) (l1 : List ByteArray) (r : Bool) (w : World) (hr0 : Kd.C Kd.string w A0 l0.length l0) (hc0 : l0.length ≤ c0) (hr1 : Kd.C Kd.string w A1 l1.length l1) (hc1 : l1.length ≤ c1) (h : grafterlaw0_KeptTexts.f k l0 l1 = some r) :
    Calls Try.prog 36 #[.slice A0 (l0.length - 2) c0, .slice A1 l1.length c1] w fun e w' => e = .returned (.bool r) ∧ Drawn0 w w' := by
  have HR0 := Aside0.mk hr0
  have HC0 := Aside0.mk hc0
  clear hr0 hc0
  have HR1 := Aside0.mk hr1
  have HC1 := Aside0.mk hc1
  clear hr1 hc1
  have H : (if 2 ≤ l0.length then ((grafterlaw0_SameTexts.f k (l0.take (l0.length - 2)) l1).bind fun t => (some (t && ((rdOf ByteArray.empty l0 ((l1.length : Int))).toList == (⟨#[126, 114, 111, 111, 109]⟩ : ByteArray).toList) && ((rdOf ByteArray.empty l0 ((l1.length : Int) + 1)).toList == (⟨#[126, 98, 101, 104, 105, 110, 100]⟩ : ByteArray).toList)))) else (none)) = some r := h
  clear h
  have HL0 := HR0.out.2.1
  by_cases h2 : 2 ≤ l0.length
  · rw [if_pos h2] at H
    replace H := Option.bind_eq_some_iff.mp H
    obtain ⟨t, A30, H⟩ := H
    have A3 := Aside0.mk A30
    obtain rfl := Option.some.inj H
    clear H
    have HRm0 := Aside0.mk (Kd.C_take HR0.out (Nat.sub_le l0.length 2))
    obtain ⟨m, hm⟩ : ∃ m, l0.take (l0.length - 2) = m := ⟨_, rfl⟩
    have hlm : l0.length - 2 = m.length := by rw [← hm, List.length_take]; omega
    rw [hlm]
    rw [hm] at HRm0 A30 A3
    have HRm := HRm0
    clear HRm0
    have HLM := Aside0.mk (show l0.length = m.length + 2 by omega)
    clear hlm hm h2
    have HCm := Aside0.mk (show m.length ≤ c0 from by have := HC0.out; have := HLM.out; omega)
    obtain ⟨iL, hiL, _, _, _⟩ := info_parts info9
    have hcutL := Go.Proofs.Ytbhkmgidokonkaa.Ld.cut_cap (P := Try.prog) 42 9 .i64 Try.underlying42 hiL A0 m.length c0 (l0.length : Int) (by omega) (by have := HC0.out; omega)
    have hcapL : l0.length ≤ c0 := HC0.out
    have hj : (IntKind.i64.wrap ((m.length : Int) + 2)) = (l0.length : Int) := by
      rw [i64_w]; unfold wrap64; have := HL0; have := HLM.out; omega
    cases t with
    | false =>
      clear A30
      go_enter Try.func36, Try.ntmps36
      go_wp2_with (first | ((with_reducible refine gate_callee (f := 34) rfl ?_); refine goesL_ (some 13) rfl rfl Try.func34 (by kernel_rfl) rfl #[.slice A0 m.length c0, .slice A1 l1.length c1] rfl (by (try simp only [List.map_toArray, List.map_cons, List.map_nil]); first | done | rfl) ?_; (with_reducible refine (grafterlaw0_SameTexts.calls k _ _ m _ _ l1 false _ ?side1 ?side2 ?side3 ?side4 A3.out).mono ?_); (case side1 => repeat (first | exact HRm.out | (with_reducible refine Kd.C_alloc ?_ _) | (with_reducible refine Kd.C_drewN ?_ _) | (with_reducible refine Kd.C_drew ?_))); (case side2 => exact HCm.out); (case side3 => repeat (first | exact HR1.out | (with_reducible refine Kd.C_alloc ?_ _) | (with_reducible refine Kd.C_drewN ?_ _) | (with_reducible refine Kd.C_drew ?_))); (case side4 => exact HC1.out); rintro e w' ⟨rfl, ⟨nd, rfl⟩⟩; refine ⟨_, rfl, ?_⟩))
      all_goals go_ret
      all_goals exact ⟨by first | rfl | (simp; done) | (simp [*]; done), by repeat (first | exact Drawn0.refl _ | apply Drawn0.step)⟩
    | true =>
      have hl1 : l1.length = m.length := by
        have h_ := A30
        unfold grafterlaw0_SameTexts.f at h_
        split at h_
        · rename_i hh; omega
        · exact absurd h_ (by simp)
      clear A30
      have HL1 := Aside0.mk hl1
      clear hl1
      have p1 : 0 ≤ (l1.length : Int) := by omega
      have q1 : (l1.length : Int) < (l0.length : Int) := by have := HLM.out; have := HL1.out; omega
      have p2 : 0 ≤ (l1.length : Int) + 1 := by omega
      have q2 : (l1.length : Int) + 1 < (l0.length : Int) := by have := HLM.out; have := HL1.out; omega
      obtain ⟨ad, eA, hx1⟩ := Kd.at_string HR0.out (l1.length : Int) p1 q1
      obtain ⟨ad2, eA2, hx2⟩ := Kd.at_string HR0.out ((l1.length : Int) + 1) p2 q2
      cases eA
      cases eA2
      have hx3 := hx1
      rw [Int.toNat_natCast] at hx3
      have hx4 := hx2
      rw [show ((l1.length : Int) + 1).toNat = l1.length + 1 by omega] at hx4
      have hx5 := hx4
      simp only [Addr.add] at hx5
      rw [if_neg (by omega)] at hx5
      have hj2 : (IntKind.i64.wrap ((l1.length : Int) + 1)) = (l1.length : Int) + 1 := by
        rw [i64_w]; unfold wrap64; have := HL0; have := HLM.out; have := HL1.out; omega
      replace p1 := eq_true p1
      replace q1 := eq_true q1
      replace p2 := eq_true p2
      replace q2 := eq_true q2
      go_enter Try.func36, Try.ntmps36
      go_wp2_with (first | ((with_reducible refine gate_callee (f := 34) rfl ?_); refine goesL_ (some 13) rfl rfl Try.func34 (by kernel_rfl) rfl #[.slice (some ad) m.length c0, .slice A1 l1.length c1] rfl (by (try simp only [List.map_toArray, List.map_cons, List.map_nil]); first | done | rfl) ?_; (with_reducible refine (grafterlaw0_SameTexts.calls k _ _ m _ _ l1 true _ ?side1 ?side2 ?side3 ?side4 A3.out).mono ?_); (case side1 => repeat (first | exact HRm.out | (with_reducible refine Kd.C_alloc ?_ _) | (with_reducible refine Kd.C_drewN ?_ _) | (with_reducible refine Kd.C_drew ?_))); (case side2 => exact HCm.out); (case side3 => repeat (first | exact HR1.out | (with_reducible refine Kd.C_alloc ?_ _) | (with_reducible refine Kd.C_drewN ?_ _) | (with_reducible refine Kd.C_drew ?_))); (case side4 => exact HC1.out); rintro e w' ⟨rfl, ⟨nd, rfl⟩⟩; refine ⟨_, rfl, ?_⟩))
      all_goals go_ret
      all_goals exact ⟨by first | rfl | (simp; done) | (simp [*]; done), by repeat (first | exact Drawn0.refl _ | apply Drawn0.step)⟩
  · rw [if_neg h2] at H
    exact absurd H (by simp)


/-! ### grafterlaw17_awake: function 37 -/
def grafterlaw17_awake.f (k : Nat)  : Option (Bool) := (journal_Text.f k (([(⟨#[97]⟩ : ByteArray), (⟨#[]⟩ : ByteArray), (⟨#[98, 99]⟩ : ByteArray)] : List ByteArray))).bind fun bt163 => ((journal_Load.f k bt163.1).bind fun bt165 => (if bt163.1.size + 1 ≤ 9223372036854775807 then ((journal_Load.f k (bt163.1 ++ (⟨#[120]⟩ : ByteArray))).bind fun bt169 => (if (bt163.1.size : Int) < 3 then (some false) else (if 0 ≤ (wrap64 ((bt163.1.size : Int) - 1)) then (if (wrap64 ((bt163.1.size : Int) - 1)) ≤ (bt163.1.size : Int) then ((journal_Load.f k (bt163.1.extract 0 ((wrap64 ((bt163.1.size : Int) - 1)) : Int).toNat)).bind fun bt173 => (if 1025 ≤ 281474976710656 then ((journal_Text.f k (([strOfNums (List.replicate 1025 0)] : List ByteArray))).bind fun bt183 => (if (bt163.1.size : Int) = 21 then ((grafterlaw0_Num.f bt163.2).bind fun t185 => (if t185 = 0 then ((grafterlaw0_SameTexts.f k bt165.1 (([(⟨#[97]⟩ : ByteArray), (⟨#[]⟩ : ByteArray), (⟨#[98, 99]⟩ : ByteArray)] : List ByteArray))).bind fun t189 => (if t189 = true then (if bt165.2 = 21 then ((grafterlaw0_SameTexts.f k bt169.1 bt165.1).bind fun t190 => (if t190 = true then (if bt169.2 = 21 then ((grafterlaw0_SameTexts.f k bt173.1 (([(⟨#[97]⟩ : ByteArray), (⟨#[]⟩ : ByteArray)] : List ByteArray))).bind fun t194 => (if t194 = true then (if bt173.2 = 13 then ((grafterlaw0_Num.f bt183.2).bind fun t195 => (some (t195 == 1700))) else (some false)) else (some false))) else (some false)) else (some false))) else (some false)) else (some false))) else (some false))) else (some false))) else (none))) else (none)) else (none)))) else (none)))
theorem grafterlaw17_awake.mono : ∀ k, LeO (grafterlaw17_awake.f k ) (grafterlaw17_awake.f (k + 1) ) := by
  intro  k
  unfold grafterlaw17_awake.f
  repeat' first
      | (with_reducible exact grafterlaw0_SameTexts.mono _ _ _)
      | (with_reducible exact journal_Load.mono _ _)
      | (with_reducible exact journal_Text.mono _ _)
      | (with_reducible exact LeO.refl _)
      | (with_reducible exact LeO.none _)
      | (with_reducible refine LeO.ite ?_ ?_)
      | (with_reducible refine LeO.bind ?_ (fun _ => ?_))
      | exact grafterlaw0_SameTexts.mono _ _ _
      | exact journal_Load.mono _ _
      | exact journal_Text.mono _ _
      | exact LeO.none _
      | refine LeO.ite ?_ ?_
      | refine LeO.bind ?_ (fun _ => ?_)
set_option maxHeartbeats 8000000 in
set_option maxRecDepth 100000 in
theorem grafterlaw17_awake.calls (k : Nat)  (r : Bool) (w : World) (hrt : r = true) (h : grafterlaw17_awake.f k  = some r) :
    Calls Try.prog 37 #[] w fun e w' => e = .returned (.bool r) ∧ Below w.heap.size w w' := by
  have HRT := Aside0.mk hrt
  clear hrt
  have HB := Aside0.mk (Below.refl w.heap.size w)
  have H : ((journal_Text.f k (([(⟨#[97]⟩ : ByteArray), (⟨#[]⟩ : ByteArray), (⟨#[98, 99]⟩ : ByteArray)] : List ByteArray))).bind fun bt163 => ((journal_Load.f k bt163.1).bind fun bt165 => (if bt163.1.size + 1 ≤ 9223372036854775807 then ((journal_Load.f k (bt163.1 ++ (⟨#[120]⟩ : ByteArray))).bind fun bt169 => (if (bt163.1.size : Int) < 3 then (some false) else (if 0 ≤ (wrap64 ((bt163.1.size : Int) - 1)) then (if (wrap64 ((bt163.1.size : Int) - 1)) ≤ (bt163.1.size : Int) then ((journal_Load.f k (bt163.1.extract 0 ((wrap64 ((bt163.1.size : Int) - 1)) : Int).toNat)).bind fun bt173 => (if 1025 ≤ 281474976710656 then ((journal_Text.f k (([strOfNums (List.replicate 1025 0)] : List ByteArray))).bind fun bt183 => (if (bt163.1.size : Int) = 21 then ((grafterlaw0_Num.f bt163.2).bind fun t185 => (if t185 = 0 then ((grafterlaw0_SameTexts.f k bt165.1 (([(⟨#[97]⟩ : ByteArray), (⟨#[]⟩ : ByteArray), (⟨#[98, 99]⟩ : ByteArray)] : List ByteArray))).bind fun t189 => (if t189 = true then (if bt165.2 = 21 then ((grafterlaw0_SameTexts.f k bt169.1 bt165.1).bind fun t190 => (if t190 = true then (if bt169.2 = 21 then ((grafterlaw0_SameTexts.f k bt173.1 (([(⟨#[97]⟩ : ByteArray), (⟨#[]⟩ : ByteArray)] : List ByteArray))).bind fun t194 => (if t194 = true then (if bt173.2 = 13 then ((grafterlaw0_Num.f bt183.2).bind fun t195 => (some (t195 == 1700))) else (some false)) else (some false))) else (some false)) else (some false))) else (some false)) else (some false))) else (some false))) else (some false))) else (none))) else (none)) else (none)))) else (none)))) = some r := h
  clear h
  obtain ⟨y160, hy160⟩ : ∃ y_ : List ByteArray, y_ = (([(⟨#[97]⟩ : ByteArray), (⟨#[]⟩ : ByteArray), (⟨#[98, 99]⟩ : ByteArray)] : List ByteArray)) := ⟨_, rfl⟩
  replace H : ((journal_Text.f k y160).bind fun bt163 => ((journal_Load.f k bt163.1).bind fun bt165 => (if bt163.1.size + 1 ≤ 9223372036854775807 then ((journal_Load.f k (bt163.1 ++ (⟨#[120]⟩ : ByteArray))).bind fun bt169 => (if (bt163.1.size : Int) < 3 then (some false) else (if 0 ≤ (wrap64 ((bt163.1.size : Int) - 1)) then (if (wrap64 ((bt163.1.size : Int) - 1)) ≤ (bt163.1.size : Int) then ((journal_Load.f k (bt163.1.extract 0 ((wrap64 ((bt163.1.size : Int) - 1)) : Int).toNat)).bind fun bt173 => (if 1025 ≤ 281474976710656 then ((journal_Text.f k (([strOfNums (List.replicate 1025 0)] : List ByteArray))).bind fun bt183 => (if (bt163.1.size : Int) = 21 then ((grafterlaw0_Num.f bt163.2).bind fun t185 => (if t185 = 0 then ((grafterlaw0_SameTexts.f k bt165.1 (([(⟨#[97]⟩ : ByteArray), (⟨#[]⟩ : ByteArray), (⟨#[98, 99]⟩ : ByteArray)] : List ByteArray))).bind fun t189 => (if t189 = true then (if bt165.2 = 21 then ((grafterlaw0_SameTexts.f k bt169.1 bt165.1).bind fun t190 => (if t190 = true then (if bt169.2 = 21 then ((grafterlaw0_SameTexts.f k bt173.1 (([(⟨#[97]⟩ : ByteArray), (⟨#[]⟩ : ByteArray)] : List ByteArray))).bind fun t194 => (if t194 = true then (if bt173.2 = 13 then ((grafterlaw0_Num.f bt183.2).bind fun t195 => (some (t195 == 1700))) else (some false)) else (some false))) else (some false)) else (some false))) else (some false)) else (some false))) else (some false))) else (some false))) else (none))) else (none)) else (none)))) else (none)))) = some r := by first | (rw [hy160]; with_reducible exact H) | (have H2_ := (Option.bind_some _ _).symm.trans H; rw [hy160]; with_reducible exact H2_) | (have H2_ := (Option.bind_some _ _).symm.trans H; with_reducible exact H2_) | with_reducible exact H | (rw [hy160]; exact H) | exact H
  have Ny160 := Aside0.mk hy160
  clear hy160
  replace H := Option.bind_eq_some_iff.mp H
  obtain ⟨⟨t163, t164⟩, A10, H⟩ := H
  replace H : ((journal_Load.f k t163).bind fun bt165 => (if t163.size + 1 ≤ 9223372036854775807 then ((journal_Load.f k (t163 ++ (⟨#[120]⟩ : ByteArray))).bind fun bt169 => (if (t163.size : Int) < 3 then (some false) else (if 0 ≤ (wrap64 ((t163.size : Int) - 1)) then (if (wrap64 ((t163.size : Int) - 1)) ≤ (t163.size : Int) then ((journal_Load.f k (t163.extract 0 ((wrap64 ((t163.size : Int) - 1)) : Int).toNat)).bind fun bt173 => (if 1025 ≤ 281474976710656 then ((journal_Text.f k (([strOfNums (List.replicate 1025 0)] : List ByteArray))).bind fun bt183 => (if (t163.size : Int) = 21 then ((grafterlaw0_Num.f t164).bind fun t185 => (if t185 = 0 then ((grafterlaw0_SameTexts.f k bt165.1 (([(⟨#[97]⟩ : ByteArray), (⟨#[]⟩ : ByteArray), (⟨#[98, 99]⟩ : ByteArray)] : List ByteArray))).bind fun t189 => (if t189 = true then (if bt165.2 = 21 then ((grafterlaw0_SameTexts.f k bt169.1 bt165.1).bind fun t190 => (if t190 = true then (if bt169.2 = 21 then ((grafterlaw0_SameTexts.f k bt173.1 (([(⟨#[97]⟩ : ByteArray), (⟨#[]⟩ : ByteArray)] : List ByteArray))).bind fun t194 => (if t194 = true then (if bt173.2 = 13 then ((grafterlaw0_Num.f bt183.2).bind fun t195 => (some (t195 == 1700))) else (some false)) else (some false))) else (some false)) else (some false))) else (some false)) else (some false))) else (some false))) else (some false))) else (none))) else (none)) else (none)))) else (none))) = some r := H
  have A1 := Aside0.mk A10
  clear A10
  replace H := Option.bind_eq_some_iff.mp H
  obtain ⟨⟨t165, t166⟩, A20, H⟩ := H
  replace H : (if t163.size + 1 ≤ 9223372036854775807 then ((journal_Load.f k (t163 ++ (⟨#[120]⟩ : ByteArray))).bind fun bt169 => (if (t163.size : Int) < 3 then (some false) else (if 0 ≤ (wrap64 ((t163.size : Int) - 1)) then (if (wrap64 ((t163.size : Int) - 1)) ≤ (t163.size : Int) then ((journal_Load.f k (t163.extract 0 ((wrap64 ((t163.size : Int) - 1)) : Int).toNat)).bind fun bt173 => (if 1025 ≤ 281474976710656 then ((journal_Text.f k (([strOfNums (List.replicate 1025 0)] : List ByteArray))).bind fun bt183 => (if (t163.size : Int) = 21 then ((grafterlaw0_Num.f t164).bind fun t185 => (if t185 = 0 then ((grafterlaw0_SameTexts.f k t165 (([(⟨#[97]⟩ : ByteArray), (⟨#[]⟩ : ByteArray), (⟨#[98, 99]⟩ : ByteArray)] : List ByteArray))).bind fun t189 => (if t189 = true then (if t166 = 21 then ((grafterlaw0_SameTexts.f k bt169.1 t165).bind fun t190 => (if t190 = true then (if bt169.2 = 21 then ((grafterlaw0_SameTexts.f k bt173.1 (([(⟨#[97]⟩ : ByteArray), (⟨#[]⟩ : ByteArray)] : List ByteArray))).bind fun t194 => (if t194 = true then (if bt173.2 = 13 then ((grafterlaw0_Num.f bt183.2).bind fun t195 => (some (t195 == 1700))) else (some false)) else (some false))) else (some false)) else (some false))) else (some false)) else (some false))) else (some false))) else (some false))) else (none))) else (none)) else (none)))) else (none)) = some r := H
  have A2 := Aside0.mk A20
  clear A20
  by_cases c3 : t163.size + 1 ≤ 9223372036854775807
  · rw [if_pos c3] at H
    have c3b0 := eq_true c3
    have c3b1 : decide (t163.size + 1 ≤ 9223372036854775807) = true := decide_eq_true c3
    try have c3b2 : (9223372036854775807 < t163.size + 1) = False := eq_false (Nat.not_lt.2 c3)
    try simp only [ByteArray.size_append] at c3b2
    replace H := Option.bind_eq_some_iff.mp H
    obtain ⟨⟨t169, t170⟩, A40, H⟩ := H
    replace H : (if (t163.size : Int) < 3 then (some false) else (if 0 ≤ (wrap64 ((t163.size : Int) - 1)) then (if (wrap64 ((t163.size : Int) - 1)) ≤ (t163.size : Int) then ((journal_Load.f k (t163.extract 0 ((wrap64 ((t163.size : Int) - 1)) : Int).toNat)).bind fun bt173 => (if 1025 ≤ 281474976710656 then ((journal_Text.f k (([strOfNums (List.replicate 1025 0)] : List ByteArray))).bind fun bt183 => (if (t163.size : Int) = 21 then ((grafterlaw0_Num.f t164).bind fun t185 => (if t185 = 0 then ((grafterlaw0_SameTexts.f k t165 (([(⟨#[97]⟩ : ByteArray), (⟨#[]⟩ : ByteArray), (⟨#[98, 99]⟩ : ByteArray)] : List ByteArray))).bind fun t189 => (if t189 = true then (if t166 = 21 then ((grafterlaw0_SameTexts.f k t169 t165).bind fun t190 => (if t190 = true then (if t170 = 21 then ((grafterlaw0_SameTexts.f k bt173.1 (([(⟨#[97]⟩ : ByteArray), (⟨#[]⟩ : ByteArray)] : List ByteArray))).bind fun t194 => (if t194 = true then (if bt173.2 = 13 then ((grafterlaw0_Num.f bt183.2).bind fun t195 => (some (t195 == 1700))) else (some false)) else (some false))) else (some false)) else (some false))) else (some false)) else (some false))) else (some false))) else (some false))) else (none))) else (none)) else (none))) = some r := H
    have A4 := Aside0.mk A40
    clear A40
    by_cases c5 : (t163.size : Int) < 3
    · rw [if_pos c5] at H
      have c5b0 : decide ((t163.size : Int) < 3) = true := decide_eq_true c5
      have c5b1 : decide (t163.size < 3) = true := decide_eq_true (by omega)
      clear c5
      exact absurd ((Option.some.inj H).trans HRT.out) Bool.false_ne_true
    · rw [if_neg c5] at H
      have c5b0 : decide ((t163.size : Int) < 3) = false := decide_eq_false c5
      have c5b1 : decide (t163.size < 3) = false := decide_eq_false (by omega)
      clear c5
      obtain ⟨ji12, hji12⟩ : ∃ j_ : Int, (wrap64 ((t163.size : Int) - 1)) = j_ := ⟨_, rfl⟩
      replace H : (if 0 ≤ (ji12) then (if (ji12) ≤ (t163.size : Int) then ((journal_Load.f k (t163.extract 0 ((ji12) : Int).toNat)).bind fun bt173 => (if 1025 ≤ 281474976710656 then ((journal_Text.f k (([strOfNums (List.replicate 1025 0)] : List ByteArray))).bind fun bt183 => (if (t163.size : Int) = 21 then ((grafterlaw0_Num.f t164).bind fun t185 => (if t185 = 0 then ((grafterlaw0_SameTexts.f k t165 (([(⟨#[97]⟩ : ByteArray), (⟨#[]⟩ : ByteArray), (⟨#[98, 99]⟩ : ByteArray)] : List ByteArray))).bind fun t189 => (if t189 = true then (if t166 = 21 then ((grafterlaw0_SameTexts.f k t169 t165).bind fun t190 => (if t190 = true then (if t170 = 21 then ((grafterlaw0_SameTexts.f k bt173.1 (([(⟨#[97]⟩ : ByteArray), (⟨#[]⟩ : ByteArray)] : List ByteArray))).bind fun t194 => (if t194 = true then (if bt173.2 = 13 then ((grafterlaw0_Num.f bt183.2).bind fun t195 => (some (t195 == 1700))) else (some false)) else (some false))) else (some false)) else (some false))) else (some false)) else (some false))) else (some false))) else (some false))) else (none))) else (none)) else (none)) = some r := by first | (rw [hji12] at H; exact H) | (simp only [hji12] at H ⊢; exact H)
      (try rw [hji12] at A1)
      (try rw [hji12] at A2)
      (try rw [hji12] at A4)
      have hji12w : (IntKind.i64.wrap ((t163.size : Int) - 1)) = ji12 := (i64_w _).trans hji12
      by_cases c13 : 0 ≤ (ji12)
      · rw [if_pos c13] at H
        have c13b0 := eq_true c13
        have c13b1 : decide (0 ≤ (ji12)) = true := decide_eq_true c13
        clear c13
        by_cases c14 : (ji12) ≤ (t163.size : Int)
        · rw [if_pos c14] at H
          have c14b0 := eq_true c14
          have c14b1 : decide ((ji12) ≤ (t163.size : Int)) = true := decide_eq_true c14
          clear c14
          replace H := Option.bind_eq_some_iff.mp H
          obtain ⟨⟨t173, t174⟩, A150, H⟩ := H
          replace H : (if 1025 ≤ 281474976710656 then ((journal_Text.f k (([strOfNums (List.replicate 1025 0)] : List ByteArray))).bind fun bt183 => (if (t163.size : Int) = 21 then ((grafterlaw0_Num.f t164).bind fun t185 => (if t185 = 0 then ((grafterlaw0_SameTexts.f k t165 (([(⟨#[97]⟩ : ByteArray), (⟨#[]⟩ : ByteArray), (⟨#[98, 99]⟩ : ByteArray)] : List ByteArray))).bind fun t189 => (if t189 = true then (if t166 = 21 then ((grafterlaw0_SameTexts.f k t169 t165).bind fun t190 => (if t190 = true then (if t170 = 21 then ((grafterlaw0_SameTexts.f k t173 (([(⟨#[97]⟩ : ByteArray), (⟨#[]⟩ : ByteArray)] : List ByteArray))).bind fun t194 => (if t194 = true then (if t174 = 13 then ((grafterlaw0_Num.f bt183.2).bind fun t195 => (some (t195 == 1700))) else (some false)) else (some false))) else (some false)) else (some false))) else (some false)) else (some false))) else (some false))) else (some false))) else (none)) = some r := H
          have A15 := Aside0.mk A150
          clear A150
          by_cases c16 : 1025 ≤ 281474976710656
          · rw [if_pos c16] at H
            have c16b0 := eq_true c16
            have c16b1 : decide (1025 ≤ 281474976710656) = true := decide_eq_true c16
            clear c16
            obtain ⟨y177, hy177⟩ : ∃ y_ : List Int, y_ = (List.replicate 1025 0) := ⟨_, rfl⟩
            replace H : ((journal_Text.f k (([strOfNums y177] : List ByteArray))).bind fun bt183 => (if (t163.size : Int) = 21 then ((grafterlaw0_Num.f t164).bind fun t185 => (if t185 = 0 then ((grafterlaw0_SameTexts.f k t165 (([(⟨#[97]⟩ : ByteArray), (⟨#[]⟩ : ByteArray), (⟨#[98, 99]⟩ : ByteArray)] : List ByteArray))).bind fun t189 => (if t189 = true then (if t166 = 21 then ((grafterlaw0_SameTexts.f k t169 t165).bind fun t190 => (if t190 = true then (if t170 = 21 then ((grafterlaw0_SameTexts.f k t173 (([(⟨#[97]⟩ : ByteArray), (⟨#[]⟩ : ByteArray)] : List ByteArray))).bind fun t194 => (if t194 = true then (if t174 = 13 then ((grafterlaw0_Num.f bt183.2).bind fun t195 => (some (t195 == 1700))) else (some false)) else (some false))) else (some false)) else (some false))) else (some false)) else (some false))) else (some false))) else (some false))) = some r := by first | (rw [hy177]; with_reducible exact H) | (have H2_ := (Option.bind_some _ _).symm.trans H; rw [hy177]; with_reducible exact H2_) | (have H2_ := (Option.bind_some _ _).symm.trans H; with_reducible exact H2_) | with_reducible exact H | (rw [hy177]; exact H) | exact H
            have Ny177 := Aside0.mk hy177
            clear hy177
            obtain ⟨y180, hy180⟩ : ∃ y_ : List ByteArray, y_ = (([strOfNums y177] : List ByteArray)) := ⟨_, rfl⟩
            replace H : ((journal_Text.f k y180).bind fun bt183 => (if (t163.size : Int) = 21 then ((grafterlaw0_Num.f t164).bind fun t185 => (if t185 = 0 then ((grafterlaw0_SameTexts.f k t165 (([(⟨#[97]⟩ : ByteArray), (⟨#[]⟩ : ByteArray), (⟨#[98, 99]⟩ : ByteArray)] : List ByteArray))).bind fun t189 => (if t189 = true then (if t166 = 21 then ((grafterlaw0_SameTexts.f k t169 t165).bind fun t190 => (if t190 = true then (if t170 = 21 then ((grafterlaw0_SameTexts.f k t173 (([(⟨#[97]⟩ : ByteArray), (⟨#[]⟩ : ByteArray)] : List ByteArray))).bind fun t194 => (if t194 = true then (if t174 = 13 then ((grafterlaw0_Num.f bt183.2).bind fun t195 => (some (t195 == 1700))) else (some false)) else (some false))) else (some false)) else (some false))) else (some false)) else (some false))) else (some false))) else (some false))) = some r := by first | (rw [hy180]; with_reducible exact H) | (have H2_ := (Option.bind_some _ _).symm.trans H; rw [hy180]; with_reducible exact H2_) | (have H2_ := (Option.bind_some _ _).symm.trans H; with_reducible exact H2_) | with_reducible exact H | (rw [hy180]; exact H) | exact H
            have Ny180 := Aside0.mk hy180
            clear hy180
            replace H := Option.bind_eq_some_iff.mp H
            obtain ⟨⟨t183, t184⟩, A170, H⟩ := H
            replace H : (if (t163.size : Int) = 21 then ((grafterlaw0_Num.f t164).bind fun t185 => (if t185 = 0 then ((grafterlaw0_SameTexts.f k t165 (([(⟨#[97]⟩ : ByteArray), (⟨#[]⟩ : ByteArray), (⟨#[98, 99]⟩ : ByteArray)] : List ByteArray))).bind fun t189 => (if t189 = true then (if t166 = 21 then ((grafterlaw0_SameTexts.f k t169 t165).bind fun t190 => (if t190 = true then (if t170 = 21 then ((grafterlaw0_SameTexts.f k t173 (([(⟨#[97]⟩ : ByteArray), (⟨#[]⟩ : ByteArray)] : List ByteArray))).bind fun t194 => (if t194 = true then (if t174 = 13 then ((grafterlaw0_Num.f t184).bind fun t195 => (some (t195 == 1700))) else (some false)) else (some false))) else (some false)) else (some false))) else (some false)) else (some false))) else (some false))) else (some false)) = some r := H
            have A17 := Aside0.mk A170
            clear A170
            by_cases c18 : (t163.size : Int) = 21
            · rw [if_pos c18] at H
              have c18b0 : ((t163.size : Int) == 21) = true := beq_iff_eq.mpr c18
              have c18b1 : ((t163.size : Int) != 21) = false := bne_eq_false_iff_eq.mpr c18
              clear c18
              replace H := Option.bind_eq_some_iff.mp H
              obtain ⟨t185, A190, H⟩ := H
              replace H : (if t185 = 0 then ((grafterlaw0_SameTexts.f k t165 (([(⟨#[97]⟩ : ByteArray), (⟨#[]⟩ : ByteArray), (⟨#[98, 99]⟩ : ByteArray)] : List ByteArray))).bind fun t189 => (if t189 = true then (if t166 = 21 then ((grafterlaw0_SameTexts.f k t169 t165).bind fun t190 => (if t190 = true then (if t170 = 21 then ((grafterlaw0_SameTexts.f k t173 (([(⟨#[97]⟩ : ByteArray), (⟨#[]⟩ : ByteArray)] : List ByteArray))).bind fun t194 => (if t194 = true then (if t174 = 13 then ((grafterlaw0_Num.f t184).bind fun t195 => (some (t195 == 1700))) else (some false)) else (some false))) else (some false)) else (some false))) else (some false)) else (some false))) else (some false)) = some r := H
              have A19 := Aside0.mk A190
              clear A190
              by_cases c20 : t185 = 0
              · rw [if_pos c20] at H
                have c20b0 : (t185 == 0) = true := beq_iff_eq.mpr c20
                have c20b1 : (t185 != 0) = false := bne_eq_false_iff_eq.mpr c20
                clear c20
                obtain ⟨y186, hy186⟩ : ∃ y_ : List ByteArray, y_ = (([(⟨#[97]⟩ : ByteArray), (⟨#[]⟩ : ByteArray), (⟨#[98, 99]⟩ : ByteArray)] : List ByteArray)) := ⟨_, rfl⟩
                replace H : ((grafterlaw0_SameTexts.f k t165 y186).bind fun t189 => (if t189 = true then (if t166 = 21 then ((grafterlaw0_SameTexts.f k t169 t165).bind fun t190 => (if t190 = true then (if t170 = 21 then ((grafterlaw0_SameTexts.f k t173 (([(⟨#[97]⟩ : ByteArray), (⟨#[]⟩ : ByteArray)] : List ByteArray))).bind fun t194 => (if t194 = true then (if t174 = 13 then ((grafterlaw0_Num.f t184).bind fun t195 => (some (t195 == 1700))) else (some false)) else (some false))) else (some false)) else (some false))) else (some false)) else (some false))) = some r := by first | (rw [hy186]; with_reducible exact H) | (have H2_ := (Option.bind_some _ _).symm.trans H; rw [hy186]; with_reducible exact H2_) | (have H2_ := (Option.bind_some _ _).symm.trans H; with_reducible exact H2_) | with_reducible exact H | (rw [hy186]; exact H) | exact H
                have Ny186 := Aside0.mk hy186
                clear hy186
                replace H := Option.bind_eq_some_iff.mp H
                obtain ⟨t189, A210, H⟩ := H
                replace H : (if t189 = true then (if t166 = 21 then ((grafterlaw0_SameTexts.f k t169 t165).bind fun t190 => (if t190 = true then (if t170 = 21 then ((grafterlaw0_SameTexts.f k t173 (([(⟨#[97]⟩ : ByteArray), (⟨#[]⟩ : ByteArray)] : List ByteArray))).bind fun t194 => (if t194 = true then (if t174 = 13 then ((grafterlaw0_Num.f t184).bind fun t195 => (some (t195 == 1700))) else (some false)) else (some false))) else (some false)) else (some false))) else (some false)) else (some false)) = some r := H
                have A21 := Aside0.mk A210
                clear A210
                by_cases c22 : t189 = true
                · subst c22
                  have H1 : (if t166 = 21 then ((grafterlaw0_SameTexts.f k t169 t165).bind fun t190 => (if t190 = true then (if t170 = 21 then ((grafterlaw0_SameTexts.f k t173 (([(⟨#[97]⟩ : ByteArray), (⟨#[]⟩ : ByteArray)] : List ByteArray))).bind fun t194 => (if t194 = true then (if t174 = 13 then ((grafterlaw0_Num.f t184).bind fun t195 => (some (t195 == 1700))) else (some false)) else (some false))) else (some false)) else (some false))) else (some false)) = some r := by rw [if_pos rfl] at H; exact H
                  clear H
                  have H := H1
                  clear H1
                  by_cases c23 : t166 = 21
                  · rw [if_pos c23] at H
                    have c23b0 : (t166 == 21) = true := beq_iff_eq.mpr c23
                    have c23b1 : (t166 != 21) = false := bne_eq_false_iff_eq.mpr c23
                    clear c23
                    replace H := Option.bind_eq_some_iff.mp H
                    obtain ⟨t190, A240, H⟩ := H
                    replace H : (if t190 = true then (if t170 = 21 then ((grafterlaw0_SameTexts.f k t173 (([(⟨#[97]⟩ : ByteArray), (⟨#[]⟩ : ByteArray)] : List ByteArray))).bind fun t194 => (if t194 = true then (if t174 = 13 then ((grafterlaw0_Num.f t184).bind fun t195 => (some (t195 == 1700))) else (some false)) else (some false))) else (some false)) else (some false)) = some r := H
                    have A24 := Aside0.mk A240
                    clear A240
                    by_cases c25 : t190 = true
                    · subst c25
                      have H1 : (if t170 = 21 then ((grafterlaw0_SameTexts.f k t173 (([(⟨#[97]⟩ : ByteArray), (⟨#[]⟩ : ByteArray)] : List ByteArray))).bind fun t194 => (if t194 = true then (if t174 = 13 then ((grafterlaw0_Num.f t184).bind fun t195 => (some (t195 == 1700))) else (some false)) else (some false))) else (some false)) = some r := by rw [if_pos rfl] at H; exact H
                      clear H
                      have H := H1
                      clear H1
                      by_cases c26 : t170 = 21
                      · rw [if_pos c26] at H
                        have c26b0 : (t170 == 21) = true := beq_iff_eq.mpr c26
                        have c26b1 : (t170 != 21) = false := bne_eq_false_iff_eq.mpr c26
                        clear c26
                        obtain ⟨y191, hy191⟩ : ∃ y_ : List ByteArray, y_ = (([(⟨#[97]⟩ : ByteArray), (⟨#[]⟩ : ByteArray)] : List ByteArray)) := ⟨_, rfl⟩
                        replace H : ((grafterlaw0_SameTexts.f k t173 y191).bind fun t194 => (if t194 = true then (if t174 = 13 then ((grafterlaw0_Num.f t184).bind fun t195 => (some (t195 == 1700))) else (some false)) else (some false))) = some r := by first | (rw [hy191]; with_reducible exact H) | (have H2_ := (Option.bind_some _ _).symm.trans H; rw [hy191]; with_reducible exact H2_) | (have H2_ := (Option.bind_some _ _).symm.trans H; with_reducible exact H2_) | with_reducible exact H | (rw [hy191]; exact H) | exact H
                        have Ny191 := Aside0.mk hy191
                        clear hy191
                        replace H := Option.bind_eq_some_iff.mp H
                        obtain ⟨t194, A270, H⟩ := H
                        replace H : (if t194 = true then (if t174 = 13 then ((grafterlaw0_Num.f t184).bind fun t195 => (some (t195 == 1700))) else (some false)) else (some false)) = some r := H
                        have A27 := Aside0.mk A270
                        clear A270
                        by_cases c28 : t194 = true
                        · subst c28
                          have H1 : (if t174 = 13 then ((grafterlaw0_Num.f t184).bind fun t195 => (some (t195 == 1700))) else (some false)) = some r := by rw [if_pos rfl] at H; exact H
                          clear H
                          have H := H1
                          clear H1
                          by_cases c29 : t174 = 13
                          · rw [if_pos c29] at H
                            have c29b0 : (t174 == 13) = true := beq_iff_eq.mpr c29
                            have c29b1 : (t174 != 13) = false := bne_eq_false_iff_eq.mpr c29
                            clear c29
                            replace H := Option.bind_eq_some_iff.mp H
                            obtain ⟨t195, A300, H⟩ := H
                            replace H : (some (t195 == 1700)) = some r := H
                            have A30 := Aside0.mk A300
                            clear A300
                            obtain rfl := Option.some.inj H
                            go_enter Try.func37, Try.ntmps37
                            go_wp2_with (first | ((with_reducible refine gate_dst (N := 12) rfl ?_); (try (refine gate_guard (by rfl) ?_; dsimp only)); refine Kd.R_lit Kd.string _ 9 ?hg (N := 12) ?hd (xs := ([(⟨#[97]⟩ : ByteArray), (⟨#[]⟩ : ByteArray), (⟨#[98, 99]⟩ : ByteArray)] : List ByteArray)) (inner := [.string (⟨#[97]⟩ : ByteArray), .string (⟨#[]⟩ : ByteArray), .string (⟨#[98, 99]⟩ : ByteArray)]) (ok := fun _ => True) (okp := fun _ => True) ?hr ?hp (fun _ hk => hk) trivial (Below.refl _ _) (Nat.le_refl _) (by simp) ?_; (case hd => rfl); (case hg => rfl); (case hr => first | (go_simp; done) | (go_simp; rfl)); (case hp => exact (Reps.one (show Kd.M Kd.string _ _ _ (⟨#[97]⟩ : ByteArray) [.string (⟨#[97]⟩ : ByteArray)] from rfl) (Reps.one (show Kd.M Kd.string _ _ _ (⟨#[]⟩ : ByteArray) [.string (⟨#[]⟩ : ByteArray)] from rfl) (Reps.one (show Kd.M Kd.string _ _ _ (⟨#[98, 99]⟩ : ByteArray) [.string (⟨#[98, 99]⟩ : ByteArray)] from rfl) (Reps.none _ _))))); intro v161 w31 ho32 hb hg_ hnew_; clear hg_ hnew_; (first | rw [← Ny160.out] at ho32 | (simp only [Int.reduceToNat] at ho32; rw [← Ny160.out] at ho32)); have n0_ := Aside0.mk (Kd.R_lower ho32 (below_size (by repeat (first | (with_reducible first | exact HB.out | apply below_alloc | apply pw_below_drewN | apply below_drew1) | exact HB.out)))); have n1_ := Aside0.mk (below_step (by repeat (first | (with_reducible first | exact HB.out | apply below_alloc | apply pw_below_drewN | apply below_drew1) | exact HB.out)) hb); clear HB; have HO162 := n0_; have HB := n1_; clear n0_ n1_; clear hb ho32; obtain ⟨Ao33, co33, eo33⟩ := Kd.R_slice HO162.out; subst eo33) | ((with_reducible refine gate_callee (f := 30) rfl ?_); refine goesL_ (some 13) rfl rfl Try.func30 (by kernel_rfl) rfl #[.slice Ao33 y160.length co33] rfl (by (try simp only [List.map_toArray, List.map_cons, List.map_nil]); first | done | rfl | (simp only [List.length_drop, List.length_take]; rfl)) ?_; (with_reducible refine (journal_Text.calls k _ _ y160 t163 t164 _ ?side1 ?side2 A1.out).mono ?_); (case side1 => repeat (first | exact (Kd.R_reads' HO162.out).2.2 | (with_reducible refine Kd.C_alloc ?_ _) | (with_reducible refine Kd.C_drewN ?_ _) | (with_reducible refine Kd.C_drew ?_))); (case side2 => exact (Kd.R_reads' HO162.out).2.1); rintro e w34 ⟨rfl, hb⟩; refine ⟨_, rfl, ?_⟩; have n0_ := Aside0.mk (Kd.R_below (by (with_reducible repeat (first | apply Kd.R_alloc | apply Kd.R_drewN | apply Kd.R_drew)); exact HO162.out) hb); have n1_ := Aside0.mk (below_step (by repeat (first | (with_reducible first | exact HB.out | apply below_alloc | apply pw_below_drewN | apply below_drew1) | exact HB.out)) hb); clear HO162; clear HB; have HO162 := n0_; have HB := n1_; clear n0_ n1_; (try clear hb); (try clear hb2); (try clear hk); (try clear hi); (try clear A1)) | ((with_reducible refine gate_callee (f := 32) rfl ?_); refine goesL_ (some 18) rfl rfl Try.func32 (by kernel_rfl) rfl #[.string t163] rfl (by (try simp only [List.map_toArray, List.map_cons, List.map_nil]); first | done | rfl | (simp only [List.length_drop, List.length_take]; rfl)) ?_; (with_reducible refine (journal_Load.calls k t163 t165 t166 _ A2.out).mono ?_); rintro e w35 ⟨v167, rfl, ho0, hb⟩; refine ⟨_, rfl, ?_⟩; have n0_ := Aside0.mk (Kd.R_elder' (by (with_reducible repeat (first | apply Kd.R_alloc | apply Kd.R_drewN | apply Kd.R_drew)); exact HO162.out) (Kd.R_base ho0) hb); have n1_ := Aside0.mk (Kd.R_lower (Kd.R_new' ho0 (Kd.R_lt (by (with_reducible repeat (first | apply Kd.R_alloc | apply Kd.R_drewN | apply Kd.R_drew)); exact HO162.out))) (below_size (by repeat (first | (with_reducible first | exact HB.out | apply below_alloc | apply pw_below_drewN | apply below_drew1) | exact HB.out)))); have n2_ := Aside0.mk (below_step (by repeat (first | (with_reducible first | exact HB.out | apply below_alloc | apply pw_below_drewN | apply below_drew1) | exact HB.out)) hb); clear HO162; clear HB; have HO162 := n0_; have HO168 := n1_; have HB := n2_; clear n0_ n1_ n2_; (try clear hb); (try clear hb2); (try clear hk); (try clear hi); (try clear ho0); (try clear A2)) | ((with_reducible refine gate_callee (f := 32) rfl ?_); refine goesL_ (some 24) rfl rfl Try.func32 (by kernel_rfl) rfl #[.string (t163 ++ (⟨#[120]⟩ : ByteArray))] rfl (by (try simp only [List.map_toArray, List.map_cons, List.map_nil]); first | done | rfl | (simp only [List.length_drop, List.length_take]; rfl)) ?_; (with_reducible refine (journal_Load.calls k (t163 ++ (⟨#[120]⟩ : ByteArray)) t169 t170 _ A4.out).mono ?_); rintro e w36 ⟨v171, rfl, ho0, hb⟩; refine ⟨_, rfl, ?_⟩; have n0_ := Aside0.mk (Kd.R_elder' (by (with_reducible repeat (first | apply Kd.R_alloc | apply Kd.R_drewN | apply Kd.R_drew)); exact HO162.out) (Kd.R_base ho0) hb); have n1_ := Aside0.mk (Kd.R_elder' (by (with_reducible repeat (first | apply Kd.R_alloc | apply Kd.R_drewN | apply Kd.R_drew)); exact HO168.out) (Kd.R_base ho0) hb); have n2_ := Aside0.mk (Kd.R_lower (Kd.R_new' (Kd.R_new' ho0 (Kd.R_lt (by (with_reducible repeat (first | apply Kd.R_alloc | apply Kd.R_drewN | apply Kd.R_drew)); exact HO162.out))) (Kd.R_lt (by (with_reducible repeat (first | apply Kd.R_alloc | apply Kd.R_drewN | apply Kd.R_drew)); exact HO168.out))) (below_size (by repeat (first | (with_reducible first | exact HB.out | apply below_alloc | apply pw_below_drewN | apply below_drew1) | exact HB.out)))); have n3_ := Aside0.mk (below_step (by repeat (first | (with_reducible first | exact HB.out | apply below_alloc | apply pw_below_drewN | apply below_drew1) | exact HB.out)) hb); clear HO162; clear HO168; clear HB; have HO162 := n0_; have HO168 := n1_; have HO172 := n2_; have HB := n3_; clear n0_ n1_ n2_ n3_; (try clear hb); (try clear hb2); (try clear hk); (try clear hi); (try clear ho0); (try clear A4)) | ((with_reducible refine gate_callee (f := 32) rfl ?_); refine goesL_ (some 36) rfl rfl Try.func32 (by kernel_rfl) rfl #[.string (t163.extract 0 ((ji12) : Int).toNat)] rfl (by (try simp only [List.map_toArray, List.map_cons, List.map_nil]); first | done | (simp only [hji12]; rfl) | rfl | (simp only [List.length_drop, List.length_take]; rfl)) ?_; (with_reducible refine (journal_Load.calls k (t163.extract 0 ((ji12) : Int).toNat) t173 t174 _ A15.out).mono ?_); rintro e w37 ⟨v175, rfl, ho0, hb⟩; refine ⟨_, rfl, ?_⟩; have n0_ := Aside0.mk (Kd.R_elder' (by (with_reducible repeat (first | apply Kd.R_alloc | apply Kd.R_drewN | apply Kd.R_drew)); exact HO162.out) (Kd.R_base ho0) hb); have n1_ := Aside0.mk (Kd.R_elder' (by (with_reducible repeat (first | apply Kd.R_alloc | apply Kd.R_drewN | apply Kd.R_drew)); exact HO168.out) (Kd.R_base ho0) hb); have n2_ := Aside0.mk (Kd.R_elder' (by (with_reducible repeat (first | apply Kd.R_alloc | apply Kd.R_drewN | apply Kd.R_drew)); exact HO172.out) (Kd.R_base ho0) hb); have n3_ := Aside0.mk (Kd.R_lower (Kd.R_new' (Kd.R_new' (Kd.R_new' ho0 (Kd.R_lt (by (with_reducible repeat (first | apply Kd.R_alloc | apply Kd.R_drewN | apply Kd.R_drew)); exact HO162.out))) (Kd.R_lt (by (with_reducible repeat (first | apply Kd.R_alloc | apply Kd.R_drewN | apply Kd.R_drew)); exact HO168.out))) (Kd.R_lt (by (with_reducible repeat (first | apply Kd.R_alloc | apply Kd.R_drewN | apply Kd.R_drew)); exact HO172.out))) (below_size (by repeat (first | (with_reducible first | exact HB.out | apply below_alloc | apply pw_below_drewN | apply below_drew1) | exact HB.out)))); have n4_ := Aside0.mk (below_step (by repeat (first | (with_reducible first | exact HB.out | apply below_alloc | apply pw_below_drewN | apply below_drew1) | exact HB.out)) hb); clear HO162; clear HO168; clear HO172; clear HB; have HO162 := n0_; have HO168 := n1_; have HO172 := n2_; have HO176 := n3_; have HB := n4_; clear n0_ n1_ n2_ n3_ n4_; (try clear hb); (try clear hb2); (try clear hk); (try clear hi); (try clear ho0); (try clear A15)) | ((with_reducible refine gate_dst (N := 40) rfl ?_); (try (refine gate_guard (by rfl) ?_; dsimp only)); refine Kd.R_make (Kd.int .u8) _ 5 rfl (N := 40) rfl 34 _ _ rfl 1025 rfl rfl Try.underlying34 (.int .u8 0) 1 info5 rfl (by decide) (by omega) 0 (ok := fun _ => True) (okp := fun _ => True) rfl (fun _ hk => hk) trivial (by omega) (by omega) (Below.refl _ _) (Nat.le_refl _) ?_; intro v178 w38 ho39 hb hg_ hnew_; clear hg_ hnew_; (first | rw [← Ny177.out] at ho39 | (simp only [Int.reduceToNat] at ho39; rw [← Ny177.out] at ho39)); have n0_ := Aside0.mk (Kd.R_below (by (with_reducible repeat (first | apply Kd.R_alloc | apply Kd.R_drewN | apply Kd.R_drew)); exact HO162.out) hb); have n1_ := Aside0.mk (Kd.R_below (by (with_reducible repeat (first | apply Kd.R_alloc | apply Kd.R_drewN | apply Kd.R_drew)); exact HO168.out) hb); have n2_ := Aside0.mk (Kd.R_below (by (with_reducible repeat (first | apply Kd.R_alloc | apply Kd.R_drewN | apply Kd.R_drew)); exact HO172.out) hb); have n3_ := Aside0.mk (Kd.R_below (by (with_reducible repeat (first | apply Kd.R_alloc | apply Kd.R_drewN | apply Kd.R_drew)); exact HO176.out) hb); have n4_ := Aside0.mk (Kd.R_lower ho39 (below_size (by repeat (first | (with_reducible first | exact HB.out | apply below_alloc | apply pw_below_drewN | apply below_drew1) | exact HB.out)))); have n5_ := Aside0.mk (below_step (by repeat (first | (with_reducible first | exact HB.out | apply below_alloc | apply pw_below_drewN | apply below_drew1) | exact HB.out)) hb); clear HO162; clear HO168; clear HO172; clear HO176; clear HB; have HO162 := n0_; have HO168 := n1_; have HO172 := n2_; have HO176 := n3_; have HO179 := n4_; have HB := n5_; clear n0_ n1_ n2_ n3_ n4_ n5_; clear hb ho39; have hcv40 := own_string (P := Try.prog) Try.underlying34 Try.underlying5 Try.underlying9 (Kd.own_of_R HO179.out)) | ((with_reducible refine gate_dst (N := 42) rfl ?_); (try (refine gate_guard (by rfl) ?_; dsimp only)); refine Kd.R_lit Kd.string _ 9 ?hg (N := 42) ?hd (xs := ([strOfNums y177] : List ByteArray)) (inner := [.string (strOfNums y177)]) (ok := fun _ => True) (okp := fun _ => True) ?hr ?hp (fun _ hk => hk) trivial (Below.refl _ _) (Nat.le_refl _) (by simp) ?_; (case hd => rfl); (case hg => rfl); (case hr => first | (go_simp; done) | (go_simp; rfl)); (case hp => exact (Reps.one (show Kd.M Kd.string _ _ _ (strOfNums y177) [.string (strOfNums y177)] from rfl) (Reps.none _ _))); intro v181 w41 ho42 hb hg_ hnew_; clear hg_ hnew_; (first | rw [← Ny180.out] at ho42 | (simp only [Int.reduceToNat] at ho42; rw [← Ny180.out] at ho42)); have n0_ := Aside0.mk (Kd.R_elder' (by (with_reducible repeat (first | apply Kd.R_alloc | apply Kd.R_drewN | apply Kd.R_drew)); exact HO162.out) (Kd.R_base ho42) hb); have n1_ := Aside0.mk (Kd.R_elder' (by (with_reducible repeat (first | apply Kd.R_alloc | apply Kd.R_drewN | apply Kd.R_drew)); exact HO168.out) (Kd.R_base ho42) hb); have n2_ := Aside0.mk (Kd.R_elder' (by (with_reducible repeat (first | apply Kd.R_alloc | apply Kd.R_drewN | apply Kd.R_drew)); exact HO172.out) (Kd.R_base ho42) hb); have n3_ := Aside0.mk (Kd.R_elder' (by (with_reducible repeat (first | apply Kd.R_alloc | apply Kd.R_drewN | apply Kd.R_drew)); exact HO176.out) (Kd.R_base ho42) hb); have n4_ := Aside0.mk (Kd.R_below (by (with_reducible repeat (first | apply Kd.R_alloc | apply Kd.R_drewN | apply Kd.R_drew)); exact HO179.out) hb); have n5_ := Aside0.mk (Kd.R_lower (Kd.R_new' (Kd.R_new' (Kd.R_new' (Kd.R_new' ho42 (Kd.R_lt (by (with_reducible repeat (first | apply Kd.R_alloc | apply Kd.R_drewN | apply Kd.R_drew)); exact HO162.out))) (Kd.R_lt (by (with_reducible repeat (first | apply Kd.R_alloc | apply Kd.R_drewN | apply Kd.R_drew)); exact HO168.out))) (Kd.R_lt (by (with_reducible repeat (first | apply Kd.R_alloc | apply Kd.R_drewN | apply Kd.R_drew)); exact HO172.out))) (Kd.R_lt (by (with_reducible repeat (first | apply Kd.R_alloc | apply Kd.R_drewN | apply Kd.R_drew)); exact HO176.out))) (below_size (by repeat (first | (with_reducible first | exact HB.out | apply below_alloc | apply pw_below_drewN | apply below_drew1) | exact HB.out)))); have n6_ := Aside0.mk (below_step (by repeat (first | (with_reducible first | exact HB.out | apply below_alloc | apply pw_below_drewN | apply below_drew1) | exact HB.out)) hb); clear HO162; clear HO168; clear HO172; clear HO176; clear HO179; clear HB; have HO162 := n0_; have HO168 := n1_; have HO172 := n2_; have HO176 := n3_; have HO179 := n4_; have HO182 := n5_; have HB := n6_; clear n0_ n1_ n2_ n3_ n4_ n5_ n6_; clear hb ho42; obtain ⟨Ao43, co43, eo43⟩ := Kd.R_slice HO182.out; subst eo43) | ((with_reducible refine gate_callee (f := 30) rfl ?_); refine goesL_ (some 43) rfl rfl Try.func30 (by kernel_rfl) rfl #[.slice Ao43 y180.length co43] rfl (by (try simp only [List.map_toArray, List.map_cons, List.map_nil]); first | done | rfl | (simp only [List.length_drop, List.length_take]; rfl)) ?_; (with_reducible refine (journal_Text.calls k _ _ y180 t183 t184 _ ?side1 ?side2 A17.out).mono ?_); (case side1 => repeat (first | exact (Kd.R_reads' HO182.out).2.2 | (with_reducible refine Kd.C_alloc ?_ _) | (with_reducible refine Kd.C_drewN ?_ _) | (with_reducible refine Kd.C_drew ?_))); (case side2 => exact (Kd.R_reads' HO182.out).2.1); rintro e w44 ⟨rfl, hb⟩; refine ⟨_, rfl, ?_⟩; have n0_ := Aside0.mk (Kd.R_below (by (with_reducible repeat (first | apply Kd.R_alloc | apply Kd.R_drewN | apply Kd.R_drew)); exact HO162.out) hb); have n1_ := Aside0.mk (Kd.R_below (by (with_reducible repeat (first | apply Kd.R_alloc | apply Kd.R_drewN | apply Kd.R_drew)); exact HO168.out) hb); have n2_ := Aside0.mk (Kd.R_below (by (with_reducible repeat (first | apply Kd.R_alloc | apply Kd.R_drewN | apply Kd.R_drew)); exact HO172.out) hb); have n3_ := Aside0.mk (Kd.R_below (by (with_reducible repeat (first | apply Kd.R_alloc | apply Kd.R_drewN | apply Kd.R_drew)); exact HO176.out) hb); have n4_ := Aside0.mk (Kd.R_below (by (with_reducible repeat (first | apply Kd.R_alloc | apply Kd.R_drewN | apply Kd.R_drew)); exact HO179.out) hb); have n5_ := Aside0.mk (Kd.R_below (by (with_reducible repeat (first | apply Kd.R_alloc | apply Kd.R_drewN | apply Kd.R_drew)); exact HO182.out) hb); have n6_ := Aside0.mk (below_step (by repeat (first | (with_reducible first | exact HB.out | apply below_alloc | apply pw_below_drewN | apply below_drew1) | exact HB.out)) hb); clear HO162; clear HO168; clear HO172; clear HO176; clear HO179; clear HO182; clear HB; have HO162 := n0_; have HO168 := n1_; have HO172 := n2_; have HO176 := n3_; have HO179 := n4_; have HO182 := n5_; have HB := n6_; clear n0_ n1_ n2_ n3_ n4_ n5_ n6_; (try clear hb); (try clear hb2); (try clear hk); (try clear hi); (try clear A17)) | (go_at_call 26; (with_reducible refine (grafterlaw0_Num.calls t164 t185 _ A19.out).mono ?_); rintro e w' ⟨rfl, ⟨nd, rfl⟩⟩; (try clear A19)) | ((with_reducible refine gate_dst (N := 56) rfl ?_); (try (refine gate_guard (by rfl) ?_; dsimp only)); refine Kd.R_lit Kd.string _ 9 ?hg (N := 56) ?hd (xs := ([(⟨#[97]⟩ : ByteArray), (⟨#[]⟩ : ByteArray), (⟨#[98, 99]⟩ : ByteArray)] : List ByteArray)) (inner := [.string (⟨#[97]⟩ : ByteArray), .string (⟨#[]⟩ : ByteArray), .string (⟨#[98, 99]⟩ : ByteArray)]) (ok := fun _ => True) (okp := fun _ => True) ?hr ?hp (fun _ hk => hk) trivial (Below.refl _ _) (Nat.le_refl _) (by simp) ?_; (case hd => rfl); (case hg => rfl); (case hr => first | (go_simp; done) | (go_simp; rfl)); (case hp => exact (Reps.one (show Kd.M Kd.string _ _ _ (⟨#[97]⟩ : ByteArray) [.string (⟨#[97]⟩ : ByteArray)] from rfl) (Reps.one (show Kd.M Kd.string _ _ _ (⟨#[]⟩ : ByteArray) [.string (⟨#[]⟩ : ByteArray)] from rfl) (Reps.one (show Kd.M Kd.string _ _ _ (⟨#[98, 99]⟩ : ByteArray) [.string (⟨#[98, 99]⟩ : ByteArray)] from rfl) (Reps.none _ _))))); intro v187 w45 ho46 hb hg_ hnew_; clear hg_ hnew_; (first | rw [← Ny186.out] at ho46 | (simp only [Int.reduceToNat] at ho46; rw [← Ny186.out] at ho46)); have n0_ := Aside0.mk (Kd.R_elder' (by (with_reducible repeat (first | apply Kd.R_alloc | apply Kd.R_drewN | apply Kd.R_drew)); exact HO162.out) (Kd.R_base ho46) hb); have n1_ := Aside0.mk (Kd.R_elder' (by (with_reducible repeat (first | apply Kd.R_alloc | apply Kd.R_drewN | apply Kd.R_drew)); exact HO168.out) (Kd.R_base ho46) hb); have n2_ := Aside0.mk (Kd.R_elder' (by (with_reducible repeat (first | apply Kd.R_alloc | apply Kd.R_drewN | apply Kd.R_drew)); exact HO172.out) (Kd.R_base ho46) hb); have n3_ := Aside0.mk (Kd.R_elder' (by (with_reducible repeat (first | apply Kd.R_alloc | apply Kd.R_drewN | apply Kd.R_drew)); exact HO176.out) (Kd.R_base ho46) hb); have n4_ := Aside0.mk (Kd.R_below (by (with_reducible repeat (first | apply Kd.R_alloc | apply Kd.R_drewN | apply Kd.R_drew)); exact HO179.out) hb); have n5_ := Aside0.mk (Kd.R_elder' (by (with_reducible repeat (first | apply Kd.R_alloc | apply Kd.R_drewN | apply Kd.R_drew)); exact HO182.out) (Kd.R_base ho46) hb); have n6_ := Aside0.mk (Kd.R_lower (Kd.R_new' (Kd.R_new' (Kd.R_new' (Kd.R_new' (Kd.R_new' ho46 (Kd.R_lt (by (with_reducible repeat (first | apply Kd.R_alloc | apply Kd.R_drewN | apply Kd.R_drew)); exact HO162.out))) (Kd.R_lt (by (with_reducible repeat (first | apply Kd.R_alloc | apply Kd.R_drewN | apply Kd.R_drew)); exact HO168.out))) (Kd.R_lt (by (with_reducible repeat (first | apply Kd.R_alloc | apply Kd.R_drewN | apply Kd.R_drew)); exact HO172.out))) (Kd.R_lt (by (with_reducible repeat (first | apply Kd.R_alloc | apply Kd.R_drewN | apply Kd.R_drew)); exact HO176.out))) (Kd.R_lt (by (with_reducible repeat (first | apply Kd.R_alloc | apply Kd.R_drewN | apply Kd.R_drew)); exact HO182.out))) (below_size (by repeat (first | (with_reducible first | exact HB.out | apply below_alloc | apply pw_below_drewN | apply below_drew1) | exact HB.out)))); have n7_ := Aside0.mk (below_step (by repeat (first | (with_reducible first | exact HB.out | apply below_alloc | apply pw_below_drewN | apply below_drew1) | exact HB.out)) hb); clear HO162; clear HO168; clear HO172; clear HO176; clear HO179; clear HO182; clear HB; have HO162 := n0_; have HO168 := n1_; have HO172 := n2_; have HO176 := n3_; have HO179 := n4_; have HO182 := n5_; have HO188 := n6_; have HB := n7_; clear n0_ n1_ n2_ n3_ n4_ n5_ n6_ n7_; clear hb ho46; obtain ⟨Ao47, co47, eo47⟩ := Kd.R_slice HO168.out; subst eo47; obtain ⟨Ao48, co48, eo48⟩ := Kd.R_slice HO188.out; subst eo48) | (go_at_call 34; (with_reducible refine (grafterlaw0_SameTexts.calls k _ _ t165 _ _ y186 true _ ?side1 ?side2 ?side3 ?side4 A21.out).mono ?_); (case side1 => repeat (first | exact (Kd.R_reads' HO168.out).2.2 | (with_reducible refine Kd.C_alloc ?_ _) | (with_reducible refine Kd.C_drewN ?_ _) | (with_reducible refine Kd.C_drew ?_))); (case side2 => exact (Kd.R_reads' HO168.out).2.1); (case side3 => repeat (first | exact (Kd.R_reads' HO188.out).2.2 | (with_reducible refine Kd.C_alloc ?_ _) | (with_reducible refine Kd.C_drewN ?_ _) | (with_reducible refine Kd.C_drew ?_))); (case side4 => exact (Kd.R_reads' HO188.out).2.1); rintro e w' ⟨rfl, ⟨nd, rfl⟩⟩; obtain ⟨Ao49, co49, eo49⟩ := Kd.R_slice HO172.out; subst eo49; (try clear A21)) | (go_at_call 34; (with_reducible refine (grafterlaw0_SameTexts.calls k _ _ t169 _ _ t165 true _ ?side1 ?side2 ?side3 ?side4 A24.out).mono ?_); (case side1 => repeat (first | exact (Kd.R_reads' HO172.out).2.2 | (with_reducible refine Kd.C_alloc ?_ _) | (with_reducible refine Kd.C_drewN ?_ _) | (with_reducible refine Kd.C_drew ?_))); (case side2 => exact (Kd.R_reads' HO172.out).2.1); (case side3 => repeat (first | exact (Kd.R_reads' HO168.out).2.2 | (with_reducible refine Kd.C_alloc ?_ _) | (with_reducible refine Kd.C_drewN ?_ _) | (with_reducible refine Kd.C_drew ?_))); (case side4 => exact (Kd.R_reads' HO168.out).2.1); rintro e w' ⟨rfl, ⟨nd, rfl⟩⟩; (try clear A24)) | ((with_reducible refine gate_dst (N := 74) rfl ?_); (try (refine gate_guard (by rfl) ?_; dsimp only)); refine Kd.R_lit Kd.string _ 9 ?hg (N := 74) ?hd (xs := ([(⟨#[97]⟩ : ByteArray), (⟨#[]⟩ : ByteArray)] : List ByteArray)) (inner := [.string (⟨#[97]⟩ : ByteArray), .string (⟨#[]⟩ : ByteArray)]) (ok := fun _ => True) (okp := fun _ => True) ?hr ?hp (fun _ hk => hk) trivial (Below.refl _ _) (Nat.le_refl _) (by simp) ?_; (case hd => rfl); (case hg => rfl); (case hr => first | (go_simp; done) | (go_simp; rfl)); (case hp => exact (Reps.one (show Kd.M Kd.string _ _ _ (⟨#[97]⟩ : ByteArray) [.string (⟨#[97]⟩ : ByteArray)] from rfl) (Reps.one (show Kd.M Kd.string _ _ _ (⟨#[]⟩ : ByteArray) [.string (⟨#[]⟩ : ByteArray)] from rfl) (Reps.none _ _)))); intro v192 w50 ho51 hb hg_ hnew_; clear hg_ hnew_; (first | rw [← Ny191.out] at ho51 | (simp only [Int.reduceToNat] at ho51; rw [← Ny191.out] at ho51)); have n0_ := Aside0.mk (Kd.R_elder' (by (with_reducible repeat (first | apply Kd.R_alloc | apply Kd.R_drewN | apply Kd.R_drew)); exact HO162.out) (Kd.R_base ho51) hb); have n1_ := Aside0.mk (Kd.R_elder' (by (with_reducible repeat (first | apply Kd.R_alloc | apply Kd.R_drewN | apply Kd.R_drew)); exact HO168.out) (Kd.R_base ho51) hb); have n2_ := Aside0.mk (Kd.R_elder' (by (with_reducible repeat (first | apply Kd.R_alloc | apply Kd.R_drewN | apply Kd.R_drew)); exact HO172.out) (Kd.R_base ho51) hb); have n3_ := Aside0.mk (Kd.R_elder' (by (with_reducible repeat (first | apply Kd.R_alloc | apply Kd.R_drewN | apply Kd.R_drew)); exact HO176.out) (Kd.R_base ho51) hb); have n4_ := Aside0.mk (Kd.R_below (by (with_reducible repeat (first | apply Kd.R_alloc | apply Kd.R_drewN | apply Kd.R_drew)); exact HO179.out) hb); have n5_ := Aside0.mk (Kd.R_elder' (by (with_reducible repeat (first | apply Kd.R_alloc | apply Kd.R_drewN | apply Kd.R_drew)); exact HO182.out) (Kd.R_base ho51) hb); have n6_ := Aside0.mk (Kd.R_elder' (by (with_reducible repeat (first | apply Kd.R_alloc | apply Kd.R_drewN | apply Kd.R_drew)); exact HO188.out) (Kd.R_base ho51) hb); have n7_ := Aside0.mk (Kd.R_lower (Kd.R_new' (Kd.R_new' (Kd.R_new' (Kd.R_new' (Kd.R_new' (Kd.R_new' ho51 (Kd.R_lt (by (with_reducible repeat (first | apply Kd.R_alloc | apply Kd.R_drewN | apply Kd.R_drew)); exact HO162.out))) (Kd.R_lt (by (with_reducible repeat (first | apply Kd.R_alloc | apply Kd.R_drewN | apply Kd.R_drew)); exact HO168.out))) (Kd.R_lt (by (with_reducible repeat (first | apply Kd.R_alloc | apply Kd.R_drewN | apply Kd.R_drew)); exact HO172.out))) (Kd.R_lt (by (with_reducible repeat (first | apply Kd.R_alloc | apply Kd.R_drewN | apply Kd.R_drew)); exact HO176.out))) (Kd.R_lt (by (with_reducible repeat (first | apply Kd.R_alloc | apply Kd.R_drewN | apply Kd.R_drew)); exact HO182.out))) (Kd.R_lt (by (with_reducible repeat (first | apply Kd.R_alloc | apply Kd.R_drewN | apply Kd.R_drew)); exact HO188.out))) (below_size (by repeat (first | (with_reducible first | exact HB.out | apply below_alloc | apply pw_below_drewN | apply below_drew1) | exact HB.out)))); have n8_ := Aside0.mk (below_step (by repeat (first | (with_reducible first | exact HB.out | apply below_alloc | apply pw_below_drewN | apply below_drew1) | exact HB.out)) hb); clear HO162; clear HO168; clear HO172; clear HO176; clear HO179; clear HO182; clear HO188; clear HB; have HO162 := n0_; have HO168 := n1_; have HO172 := n2_; have HO176 := n3_; have HO179 := n4_; have HO182 := n5_; have HO188 := n6_; have HO193 := n7_; have HB := n8_; clear n0_ n1_ n2_ n3_ n4_ n5_ n6_ n7_ n8_; clear hb ho51; obtain ⟨Ao52, co52, eo52⟩ := Kd.R_slice HO176.out; subst eo52; obtain ⟨Ao53, co53, eo53⟩ := Kd.R_slice HO193.out; subst eo53) | (go_at_call 34; (with_reducible refine (grafterlaw0_SameTexts.calls k _ _ t173 _ _ y191 true _ ?side1 ?side2 ?side3 ?side4 A27.out).mono ?_); (case side1 => repeat (first | exact (Kd.R_reads' HO176.out).2.2 | (with_reducible refine Kd.C_alloc ?_ _) | (with_reducible refine Kd.C_drewN ?_ _) | (with_reducible refine Kd.C_drew ?_))); (case side2 => exact (Kd.R_reads' HO176.out).2.1); (case side3 => repeat (first | exact (Kd.R_reads' HO193.out).2.2 | (with_reducible refine Kd.C_alloc ?_ _) | (with_reducible refine Kd.C_drewN ?_ _) | (with_reducible refine Kd.C_drew ?_))); (case side4 => exact (Kd.R_reads' HO193.out).2.1); rintro e w' ⟨rfl, ⟨nd, rfl⟩⟩; (try clear A27)) | (go_at_call 26; (with_reducible refine (grafterlaw0_Num.calls t184 t195 _ A30.out).mono ?_); rintro e w' ⟨rfl, ⟨nd, rfl⟩⟩; (try clear A30)))
                            all_goals go_ret
                            all_goals exact ⟨by first | (simp only [← hji12_]; split <;> first | (exfalso; omega) | (simp [ByteArray.extract_zero_size]; done) | (simp [ByteArray.extract_zero_size, *]; done)) | rfl | (simp [errW_none, errW_some] <;> rfl) | (simp only [← hji12]; first | rfl | (simp [errW_none, errW_some] <;> rfl)) | (simp [*, errW_none, errW_some] <;> rfl), by repeat (first | (with_reducible first | exact HB.out | apply below_alloc | apply pw_below_drewN | apply below_drew1) | exact HB.out)⟩
                          · rw [if_neg c29] at H
                            have c29b0 : (t174 == 13) = false := beq_eq_false_iff_ne.mpr c29
                            have c29b1 : (t174 != 13) = true := bne_iff_ne.mpr c29
                            exact absurd ((Option.some.inj H).trans HRT.out) Bool.false_ne_true
                        · replace c28 := Bool.eq_false_iff.mpr c28
                          subst c28
                          have H1 : (some false) = some r := by rw [if_neg (show ¬ (false = true) by decide)] at H; exact H
                          clear H
                          have H := H1
                          clear H1
                          exact absurd ((Option.some.inj H).trans HRT.out) Bool.false_ne_true
                      · rw [if_neg c26] at H
                        have c26b0 : (t170 == 21) = false := beq_eq_false_iff_ne.mpr c26
                        have c26b1 : (t170 != 21) = true := bne_iff_ne.mpr c26
                        exact absurd ((Option.some.inj H).trans HRT.out) Bool.false_ne_true
                    · replace c25 := Bool.eq_false_iff.mpr c25
                      subst c25
                      have H1 : (some false) = some r := by rw [if_neg (show ¬ (false = true) by decide)] at H; exact H
                      clear H
                      have H := H1
                      clear H1
                      exact absurd ((Option.some.inj H).trans HRT.out) Bool.false_ne_true
                  · rw [if_neg c23] at H
                    have c23b0 : (t166 == 21) = false := beq_eq_false_iff_ne.mpr c23
                    have c23b1 : (t166 != 21) = true := bne_iff_ne.mpr c23
                    exact absurd ((Option.some.inj H).trans HRT.out) Bool.false_ne_true
                · replace c22 := Bool.eq_false_iff.mpr c22
                  subst c22
                  have H1 : (some false) = some r := by rw [if_neg (show ¬ (false = true) by decide)] at H; exact H
                  clear H
                  have H := H1
                  clear H1
                  exact absurd ((Option.some.inj H).trans HRT.out) Bool.false_ne_true
              · rw [if_neg c20] at H
                have c20b0 : (t185 == 0) = false := beq_eq_false_iff_ne.mpr c20
                have c20b1 : (t185 != 0) = true := bne_iff_ne.mpr c20
                exact absurd ((Option.some.inj H).trans HRT.out) Bool.false_ne_true
            · rw [if_neg c18] at H
              have c18b0 : ((t163.size : Int) == 21) = false := beq_eq_false_iff_ne.mpr c18
              have c18b1 : ((t163.size : Int) != 21) = true := bne_iff_ne.mpr c18
              exact absurd ((Option.some.inj H).trans HRT.out) Bool.false_ne_true
          · rw [if_neg c16] at H
            exact absurd H (by simp)
        · rw [if_neg c14] at H
          exact absurd H (by simp)
      · rw [if_neg c13] at H
        exact absurd H (by simp)
  · rw [if_neg c3] at H
    exact absurd H (by simp)

/-! ### journal_Text_lent: function 121 -/
def journal_Text_lent.f (k : Nat) (l0 : List ByteArray) : Option (ByteArray × Int) := (journal_Text.f k (l0.take (l0.length - 2))).bind fun bt196 => (some (bt196.1, bt196.2))
theorem journal_Text_lent.mono : ∀ a0 k, LeO (journal_Text_lent.f k a0) (journal_Text_lent.f (k + 1) a0) := by
  intro a0 k
  unfold journal_Text_lent.f
  repeat' first
      | (with_reducible exact journal_Text.mono _ _)
      | (with_reducible exact LeO.refl _)
      | (with_reducible exact LeO.none _)
      | (with_reducible refine LeO.ite ?_ ?_)
      | (with_reducible refine LeO.bind ?_ (fun _ => ?_))
      | exact journal_Text.mono _ _
      | exact LeO.none _
      | refine LeO.ite ?_ ?_
      | refine LeO.bind ?_ (fun _ => ?_)
set_option maxHeartbeats 8000000 in
set_option maxRecDepth 100000 in
theorem journal_Text_lent.calls (k : Nat) (A0 : Option Addr) (c0 : Nat) (l0 : List ByteArray) (r1 : ByteArray) (r2 : Int) (w : World) (hr0 : Kd.C Kd.string w A0 l0.length l0) (hc0 : l0.length ≤ c0) (h : journal_Text_lent.f k l0 = some (r1, r2)) :
    Calls Try.prog 30 #[.slice A0 (l0.length - 2) c0] w fun e w' => e = .returned (.tuple #[.string r1, .int .i64 r2]) ∧ Below w.heap.size w w' := by
  have HR0 := Aside0.mk (Kd.C_take hr0 (Nat.sub_le l0.length 2))
  have HC0 := Aside0.mk (show (l0.take (l0.length - 2)).length ≤ c0 from by rw [List.length_take]; omega)
  clear hr0 hc0
  have HB := Aside0.mk (Below.refl w.heap.size w)
  have H : ((journal_Text.f k (l0.take (l0.length - 2))).bind fun bt196 => (some (bt196.1, bt196.2))) = some (r1, r2) := h
  clear h
  replace H := Option.bind_eq_some_iff.mp H
  obtain ⟨⟨t196, t197⟩, A20, H⟩ := H
  replace H : (some (t196, t197)) = some (r1, r2) := H
  have A2 := Aside0.mk A20
  clear A20
  simp only [Option.some.injEq, Prod.mk.injEq] at H
  obtain ⟨rfl, rfl⟩ := H
  rw [show l0.length - 2 = (l0.take (l0.length - 2)).length from by rw [List.length_take]; omega]
  (with_reducible refine (journal_Text.calls k _ _ (l0.take (l0.length - 2)) t196 t197 _ ?side1 ?side2 A2.out).mono ?_)
  (case side1 => repeat (first | exact HR0.out | (with_reducible refine Kd.C_alloc ?_ _) | (with_reducible refine Kd.C_drewN ?_ _) | (with_reducible refine Kd.C_drew ?_)))
  (case side2 => exact HC0.out)
  rintro e w3 ⟨rfl, hb⟩
  have n0_ := Aside0.mk (below_step (by repeat (first | (with_reducible first | exact HB.out | apply below_alloc | apply pw_below_drewN | apply below_drew1) | exact HB.out)) hb)
  clear HB
  have HB := n0_
  clear n0_
  (try clear hb)
  (try clear hb2)
  (try clear hk)
  (try clear hi)
  exact ⟨by first | rfl | (simp [errW_none, errW_some] <;> rfl) | (simp [*, errW_none, errW_some] <;> rfl), by repeat (first | (with_reducible first | exact HB.out | apply below_alloc | apply pw_below_drewN | apply below_drew1) | exact HB.out)⟩

end Go.Proofs.Ytbhkmgidokonkaa.PJournals
