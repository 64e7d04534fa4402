-- Written by a program of this session (pprint.py) out of the translation, with hand-proved walks pasted in.
import Derived.Test.YtbhkmgidokonkaaPJournalBadx0
import Derived.Test.YtbhkmgidokonkaaPJournalBadx1
namespace Go.Proofs.Ytbhkmgidokonkaa.PJournalBad
open Go.RowKit Go.Proofs.YtbhkmgidokonkaaW.PrintWords Go.Proofs.YtbhkmgidokonkaaW.PrintLast Go.Proofs.YtbhkmgidokonkaaW.PrintMore
attribute [local go_sem] max2_int min2_int max_two min_two max_three min_three max_four min_four   -- for this text's walks alone
set_option linter.unusedVariables false
set_option linter.unusedSimpArgs false

/-! ### grafterlaw17_awake: function 37 -/
def grafterlaw17_awake.f (k : Nat)  : Option (Bool) := (journal_Text.f k (([(⟨#[97]⟩ : ByteArray), (⟨#[]⟩ : ByteArray), (⟨#[98, 99]⟩ : ByteArray)] : List ByteArray))).bind fun bt126 => ((journal_Load.f k bt126.1).bind fun bt128 => (if bt126.1.size + 1 ≤ 9223372036854775807 then ((journal_Load.f k (bt126.1 ++ (⟨#[120]⟩ : ByteArray))).bind fun bt132 => (if (bt126.1.size : Int) < 3 then (some false) else (if 0 ≤ (wrap64 ((bt126.1.size : Int) - 1)) then (if (wrap64 ((bt126.1.size : Int) - 1)) ≤ (bt126.1.size : Int) then ((journal_Load.f k (bt126.1.extract 0 ((wrap64 ((bt126.1.size : Int) - 1)) : Int).toNat)).bind fun bt136 => (if 1025 ≤ 281474976710656 then ((journal_Text.f k (([strOfNums (List.replicate 1025 0)] : List ByteArray))).bind fun bt146 => (if (bt126.1.size : Int) = 21 then ((grafterlaw0_Num.f bt126.2).bind fun t148 => (if t148 = 0 then ((grafterlaw0_SameTexts.f k bt128.1 (([(⟨#[97]⟩ : ByteArray), (⟨#[]⟩ : ByteArray), (⟨#[98, 99]⟩ : ByteArray)] : List ByteArray))).bind fun t152 => (if t152 = true then (if bt128.2 = 21 then ((grafterlaw0_SameTexts.f k bt132.1 bt128.1).bind fun t153 => (if t153 = true then (if bt132.2 = 21 then ((grafterlaw0_SameTexts.f k bt136.1 (([(⟨#[97]⟩ : ByteArray), (⟨#[]⟩ : ByteArray)] : List ByteArray))).bind fun t157 => (if t157 = true then (if bt136.2 = 13 then ((grafterlaw0_Num.f bt146.2).bind fun t158 => (some (t158 == 1700))) else (some false)) else (some false))) else (some false)) else (some false))) else (some false)) else (some false))) else (some false))) else (some false))) else (none))) else (none)) else (none)))) else (none)))
theorem grafterlaw17_awake.mono : ∀ k, LeO (grafterlaw17_awake.f k ) (grafterlaw17_awake.f (k + 1) ) := by
  intro  k
  unfold grafterlaw17_awake.f
  repeat' first
      | (with_reducible exact grafterlaw0_SameTexts.mono _ _ _)
      | (with_reducible exact journal_Load.mono _ _)
      | (with_reducible exact journal_Text.mono _ _)
      | (with_reducible exact LeO.refl _)
      | (with_reducible exact LeO.none _)
      | (with_reducible refine LeO.ite ?_ ?_)
      | (with_reducible refine LeO.bind ?_ (fun _ => ?_))
      | exact grafterlaw0_SameTexts.mono _ _ _
      | exact journal_Load.mono _ _
      | exact journal_Text.mono _ _
      | exact LeO.none _
      | refine LeO.ite ?_ ?_
      | refine LeO.bind ?_ (fun _ => ?_)
set_option maxHeartbeats 8000000 in
set_option maxRecDepth 100000 in
theorem grafterlaw17_awake.calls (k : Nat)  (r : Bool) (w : World) (hrt : r = true) (h : grafterlaw17_awake.f k  = some r) :
    Calls Try.prog 37 #[] w fun e w' => e = .returned (.bool r) ∧ Below w.heap.size w w' := by
  have HRT := Aside0.mk hrt
  clear hrt
  have HB := Aside0.mk (Below.refl w.heap.size w)
  have H : ((journal_Text.f k (([(⟨#[97]⟩ : ByteArray), (⟨#[]⟩ : ByteArray), (⟨#[98, 99]⟩ : ByteArray)] : List ByteArray))).bind fun bt126 => ((journal_Load.f k bt126.1).bind fun bt128 => (if bt126.1.size + 1 ≤ 9223372036854775807 then ((journal_Load.f k (bt126.1 ++ (⟨#[120]⟩ : ByteArray))).bind fun bt132 => (if (bt126.1.size : Int) < 3 then (some false) else (if 0 ≤ (wrap64 ((bt126.1.size : Int) - 1)) then (if (wrap64 ((bt126.1.size : Int) - 1)) ≤ (bt126.1.size : Int) then ((journal_Load.f k (bt126.1.extract 0 ((wrap64 ((bt126.1.size : Int) - 1)) : Int).toNat)).bind fun bt136 => (if 1025 ≤ 281474976710656 then ((journal_Text.f k (([strOfNums (List.replicate 1025 0)] : List ByteArray))).bind fun bt146 => (if (bt126.1.size : Int) = 21 then ((grafterlaw0_Num.f bt126.2).bind fun t148 => (if t148 = 0 then ((grafterlaw0_SameTexts.f k bt128.1 (([(⟨#[97]⟩ : ByteArray), (⟨#[]⟩ : ByteArray), (⟨#[98, 99]⟩ : ByteArray)] : List ByteArray))).bind fun t152 => (if t152 = true then (if bt128.2 = 21 then ((grafterlaw0_SameTexts.f k bt132.1 bt128.1).bind fun t153 => (if t153 = true then (if bt132.2 = 21 then ((grafterlaw0_SameTexts.f k bt136.1 (([(⟨#[97]⟩ : ByteArray), (⟨#[]⟩ : ByteArray)] : List ByteArray))).bind fun t157 => (if t157 = true then (if bt136.2 = 13 then ((grafterlaw0_Num.f bt146.2).bind fun t158 => (some (t158 == 1700))) else (some false)) else (some false))) else (some false)) else (some false))) else (some false)) else (some false))) else (some false))) else (some false))) else (none))) else (none)) else (none)))) else (none)))) = some r := h
  clear h
  obtain ⟨y123, hy123⟩ : ∃ y_ : List ByteArray, y_ = (([(⟨#[97]⟩ : ByteArray), (⟨#[]⟩ : ByteArray), (⟨#[98, 99]⟩ : ByteArray)] : List ByteArray)) := ⟨_, rfl⟩
  replace H : ((journal_Text.f k y123).bind fun bt126 => ((journal_Load.f k bt126.1).bind fun bt128 => (if bt126.1.size + 1 ≤ 9223372036854775807 then ((journal_Load.f k (bt126.1 ++ (⟨#[120]⟩ : ByteArray))).bind fun bt132 => (if (bt126.1.size : Int) < 3 then (some false) else (if 0 ≤ (wrap64 ((bt126.1.size : Int) - 1)) then (if (wrap64 ((bt126.1.size : Int) - 1)) ≤ (bt126.1.size : Int) then ((journal_Load.f k (bt126.1.extract 0 ((wrap64 ((bt126.1.size : Int) - 1)) : Int).toNat)).bind fun bt136 => (if 1025 ≤ 281474976710656 then ((journal_Text.f k (([strOfNums (List.replicate 1025 0)] : List ByteArray))).bind fun bt146 => (if (bt126.1.size : Int) = 21 then ((grafterlaw0_Num.f bt126.2).bind fun t148 => (if t148 = 0 then ((grafterlaw0_SameTexts.f k bt128.1 (([(⟨#[97]⟩ : ByteArray), (⟨#[]⟩ : ByteArray), (⟨#[98, 99]⟩ : ByteArray)] : List ByteArray))).bind fun t152 => (if t152 = true then (if bt128.2 = 21 then ((grafterlaw0_SameTexts.f k bt132.1 bt128.1).bind fun t153 => (if t153 = true then (if bt132.2 = 21 then ((grafterlaw0_SameTexts.f k bt136.1 (([(⟨#[97]⟩ : ByteArray), (⟨#[]⟩ : ByteArray)] : List ByteArray))).bind fun t157 => (if t157 = true then (if bt136.2 = 13 then ((grafterlaw0_Num.f bt146.2).bind fun t158 => (some (t158 == 1700))) else (some false)) else (some false))) else (some false)) else (some false))) else (some false)) else (some false))) else (some false))) else (some false))) else (none))) else (none)) else (none)))) else (none)))) = some r := by first | (rw [hy123]; with_reducible exact H) | (have H2_ := (Option.bind_some _ _).symm.trans H; rw [hy123]; with_reducible exact H2_) | (have H2_ := (Option.bind_some _ _).symm.trans H; with_reducible exact H2_) | with_reducible exact H | (rw [hy123]; exact H) | exact H
  have Ny123 := Aside0.mk hy123
  clear hy123
  replace H := Option.bind_eq_some_iff.mp H
  obtain ⟨⟨t126, t127⟩, A10, H⟩ := H
  replace H : ((journal_Load.f k t126).bind fun bt128 => (if t126.size + 1 ≤ 9223372036854775807 then ((journal_Load.f k (t126 ++ (⟨#[120]⟩ : ByteArray))).bind fun bt132 => (if (t126.size : Int) < 3 then (some false) else (if 0 ≤ (wrap64 ((t126.size : Int) - 1)) then (if (wrap64 ((t126.size : Int) - 1)) ≤ (t126.size : Int) then ((journal_Load.f k (t126.extract 0 ((wrap64 ((t126.size : Int) - 1)) : Int).toNat)).bind fun bt136 => (if 1025 ≤ 281474976710656 then ((journal_Text.f k (([strOfNums (List.replicate 1025 0)] : List ByteArray))).bind fun bt146 => (if (t126.size : Int) = 21 then ((grafterlaw0_Num.f t127).bind fun t148 => (if t148 = 0 then ((grafterlaw0_SameTexts.f k bt128.1 (([(⟨#[97]⟩ : ByteArray), (⟨#[]⟩ : ByteArray), (⟨#[98, 99]⟩ : ByteArray)] : List ByteArray))).bind fun t152 => (if t152 = true then (if bt128.2 = 21 then ((grafterlaw0_SameTexts.f k bt132.1 bt128.1).bind fun t153 => (if t153 = true then (if bt132.2 = 21 then ((grafterlaw0_SameTexts.f k bt136.1 (([(⟨#[97]⟩ : ByteArray), (⟨#[]⟩ : ByteArray)] : List ByteArray))).bind fun t157 => (if t157 = true then (if bt136.2 = 13 then ((grafterlaw0_Num.f bt146.2).bind fun t158 => (some (t158 == 1700))) else (some false)) else (some false))) else (some false)) else (some false))) else (some false)) else (some false))) else (some false))) else (some false))) else (none))) else (none)) else (none)))) else (none))) = some r := H
  have A1 := Aside0.mk A10
  clear A10
  replace H := Option.bind_eq_some_iff.mp H
  obtain ⟨⟨t128, t129⟩, A20, H⟩ := H
  replace H : (if t126.size + 1 ≤ 9223372036854775807 then ((journal_Load.f k (t126 ++ (⟨#[120]⟩ : ByteArray))).bind fun bt132 => (if (t126.size : Int) < 3 then (some false) else (if 0 ≤ (wrap64 ((t126.size : Int) - 1)) then (if (wrap64 ((t126.size : Int) - 1)) ≤ (t126.size : Int) then ((journal_Load.f k (t126.extract 0 ((wrap64 ((t126.size : Int) - 1)) : Int).toNat)).bind fun bt136 => (if 1025 ≤ 281474976710656 then ((journal_Text.f k (([strOfNums (List.replicate 1025 0)] : List ByteArray))).bind fun bt146 => (if (t126.size : Int) = 21 then ((grafterlaw0_Num.f t127).bind fun t148 => (if t148 = 0 then ((grafterlaw0_SameTexts.f k t128 (([(⟨#[97]⟩ : ByteArray), (⟨#[]⟩ : ByteArray), (⟨#[98, 99]⟩ : ByteArray)] : List ByteArray))).bind fun t152 => (if t152 = true then (if t129 = 21 then ((grafterlaw0_SameTexts.f k bt132.1 t128).bind fun t153 => (if t153 = true then (if bt132.2 = 21 then ((grafterlaw0_SameTexts.f k bt136.1 (([(⟨#[97]⟩ : ByteArray), (⟨#[]⟩ : ByteArray)] : List ByteArray))).bind fun t157 => (if t157 = true then (if bt136.2 = 13 then ((grafterlaw0_Num.f bt146.2).bind fun t158 => (some (t158 == 1700))) else (some false)) else (some false))) else (some false)) else (some false))) else (some false)) else (some false))) else (some false))) else (some false))) else (none))) else (none)) else (none)))) else (none)) = some r := H
  have A2 := Aside0.mk A20
  clear A20
  by_cases c3 : t126.size + 1 ≤ 9223372036854775807
  · rw [if_pos c3] at H
    have c3b0 := eq_true c3
    have c3b1 : decide (t126.size + 1 ≤ 9223372036854775807) = true := decide_eq_true c3
    try have c3b2 : (9223372036854775807 < t126.size + 1) = False := eq_false (Nat.not_lt.2 c3)
    try simp only [ByteArray.size_append] at c3b2
    replace H := Option.bind_eq_some_iff.mp H
    obtain ⟨⟨t132, t133⟩, A40, H⟩ := H
    replace H : (if (t126.size : Int) < 3 then (some false) else (if 0 ≤ (wrap64 ((t126.size : Int) - 1)) then (if (wrap64 ((t126.size : Int) - 1)) ≤ (t126.size : Int) then ((journal_Load.f k (t126.extract 0 ((wrap64 ((t126.size : Int) - 1)) : Int).toNat)).bind fun bt136 => (if 1025 ≤ 281474976710656 then ((journal_Text.f k (([strOfNums (List.replicate 1025 0)] : List ByteArray))).bind fun bt146 => (if (t126.size : Int) = 21 then ((grafterlaw0_Num.f t127).bind fun t148 => (if t148 = 0 then ((grafterlaw0_SameTexts.f k t128 (([(⟨#[97]⟩ : ByteArray), (⟨#[]⟩ : ByteArray), (⟨#[98, 99]⟩ : ByteArray)] : List ByteArray))).bind fun t152 => (if t152 = true then (if t129 = 21 then ((grafterlaw0_SameTexts.f k t132 t128).bind fun t153 => (if t153 = true then (if t133 = 21 then ((grafterlaw0_SameTexts.f k bt136.1 (([(⟨#[97]⟩ : ByteArray), (⟨#[]⟩ : ByteArray)] : List ByteArray))).bind fun t157 => (if t157 = true then (if bt136.2 = 13 then ((grafterlaw0_Num.f bt146.2).bind fun t158 => (some (t158 == 1700))) else (some false)) else (some false))) else (some false)) else (some false))) else (some false)) else (some false))) else (some false))) else (some false))) else (none))) else (none)) else (none))) = some r := H
    have A4 := Aside0.mk A40
    clear A40
    by_cases c5 : (t126.size : Int) < 3
    · rw [if_pos c5] at H
      have c5b0 : decide ((t126.size : Int) < 3) = true := decide_eq_true c5
      have c5b1 : decide (t126.size < 3) = true := decide_eq_true (by omega)
      clear c5
      exact absurd ((Option.some.inj H).trans HRT.out) Bool.false_ne_true
    · rw [if_neg c5] at H
      have c5b0 : decide ((t126.size : Int) < 3) = false := decide_eq_false c5
      have c5b1 : decide (t126.size < 3) = false := decide_eq_false (by omega)
      clear c5
      obtain ⟨ji12, hji12⟩ : ∃ j_ : Int, (wrap64 ((t126.size : Int) - 1)) = j_ := ⟨_, rfl⟩
      replace H : (if 0 ≤ (ji12) then (if (ji12) ≤ (t126.size : Int) then ((journal_Load.f k (t126.extract 0 ((ji12) : Int).toNat)).bind fun bt136 => (if 1025 ≤ 281474976710656 then ((journal_Text.f k (([strOfNums (List.replicate 1025 0)] : List ByteArray))).bind fun bt146 => (if (t126.size : Int) = 21 then ((grafterlaw0_Num.f t127).bind fun t148 => (if t148 = 0 then ((grafterlaw0_SameTexts.f k t128 (([(⟨#[97]⟩ : ByteArray), (⟨#[]⟩ : ByteArray), (⟨#[98, 99]⟩ : ByteArray)] : List ByteArray))).bind fun t152 => (if t152 = true then (if t129 = 21 then ((grafterlaw0_SameTexts.f k t132 t128).bind fun t153 => (if t153 = true then (if t133 = 21 then ((grafterlaw0_SameTexts.f k bt136.1 (([(⟨#[97]⟩ : ByteArray), (⟨#[]⟩ : ByteArray)] : List ByteArray))).bind fun t157 => (if t157 = true then (if bt136.2 = 13 then ((grafterlaw0_Num.f bt146.2).bind fun t158 => (some (t158 == 1700))) else (some false)) else (some false))) else (some false)) else (some false))) else (some false)) else (some false))) else (some false))) else (some false))) else (none))) else (none)) else (none)) = some r := by first | (rw [hji12] at H; exact H) | (simp only [hji12] at H ⊢; exact H)
      (try rw [hji12] at A1)
      (try rw [hji12] at A2)
      (try rw [hji12] at A4)
      have hji12w : (IntKind.i64.wrap ((t126.size : Int) - 1)) = ji12 := (i64_w _).trans hji12
      by_cases c13 : 0 ≤ (ji12)
      · rw [if_pos c13] at H
        have c13b0 := eq_true c13
        have c13b1 : decide (0 ≤ (ji12)) = true := decide_eq_true c13
        clear c13
        by_cases c14 : (ji12) ≤ (t126.size : Int)
        · rw [if_pos c14] at H
          have c14b0 := eq_true c14
          have c14b1 : decide ((ji12) ≤ (t126.size : Int)) = true := decide_eq_true c14
          clear c14
          replace H := Option.bind_eq_some_iff.mp H
          obtain ⟨⟨t136, t137⟩, A150, H⟩ := H
          replace H : (if 1025 ≤ 281474976710656 then ((journal_Text.f k (([strOfNums (List.replicate 1025 0)] : List ByteArray))).bind fun bt146 => (if (t126.size : Int) = 21 then ((grafterlaw0_Num.f t127).bind fun t148 => (if t148 = 0 then ((grafterlaw0_SameTexts.f k t128 (([(⟨#[97]⟩ : ByteArray), (⟨#[]⟩ : ByteArray), (⟨#[98, 99]⟩ : ByteArray)] : List ByteArray))).bind fun t152 => (if t152 = true then (if t129 = 21 then ((grafterlaw0_SameTexts.f k t132 t128).bind fun t153 => (if t153 = true then (if t133 = 21 then ((grafterlaw0_SameTexts.f k t136 (([(⟨#[97]⟩ : ByteArray), (⟨#[]⟩ : ByteArray)] : List ByteArray))).bind fun t157 => (if t157 = true then (if t137 = 13 then ((grafterlaw0_Num.f bt146.2).bind fun t158 => (some (t158 == 1700))) else (some false)) else (some false))) else (some false)) else (some false))) else (some false)) else (some false))) else (some false))) else (some false))) else (none)) = some r := H
          have A15 := Aside0.mk A150
          clear A150
          by_cases c16 : 1025 ≤ 281474976710656
          · rw [if_pos c16] at H
            have c16b0 := eq_true c16
            have c16b1 : decide (1025 ≤ 281474976710656) = true := decide_eq_true c16
            clear c16
            obtain ⟨y140, hy140⟩ : ∃ y_ : List Int, y_ = (List.replicate 1025 0) := ⟨_, rfl⟩
            replace H : ((journal_Text.f k (([strOfNums y140] : List ByteArray))).bind fun bt146 => (if (t126.size : Int) = 21 then ((grafterlaw0_Num.f t127).bind fun t148 => (if t148 = 0 then ((grafterlaw0_SameTexts.f k t128 (([(⟨#[97]⟩ : ByteArray), (⟨#[]⟩ : ByteArray), (⟨#[98, 99]⟩ : ByteArray)] : List ByteArray))).bind fun t152 => (if t152 = true then (if t129 = 21 then ((grafterlaw0_SameTexts.f k t132 t128).bind fun t153 => (if t153 = true then (if t133 = 21 then ((grafterlaw0_SameTexts.f k t136 (([(⟨#[97]⟩ : ByteArray), (⟨#[]⟩ : ByteArray)] : List ByteArray))).bind fun t157 => (if t157 = true then (if t137 = 13 then ((grafterlaw0_Num.f bt146.2).bind fun t158 => (some (t158 == 1700))) else (some false)) else (some false))) else (some false)) else (some false))) else (some false)) else (some false))) else (some false))) else (some false))) = some r := by first | (rw [hy140]; with_reducible exact H) | (have H2_ := (Option.bind_some _ _).symm.trans H; rw [hy140]; with_reducible exact H2_) | (have H2_ := (Option.bind_some _ _).symm.trans H; with_reducible exact H2_) | with_reducible exact H | (rw [hy140]; exact H) | exact H
            have Ny140 := Aside0.mk hy140
            clear hy140
            obtain ⟨y143, hy143⟩ : ∃ y_ : List ByteArray, y_ = (([strOfNums y140] : List ByteArray)) := ⟨_, rfl⟩
            replace H : ((journal_Text.f k y143).bind fun bt146 => (if (t126.size : Int) = 21 then ((grafterlaw0_Num.f t127).bind fun t148 => (if t148 = 0 then ((grafterlaw0_SameTexts.f k t128 (([(⟨#[97]⟩ : ByteArray), (⟨#[]⟩ : ByteArray), (⟨#[98, 99]⟩ : ByteArray)] : List ByteArray))).bind fun t152 => (if t152 = true then (if t129 = 21 then ((grafterlaw0_SameTexts.f k t132 t128).bind fun t153 => (if t153 = true then (if t133 = 21 then ((grafterlaw0_SameTexts.f k t136 (([(⟨#[97]⟩ : ByteArray), (⟨#[]⟩ : ByteArray)] : List ByteArray))).bind fun t157 => (if t157 = true then (if t137 = 13 then ((grafterlaw0_Num.f bt146.2).bind fun t158 => (some (t158 == 1700))) else (some false)) else (some false))) else (some false)) else (some false))) else (some false)) else (some false))) else (some false))) else (some false))) = some r := by first | (rw [hy143]; with_reducible exact H) | (have H2_ := (Option.bind_some _ _).symm.trans H; rw [hy143]; with_reducible exact H2_) | (have H2_ := (Option.bind_some _ _).symm.trans H; with_reducible exact H2_) | with_reducible exact H | (rw [hy143]; exact H) | exact H
            have Ny143 := Aside0.mk hy143
            clear hy143
            replace H := Option.bind_eq_some_iff.mp H
            obtain ⟨⟨t146, t147⟩, A170, H⟩ := H
            replace H : (if (t126.size : Int) = 21 then ((grafterlaw0_Num.f t127).bind fun t148 => (if t148 = 0 then ((grafterlaw0_SameTexts.f k t128 (([(⟨#[97]⟩ : ByteArray), (⟨#[]⟩ : ByteArray), (⟨#[98, 99]⟩ : ByteArray)] : List ByteArray))).bind fun t152 => (if t152 = true then (if t129 = 21 then ((grafterlaw0_SameTexts.f k t132 t128).bind fun t153 => (if t153 = true then (if t133 = 21 then ((grafterlaw0_SameTexts.f k t136 (([(⟨#[97]⟩ : ByteArray), (⟨#[]⟩ : ByteArray)] : List ByteArray))).bind fun t157 => (if t157 = true then (if t137 = 13 then ((grafterlaw0_Num.f t147).bind fun t158 => (some (t158 == 1700))) else (some false)) else (some false))) else (some false)) else (some false))) else (some false)) else (some false))) else (some false))) else (some false)) = some r := H
            have A17 := Aside0.mk A170
            clear A170
            by_cases c18 : (t126.size : Int) = 21
            · rw [if_pos c18] at H
              have c18b0 : ((t126.size : Int) == 21) = true := beq_iff_eq.mpr c18
              have c18b1 : ((t126.size : Int) != 21) = false := bne_eq_false_iff_eq.mpr c18
              clear c18
              replace H := Option.bind_eq_some_iff.mp H
              obtain ⟨t148, A190, H⟩ := H
              replace H : (if t148 = 0 then ((grafterlaw0_SameTexts.f k t128 (([(⟨#[97]⟩ : ByteArray), (⟨#[]⟩ : ByteArray), (⟨#[98, 99]⟩ : ByteArray)] : List ByteArray))).bind fun t152 => (if t152 = true then (if t129 = 21 then ((grafterlaw0_SameTexts.f k t132 t128).bind fun t153 => (if t153 = true then (if t133 = 21 then ((grafterlaw0_SameTexts.f k t136 (([(⟨#[97]⟩ : ByteArray), (⟨#[]⟩ : ByteArray)] : List ByteArray))).bind fun t157 => (if t157 = true then (if t137 = 13 then ((grafterlaw0_Num.f t147).bind fun t158 => (some (t158 == 1700))) else (some false)) else (some false))) else (some false)) else (some false))) else (some false)) else (some false))) else (some false)) = some r := H
              have A19 := Aside0.mk A190
              clear A190
              by_cases c20 : t148 = 0
              · rw [if_pos c20] at H
                have c20b0 : (t148 == 0) = true := beq_iff_eq.mpr c20
                have c20b1 : (t148 != 0) = false := bne_eq_false_iff_eq.mpr c20
                clear c20
                obtain ⟨y149, hy149⟩ : ∃ y_ : List ByteArray, y_ = (([(⟨#[97]⟩ : ByteArray), (⟨#[]⟩ : ByteArray), (⟨#[98, 99]⟩ : ByteArray)] : List ByteArray)) := ⟨_, rfl⟩
                replace H : ((grafterlaw0_SameTexts.f k t128 y149).bind fun t152 => (if t152 = true then (if t129 = 21 then ((grafterlaw0_SameTexts.f k t132 t128).bind fun t153 => (if t153 = true then (if t133 = 21 then ((grafterlaw0_SameTexts.f k t136 (([(⟨#[97]⟩ : ByteArray), (⟨#[]⟩ : ByteArray)] : List ByteArray))).bind fun t157 => (if t157 = true then (if t137 = 13 then ((grafterlaw0_Num.f t147).bind fun t158 => (some (t158 == 1700))) else (some false)) else (some false))) else (some false)) else (some false))) else (some false)) else (some false))) = some r := by first | (rw [hy149]; with_reducible exact H) | (have H2_ := (Option.bind_some _ _).symm.trans H; rw [hy149]; with_reducible exact H2_) | (have H2_ := (Option.bind_some _ _).symm.trans H; with_reducible exact H2_) | with_reducible exact H | (rw [hy149]; exact H) | exact H
                have Ny149 := Aside0.mk hy149
                clear hy149
                replace H := Option.bind_eq_some_iff.mp H
                obtain ⟨t152, A210, H⟩ := H
                replace H : (if t152 = true then (if t129 = 21 then ((grafterlaw0_SameTexts.f k t132 t128).bind fun t153 => (if t153 = true then (if t133 = 21 then ((grafterlaw0_SameTexts.f k t136 (([(⟨#[97]⟩ : ByteArray), (⟨#[]⟩ : ByteArray)] : List ByteArray))).bind fun t157 => (if t157 = true then (if t137 = 13 then ((grafterlaw0_Num.f t147).bind fun t158 => (some (t158 == 1700))) else (some false)) else (some false))) else (some false)) else (some false))) else (some false)) else (some false)) = some r := H
                have A21 := Aside0.mk A210
                clear A210
                by_cases c22 : t152 = true
                · subst c22
                  have H1 : (if t129 = 21 then ((grafterlaw0_SameTexts.f k t132 t128).bind fun t153 => (if t153 = true then (if t133 = 21 then ((grafterlaw0_SameTexts.f k t136 (([(⟨#[97]⟩ : ByteArray), (⟨#[]⟩ : ByteArray)] : List ByteArray))).bind fun t157 => (if t157 = true then (if t137 = 13 then ((grafterlaw0_Num.f t147).bind fun t158 => (some (t158 == 1700))) else (some false)) else (some false))) else (some false)) else (some false))) else (some false)) = some r := by rw [if_pos rfl] at H; exact H
                  clear H
                  have H := H1
                  clear H1
                  by_cases c23 : t129 = 21
                  · rw [if_pos c23] at H
                    have c23b0 : (t129 == 21) = true := beq_iff_eq.mpr c23
                    have c23b1 : (t129 != 21) = false := bne_eq_false_iff_eq.mpr c23
                    clear c23
                    replace H := Option.bind_eq_some_iff.mp H
                    obtain ⟨t153, A240, H⟩ := H
                    replace H : (if t153 = true then (if t133 = 21 then ((grafterlaw0_SameTexts.f k t136 (([(⟨#[97]⟩ : ByteArray), (⟨#[]⟩ : ByteArray)] : List ByteArray))).bind fun t157 => (if t157 = true then (if t137 = 13 then ((grafterlaw0_Num.f t147).bind fun t158 => (some (t158 == 1700))) else (some false)) else (some false))) else (some false)) else (some false)) = some r := H
                    have A24 := Aside0.mk A240
                    clear A240
                    by_cases c25 : t153 = true
                    · subst c25
                      have H1 : (if t133 = 21 then ((grafterlaw0_SameTexts.f k t136 (([(⟨#[97]⟩ : ByteArray), (⟨#[]⟩ : ByteArray)] : List ByteArray))).bind fun t157 => (if t157 = true then (if t137 = 13 then ((grafterlaw0_Num.f t147).bind fun t158 => (some (t158 == 1700))) else (some false)) else (some false))) else (some false)) = some r := by rw [if_pos rfl] at H; exact H
                      clear H
                      have H := H1
                      clear H1
                      by_cases c26 : t133 = 21
                      · rw [if_pos c26] at H
                        have c26b0 : (t133 == 21) = true := beq_iff_eq.mpr c26
                        have c26b1 : (t133 != 21) = false := bne_eq_false_iff_eq.mpr c26
                        clear c26
                        obtain ⟨y154, hy154⟩ : ∃ y_ : List ByteArray, y_ = (([(⟨#[97]⟩ : ByteArray), (⟨#[]⟩ : ByteArray)] : List ByteArray)) := ⟨_, rfl⟩
                        replace H : ((grafterlaw0_SameTexts.f k t136 y154).bind fun t157 => (if t157 = true then (if t137 = 13 then ((grafterlaw0_Num.f t147).bind fun t158 => (some (t158 == 1700))) else (some false)) else (some false))) = some r := by first | (rw [hy154]; with_reducible exact H) | (have H2_ := (Option.bind_some _ _).symm.trans H; rw [hy154]; with_reducible exact H2_) | (have H2_ := (Option.bind_some _ _).symm.trans H; with_reducible exact H2_) | with_reducible exact H | (rw [hy154]; exact H) | exact H
                        have Ny154 := Aside0.mk hy154
                        clear hy154
                        replace H := Option.bind_eq_some_iff.mp H
                        obtain ⟨t157, A270, H⟩ := H
                        replace H : (if t157 = true then (if t137 = 13 then ((grafterlaw0_Num.f t147).bind fun t158 => (some (t158 == 1700))) else (some false)) else (some false)) = some r := H
                        have A27 := Aside0.mk A270
                        clear A270
                        by_cases c28 : t157 = true
                        · subst c28
                          have H1 : (if t137 = 13 then ((grafterlaw0_Num.f t147).bind fun t158 => (some (t158 == 1700))) else (some false)) = some r := by rw [if_pos rfl] at H; exact H
                          clear H
                          have H := H1
                          clear H1
                          by_cases c29 : t137 = 13
                          · rw [if_pos c29] at H
                            have c29b0 : (t137 == 13) = true := beq_iff_eq.mpr c29
                            have c29b1 : (t137 != 13) = false := bne_eq_false_iff_eq.mpr c29
                            clear c29
                            replace H := Option.bind_eq_some_iff.mp H
                            obtain ⟨t158, A300, H⟩ := H
                            replace H : (some (t158 == 1700)) = some r := H
                            have A30 := Aside0.mk A300
                            clear A300
                            obtain rfl := Option.some.inj H
                            go_enter Try.func37, Try.ntmps37
                            go_wp2_with (first | ((with_reducible refine gate_dst (N := 12) rfl ?_); (try (refine gate_guard (by rfl) ?_; dsimp only)); refine Kd.R_lit Kd.string _ 9 ?hg (N := 12) ?hd (xs := ([(⟨#[97]⟩ : ByteArray), (⟨#[]⟩ : ByteArray), (⟨#[98, 99]⟩ : ByteArray)] : List ByteArray)) (inner := [.string (⟨#[97]⟩ : ByteArray), .string (⟨#[]⟩ : ByteArray), .string (⟨#[98, 99]⟩ : ByteArray)]) (ok := fun _ => True) (okp := fun _ => True) ?hr ?hp (fun _ hk => hk) trivial (Below.refl _ _) (Nat.le_refl _) (by simp) ?_; (case hd => rfl); (case hg => rfl); (case hr => first | (go_simp; done) | (go_simp; rfl)); (case hp => exact (Reps.one (show Kd.M Kd.string _ _ _ (⟨#[97]⟩ : ByteArray) [.string (⟨#[97]⟩ : ByteArray)] from rfl) (Reps.one (show Kd.M Kd.string _ _ _ (⟨#[]⟩ : ByteArray) [.string (⟨#[]⟩ : ByteArray)] from rfl) (Reps.one (show Kd.M Kd.string _ _ _ (⟨#[98, 99]⟩ : ByteArray) [.string (⟨#[98, 99]⟩ : ByteArray)] from rfl) (Reps.none _ _))))); intro v124 w31 ho32 hb hg_ hnew_; clear hg_ hnew_; (first | rw [← Ny123.out] at ho32 | (simp only [Int.reduceToNat] at ho32; rw [← Ny123.out] at ho32)); have n0_ := Aside0.mk (Kd.R_lower ho32 (below_size (by repeat (first | (with_reducible first | exact HB.out | apply below_alloc | apply pw_below_drewN | apply below_drew1) | exact HB.out)))); have n1_ := Aside0.mk (below_step (by repeat (first | (with_reducible first | exact HB.out | apply below_alloc | apply pw_below_drewN | apply below_drew1) | exact HB.out)) hb); clear HB; have HO125 := n0_; have HB := n1_; clear n0_ n1_; clear hb ho32; obtain ⟨Ao33, co33, eo33⟩ := Kd.R_slice HO125.out; subst eo33) | ((with_reducible refine gate_callee (f := 30) rfl ?_); refine goesL_ (some 13) rfl rfl Try.func30 (by kernel_rfl) rfl #[.slice Ao33 y123.length co33] rfl (by (try simp only [List.map_toArray, List.map_cons, List.map_nil]); first | done | rfl | (simp only [List.length_drop, List.length_take]; rfl)) ?_; (with_reducible refine (journal_Text.calls k _ _ y123 t126 t127 _ ?side1 ?side2 A1.out).mono ?_); (case side1 => repeat (first | exact (Kd.R_reads' HO125.out).2.2 | (with_reducible refine Kd.C_alloc ?_ _) | (with_reducible refine Kd.C_drewN ?_ _) | (with_reducible refine Kd.C_drew ?_))); (case side2 => exact (Kd.R_reads' HO125.out).2.1); rintro e w34 ⟨rfl, hb⟩; refine ⟨_, rfl, ?_⟩; have n0_ := Aside0.mk (Kd.R_below (by (with_reducible repeat (first | apply Kd.R_alloc | apply Kd.R_drewN | apply Kd.R_drew)); exact HO125.out) hb); have n1_ := Aside0.mk (below_step (by repeat (first | (with_reducible first | exact HB.out | apply below_alloc | apply pw_below_drewN | apply below_drew1) | exact HB.out)) hb); clear HO125; clear HB; have HO125 := n0_; have HB := n1_; clear n0_ n1_; (try clear hb); (try clear hb2); (try clear hk); (try clear hi); (try clear A1)) | ((with_reducible refine gate_callee (f := 32) rfl ?_); refine goesL_ (some 18) rfl rfl Try.func32 (by kernel_rfl) rfl #[.string t126] rfl (by (try simp only [List.map_toArray, List.map_cons, List.map_nil]); first | done | rfl | (simp only [List.length_drop, List.length_take]; rfl)) ?_; (with_reducible refine (journal_Load.calls k t126 t128 t129 _ A2.out).mono ?_); rintro e w35 ⟨v130, rfl, ho0, hb⟩; refine ⟨_, rfl, ?_⟩; have n0_ := Aside0.mk (Kd.R_elder' (by (with_reducible repeat (first | apply Kd.R_alloc | apply Kd.R_drewN | apply Kd.R_drew)); exact HO125.out) (Kd.R_base ho0) hb); have n1_ := Aside0.mk (Kd.R_lower (Kd.R_new' ho0 (Kd.R_lt (by (with_reducible repeat (first | apply Kd.R_alloc | apply Kd.R_drewN | apply Kd.R_drew)); exact HO125.out))) (below_size (by repeat (first | (with_reducible first | exact HB.out | apply below_alloc | apply pw_below_drewN | apply below_drew1) | exact HB.out)))); have n2_ := Aside0.mk (below_step (by repeat (first | (with_reducible first | exact HB.out | apply below_alloc | apply pw_below_drewN | apply below_drew1) | exact HB.out)) hb); clear HO125; clear HB; have HO125 := n0_; have HO131 := n1_; have HB := n2_; clear n0_ n1_ n2_; (try clear hb); (try clear hb2); (try clear hk); (try clear hi); (try clear ho0); (try clear A2)) | ((with_reducible refine gate_callee (f := 32) rfl ?_); refine goesL_ (some 24) rfl rfl Try.func32 (by kernel_rfl) rfl #[.string (t126 ++ (⟨#[120]⟩ : ByteArray))] rfl (by (try simp only [List.map_toArray, List.map_cons, List.map_nil]); first | done | rfl | (simp only [List.length_drop, List.length_take]; rfl)) ?_; (with_reducible refine (journal_Load.calls k (t126 ++ (⟨#[120]⟩ : ByteArray)) t132 t133 _ A4.out).mono ?_); rintro e w36 ⟨v134, rfl, ho0, hb⟩; refine ⟨_, rfl, ?_⟩; have n0_ := Aside0.mk (Kd.R_elder' (by (with_reducible repeat (first | apply Kd.R_alloc | apply Kd.R_drewN | apply Kd.R_drew)); exact HO125.out) (Kd.R_base ho0) hb); have n1_ := Aside0.mk (Kd.R_elder' (by (with_reducible repeat (first | apply Kd.R_alloc | apply Kd.R_drewN | apply Kd.R_drew)); exact HO131.out) (Kd.R_base ho0) hb); have n2_ := Aside0.mk (Kd.R_lower (Kd.R_new' (Kd.R_new' ho0 (Kd.R_lt (by (with_reducible repeat (first | apply Kd.R_alloc | apply Kd.R_drewN | apply Kd.R_drew)); exact HO125.out))) (Kd.R_lt (by (with_reducible repeat (first | apply Kd.R_alloc | apply Kd.R_drewN | apply Kd.R_drew)); exact HO131.out))) (below_size (by repeat (first | (with_reducible first | exact HB.out | apply below_alloc | apply pw_below_drewN | apply below_drew1) | exact HB.out)))); have n3_ := Aside0.mk (below_step (by repeat (first | (with_reducible first | exact HB.out | apply below_alloc | apply pw_below_drewN | apply below_drew1) | exact HB.out)) hb); clear HO125; clear HO131; clear HB; have HO125 := n0_; have HO131 := n1_; have HO135 := n2_; have HB := n3_; clear n0_ n1_ n2_ n3_; (try clear hb); (try clear hb2); (try clear hk); (try clear hi); (try clear ho0); (try clear A4)) | ((with_reducible refine gate_callee (f := 32) rfl ?_); refine goesL_ (some 36) rfl rfl Try.func32 (by kernel_rfl) rfl #[.string (t126.extract 0 ((ji12) : Int).toNat)] rfl (by (try simp only [List.map_toArray, List.map_cons, List.map_nil]); first | done | (simp only [hji12]; rfl) | rfl | (simp only [List.length_drop, List.length_take]; rfl)) ?_; (with_reducible refine (journal_Load.calls k (t126.extract 0 ((ji12) : Int).toNat) t136 t137 _ A15.out).mono ?_); rintro e w37 ⟨v138, rfl, ho0, hb⟩; refine ⟨_, rfl, ?_⟩; have n0_ := Aside0.mk (Kd.R_elder' (by (with_reducible repeat (first | apply Kd.R_alloc | apply Kd.R_drewN | apply Kd.R_drew)); exact HO125.out) (Kd.R_base ho0) hb); have n1_ := Aside0.mk (Kd.R_elder' (by (with_reducible repeat (first | apply Kd.R_alloc | apply Kd.R_drewN | apply Kd.R_drew)); exact HO131.out) (Kd.R_base ho0) hb); have n2_ := Aside0.mk (Kd.R_elder' (by (with_reducible repeat (first | apply Kd.R_alloc | apply Kd.R_drewN | apply Kd.R_drew)); exact HO135.out) (Kd.R_base ho0) hb); have n3_ := Aside0.mk (Kd.R_lower (Kd.R_new' (Kd.R_new' (Kd.R_new' ho0 (Kd.R_lt (by (with_reducible repeat (first | apply Kd.R_alloc | apply Kd.R_drewN | apply Kd.R_drew)); exact HO125.out))) (Kd.R_lt (by (with_reducible repeat (first | apply Kd.R_alloc | apply Kd.R_drewN | apply Kd.R_drew)); exact HO131.out))) (Kd.R_lt (by (with_reducible repeat (first | apply Kd.R_alloc | apply Kd.R_drewN | apply Kd.R_drew)); exact HO135.out))) (below_size (by repeat (first | (with_reducible first | exact HB.out | apply below_alloc | apply pw_below_drewN | apply below_drew1) | exact HB.out)))); have n4_ := Aside0.mk (below_step (by repeat (first | (with_reducible first | exact HB.out | apply below_alloc | apply pw_below_drewN | apply below_drew1) | exact HB.out)) hb); clear HO125; clear HO131; clear HO135; clear HB; have HO125 := n0_; have HO131 := n1_; have HO135 := n2_; have HO139 := n3_; have HB := n4_; clear n0_ n1_ n2_ n3_ n4_; (try clear hb); (try clear hb2); (try clear hk); (try clear hi); (try clear ho0); (try clear A15)) | ((with_reducible refine gate_dst (N := 40) rfl ?_); (try (refine gate_guard (by rfl) ?_; dsimp only)); refine Kd.R_make (Kd.int .u8) _ 5 rfl (N := 40) rfl 34 _ _ rfl 1025 rfl rfl Try.underlying34 (.int .u8 0) 1 info5 rfl (by decide) (by omega) 0 (ok := fun _ => True) (okp := fun _ => True) rfl (fun _ hk => hk) trivial (by omega) (by omega) (Below.refl _ _) (Nat.le_refl _) ?_; intro v141 w38 ho39 hb hg_ hnew_; clear hg_ hnew_; (first | rw [← Ny140.out] at ho39 | (simp only [Int.reduceToNat] at ho39; rw [← Ny140.out] at ho39)); have n0_ := Aside0.mk (Kd.R_below (by (with_reducible repeat (first | apply Kd.R_alloc | apply Kd.R_drewN | apply Kd.R_drew)); exact HO125.out) hb); have n1_ := Aside0.mk (Kd.R_below (by (with_reducible repeat (first | apply Kd.R_alloc | apply Kd.R_drewN | apply Kd.R_drew)); exact HO131.out) hb); have n2_ := Aside0.mk (Kd.R_below (by (with_reducible repeat (first | apply Kd.R_alloc | apply Kd.R_drewN | apply Kd.R_drew)); exact HO135.out) hb); have n3_ := Aside0.mk (Kd.R_below (by (with_reducible repeat (first | apply Kd.R_alloc | apply Kd.R_drewN | apply Kd.R_drew)); exact HO139.out) hb); have n4_ := Aside0.mk (Kd.R_lower ho39 (below_size (by repeat (first | (with_reducible first | exact HB.out | apply below_alloc | apply pw_below_drewN | apply below_drew1) | exact HB.out)))); have n5_ := Aside0.mk (below_step (by repeat (first | (with_reducible first | exact HB.out | apply below_alloc | apply pw_below_drewN | apply below_drew1) | exact HB.out)) hb); clear HO125; clear HO131; clear HO135; clear HO139; clear HB; have HO125 := n0_; have HO131 := n1_; have HO135 := n2_; have HO139 := n3_; have HO142 := n4_; have HB := n5_; clear n0_ n1_ n2_ n3_ n4_ n5_; clear hb ho39; have hcv40 := own_string (P := Try.prog) Try.underlying34 Try.underlying5 Try.underlying9 (Kd.own_of_R HO142.out)) | ((with_reducible refine gate_dst (N := 42) rfl ?_); (try (refine gate_guard (by rfl) ?_; dsimp only)); refine Kd.R_lit Kd.string _ 9 ?hg (N := 42) ?hd (xs := ([strOfNums y140] : List ByteArray)) (inner := [.string (strOfNums y140)]) (ok := fun _ => True) (okp := fun _ => True) ?hr ?hp (fun _ hk => hk) trivial (Below.refl _ _) (Nat.le_refl _) (by simp) ?_; (case hd => rfl); (case hg => rfl); (case hr => first | (go_simp; done) | (go_simp; rfl)); (case hp => exact (Reps.one (show Kd.M Kd.string _ _ _ (strOfNums y140) [.string (strOfNums y140)] from rfl) (Reps.none _ _))); intro v144 w41 ho42 hb hg_ hnew_; clear hg_ hnew_; (first | rw [← Ny143.out] at ho42 | (simp only [Int.reduceToNat] at ho42; rw [← Ny143.out] at ho42)); have n0_ := Aside0.mk (Kd.R_elder' (by (with_reducible repeat (first | apply Kd.R_alloc | apply Kd.R_drewN | apply Kd.R_drew)); exact HO125.out) (Kd.R_base ho42) hb); have n1_ := Aside0.mk (Kd.R_elder' (by (with_reducible repeat (first | apply Kd.R_alloc | apply Kd.R_drewN | apply Kd.R_drew)); exact HO131.out) (Kd.R_base ho42) hb); have n2_ := Aside0.mk (Kd.R_elder' (by (with_reducible repeat (first | apply Kd.R_alloc | apply Kd.R_drewN | apply Kd.R_drew)); exact HO135.out) (Kd.R_base ho42) hb); have n3_ := Aside0.mk (Kd.R_elder' (by (with_reducible repeat (first | apply Kd.R_alloc | apply Kd.R_drewN | apply Kd.R_drew)); exact HO139.out) (Kd.R_base ho42) hb); have n4_ := Aside0.mk (Kd.R_below (by (with_reducible repeat (first | apply Kd.R_alloc | apply Kd.R_drewN | apply Kd.R_drew)); exact HO142.out) hb); have n5_ := Aside0.mk (Kd.R_lower (Kd.R_new' (Kd.R_new' (Kd.R_new' (Kd.R_new' ho42 (Kd.R_lt (by (with_reducible repeat (first | apply Kd.R_alloc | apply Kd.R_drewN | apply Kd.R_drew)); exact HO125.out))) (Kd.R_lt (by (with_reducible repeat (first | apply Kd.R_alloc | apply Kd.R_drewN | apply Kd.R_drew)); exact HO131.out))) (Kd.R_lt (by (with_reducible repeat (first | apply Kd.R_alloc | apply Kd.R_drewN | apply Kd.R_drew)); exact HO135.out))) (Kd.R_lt (by (with_reducible repeat (first | apply Kd.R_alloc | apply Kd.R_drewN | apply Kd.R_drew)); exact HO139.out))) (below_size (by repeat (first | (with_reducible first | exact HB.out | apply below_alloc | apply pw_below_drewN | apply below_drew1) | exact HB.out)))); have n6_ := Aside0.mk (below_step (by repeat (first | (with_reducible first | exact HB.out | apply below_alloc | apply pw_below_drewN | apply below_drew1) | exact HB.out)) hb); clear HO125; clear HO131; clear HO135; clear HO139; clear HO142; clear HB; have HO125 := n0_; have HO131 := n1_; have HO135 := n2_; have HO139 := n3_; have HO142 := n4_; have HO145 := n5_; have HB := n6_; clear n0_ n1_ n2_ n3_ n4_ n5_ n6_; clear hb ho42; obtain ⟨Ao43, co43, eo43⟩ := Kd.R_slice HO145.out; subst eo43) | ((with_reducible refine gate_callee (f := 30) rfl ?_); refine goesL_ (some 43) rfl rfl Try.func30 (by kernel_rfl) rfl #[.slice Ao43 y143.length co43] rfl (by (try simp only [List.map_toArray, List.map_cons, List.map_nil]); first | done | rfl | (simp only [List.length_drop, List.length_take]; rfl)) ?_; (with_reducible refine (journal_Text.calls k _ _ y143 t146 t147 _ ?side1 ?side2 A17.out).mono ?_); (case side1 => repeat (first | exact (Kd.R_reads' HO145.out).2.2 | (with_reducible refine Kd.C_alloc ?_ _) | (with_reducible refine Kd.C_drewN ?_ _) | (with_reducible refine Kd.C_drew ?_))); (case side2 => exact (Kd.R_reads' HO145.out).2.1); rintro e w44 ⟨rfl, hb⟩; refine ⟨_, rfl, ?_⟩; have n0_ := Aside0.mk (Kd.R_below (by (with_reducible repeat (first | apply Kd.R_alloc | apply Kd.R_drewN | apply Kd.R_drew)); exact HO125.out) hb); have n1_ := Aside0.mk (Kd.R_below (by (with_reducible repeat (first | apply Kd.R_alloc | apply Kd.R_drewN | apply Kd.R_drew)); exact HO131.out) hb); have n2_ := Aside0.mk (Kd.R_below (by (with_reducible repeat (first | apply Kd.R_alloc | apply Kd.R_drewN | apply Kd.R_drew)); exact HO135.out) hb); have n3_ := Aside0.mk (Kd.R_below (by (with_reducible repeat (first | apply Kd.R_alloc | apply Kd.R_drewN | apply Kd.R_drew)); exact HO139.out) hb); have n4_ := Aside0.mk (Kd.R_below (by (with_reducible repeat (first | apply Kd.R_alloc | apply Kd.R_drewN | apply Kd.R_drew)); exact HO142.out) hb); have n5_ := Aside0.mk (Kd.R_below (by (with_reducible repeat (first | apply Kd.R_alloc | apply Kd.R_drewN | apply Kd.R_drew)); exact HO145.out) hb); have n6_ := Aside0.mk (below_step (by repeat (first | (with_reducible first | exact HB.out | apply below_alloc | apply pw_below_drewN | apply below_drew1) | exact HB.out)) hb); clear HO125; clear HO131; clear HO135; clear HO139; clear HO142; clear HO145; clear HB; have HO125 := n0_; have HO131 := n1_; have HO135 := n2_; have HO139 := n3_; have HO142 := n4_; have HO145 := n5_; have HB := n6_; clear n0_ n1_ n2_ n3_ n4_ n5_ n6_; (try clear hb); (try clear hb2); (try clear hk); (try clear hi); (try clear A17)) | (go_at_call 26; (with_reducible refine (grafterlaw0_Num.calls t127 t148 _ A19.out).mono ?_); rintro e w' ⟨rfl, ⟨nd, rfl⟩⟩; (try clear A19)) | ((with_reducible refine gate_dst (N := 56) rfl ?_); (try (refine gate_guard (by rfl) ?_; dsimp only)); refine Kd.R_lit Kd.string _ 9 ?hg (N := 56) ?hd (xs := ([(⟨#[97]⟩ : ByteArray), (⟨#[]⟩ : ByteArray), (⟨#[98, 99]⟩ : ByteArray)] : List ByteArray)) (inner := [.string (⟨#[97]⟩ : ByteArray), .string (⟨#[]⟩ : ByteArray), .string (⟨#[98, 99]⟩ : ByteArray)]) (ok := fun _ => True) (okp := fun _ => True) ?hr ?hp (fun _ hk => hk) trivial (Below.refl _ _) (Nat.le_refl _) (by simp) ?_; (case hd => rfl); (case hg => rfl); (case hr => first | (go_simp; done) | (go_simp; rfl)); (case hp => exact (Reps.one (show Kd.M Kd.string _ _ _ (⟨#[97]⟩ : ByteArray) [.string (⟨#[97]⟩ : ByteArray)] from rfl) (Reps.one (show Kd.M Kd.string _ _ _ (⟨#[]⟩ : ByteArray) [.string (⟨#[]⟩ : ByteArray)] from rfl) (Reps.one (show Kd.M Kd.string _ _ _ (⟨#[98, 99]⟩ : ByteArray) [.string (⟨#[98, 99]⟩ : ByteArray)] from rfl) (Reps.none _ _))))); intro v150 w45 ho46 hb hg_ hnew_; clear hg_ hnew_; (first | rw [← Ny149.out] at ho46 | (simp only [Int.reduceToNat] at ho46; rw [← Ny149.out] at ho46)); have n0_ := Aside0.mk (Kd.R_elder' (by (with_reducible repeat (first | apply Kd.R_alloc | apply Kd.R_drewN | apply Kd.R_drew)); exact HO125.out) (Kd.R_base ho46) hb); have n1_ := Aside0.mk (Kd.R_elder' (by (with_reducible repeat (first | apply Kd.R_alloc | apply Kd.R_drewN | apply Kd.R_drew)); exact HO131.out) (Kd.R_base ho46) hb); have n2_ := Aside0.mk (Kd.R_elder' (by (with_reducible repeat (first | apply Kd.R_alloc | apply Kd.R_drewN | apply Kd.R_drew)); exact HO135.out) (Kd.R_base ho46) hb); have n3_ := Aside0.mk (Kd.R_elder' (by (with_reducible repeat (first | apply Kd.R_alloc | apply Kd.R_drewN | apply Kd.R_drew)); exact HO139.out) (Kd.R_base ho46) hb); have n4_ := Aside0.mk (Kd.R_below (by (with_reducible repeat (first | apply Kd.R_alloc | apply Kd.R_drewN | apply Kd.R_drew)); exact HO142.out) hb); have n5_ := Aside0.mk (Kd.R_elder' (by (with_reducible repeat (first | apply Kd.R_alloc | apply Kd.R_drewN | apply Kd.R_drew)); exact HO145.out) (Kd.R_base ho46) hb); have n6_ := Aside0.mk (Kd.R_lower (Kd.R_new' (Kd.R_new' (Kd.R_new' (Kd.R_new' (Kd.R_new' ho46 (Kd.R_lt (by (with_reducible repeat (first | apply Kd.R_alloc | apply Kd.R_drewN | apply Kd.R_drew)); exact HO125.out))) (Kd.R_lt (by (with_reducible repeat (first | apply Kd.R_alloc | apply Kd.R_drewN | apply Kd.R_drew)); exact HO131.out))) (Kd.R_lt (by (with_reducible repeat (first | apply Kd.R_alloc | apply Kd.R_drewN | apply Kd.R_drew)); exact HO135.out))) (Kd.R_lt (by (with_reducible repeat (first | apply Kd.R_alloc | apply Kd.R_drewN | apply Kd.R_drew)); exact HO139.out))) (Kd.R_lt (by (with_reducible repeat (first | apply Kd.R_alloc | apply Kd.R_drewN | apply Kd.R_drew)); exact HO145.out))) (below_size (by repeat (first | (with_reducible first | exact HB.out | apply below_alloc | apply pw_below_drewN | apply below_drew1) | exact HB.out)))); have n7_ := Aside0.mk (below_step (by repeat (first | (with_reducible first | exact HB.out | apply below_alloc | apply pw_below_drewN | apply below_drew1) | exact HB.out)) hb); clear HO125; clear HO131; clear HO135; clear HO139; clear HO142; clear HO145; clear HB; have HO125 := n0_; have HO131 := n1_; have HO135 := n2_; have HO139 := n3_; have HO142 := n4_; have HO145 := n5_; have HO151 := n6_; have HB := n7_; clear n0_ n1_ n2_ n3_ n4_ n5_ n6_ n7_; clear hb ho46; obtain ⟨Ao47, co47, eo47⟩ := Kd.R_slice HO131.out; subst eo47; obtain ⟨Ao48, co48, eo48⟩ := Kd.R_slice HO151.out; subst eo48) | (go_at_call 34; (with_reducible refine (grafterlaw0_SameTexts.calls k _ _ t128 _ _ y149 true _ ?side1 ?side2 ?side3 ?side4 A21.out).mono ?_); (case side1 => repeat (first | exact (Kd.R_reads' HO131.out).2.2 | (with_reducible refine Kd.C_alloc ?_ _) | (with_reducible refine Kd.C_drewN ?_ _) | (with_reducible refine Kd.C_drew ?_))); (case side2 => exact (Kd.R_reads' HO131.out).2.1); (case side3 => repeat (first | exact (Kd.R_reads' HO151.out).2.2 | (with_reducible refine Kd.C_alloc ?_ _) | (with_reducible refine Kd.C_drewN ?_ _) | (with_reducible refine Kd.C_drew ?_))); (case side4 => exact (Kd.R_reads' HO151.out).2.1); rintro e w' ⟨rfl, ⟨nd, rfl⟩⟩; obtain ⟨Ao49, co49, eo49⟩ := Kd.R_slice HO135.out; subst eo49; (try clear A21)) | (go_at_call 34; (with_reducible refine (grafterlaw0_SameTexts.calls k _ _ t132 _ _ t128 true _ ?side1 ?side2 ?side3 ?side4 A24.out).mono ?_); (case side1 => repeat (first | exact (Kd.R_reads' HO135.out).2.2 | (with_reducible refine Kd.C_alloc ?_ _) | (with_reducible refine Kd.C_drewN ?_ _) | (with_reducible refine Kd.C_drew ?_))); (case side2 => exact (Kd.R_reads' HO135.out).2.1); (case side3 => repeat (first | exact (Kd.R_reads' HO131.out).2.2 | (with_reducible refine Kd.C_alloc ?_ _) | (with_reducible refine Kd.C_drewN ?_ _) | (with_reducible refine Kd.C_drew ?_))); (case side4 => exact (Kd.R_reads' HO131.out).2.1); rintro e w' ⟨rfl, ⟨nd, rfl⟩⟩; (try clear A24)) | ((with_reducible refine gate_dst (N := 74) rfl ?_); (try (refine gate_guard (by rfl) ?_; dsimp only)); refine Kd.R_lit Kd.string _ 9 ?hg (N := 74) ?hd (xs := ([(⟨#[97]⟩ : ByteArray), (⟨#[]⟩ : ByteArray)] : List ByteArray)) (inner := [.string (⟨#[97]⟩ : ByteArray), .string (⟨#[]⟩ : ByteArray)]) (ok := fun _ => True) (okp := fun _ => True) ?hr ?hp (fun _ hk => hk) trivial (Below.refl _ _) (Nat.le_refl _) (by simp) ?_; (case hd => rfl); (case hg => rfl); (case hr => first | (go_simp; done) | (go_simp; rfl)); (case hp => exact (Reps.one (show Kd.M Kd.string _ _ _ (⟨#[97]⟩ : ByteArray) [.string (⟨#[97]⟩ : ByteArray)] from rfl) (Reps.one (show Kd.M Kd.string _ _ _ (⟨#[]⟩ : ByteArray) [.string (⟨#[]⟩ : ByteArray)] from rfl) (Reps.none _ _)))); intro v155 w50 ho51 hb hg_ hnew_; clear hg_ hnew_; (first | rw [← Ny154.out] at ho51 | (simp only [Int.reduceToNat] at ho51; rw [← Ny154.out] at ho51)); have n0_ := Aside0.mk (Kd.R_elder' (by (with_reducible repeat (first | apply Kd.R_alloc | apply Kd.R_drewN | apply Kd.R_drew)); exact HO125.out) (Kd.R_base ho51) hb); have n1_ := Aside0.mk (Kd.R_elder' (by (with_reducible repeat (first | apply Kd.R_alloc | apply Kd.R_drewN | apply Kd.R_drew)); exact HO131.out) (Kd.R_base ho51) hb); have n2_ := Aside0.mk (Kd.R_elder' (by (with_reducible repeat (first | apply Kd.R_alloc | apply Kd.R_drewN | apply Kd.R_drew)); exact HO135.out) (Kd.R_base ho51) hb); have n3_ := Aside0.mk (Kd.R_elder' (by (with_reducible repeat (first | apply Kd.R_alloc | apply Kd.R_drewN | apply Kd.R_drew)); exact HO139.out) (Kd.R_base ho51) hb); have n4_ := Aside0.mk (Kd.R_below (by (with_reducible repeat (first | apply Kd.R_alloc | apply Kd.R_drewN | apply Kd.R_drew)); exact HO142.out) hb); have n5_ := Aside0.mk (Kd.R_elder' (by (with_reducible repeat (first | apply Kd.R_alloc | apply Kd.R_drewN | apply Kd.R_drew)); exact HO145.out) (Kd.R_base ho51) hb); have n6_ := Aside0.mk (Kd.R_elder' (by (with_reducible repeat (first | apply Kd.R_alloc | apply Kd.R_drewN | apply Kd.R_drew)); exact HO151.out) (Kd.R_base ho51) hb); have n7_ := Aside0.mk (Kd.R_lower (Kd.R_new' (Kd.R_new' (Kd.R_new' (Kd.R_new' (Kd.R_new' (Kd.R_new' ho51 (Kd.R_lt (by (with_reducible repeat (first | apply Kd.R_alloc | apply Kd.R_drewN | apply Kd.R_drew)); exact HO125.out))) (Kd.R_lt (by (with_reducible repeat (first | apply Kd.R_alloc | apply Kd.R_drewN | apply Kd.R_drew)); exact HO131.out))) (Kd.R_lt (by (with_reducible repeat (first | apply Kd.R_alloc | apply Kd.R_drewN | apply Kd.R_drew)); exact HO135.out))) (Kd.R_lt (by (with_reducible repeat (first | apply Kd.R_alloc | apply Kd.R_drewN | apply Kd.R_drew)); exact HO139.out))) (Kd.R_lt (by (with_reducible repeat (first | apply Kd.R_alloc | apply Kd.R_drewN | apply Kd.R_drew)); exact HO145.out))) (Kd.R_lt (by (with_reducible repeat (first | apply Kd.R_alloc | apply Kd.R_drewN | apply Kd.R_drew)); exact HO151.out))) (below_size (by repeat (first | (with_reducible first | exact HB.out | apply below_alloc | apply pw_below_drewN | apply below_drew1) | exact HB.out)))); have n8_ := Aside0.mk (below_step (by repeat (first | (with_reducible first | exact HB.out | apply below_alloc | apply pw_below_drewN | apply below_drew1) | exact HB.out)) hb); clear HO125; clear HO131; clear HO135; clear HO139; clear HO142; clear HO145; clear HO151; clear HB; have HO125 := n0_; have HO131 := n1_; have HO135 := n2_; have HO139 := n3_; have HO142 := n4_; have HO145 := n5_; have HO151 := n6_; have HO156 := n7_; have HB := n8_; clear n0_ n1_ n2_ n3_ n4_ n5_ n6_ n7_ n8_; clear hb ho51; obtain ⟨Ao52, co52, eo52⟩ := Kd.R_slice HO139.out; subst eo52; obtain ⟨Ao53, co53, eo53⟩ := Kd.R_slice HO156.out; subst eo53) | (go_at_call 34; (with_reducible refine (grafterlaw0_SameTexts.calls k _ _ t136 _ _ y154 true _ ?side1 ?side2 ?side3 ?side4 A27.out).mono ?_); (case side1 => repeat (first | exact (Kd.R_reads' HO139.out).2.2 | (with_reducible refine Kd.C_alloc ?_ _) | (with_reducible refine Kd.C_drewN ?_ _) | (with_reducible refine Kd.C_drew ?_))); (case side2 => exact (Kd.R_reads' HO139.out).2.1); (case side3 => repeat (first | exact (Kd.R_reads' HO156.out).2.2 | (with_reducible refine Kd.C_alloc ?_ _) | (with_reducible refine Kd.C_drewN ?_ _) | (with_reducible refine Kd.C_drew ?_))); (case side4 => exact (Kd.R_reads' HO156.out).2.1); rintro e w' ⟨rfl, ⟨nd, rfl⟩⟩; (try clear A27)) | (go_at_call 26; (with_reducible refine (grafterlaw0_Num.calls t147 t158 _ A30.out).mono ?_); rintro e w' ⟨rfl, ⟨nd, rfl⟩⟩; (try clear A30)))
                            all_goals go_ret
                            all_goals exact ⟨by first | (simp only [← hji12_]; split <;> first | (exfalso; omega) | (simp [ByteArray.extract_zero_size]; done) | (simp [ByteArray.extract_zero_size, *]; done)) | rfl | (simp [errW_none, errW_some] <;> rfl) | (simp only [← hji12]; first | rfl | (simp [errW_none, errW_some] <;> rfl)) | (simp [*, errW_none, errW_some] <;> rfl), by repeat (first | (with_reducible first | exact HB.out | apply below_alloc | apply pw_below_drewN | apply below_drew1) | exact HB.out)⟩
                          · rw [if_neg c29] at H
                            have c29b0 : (t137 == 13) = false := beq_eq_false_iff_ne.mpr c29
                            have c29b1 : (t137 != 13) = true := bne_iff_ne.mpr c29
                            exact absurd ((Option.some.inj H).trans HRT.out) Bool.false_ne_true
                        · replace c28 := Bool.eq_false_iff.mpr c28
                          subst c28
                          have H1 : (some false) = some r := by rw [if_neg (show ¬ (false = true) by decide)] at H; exact H
                          clear H
                          have H := H1
                          clear H1
                          exact absurd ((Option.some.inj H).trans HRT.out) Bool.false_ne_true
                      · rw [if_neg c26] at H
                        have c26b0 : (t133 == 21) = false := beq_eq_false_iff_ne.mpr c26
                        have c26b1 : (t133 != 21) = true := bne_iff_ne.mpr c26
                        exact absurd ((Option.some.inj H).trans HRT.out) Bool.false_ne_true
                    · replace c25 := Bool.eq_false_iff.mpr c25
                      subst c25
                      have H1 : (some false) = some r := by rw [if_neg (show ¬ (false = true) by decide)] at H; exact H
                      clear H
                      have H := H1
                      clear H1
                      exact absurd ((Option.some.inj H).trans HRT.out) Bool.false_ne_true
                  · rw [if_neg c23] at H
                    have c23b0 : (t129 == 21) = false := beq_eq_false_iff_ne.mpr c23
                    have c23b1 : (t129 != 21) = true := bne_iff_ne.mpr c23
                    exact absurd ((Option.some.inj H).trans HRT.out) Bool.false_ne_true
                · replace c22 := Bool.eq_false_iff.mpr c22
                  subst c22
                  have H1 : (some false) = some r := by rw [if_neg (show ¬ (false = true) by decide)] at H; exact H
                  clear H
                  have H := H1
                  clear H1
                  exact absurd ((Option.some.inj H).trans HRT.out) Bool.false_ne_true
              · rw [if_neg c20] at H
                have c20b0 : (t148 == 0) = false := beq_eq_false_iff_ne.mpr c20
                have c20b1 : (t148 != 0) = true := bne_iff_ne.mpr c20
                exact absurd ((Option.some.inj H).trans HRT.out) Bool.false_ne_true
            · rw [if_neg c18] at H
              have c18b0 : ((t126.size : Int) == 21) = false := beq_eq_false_iff_ne.mpr c18
              have c18b1 : ((t126.size : Int) != 21) = true := bne_iff_ne.mpr c18
              exact absurd ((Option.some.inj H).trans HRT.out) Bool.false_ne_true
          · rw [if_neg c16] at H
            exact absurd H (by simp)
        · rw [if_neg c14] at H
          exact absurd H (by simp)
      · rw [if_neg c13] at H
        exact absurd H (by simp)
  · rw [if_neg c3] at H
    exact absurd H (by simp)

/-! ### grafterlaw17_JournalBad: function 11 -/
def grafterlaw17_JournalBad.j0 : Nat → List ByteArray → Int → Int → ByteArray → Int → ByteArray → Int → Bool → Option (Bool)
  | 0, _, _, _, _, _, _, _, _ => none
  | k + 1, x0, x2, x7, x8, x9, x10, x11, x45 => if x45 = true then ((grafterlaw0_Num.f x9).bind fun t168 => (if t168 = 0 then ((grafterlaw0_Num.f x11).bind fun t169 => (if t169 = 0 then (some false) else (some (x10.toList == ([] : List UInt8))))) else (if x8.toList = ([] : List UInt8) then (some true) else ((grafterlaw0_Num.f x11).bind fun t170 => (if t170 = 0 then (some false) else (some (x10.toList == ([] : List UInt8)))))))) else ((some (([(⟨#[255, 255]⟩ : ByteArray), (⟨#[0, 0, 0, 0, 0, 1]⟩ : ByteArray), (⟨#[1, 0, 120, 0, 0, 0, 0]⟩ : ByteArray), (⟨#[1, 4]⟩ : ByteArray)] : List ByteArray) : List ByteArray)).bind fun y171 => (if 0 ≤ (wrap64 (Int.tmod (IntKind.u64.wrap (x2)) 4)) then (if (wrap64 (Int.tmod (IntKind.u64.wrap (x2)) 4)) < (y171.length : Int) then (if x8.size + (rdOf ByteArray.empty y171 (wrap64 (Int.tmod (IntKind.u64.wrap (x2)) 4))).size ≤ 9223372036854775807 then (if (x8 ++ (rdOf ByteArray.empty y171 (wrap64 (Int.tmod (IntKind.u64.wrap (x2)) 4)))).size + x10.size ≤ 9223372036854775807 then ((journal_Load.f k ((x8 ++ (rdOf ByteArray.empty y171 (wrap64 (Int.tmod (IntKind.u64.wrap (x2)) 4)))) ++ x10)).bind fun bt175 => (if 0 ≤ x7 then (if x7 ≤ (x0.length : Int) then ((grafterlaw0_SameTexts.f k bt175.1 (x0.take (x7 : Int).toNat)).bind fun t180 => (if t180 = true then (some (bt175.2 == (x8.size : Int))) else (some false))) else (none)) else (none))) else (none)) else (none)) else (none)) else (none)))
def grafterlaw17_JournalBad.f (k : Nat) (l0 : List ByteArray) (a1 : Int) (a2 : Int) : Option (Bool) := (grafterlaw17_awake.f k).bind fun t159 => (if t159 = true then (if (IntKind.u64.wrap (wrap64 ((l0.length : Int) + 1))) = 0 then (none) else (if 0 ≤ (wrap64 (Int.tmod (IntKind.u64.wrap (a1)) (IntKind.u64.wrap (wrap64 ((l0.length : Int) + 1))))) then (if (wrap64 (Int.tmod (IntKind.u64.wrap (a1)) (IntKind.u64.wrap (wrap64 ((l0.length : Int) + 1))))) ≤ (l0.length : Int) then ((journal_Text.f k (l0.take ((wrap64 (Int.tmod (IntKind.u64.wrap (a1)) (IntKind.u64.wrap (wrap64 ((l0.length : Int) + 1))))) : Int).toNat)).bind fun bt161 => ((journal_Text.f k (l0.drop ((wrap64 (Int.tmod (IntKind.u64.wrap (a1)) (IntKind.u64.wrap (wrap64 ((l0.length : Int) + 1))))) : Int).toNat)).bind fun bt164 => ((grafterlaw0_Num.f bt161.2).bind fun t166 => (if t166 = 0 then ((grafterlaw0_Num.f bt164.2).bind fun t167 => (grafterlaw17_JournalBad.j0 k l0 a2 (wrap64 (Int.tmod (IntKind.u64.wrap (a1)) (IntKind.u64.wrap (wrap64 ((l0.length : Int) + 1))))) bt161.1 bt161.2 bt164.1 bt164.2 (t167 != 0))) else (grafterlaw17_JournalBad.j0 k l0 a2 (wrap64 (Int.tmod (IntKind.u64.wrap (a1)) (IntKind.u64.wrap (wrap64 ((l0.length : Int) + 1))))) bt161.1 bt161.2 bt164.1 bt164.2 true))))) else (none)) else (none))) else (some false))
theorem grafterlaw17_JournalBad.mono_l : ∀ k, (∀ y0 y1 y2 y3 y4 y5 y6 y7, LeO (grafterlaw17_JournalBad.j0 k y0 y1 y2 y3 y4 y5 y6 y7) (grafterlaw17_JournalBad.j0 (k + 1) y0 y1 y2 y3 y4 y5 y6 y7))
  | 0 => fun _ _ _ _ _ _ _ _ r h => by simp [grafterlaw17_JournalBad.j0] at h
  | k + 1 => by
    have ih0 := grafterlaw17_JournalBad.mono_l k
    · intro y0 y1 y2 y3 y4 y5 y6 y7
      unfold grafterlaw17_JournalBad.j0
      repeat' first
      | (with_reducible exact ih0 _ _ _ _ _ _ _ _)
      | (with_reducible exact grafterlaw0_SameTexts.mono _ _ _)
      | (with_reducible exact grafterlaw17_awake.mono _)
      | (with_reducible exact journal_Load.mono _ _)
      | (with_reducible exact journal_Text.mono _ _)
      | (with_reducible exact LeO.refl _)
      | (with_reducible exact LeO.none _)
      | (with_reducible refine LeO.ite ?_ ?_)
      | (with_reducible refine LeO.bind ?_ (fun _ => ?_))
      | exact ih0 _ _ _ _ _ _ _ _
      | exact grafterlaw0_SameTexts.mono _ _ _
      | exact grafterlaw17_awake.mono _
      | exact journal_Load.mono _ _
      | exact journal_Text.mono _ _
      | exact LeO.none _
      | refine LeO.ite ?_ ?_
      | refine LeO.bind ?_ (fun _ => ?_)
theorem grafterlaw17_JournalBad.mono : ∀ a0 a1 a2 k, LeO (grafterlaw17_JournalBad.f k a0 a1 a2) (grafterlaw17_JournalBad.f (k + 1) a0 a1 a2) := by
  intro a0 a1 a2 k
  have ih0 := grafterlaw17_JournalBad.mono_l k
  unfold grafterlaw17_JournalBad.f
  repeat' first
      | (with_reducible exact ih0 _ _ _ _ _ _ _ _)
      | (with_reducible exact grafterlaw0_SameTexts.mono _ _ _)
      | (with_reducible exact grafterlaw17_awake.mono _)
      | (with_reducible exact journal_Load.mono _ _)
      | (with_reducible exact journal_Text.mono _ _)
      | (with_reducible exact LeO.refl _)
      | (with_reducible exact LeO.none _)
      | (with_reducible refine LeO.ite ?_ ?_)
      | (with_reducible refine LeO.bind ?_ (fun _ => ?_))
      | exact ih0 _ _ _ _ _ _ _ _
      | exact grafterlaw0_SameTexts.mono _ _ _
      | exact grafterlaw17_awake.mono _
      | exact journal_Load.mono _ _
      | exact journal_Text.mono _ _
      | exact LeO.none _
      | refine LeO.ite ?_ ?_
      | refine LeO.bind ?_ (fun _ => ?_)
set_option maxHeartbeats 8000000 in
set_option maxRecDepth 100000 in
theorem grafterlaw17_JournalBad.calls (k : Nat) (A0 : Option Addr) (c0 : Nat) (l0 : List ByteArray) (a1 : Int) (a2 : Int) (r : Bool) (w : World) (hrt : r = true) (hr0 : Kd.C Kd.string w A0 l0.length l0) (hc0 : l0.length ≤ c0) (h : grafterlaw17_JournalBad.f k l0 a1 a2 = some r) :
    Calls Try.prog 11 #[.slice A0 l0.length c0, .int .i64 a1, .int .i64 a2] w fun e w' => e = .returned (.bool r) ∧ Below w.heap.size w w' := by
  have HRT := Aside0.mk hrt
  clear hrt
  have HR0 := Aside0.mk hr0
  have HC0 := Aside0.mk hc0
  clear hr0 hc0
  have HB := Aside0.mk (Below.refl w.heap.size w)
  have H : ((grafterlaw17_awake.f k).bind fun t159 => (if t159 = true then (if (IntKind.u64.wrap (wrap64 ((l0.length : Int) + 1))) = 0 then (none) else (if 0 ≤ (wrap64 (Int.tmod (IntKind.u64.wrap (a1)) (IntKind.u64.wrap (wrap64 ((l0.length : Int) + 1))))) then (if (wrap64 (Int.tmod (IntKind.u64.wrap (a1)) (IntKind.u64.wrap (wrap64 ((l0.length : Int) + 1))))) ≤ (l0.length : Int) then ((journal_Text.f k (l0.take ((wrap64 (Int.tmod (IntKind.u64.wrap (a1)) (IntKind.u64.wrap (wrap64 ((l0.length : Int) + 1))))) : Int).toNat)).bind fun bt161 => ((journal_Text.f k (l0.drop ((wrap64 (Int.tmod (IntKind.u64.wrap (a1)) (IntKind.u64.wrap (wrap64 ((l0.length : Int) + 1))))) : Int).toNat)).bind fun bt164 => ((grafterlaw0_Num.f bt161.2).bind fun t166 => (if t166 = 0 then ((grafterlaw0_Num.f bt164.2).bind fun t167 => (grafterlaw17_JournalBad.j0 k l0 a2 (wrap64 (Int.tmod (IntKind.u64.wrap (a1)) (IntKind.u64.wrap (wrap64 ((l0.length : Int) + 1))))) bt161.1 bt161.2 bt164.1 bt164.2 (t167 != 0))) else (grafterlaw17_JournalBad.j0 k l0 a2 (wrap64 (Int.tmod (IntKind.u64.wrap (a1)) (IntKind.u64.wrap (wrap64 ((l0.length : Int) + 1))))) bt161.1 bt161.2 bt164.1 bt164.2 true))))) else (none)) else (none))) else (some false))) = some r := h
  clear h
  replace H := Option.bind_eq_some_iff.mp H
  obtain ⟨t159, A40, H⟩ := H
  replace H : (if t159 = true then (if (IntKind.u64.wrap (wrap64 ((l0.length : Int) + 1))) = 0 then (none) else (if 0 ≤ (wrap64 (Int.tmod (IntKind.u64.wrap (a1)) (IntKind.u64.wrap (wrap64 ((l0.length : Int) + 1))))) then (if (wrap64 (Int.tmod (IntKind.u64.wrap (a1)) (IntKind.u64.wrap (wrap64 ((l0.length : Int) + 1))))) ≤ (l0.length : Int) then ((journal_Text.f k (l0.take ((wrap64 (Int.tmod (IntKind.u64.wrap (a1)) (IntKind.u64.wrap (wrap64 ((l0.length : Int) + 1))))) : Int).toNat)).bind fun bt161 => ((journal_Text.f k (l0.drop ((wrap64 (Int.tmod (IntKind.u64.wrap (a1)) (IntKind.u64.wrap (wrap64 ((l0.length : Int) + 1))))) : Int).toNat)).bind fun bt164 => ((grafterlaw0_Num.f bt161.2).bind fun t166 => (if t166 = 0 then ((grafterlaw0_Num.f bt164.2).bind fun t167 => (grafterlaw17_JournalBad.j0 k l0 a2 (wrap64 (Int.tmod (IntKind.u64.wrap (a1)) (IntKind.u64.wrap (wrap64 ((l0.length : Int) + 1))))) bt161.1 bt161.2 bt164.1 bt164.2 (t167 != 0))) else (grafterlaw17_JournalBad.j0 k l0 a2 (wrap64 (Int.tmod (IntKind.u64.wrap (a1)) (IntKind.u64.wrap (wrap64 ((l0.length : Int) + 1))))) bt161.1 bt161.2 bt164.1 bt164.2 true))))) else (none)) else (none))) else (some false)) = some r := H
  have A4 := Aside0.mk A40
  clear A40
  by_cases c5 : t159 = true
  · subst c5
    have H1 : (if (IntKind.u64.wrap (wrap64 ((l0.length : Int) + 1))) = 0 then (none) else (if 0 ≤ (wrap64 (Int.tmod (IntKind.u64.wrap (a1)) (IntKind.u64.wrap (wrap64 ((l0.length : Int) + 1))))) then (if (wrap64 (Int.tmod (IntKind.u64.wrap (a1)) (IntKind.u64.wrap (wrap64 ((l0.length : Int) + 1))))) ≤ (l0.length : Int) then ((journal_Text.f k (l0.take ((wrap64 (Int.tmod (IntKind.u64.wrap (a1)) (IntKind.u64.wrap (wrap64 ((l0.length : Int) + 1))))) : Int).toNat)).bind fun bt161 => ((journal_Text.f k (l0.drop ((wrap64 (Int.tmod (IntKind.u64.wrap (a1)) (IntKind.u64.wrap (wrap64 ((l0.length : Int) + 1))))) : Int).toNat)).bind fun bt164 => ((grafterlaw0_Num.f bt161.2).bind fun t166 => (if t166 = 0 then ((grafterlaw0_Num.f bt164.2).bind fun t167 => (grafterlaw17_JournalBad.j0 k l0 a2 (wrap64 (Int.tmod (IntKind.u64.wrap (a1)) (IntKind.u64.wrap (wrap64 ((l0.length : Int) + 1))))) bt161.1 bt161.2 bt164.1 bt164.2 (t167 != 0))) else (grafterlaw17_JournalBad.j0 k l0 a2 (wrap64 (Int.tmod (IntKind.u64.wrap (a1)) (IntKind.u64.wrap (wrap64 ((l0.length : Int) + 1))))) bt161.1 bt161.2 bt164.1 bt164.2 true))))) else (none)) else (none))) = some r := by rw [if_pos rfl] at H; exact H
    clear H
    have H := H1
    clear H1
    by_cases c6 : (IntKind.u64.wrap (wrap64 ((l0.length : Int) + 1))) = 0
    · rw [if_pos c6] at H
      exact absurd H (by simp)
    · rw [if_neg c6] at H
      have c6b0 : ((IntKind.u64.wrap (wrap64 ((l0.length : Int) + 1))) == 0) = false := beq_eq_false_iff_ne.mpr c6
      have c6b1 : ((IntKind.u64.wrap (wrap64 ((l0.length : Int) + 1))) != 0) = true := bne_iff_ne.mpr c6
      obtain ⟨ji7, hji7⟩ : ∃ j_ : Int, (wrap64 (Int.tmod (IntKind.u64.wrap (a1)) (IntKind.u64.wrap (wrap64 ((l0.length : Int) + 1))))) = j_ := ⟨_, rfl⟩
      replace H : (if 0 ≤ (ji7) then (if (ji7) ≤ (l0.length : Int) then ((journal_Text.f k (l0.take ((ji7) : Int).toNat)).bind fun bt161 => ((journal_Text.f k (l0.drop ((ji7) : Int).toNat)).bind fun bt164 => ((grafterlaw0_Num.f bt161.2).bind fun t166 => (if t166 = 0 then ((grafterlaw0_Num.f bt164.2).bind fun t167 => (grafterlaw17_JournalBad.j0 k l0 a2 ji7 bt161.1 bt161.2 bt164.1 bt164.2 (t167 != 0))) else (grafterlaw17_JournalBad.j0 k l0 a2 ji7 bt161.1 bt161.2 bt164.1 bt164.2 true))))) else (none)) else (none)) = some r := by first | (rw [hji7] at H; exact H) | (simp only [hji7] at H ⊢; exact H)
      (try rw [hji7] at A4)
      have hji7w : (IntKind.i64.wrap (Int.tmod (IntKind.u64.wrap (a1)) (IntKind.u64.wrap (wrap64 ((l0.length : Int) + 1))))) = ji7 := (i64_w _).trans hji7
      by_cases c8 : 0 ≤ (ji7)
      · rw [if_pos c8] at H
        have c8b0 := eq_true c8
        have c8b1 : decide (0 ≤ (ji7)) = true := decide_eq_true c8
        clear c8
        by_cases c9 : (ji7) ≤ (l0.length : Int)
        · rw [if_pos c9] at H
          have c9b0 := eq_true c9
          have c9b1 : decide ((ji7) ≤ (l0.length : Int)) = true := decide_eq_true c9
          clear c9
          replace H := Option.bind_eq_some_iff.mp H
          obtain ⟨⟨t161, t162⟩, A100, H⟩ := H
          replace H : ((journal_Text.f k (l0.drop ((ji7) : Int).toNat)).bind fun bt164 => ((grafterlaw0_Num.f t162).bind fun t166 => (if t166 = 0 then ((grafterlaw0_Num.f bt164.2).bind fun t167 => (grafterlaw17_JournalBad.j0 k l0 a2 ji7 t161 t162 bt164.1 bt164.2 (t167 != 0))) else (grafterlaw17_JournalBad.j0 k l0 a2 ji7 t161 t162 bt164.1 bt164.2 true)))) = some r := H
          have A10 := Aside0.mk A100
          clear A100
          have c11b0 := eq_true (of_decide_eq_true (by first | (with_reducible assumption) | assumption) : 0 ≤ (ji7))
          have c12b0 := eq_true (of_decide_eq_true (by first | (with_reducible assumption) | assumption) : (ji7) ≤ (l0.length : Int))
          replace H := Option.bind_eq_some_iff.mp H
          obtain ⟨⟨t164, t165⟩, A130, H⟩ := H
          replace H : ((grafterlaw0_Num.f t162).bind fun t166 => (if t166 = 0 then ((grafterlaw0_Num.f t165).bind fun t167 => (grafterlaw17_JournalBad.j0 k l0 a2 ji7 t161 t162 t164 t165 (t167 != 0))) else (grafterlaw17_JournalBad.j0 k l0 a2 ji7 t161 t162 t164 t165 true))) = some r := H
          have A13 := Aside0.mk A130
          clear A130
          have HC14 := Aside0.mk H
          clear H
          go_enter Try.func11, Try.ntmps11
          go_upto_region 6 with (first | ((with_reducible refine gate_callee (f := 37) rfl ?_); refine goesL_ (some 14) rfl rfl Try.func37 (by kernel_rfl) rfl #[] rfl (by (try simp only [List.map_toArray, List.map_cons, List.map_nil]); first | done | rfl | (simp only [List.length_drop, List.length_take]; rfl)) ?_; (with_reducible refine (grafterlaw17_awake.calls k  true _ rfl A4.out).mono ?_); rintro e w15 ⟨rfl, hb⟩; refine ⟨_, rfl, ?_⟩; have n0_ := Aside0.mk (below_step (by repeat (first | (with_reducible first | exact HB.out | apply below_alloc | apply pw_below_drewN | apply below_drew1) | exact HB.out)) hb); clear HB; have HB := n0_; clear n0_; (try clear hb); (try clear hb2); (try clear hk); (try clear hi); obtain ⟨i016, hi016, _, hsz16, _⟩ := info_parts info9; obtain ⟨hcut16, hA16, hC16⟩ := print_take_of (P := Try.prog) Value.string (⟨#[]⟩ : ByteArray) 42 9 .i64 Try.underlying42 hi016 hsz16 A0 c0 l0 (ji7) (of_decide_eq_true (by first | (with_reducible assumption) | assumption)) (of_decide_eq_true (by first | (with_reducible assumption) | assumption)) HC0.out; have HR160 := Aside0.mk (Kd.C_of_reads (h1 := fun _ => rfl) (hA16 _ (Kd.reads_of_C HR0.out))); have HC160 := Aside0.mk hC16; clear hA16 hC16 hi016 hsz16) | ((with_reducible refine gate_callee (f := 30) rfl ?_); refine goesL_ (some 28) rfl rfl Try.func30 (by kernel_rfl) rfl #[.slice A0 (l0.take ((ji7) : Int).toNat).length c0] rfl (by (try simp only [List.map_toArray, List.map_cons, List.map_nil]); first | done | (rw [show (l0.take ((ji7) : Int).toNat).length = (ji7).toNat from (by rw [List.length_take]; have h_ : ((ji7) : Int) ≤ (l0.length : Int) := of_decide_eq_true (by first | (with_reducible assumption) | assumption); omega)] <;> rfl) | (simp only [hji7]; rfl) | rfl | (simp only [List.length_drop, List.length_take]; rfl)) ?_; (with_reducible refine (journal_Text.calls k _ _ (l0.take ((ji7) : Int).toNat) t161 t162 _ ?side1 ?side2 A10.out).mono ?_); (case side1 => repeat (first | exact (Kd.C_below HR160.out HB.out) | (with_reducible refine Kd.C_alloc ?_ _) | (with_reducible refine Kd.C_drewN ?_ _) | (with_reducible refine Kd.C_drew ?_))); (case side2 => exact HC160.out); rintro e w17 ⟨rfl, hb⟩; refine ⟨_, rfl, ?_⟩; have n0_ := Aside0.mk (below_step (by repeat (first | (with_reducible first | exact HB.out | apply below_alloc | apply pw_below_drewN | apply below_drew1) | exact HB.out)) hb); clear HB; have HB := n0_; clear n0_; (try clear hb); (try clear hb2); (try clear hk); (try clear hi); obtain ⟨i018, hi018, _, hsz18, _⟩ := info_parts info9; obtain ⟨A18, hcut18, hA18, hC18⟩ := print_drop_of (P := Try.prog) Value.string (⟨#[]⟩ : ByteArray) 42 9 .i64 Try.underlying42 hi018 hsz18 A0 c0 l0 (ji7) (of_decide_eq_true (by first | (with_reducible assumption) | assumption)) (of_decide_eq_true (by first | (with_reducible assumption) | assumption)) HC0.out; have HR163 := Aside0.mk (Kd.C_of_reads (h1 := fun _ => rfl) (hA18 _ (Kd.reads_of_C HR0.out))); have HC163 := Aside0.mk hC18; clear hA18 hC18 hi018 hsz18) | ((with_reducible refine gate_callee (f := 30) rfl ?_); refine goesL_ (some 35) rfl rfl Try.func30 (by kernel_rfl) rfl #[.slice A18 (l0.drop ((ji7) : Int).toNat).length (c0 - (ji7).toNat)] rfl (by (try simp only [List.map_toArray, List.map_cons, List.map_nil]); first | done | (rw [show (l0.drop ((ji7) : Int).toNat).length = (l0.length - (ji7).toNat) from List.length_drop] <;> rfl) | (simp only [hji7]; rfl) | rfl | (simp only [List.length_drop, List.length_take]; rfl)) ?_; (with_reducible refine (journal_Text.calls k _ _ (l0.drop ((ji7) : Int).toNat) t164 t165 _ ?side1 ?side2 A13.out).mono ?_); (case side1 => repeat (first | exact (Kd.C_below HR163.out HB.out) | (with_reducible refine Kd.C_alloc ?_ _) | (with_reducible refine Kd.C_drewN ?_ _) | (with_reducible refine Kd.C_drew ?_))); (case side2 => exact HC163.out); rintro e w19 ⟨rfl, hb⟩; refine ⟨_, rfl, ?_⟩; have n0_ := Aside0.mk (below_step (by repeat (first | (with_reducible first | exact HB.out | apply below_alloc | apply pw_below_drewN | apply below_drew1) | exact HB.out)) hb); clear HB; have HB := n0_; clear n0_; (try clear hb); (try clear hb2); (try clear hk); (try clear hi)))
          (try simp only [Act.put, List.setIfInBounds_toArray, List.set_cons_zero, List.set_cons_succ])
          go_cut [45] (fun v45 wc => ∃ (kq : Nat) (x45_13 : Bool), v45 = .bool x45_13 ∧ Aside0 (grafterlaw17_JournalBad.j0 kq l0 a2 ji7 t161 t162 t164 t165 x45_13 = some r) ∧ Aside0 (kq ≤ k) ∧ Aside0 (Below w.heap.size w wc))
          case first =>
            have H := HC14.out
            clear HC14
            replace H := Option.bind_eq_some_iff.mp H
            obtain ⟨t166, A200, H⟩ := H
            replace H : (if t166 = 0 then ((grafterlaw0_Num.f t165).bind fun t167 => (grafterlaw17_JournalBad.j0 k l0 a2 ji7 t161 t162 t164 t165 (t167 != 0))) else (grafterlaw17_JournalBad.j0 k l0 a2 ji7 t161 t162 t164 t165 true)) = some r := H
            have A20 := Aside0.mk A200
            clear A200
            by_cases c21 : t166 = 0
            · rw [if_pos c21] at H
              have c21b0 : (t166 == 0) = true := beq_iff_eq.mpr c21
              have c21b1 : (t166 != 0) = false := bne_eq_false_iff_eq.mpr c21
              clear c21
              (first | rw [c21b0] | (simp only [i64_w, i32_w]; rw [c21b0]) | skip)
              replace H := Option.bind_eq_some_iff.mp H
              obtain ⟨t167, A220, H⟩ := H
              replace H : (grafterlaw17_JournalBad.j0 k l0 a2 ji7 t161 t162 t164 t165 (t167 != 0)) = some r := H
              have A22 := Aside0.mk A220
              clear A220
              have H' := Aside0.mk H
              clear H
              go_wp2_with (first | ((with_reducible refine gate_callee (f := 26) rfl ?_); refine goesL_ (some 39) rfl rfl Try.func26 (by kernel_rfl) rfl #[.int .i64 t162] rfl (by (try simp only [List.map_toArray, List.map_cons, List.map_nil]); first | done | rfl | (simp only [List.length_drop, List.length_take]; rfl)) ?_; (with_reducible refine (grafterlaw0_Num.calls t162 t166 _ A20.out).mono ?_); rintro e w' ⟨rfl, ⟨nd, rfl⟩⟩; refine ⟨_, rfl, ?_⟩; (try clear A20)) | (go_at_call 26; (with_reducible refine (grafterlaw0_Num.calls t165 t167 _ A22.out).mono ?_); rintro e w' ⟨rfl, ⟨nd, rfl⟩⟩; (try clear A22)))
              go_meet
              case rel => exact ⟨_, ((t167 != 0)), (by first | rfl | (simp; done) | (simp [*]; done)), H', ⟨by first | omega | exact Nat.le_refl _⟩, ⟨by repeat (first | (with_reducible first | exact HB.out | apply below_alloc | apply pw_below_drewN | apply below_drew1) | exact HB.out)⟩⟩
            · rw [if_neg c21] at H
              have c21b0 : (t166 == 0) = false := beq_eq_false_iff_ne.mpr c21
              have c21b1 : (t166 != 0) = true := bne_iff_ne.mpr c21
              (first | rw [c21b0] | (simp only [i64_w, i32_w]; rw [c21b0]) | skip)
              have H' := Aside0.mk H
              clear H
              go_wp2_with (first | ((with_reducible refine gate_callee (f := 26) rfl ?_); refine goesL_ (some 39) rfl rfl Try.func26 (by kernel_rfl) rfl #[.int .i64 t162] rfl (by (try simp only [List.map_toArray, List.map_cons, List.map_nil]); first | done | rfl | (simp only [List.length_drop, List.length_take]; rfl)) ?_; (with_reducible refine (grafterlaw0_Num.calls t162 t166 _ A20.out).mono ?_); rintro e w' ⟨rfl, ⟨nd, rfl⟩⟩; refine ⟨_, rfl, ?_⟩))
              go_meet
              case rel => exact ⟨_, (true), (by first | rfl | (simp; done) | (simp [*]; done)), H', ⟨by first | omega | exact Nat.le_refl _⟩, ⟨by repeat (first | (with_reducible first | exact HB.out | apply below_alloc | apply pw_below_drewN | apply below_drew1) | exact HB.out)⟩⟩
          case rest =>
            clear HC14
            try clear c1
            try clear c2
            try clear p2
            try clear c3
            try clear c5
            try clear c6
            try clear c6b0
            try clear c6b1
            try clear p6
            try clear c8
            try clear c8b0
            try clear c8b1
            try clear c9
            try clear c9b0
            try clear c9b1
            try clear c11
            try clear c11b0
            try clear c12
            try clear c12b0
            try clear c21
            try clear c21b0
            try clear c21b1
            obtain ⟨kq, x45_13, rfl, HA, HJ13, HB⟩ := hcut
            cases kq with
            | zero => exact absurd HA.out (by simp [grafterlaw17_JournalBad.j0])
            | succ kj13 =>
              have H := HA.out
              clear HA
              simp only [grafterlaw17_JournalBad.j0] at H
              by_cases c23 : x45_13 = true
              · subst c23
                have H1 : ((grafterlaw0_Num.f t162).bind fun t168 => (if t168 = 0 then ((grafterlaw0_Num.f t165).bind fun t169 => (if t169 = 0 then (some false) else (some (t164.toList == ([] : List UInt8))))) else (if t161.toList = ([] : List UInt8) then (some true) else ((grafterlaw0_Num.f t165).bind fun t170 => (if t170 = 0 then (some false) else (some (t164.toList == ([] : List UInt8)))))))) = some r := by rw [if_pos rfl] at H; exact H
                clear H
                have H := H1
                clear H1
                replace H := Option.bind_eq_some_iff.mp H
                obtain ⟨t168, A240, H⟩ := H
                replace H : (if t168 = 0 then ((grafterlaw0_Num.f t165).bind fun t169 => (if t169 = 0 then (some false) else (some (t164.toList == ([] : List UInt8))))) else (if t161.toList = ([] : List UInt8) then (some true) else ((grafterlaw0_Num.f t165).bind fun t170 => (if t170 = 0 then (some false) else (some (t164.toList == ([] : List UInt8))))))) = some r := H
                have A24 := Aside0.mk A240
                clear A240
                by_cases c25 : t168 = 0
                · rw [if_pos c25] at H
                  have c25b0 : (t168 == 0) = true := beq_iff_eq.mpr c25
                  have c25b1 : (t168 != 0) = false := bne_eq_false_iff_eq.mpr c25
                  clear c25
                  replace H := Option.bind_eq_some_iff.mp H
                  obtain ⟨t169, A260, H⟩ := H
                  replace H : (if t169 = 0 then (some false) else (some (t164.toList == ([] : List UInt8)))) = some r := H
                  have A26 := Aside0.mk A260
                  clear A260
                  by_cases c27 : t169 = 0
                  · rw [if_pos c27] at H
                    have c27b0 : (t169 == 0) = true := beq_iff_eq.mpr c27
                    have c27b1 : (t169 != 0) = false := bne_eq_false_iff_eq.mpr c27
                    clear c27
                    exact absurd ((Option.some.inj H).trans HRT.out) Bool.false_ne_true
                  · rw [if_neg c27] at H
                    have c27b0 : (t169 == 0) = false := beq_eq_false_iff_ne.mpr c27
                    have c27b1 : (t169 != 0) = true := bne_iff_ne.mpr c27
                    obtain rfl := Option.some.inj H
                    go_wp2_with (first | ((with_reducible refine gate_callee (f := 26) rfl ?_); refine goesL_ (some 47) rfl rfl Try.func26 (by kernel_rfl) rfl #[.int .i64 t162] rfl (by (try simp only [List.map_toArray, List.map_cons, List.map_nil]); first | done | rfl | (simp only [List.length_drop, List.length_take]; rfl)) ?_; (with_reducible refine (grafterlaw0_Num.calls t162 t168 _ A24.out).mono ?_); rintro e w' ⟨rfl, ⟨nd, rfl⟩⟩; refine ⟨_, rfl, ?_⟩; (try clear A24)) | (go_at_call 26; (with_reducible refine (grafterlaw0_Num.calls t165 t169 _ A26.out).mono ?_); rintro e w' ⟨rfl, ⟨nd, rfl⟩⟩; (try clear A26)))
                    all_goals go_ret
                    all_goals exact ⟨by first | (simp only [← hji7_]; split <;> first | (exfalso; omega) | (simp [ByteArray.extract_zero_size]; done) | (simp [ByteArray.extract_zero_size, *]; done)) | rfl | (simp [errW_none, errW_some] <;> rfl) | (simp only [← hji7]; first | rfl | (simp [errW_none, errW_some] <;> rfl)) | (simp [*, errW_none, errW_some] <;> rfl), by repeat (first | (with_reducible first | exact HB.out | apply below_alloc | apply pw_below_drewN | apply below_drew1) | exact HB.out)⟩
                · rw [if_neg c25] at H
                  have c25b0 : (t168 == 0) = false := beq_eq_false_iff_ne.mpr c25
                  have c25b1 : (t168 != 0) = true := bne_iff_ne.mpr c25
                  by_cases c28 : t161.toList = ([] : List UInt8)
                  · rw [if_pos c28] at H
                    have c28b0 : (t161.toList == ([] : List UInt8)) = true := beq_iff_eq.mpr c28
                    have c28b1 : (t161.toList != ([] : List UInt8)) = false := bne_eq_false_iff_eq.mpr c28
                    clear c28
                    obtain rfl := Option.some.inj H
                    go_wp2_with (first | ((with_reducible refine gate_callee (f := 26) rfl ?_); refine goesL_ (some 47) rfl rfl Try.func26 (by kernel_rfl) rfl #[.int .i64 t162] rfl (by (try simp only [List.map_toArray, List.map_cons, List.map_nil]); first | done | rfl | (simp only [List.length_drop, List.length_take]; rfl)) ?_; (with_reducible refine (grafterlaw0_Num.calls t162 t168 _ A24.out).mono ?_); rintro e w' ⟨rfl, ⟨nd, rfl⟩⟩; refine ⟨_, rfl, ?_⟩))
                    all_goals go_ret
                    all_goals exact ⟨by first | (simp only [← hji7_]; split <;> first | (exfalso; omega) | (simp [ByteArray.extract_zero_size]; done) | (simp [ByteArray.extract_zero_size, *]; done)) | rfl | (simp [errW_none, errW_some] <;> rfl) | (simp only [← hji7]; first | rfl | (simp [errW_none, errW_some] <;> rfl)) | (simp [*, errW_none, errW_some] <;> rfl), by repeat (first | (with_reducible first | exact HB.out | apply below_alloc | apply pw_below_drewN | apply below_drew1) | exact HB.out)⟩
                  · rw [if_neg c28] at H
                    have c28b0 : (t161.toList == ([] : List UInt8)) = false := beq_eq_false_iff_ne.mpr c28
                    have c28b1 : (t161.toList != ([] : List UInt8)) = true := bne_iff_ne.mpr c28
                    replace H := Option.bind_eq_some_iff.mp H
                    obtain ⟨t170, A290, H⟩ := H
                    replace H : (if t170 = 0 then (some false) else (some (t164.toList == ([] : List UInt8)))) = some r := H
                    have A29 := Aside0.mk A290
                    clear A290
                    by_cases c30 : t170 = 0
                    · rw [if_pos c30] at H
                      have c30b0 : (t170 == 0) = true := beq_iff_eq.mpr c30
                      have c30b1 : (t170 != 0) = false := bne_eq_false_iff_eq.mpr c30
                      clear c30
                      exact absurd ((Option.some.inj H).trans HRT.out) Bool.false_ne_true
                    · rw [if_neg c30] at H
                      have c30b0 : (t170 == 0) = false := beq_eq_false_iff_ne.mpr c30
                      have c30b1 : (t170 != 0) = true := bne_iff_ne.mpr c30
                      obtain rfl := Option.some.inj H
                      go_wp2_with (first | ((with_reducible refine gate_callee (f := 26) rfl ?_); refine goesL_ (some 47) rfl rfl Try.func26 (by kernel_rfl) rfl #[.int .i64 t162] rfl (by (try simp only [List.map_toArray, List.map_cons, List.map_nil]); first | done | rfl | (simp only [List.length_drop, List.length_take]; rfl)) ?_; (with_reducible refine (grafterlaw0_Num.calls t162 t168 _ A24.out).mono ?_); rintro e w' ⟨rfl, ⟨nd, rfl⟩⟩; refine ⟨_, rfl, ?_⟩; (try clear A24)) | (go_at_call 26; (with_reducible refine (grafterlaw0_Num.calls t165 t170 _ A29.out).mono ?_); rintro e w' ⟨rfl, ⟨nd, rfl⟩⟩; (try clear A29)))
                      all_goals go_ret
                      all_goals exact ⟨by first | (simp only [← hji7_]; split <;> first | (exfalso; omega) | (simp [ByteArray.extract_zero_size]; done) | (simp [ByteArray.extract_zero_size, *]; done)) | rfl | (simp [errW_none, errW_some] <;> rfl) | (simp only [← hji7]; first | rfl | (simp [errW_none, errW_some] <;> rfl)) | (simp [*, errW_none, errW_some] <;> rfl), by repeat (first | (with_reducible first | exact HB.out | apply below_alloc | apply pw_below_drewN | apply below_drew1) | exact HB.out)⟩
              · replace c23 := Bool.eq_false_iff.mpr c23
                subst c23
                have H1 : ((some (([(⟨#[255, 255]⟩ : ByteArray), (⟨#[0, 0, 0, 0, 0, 1]⟩ : ByteArray), (⟨#[1, 0, 120, 0, 0, 0, 0]⟩ : ByteArray), (⟨#[1, 4]⟩ : ByteArray)] : List ByteArray) : List ByteArray)).bind fun y171 => (if 0 ≤ (wrap64 (Int.tmod (IntKind.u64.wrap (a2)) 4)) then (if (wrap64 (Int.tmod (IntKind.u64.wrap (a2)) 4)) < (y171.length : Int) then (if t161.size + (rdOf ByteArray.empty y171 (wrap64 (Int.tmod (IntKind.u64.wrap (a2)) 4))).size ≤ 9223372036854775807 then (if (t161 ++ (rdOf ByteArray.empty y171 (wrap64 (Int.tmod (IntKind.u64.wrap (a2)) 4)))).size + t164.size ≤ 9223372036854775807 then ((journal_Load.f kj13 ((t161 ++ (rdOf ByteArray.empty y171 (wrap64 (Int.tmod (IntKind.u64.wrap (a2)) 4)))) ++ t164)).bind fun bt175 => (if 0 ≤ ji7 then (if ji7 ≤ (l0.length : Int) then ((grafterlaw0_SameTexts.f kj13 bt175.1 (l0.take (ji7 : Int).toNat)).bind fun t180 => (if t180 = true then (some (bt175.2 == (t161.size : Int))) else (some false))) else (none)) else (none))) else (none)) else (none)) else (none)) else (none))) = some r := by rw [if_neg (show ¬ (false = true) by decide)] at H; exact H
                clear H
                have H := H1
                clear H1
                obtain ⟨y171, hy171⟩ : ∃ y_ : List ByteArray, y_ = (([(⟨#[255, 255]⟩ : ByteArray), (⟨#[0, 0, 0, 0, 0, 1]⟩ : ByteArray), (⟨#[1, 0, 120, 0, 0, 0, 0]⟩ : ByteArray), (⟨#[1, 4]⟩ : ByteArray)] : List ByteArray)) := ⟨_, rfl⟩
                replace H : (if 0 ≤ (wrap64 (Int.tmod (IntKind.u64.wrap (a2)) 4)) then (if (wrap64 (Int.tmod (IntKind.u64.wrap (a2)) 4)) < (y171.length : Int) then (if t161.size + (rdOf ByteArray.empty y171 (wrap64 (Int.tmod (IntKind.u64.wrap (a2)) 4))).size ≤ 9223372036854775807 then (if (t161 ++ (rdOf ByteArray.empty y171 (wrap64 (Int.tmod (IntKind.u64.wrap (a2)) 4)))).size + t164.size ≤ 9223372036854775807 then ((journal_Load.f kj13 ((t161 ++ (rdOf ByteArray.empty y171 (wrap64 (Int.tmod (IntKind.u64.wrap (a2)) 4)))) ++ t164)).bind fun bt175 => (if 0 ≤ ji7 then (if ji7 ≤ (l0.length : Int) then ((grafterlaw0_SameTexts.f kj13 bt175.1 (l0.take (ji7 : Int).toNat)).bind fun t180 => (if t180 = true then (some (bt175.2 == (t161.size : Int))) else (some false))) else (none)) else (none))) else (none)) else (none)) else (none)) else (none)) = some r := by first | (rw [hy171]; with_reducible exact H) | (have H2_ := (Option.bind_some _ _).symm.trans H; rw [hy171]; with_reducible exact H2_) | (have H2_ := (Option.bind_some _ _).symm.trans H; with_reducible exact H2_) | with_reducible exact H | (rw [hy171]; exact H) | exact H
                have Ny171 := Aside0.mk hy171
                clear hy171
                obtain ⟨ji31, hji31⟩ : ∃ j_ : Int, (wrap64 (Int.tmod (IntKind.u64.wrap (a2)) 4)) = j_ := ⟨_, rfl⟩
                replace H : (if 0 ≤ (ji31) then (if (ji31) < (y171.length : Int) then (if t161.size + (rdOf ByteArray.empty y171 (ji31)).size ≤ 9223372036854775807 then (if (t161 ++ (rdOf ByteArray.empty y171 (ji31))).size + t164.size ≤ 9223372036854775807 then ((journal_Load.f kj13 ((t161 ++ (rdOf ByteArray.empty y171 (ji31))) ++ t164)).bind fun bt175 => (if 0 ≤ ji7 then (if ji7 ≤ (l0.length : Int) then ((grafterlaw0_SameTexts.f kj13 bt175.1 (l0.take (ji7 : Int).toNat)).bind fun t180 => (if t180 = true then (some (bt175.2 == (t161.size : Int))) else (some false))) else (none)) else (none))) else (none)) else (none)) else (none)) else (none)) = some r := by first | (rw [hji31] at H; exact H) | (simp only [hji31] at H ⊢; exact H)
                have hji31w : (IntKind.i64.wrap (Int.tmod (IntKind.u64.wrap (a2)) 4)) = ji31 := (i64_w _).trans hji31
                by_cases c32 : 0 ≤ (ji31)
                · rw [if_pos c32] at H
                  have c32b0 : decide (0 ≤ (ji31)) = true := decide_eq_true c32
                  clear c32
                  by_cases c33 : (ji31) < (y171.length : Int)
                  · rw [if_pos c33] at H
                    have c33b0 : decide ((ji31) < (y171.length : Int)) = true := decide_eq_true c33
                    clear c33
                    by_cases c34 : t161.size + (rdOf ByteArray.empty y171 (ji31)).size ≤ 9223372036854775807
                    · rw [if_pos c34] at H
                      have c34b0 := eq_true c34
                      have c34b1 : decide (t161.size + (rdOf ByteArray.empty y171 (ji31)).size ≤ 9223372036854775807) = true := decide_eq_true c34
                      try have c34b2 : (9223372036854775807 < t161.size + (rdOf ByteArray.empty y171 (ji31)).size) = False := eq_false (Nat.not_lt.2 c34)
                      try simp only [ByteArray.size_append] at c34b2
                      by_cases c35 : (t161 ++ (rdOf ByteArray.empty y171 (ji31))).size + t164.size ≤ 9223372036854775807
                      · rw [if_pos c35] at H
                        have c35b0 := eq_true c35
                        have c35b1 : decide ((t161 ++ (rdOf ByteArray.empty y171 (ji31))).size + t164.size ≤ 9223372036854775807) = true := decide_eq_true c35
                        try have c35b2 : (9223372036854775807 < (t161 ++ (rdOf ByteArray.empty y171 (ji31))).size + t164.size) = False := eq_false (Nat.not_lt.2 c35)
                        try simp only [ByteArray.size_append] at c35b2
                        replace H := Option.bind_eq_some_iff.mp H
                        obtain ⟨⟨t175, t176⟩, A360, H⟩ := H
                        replace H : (if 0 ≤ ji7 then (if ji7 ≤ (l0.length : Int) then ((grafterlaw0_SameTexts.f kj13 t175 (l0.take (ji7 : Int).toNat)).bind fun t180 => (if t180 = true then (some (t176 == (t161.size : Int))) else (some false))) else (none)) else (none)) = some r := H
                        have A36 := Aside0.mk A360
                        clear A360
                        by_cases c37 : 0 ≤ ji7
                        · rw [if_pos c37] at H
                          have c37b0 := eq_true c37
                          have c37b1 : decide (0 ≤ ji7) = true := decide_eq_true c37
                          clear c37
                          by_cases c38 : ji7 ≤ (l0.length : Int)
                          · rw [if_pos c38] at H
                            have c38b0 := eq_true c38
                            have c38b1 : decide (ji7 ≤ (l0.length : Int)) = true := decide_eq_true c38
                            clear c38
                            replace H := Option.bind_eq_some_iff.mp H
                            obtain ⟨t180, A390, H⟩ := H
                            replace H : (if t180 = true then (some (t176 == (t161.size : Int))) else (some false)) = some r := H
                            have A39 := Aside0.mk A390
                            clear A390
                            by_cases c40 : t180 = true
                            · subst c40
                              have H1 : (some (t176 == (t161.size : Int))) = some r := by rw [if_pos rfl] at H; exact H
                              clear H
                              have H := H1
                              clear H1
                              obtain rfl := Option.some.inj H
                              go_wp2_with (first | ((with_reducible refine gate_dst (N := 64) rfl ?_); (try (refine gate_guard (by rfl) ?_; dsimp only)); refine Kd.R_lit Kd.string _ 9 ?hg (N := 64) ?hd (xs := ([(⟨#[255, 255]⟩ : ByteArray), (⟨#[0, 0, 0, 0, 0, 1]⟩ : ByteArray), (⟨#[1, 0, 120, 0, 0, 0, 0]⟩ : ByteArray), (⟨#[1, 4]⟩ : ByteArray)] : List ByteArray)) (inner := [.string (⟨#[255, 255]⟩ : ByteArray), .string (⟨#[0, 0, 0, 0, 0, 1]⟩ : ByteArray), .string (⟨#[1, 0, 120, 0, 0, 0, 0]⟩ : ByteArray), .string (⟨#[1, 4]⟩ : ByteArray)]) (ok := fun _ => True) (okp := fun _ => True) ?hr ?hp (fun _ hk => hk) trivial (Below.refl _ _) (Nat.le_refl _) (by simp) ?_; (case hd => rfl); (case hg => rfl); (case hr => first | (go_simp; done) | (go_simp; rfl)); (case hp => exact (Reps.one (show Kd.M Kd.string _ _ _ (⟨#[255, 255]⟩ : ByteArray) [.string (⟨#[255, 255]⟩ : ByteArray)] from rfl) (Reps.one (show Kd.M Kd.string _ _ _ (⟨#[0, 0, 0, 0, 0, 1]⟩ : ByteArray) [.string (⟨#[0, 0, 0, 0, 0, 1]⟩ : ByteArray)] from rfl) (Reps.one (show Kd.M Kd.string _ _ _ (⟨#[1, 0, 120, 0, 0, 0, 0]⟩ : ByteArray) [.string (⟨#[1, 0, 120, 0, 0, 0, 0]⟩ : ByteArray)] from rfl) (Reps.one (show Kd.M Kd.string _ _ _ (⟨#[1, 4]⟩ : ByteArray) [.string (⟨#[1, 4]⟩ : ByteArray)] from rfl) (Reps.none _ _)))))); intro v172 w41 ho42 hb hg_ hnew_; clear hg_ hnew_; (first | rw [← Ny171.out] at ho42 | (simp only [Int.reduceToNat] at ho42; rw [← Ny171.out] at ho42)); have n0_ := Aside0.mk (Kd.R_lower ho42 (below_size (by repeat (first | (with_reducible first | exact HB.out | apply below_alloc | apply pw_below_drewN | apply below_drew1) | exact HB.out)))); have n1_ := Aside0.mk (below_step (by repeat (first | (with_reducible first | exact HB.out | apply below_alloc | apply pw_below_drewN | apply below_drew1) | exact HB.out)) hb); clear HB; have HO173 := n0_; have HB := n1_; clear n0_ n1_; clear hb ho42; obtain ⟨Ao43, co43, eo43⟩ := Kd.R_slice HO173.out; subst eo43; have p174 : 0 ≤ ((ji31) : Int) := of_decide_eq_true (by first | (with_reducible assumption) | assumption); have q174 : (ji31) < (y171.length : Int) := of_decide_eq_true (by first | (with_reducible assumption) | assumption); obtain ⟨ad174, e174, hx174_0⟩ := Kd.at_string (Kd.R_reads' HO173.out).2.2 (ji31) p174 q174; cases e174; replace p174 := eq_true p174; replace q174 := eq_true q174) | ((with_reducible refine gate_callee (f := 32) rfl ?_); refine goesL_ (some 74) rfl rfl Try.func32 (by kernel_rfl) rfl #[.string ((t161 ++ (rdOf ByteArray.empty y171 (ji31))) ++ t164)] rfl (by (try simp only [List.map_toArray, List.map_cons, List.map_nil]); first | done | (simp only [hji31]; rfl) | rfl | (simp only [List.length_drop, List.length_take]; rfl)) ?_; (with_reducible refine (journal_Load.calls kj13 ((t161 ++ (rdOf ByteArray.empty y171 (ji31))) ++ t164) t175 t176 _ A36.out).mono ?_); rintro e w44 ⟨v177, rfl, ho0, hb⟩; refine ⟨_, rfl, ?_⟩; have n0_ := Aside0.mk (Kd.R_elder' (by (with_reducible repeat (first | apply Kd.R_alloc | apply Kd.R_drewN | apply Kd.R_drew)); exact HO173.out) (Kd.R_base ho0) hb); have n1_ := Aside0.mk (Kd.R_lower (Kd.R_new' ho0 (Kd.R_lt (by (with_reducible repeat (first | apply Kd.R_alloc | apply Kd.R_drewN | apply Kd.R_drew)); exact HO173.out))) (below_size (by repeat (first | (with_reducible first | exact HB.out | apply below_alloc | apply pw_below_drewN | apply below_drew1) | exact HB.out)))); have n2_ := Aside0.mk (below_step (by repeat (first | (with_reducible first | exact HB.out | apply below_alloc | apply pw_below_drewN | apply below_drew1) | exact HB.out)) hb); clear HO173; clear HB; have HO173 := n0_; have HO178 := n1_; have HB := n2_; clear n0_ n1_ n2_; (try clear hb); (try clear hb2); (try clear hk); (try clear hi); (try clear ho0); obtain ⟨i045, hi045, _, hsz45, _⟩ := info_parts info9; obtain ⟨hcut45, hA45, hC45⟩ := print_take_of (P := Try.prog) Value.string (⟨#[]⟩ : ByteArray) 42 9 .i64 Try.underlying42 hi045 hsz45 A0 c0 l0 ji7 (of_decide_eq_true (by first | (with_reducible assumption) | assumption)) (of_decide_eq_true (by first | (with_reducible assumption) | assumption)) HC0.out; have HR179 := Aside0.mk (Kd.C_of_reads (h1 := fun _ => rfl) (hA45 _ (Kd.reads_of_C HR0.out))); have HC179 := Aside0.mk hC45; clear hA45 hC45 hi045 hsz45; obtain ⟨Ao46, co46, eo46⟩ := Kd.R_slice HO178.out; subst eo46) | ((with_reducible refine gate_callee (f := 34) rfl ?_); refine goesL_ (some 81) rfl rfl Try.func34 (by kernel_rfl) rfl #[.slice Ao46 t175.length co46, .slice A0 (l0.take (ji7 : Int).toNat).length c0] rfl (by (try simp only [List.map_toArray, List.map_cons, List.map_nil]); first | done | (rw [show (l0.take (ji7 : Int).toNat).length = ji7.toNat from (by rw [List.length_take]; have h_ : (ji7 : Int) ≤ (l0.length : Int) := of_decide_eq_true (by first | (with_reducible assumption) | assumption); omega)] <;> rfl) | (simp only [hji7]; rfl) | rfl | (simp only [List.length_drop, List.length_take]; rfl)) ?_; (with_reducible refine (grafterlaw0_SameTexts.calls kj13 _ _ t175 _ _ (l0.take (ji7 : Int).toNat) true _ ?side1 ?side2 ?side3 ?side4 A39.out).mono ?_); (case side1 => repeat (first | exact (Kd.R_reads' HO178.out).2.2 | (with_reducible refine Kd.C_alloc ?_ _) | (with_reducible refine Kd.C_drewN ?_ _) | (with_reducible refine Kd.C_drew ?_))); (case side2 => exact (Kd.R_reads' HO178.out).2.1); (case side3 => repeat (first | exact (Kd.C_below HR179.out HB.out) | (with_reducible refine Kd.C_alloc ?_ _) | (with_reducible refine Kd.C_drewN ?_ _) | (with_reducible refine Kd.C_drew ?_))); (case side4 => exact HC179.out); rintro e w' ⟨rfl, ⟨nd, rfl⟩⟩; refine ⟨_, rfl, ?_⟩))
                              go_ret
                              exact ⟨by first | rfl | (simp [errW_none, errW_some] <;> rfl) | (simp only [← hji7, ← hji31]; first | rfl | (simp [errW_none, errW_some] <;> rfl)) | (simp [*, errW_none, errW_some] <;> rfl), by repeat (first | (with_reducible first | exact HB.out | apply below_alloc | apply pw_below_drewN | apply below_drew1) | exact HB.out)⟩
                            · replace c40 := Bool.eq_false_iff.mpr c40
                              subst c40
                              have H1 : (some false) = some r := by rw [if_neg (show ¬ (false = true) by decide)] at H; exact H
                              clear H
                              have H := H1
                              clear H1
                              exact absurd ((Option.some.inj H).trans HRT.out) Bool.false_ne_true
                          · rw [if_neg c38] at H
                            exact absurd H (by simp)
                        · rw [if_neg c37] at H
                          exact absurd H (by simp)
                      · rw [if_neg c35] at H
                        exact absurd H (by simp)
                    · rw [if_neg c34] at H
                      exact absurd H (by simp)
                  · rw [if_neg c33] at H
                    exact absurd H (by simp)
                · rw [if_neg c32] at H
                  exact absurd H (by simp)
        · rw [if_neg c9] at H
          exact absurd H (by simp)
      · rw [if_neg c8] at H
        exact absurd H (by simp)
  · replace c5 := Bool.eq_false_iff.mpr c5
    subst c5
    have H1 : (some false) = some r := by rw [if_neg (show ¬ (false = true) by decide)] at H; exact H
    clear H
    have H := H1
    clear H1
    exact absurd ((Option.some.inj H).trans HRT.out) Bool.false_ne_true

def grafterlaw17_JournalBad.Pure : Prop := ∀ (l0 : List ByteArray) (a1 : Int) (a2 : Int), l0.length * 16 ≤ 140737488351232 → (Lit.int .i64 a1).wf = true → (Lit.int .i64 a2).wf = true → ∃ k, grafterlaw17_JournalBad.f k l0 a1 a2 = some true
theorem grafterlaw17_JournalBad.walk (P : grafterlaw17_JournalBad.Pure) (a0 : Option Addr) (cap0 : Nat) (l0 : List ByteArray) (a1 : Int) (a2 : Int) (w : World) (hr0 : Kd.C Kd.string w a0 l0.length l0) (hc0 : l0.length ≤ cap0) (y0 : l0.length * 16 ≤ 140737488351232) (w1 : (Lit.int .i64 a1).wf = true) (w2 : (Lit.int .i64 a2).wf = true) :
    Calls Try.prog 11 #[.slice a0 l0.length cap0, .int .i64 a1, .int .i64 a2] w fun e w' => e = .returned (.bool true) ∧ Below w.heap.size w w' := by
  obtain ⟨k, h⟩ := P l0 a1 a2 y0 w1 w2
  refine (grafterlaw17_JournalBad.calls k _ _ l0 a1 a2 true w rfl hr0 hc0 h).mono ?_
  rintro e w' ⟨rfl, hd⟩
  exact ⟨rfl, hd⟩

end Go.Proofs.Ytbhkmgidokonkaa.PJournalBad
