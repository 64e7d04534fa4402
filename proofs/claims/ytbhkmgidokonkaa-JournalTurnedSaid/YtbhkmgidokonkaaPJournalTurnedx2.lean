-- Written by a program of this session (pprint.py) out of the translation, with hand-proved walks pasted in.
import Derived.Test.YtbhkmgidokonkaaPJournalTurnedx0
import Derived.Test.YtbhkmgidokonkaaPJournalTurnedx1
namespace Go.Proofs.Ytbhkmgidokonkaa.PJournalTurned
open Go.RowKit Go.Proofs.YtbhkmgidokonkaaW.PrintWords Go.Proofs.YtbhkmgidokonkaaW.PrintLast Go.Proofs.YtbhkmgidokonkaaW.PrintMore
attribute [local go_sem] max2_int min2_int max_two min_two max_three min_three max_four min_four   -- for this text's walks alone
set_option linter.unusedVariables false
set_option linter.unusedSimpArgs false

/-! ### grafterlaw17_awake: function 37 -/
def grafterlaw17_awake.f (k : Nat)  : Option (Bool) := (journal_Text.f k (([(⟨#[97]⟩ : ByteArray), (⟨#[]⟩ : ByteArray), (⟨#[98, 99]⟩ : ByteArray)] : List ByteArray))).bind fun bt126 => ((journal_Load.f k bt126.1).bind fun bt128 => (if bt126.1.size + 1 ≤ 9223372036854775807 then ((journal_Load.f k (bt126.1 ++ (⟨#[120]⟩ : ByteArray))).bind fun bt132 => (if (bt126.1.size : Int) < 3 then (some false) else (if 0 ≤ (wrap64 ((bt126.1.size : Int) - 1)) then (if (wrap64 ((bt126.1.size : Int) - 1)) ≤ (bt126.1.size : Int) then ((journal_Load.f k (bt126.1.extract 0 ((wrap64 ((bt126.1.size : Int) - 1)) : Int).toNat)).bind fun bt136 => (if 1025 ≤ 281474976710656 then ((journal_Text.f k (([strOfNums (List.replicate 1025 0)] : List ByteArray))).bind fun bt146 => (if (bt126.1.size : Int) = 21 then ((grafterlaw0_Num.f bt126.2).bind fun t148 => (if t148 = 0 then ((grafterlaw0_SameTexts.f k bt128.1 (([(⟨#[97]⟩ : ByteArray), (⟨#[]⟩ : ByteArray), (⟨#[98, 99]⟩ : ByteArray)] : List ByteArray))).bind fun t152 => (if t152 = true then (if bt128.2 = 21 then ((grafterlaw0_SameTexts.f k bt132.1 bt128.1).bind fun t153 => (if t153 = true then (if bt132.2 = 21 then ((grafterlaw0_SameTexts.f k bt136.1 (([(⟨#[97]⟩ : ByteArray), (⟨#[]⟩ : ByteArray)] : List ByteArray))).bind fun t157 => (if t157 = true then (if bt136.2 = 13 then ((grafterlaw0_Num.f bt146.2).bind fun t158 => (some (t158 == 1700))) else (some false)) else (some false))) else (some false)) else (some false))) else (some false)) else (some false))) else (some false))) else (some false))) else (none))) else (none)) else (none)))) else (none)))
theorem grafterlaw17_awake.mono : ∀ k, LeO (grafterlaw17_awake.f k ) (grafterlaw17_awake.f (k + 1) ) := by
  intro  k
  unfold grafterlaw17_awake.f
  repeat' first
      | (with_reducible exact grafterlaw0_SameTexts.mono _ _ _)
      | (with_reducible exact journal_Load.mono _ _)
      | (with_reducible exact journal_Text.mono _ _)
      | (with_reducible exact LeO.refl _)
      | (with_reducible exact LeO.none _)
      | (with_reducible refine LeO.ite ?_ ?_)
      | (with_reducible refine LeO.bind ?_ (fun _ => ?_))
      | exact grafterlaw0_SameTexts.mono _ _ _
      | exact journal_Load.mono _ _
      | exact journal_Text.mono _ _
      | exact LeO.none _
      | refine LeO.ite ?_ ?_
      | refine LeO.bind ?_ (fun _ => ?_)
set_option maxHeartbeats 8000000 in
set_option maxRecDepth 100000 in
theorem grafterlaw17_awake.calls (k : Nat)  (r : Bool) (w : World) (hrt : r = true) (h : grafterlaw17_awake.f k  = some r) :
    Calls Try.prog 37 #[] w fun e w' => e = .returned (.bool r) ∧ Below w.heap.size w w' := by
  have HRT := Aside0.mk hrt
  clear hrt
  have HB := Aside0.mk (Below.refl w.heap.size w)
  have H : ((journal_Text.f k (([(⟨#[97]⟩ : ByteArray), (⟨#[]⟩ : ByteArray), (⟨#[98, 99]⟩ : ByteArray)] : List ByteArray))).bind fun bt126 => ((journal_Load.f k bt126.1).bind fun bt128 => (if bt126.1.size + 1 ≤ 9223372036854775807 then ((journal_Load.f k (bt126.1 ++ (⟨#[120]⟩ : ByteArray))).bind fun bt132 => (if (bt126.1.size : Int) < 3 then (some false) else (if 0 ≤ (wrap64 ((bt126.1.size : Int) - 1)) then (if (wrap64 ((bt126.1.size : Int) - 1)) ≤ (bt126.1.size : Int) then ((journal_Load.f k (bt126.1.extract 0 ((wrap64 ((bt126.1.size : Int) - 1)) : Int).toNat)).bind fun bt136 => (if 1025 ≤ 281474976710656 then ((journal_Text.f k (([strOfNums (List.replicate 1025 0)] : List ByteArray))).bind fun bt146 => (if (bt126.1.size : Int) = 21 then ((grafterlaw0_Num.f bt126.2).bind fun t148 => (if t148 = 0 then ((grafterlaw0_SameTexts.f k bt128.1 (([(⟨#[97]⟩ : ByteArray), (⟨#[]⟩ : ByteArray), (⟨#[98, 99]⟩ : ByteArray)] : List ByteArray))).bind fun t152 => (if t152 = true then (if bt128.2 = 21 then ((grafterlaw0_SameTexts.f k bt132.1 bt128.1).bind fun t153 => (if t153 = true then (if bt132.2 = 21 then ((grafterlaw0_SameTexts.f k bt136.1 (([(⟨#[97]⟩ : ByteArray), (⟨#[]⟩ : ByteArray)] : List ByteArray))).bind fun t157 => (if t157 = true then (if bt136.2 = 13 then ((grafterlaw0_Num.f bt146.2).bind fun t158 => (some (t158 == 1700))) else (some false)) else (some false))) else (some false)) else (some false))) else (some false)) else (some false))) else (some false))) else (some false))) else (none))) else (none)) else (none)))) else (none)))) = some r := h
  clear h
  obtain ⟨y123, hy123⟩ : ∃ y_ : List ByteArray, y_ = (([(⟨#[97]⟩ : ByteArray), (⟨#[]⟩ : ByteArray), (⟨#[98, 99]⟩ : ByteArray)] : List ByteArray)) := ⟨_, rfl⟩
  replace H : ((journal_Text.f k y123).bind fun bt126 => ((journal_Load.f k bt126.1).bind fun bt128 => (if bt126.1.size + 1 ≤ 9223372036854775807 then ((journal_Load.f k (bt126.1 ++ (⟨#[120]⟩ : ByteArray))).bind fun bt132 => (if (bt126.1.size : Int) < 3 then (some false) else (if 0 ≤ (wrap64 ((bt126.1.size : Int) - 1)) then (if (wrap64 ((bt126.1.size : Int) - 1)) ≤ (bt126.1.size : Int) then ((journal_Load.f k (bt126.1.extract 0 ((wrap64 ((bt126.1.size : Int) - 1)) : Int).toNat)).bind fun bt136 => (if 1025 ≤ 281474976710656 then ((journal_Text.f k (([strOfNums (List.replicate 1025 0)] : List ByteArray))).bind fun bt146 => (if (bt126.1.size : Int) = 21 then ((grafterlaw0_Num.f bt126.2).bind fun t148 => (if t148 = 0 then ((grafterlaw0_SameTexts.f k bt128.1 (([(⟨#[97]⟩ : ByteArray), (⟨#[]⟩ : ByteArray), (⟨#[98, 99]⟩ : ByteArray)] : List ByteArray))).bind fun t152 => (if t152 = true then (if bt128.2 = 21 then ((grafterlaw0_SameTexts.f k bt132.1 bt128.1).bind fun t153 => (if t153 = true then (if bt132.2 = 21 then ((grafterlaw0_SameTexts.f k bt136.1 (([(⟨#[97]⟩ : ByteArray), (⟨#[]⟩ : ByteArray)] : List ByteArray))).bind fun t157 => (if t157 = true then (if bt136.2 = 13 then ((grafterlaw0_Num.f bt146.2).bind fun t158 => (some (t158 == 1700))) else (some false)) else (some false))) else (some false)) else (some false))) else (some false)) else (some false))) else (some false))) else (some false))) else (none))) else (none)) else (none)))) else (none)))) = some r := by first | (rw [hy123]; with_reducible exact H) | (have H2_ := (Option.bind_some _ _).symm.trans H; rw [hy123]; with_reducible exact H2_) | (have H2_ := (Option.bind_some _ _).symm.trans H; with_reducible exact H2_) | with_reducible exact H | (rw [hy123]; exact H) | exact H
  have Ny123 := Aside0.mk hy123
  clear hy123
  replace H := Option.bind_eq_some_iff.mp H
  obtain ⟨⟨t126, t127⟩, A10, H⟩ := H
  replace H : ((journal_Load.f k t126).bind fun bt128 => (if t126.size + 1 ≤ 9223372036854775807 then ((journal_Load.f k (t126 ++ (⟨#[120]⟩ : ByteArray))).bind fun bt132 => (if (t126.size : Int) < 3 then (some false) else (if 0 ≤ (wrap64 ((t126.size : Int) - 1)) then (if (wrap64 ((t126.size : Int) - 1)) ≤ (t126.size : Int) then ((journal_Load.f k (t126.extract 0 ((wrap64 ((t126.size : Int) - 1)) : Int).toNat)).bind fun bt136 => (if 1025 ≤ 281474976710656 then ((journal_Text.f k (([strOfNums (List.replicate 1025 0)] : List ByteArray))).bind fun bt146 => (if (t126.size : Int) = 21 then ((grafterlaw0_Num.f t127).bind fun t148 => (if t148 = 0 then ((grafterlaw0_SameTexts.f k bt128.1 (([(⟨#[97]⟩ : ByteArray), (⟨#[]⟩ : ByteArray), (⟨#[98, 99]⟩ : ByteArray)] : List ByteArray))).bind fun t152 => (if t152 = true then (if bt128.2 = 21 then ((grafterlaw0_SameTexts.f k bt132.1 bt128.1).bind fun t153 => (if t153 = true then (if bt132.2 = 21 then ((grafterlaw0_SameTexts.f k bt136.1 (([(⟨#[97]⟩ : ByteArray), (⟨#[]⟩ : ByteArray)] : List ByteArray))).bind fun t157 => (if t157 = true then (if bt136.2 = 13 then ((grafterlaw0_Num.f bt146.2).bind fun t158 => (some (t158 == 1700))) else (some false)) else (some false))) else (some false)) else (some false))) else (some false)) else (some false))) else (some false))) else (some false))) else (none))) else (none)) else (none)))) else (none))) = some r := H
  have A1 := Aside0.mk A10
  clear A10
  replace H := Option.bind_eq_some_iff.mp H
  obtain ⟨⟨t128, t129⟩, A20, H⟩ := H
  replace H : (if t126.size + 1 ≤ 9223372036854775807 then ((journal_Load.f k (t126 ++ (⟨#[120]⟩ : ByteArray))).bind fun bt132 => (if (t126.size : Int) < 3 then (some false) else (if 0 ≤ (wrap64 ((t126.size : Int) - 1)) then (if (wrap64 ((t126.size : Int) - 1)) ≤ (t126.size : Int) then ((journal_Load.f k (t126.extract 0 ((wrap64 ((t126.size : Int) - 1)) : Int).toNat)).bind fun bt136 => (if 1025 ≤ 281474976710656 then ((journal_Text.f k (([strOfNums (List.replicate 1025 0)] : List ByteArray))).bind fun bt146 => (if (t126.size : Int) = 21 then ((grafterlaw0_Num.f t127).bind fun t148 => (if t148 = 0 then ((grafterlaw0_SameTexts.f k t128 (([(⟨#[97]⟩ : ByteArray), (⟨#[]⟩ : ByteArray), (⟨#[98, 99]⟩ : ByteArray)] : List ByteArray))).bind fun t152 => (if t152 = true then (if t129 = 21 then ((grafterlaw0_SameTexts.f k bt132.1 t128).bind fun t153 => (if t153 = true then (if bt132.2 = 21 then ((grafterlaw0_SameTexts.f k bt136.1 (([(⟨#[97]⟩ : ByteArray), (⟨#[]⟩ : ByteArray)] : List ByteArray))).bind fun t157 => (if t157 = true then (if bt136.2 = 13 then ((grafterlaw0_Num.f bt146.2).bind fun t158 => (some (t158 == 1700))) else (some false)) else (some false))) else (some false)) else (some false))) else (some false)) else (some false))) else (some false))) else (some false))) else (none))) else (none)) else (none)))) else (none)) = some r := H
  have A2 := Aside0.mk A20
  clear A20
  by_cases c3 : t126.size + 1 ≤ 9223372036854775807
  · rw [if_pos c3] at H
    have c3b0 := eq_true c3
    have c3b1 : decide (t126.size + 1 ≤ 9223372036854775807) = true := decide_eq_true c3
    try have c3b2 : (9223372036854775807 < t126.size + 1) = False := eq_false (Nat.not_lt.2 c3)
    try simp only [ByteArray.size_append] at c3b2
    replace H := Option.bind_eq_some_iff.mp H
    obtain ⟨⟨t132, t133⟩, A40, H⟩ := H
    replace H : (if (t126.size : Int) < 3 then (some false) else (if 0 ≤ (wrap64 ((t126.size : Int) - 1)) then (if (wrap64 ((t126.size : Int) - 1)) ≤ (t126.size : Int) then ((journal_Load.f k (t126.extract 0 ((wrap64 ((t126.size : Int) - 1)) : Int).toNat)).bind fun bt136 => (if 1025 ≤ 281474976710656 then ((journal_Text.f k (([strOfNums (List.replicate 1025 0)] : List ByteArray))).bind fun bt146 => (if (t126.size : Int) = 21 then ((grafterlaw0_Num.f t127).bind fun t148 => (if t148 = 0 then ((grafterlaw0_SameTexts.f k t128 (([(⟨#[97]⟩ : ByteArray), (⟨#[]⟩ : ByteArray), (⟨#[98, 99]⟩ : ByteArray)] : List ByteArray))).bind fun t152 => (if t152 = true then (if t129 = 21 then ((grafterlaw0_SameTexts.f k t132 t128).bind fun t153 => (if t153 = true then (if t133 = 21 then ((grafterlaw0_SameTexts.f k bt136.1 (([(⟨#[97]⟩ : ByteArray), (⟨#[]⟩ : ByteArray)] : List ByteArray))).bind fun t157 => (if t157 = true then (if bt136.2 = 13 then ((grafterlaw0_Num.f bt146.2).bind fun t158 => (some (t158 == 1700))) else (some false)) else (some false))) else (some false)) else (some false))) else (some false)) else (some false))) else (some false))) else (some false))) else (none))) else (none)) else (none))) = some r := H
    have A4 := Aside0.mk A40
    clear A40
    by_cases c5 : (t126.size : Int) < 3
    · rw [if_pos c5] at H
      have c5b0 : decide ((t126.size : Int) < 3) = true := decide_eq_true c5
      have c5b1 : decide (t126.size < 3) = true := decide_eq_true (by omega)
      clear c5
      exact absurd ((Option.some.inj H).trans HRT.out) Bool.false_ne_true
    · rw [if_neg c5] at H
      have c5b0 : decide ((t126.size : Int) < 3) = false := decide_eq_false c5
      have c5b1 : decide (t126.size < 3) = false := decide_eq_false (by omega)
      clear c5
      obtain ⟨ji12, hji12⟩ : ∃ j_ : Int, (wrap64 ((t126.size : Int) - 1)) = j_ := ⟨_, rfl⟩
      replace H : (if 0 ≤ (ji12) then (if (ji12) ≤ (t126.size : Int) then ((journal_Load.f k (t126.extract 0 ((ji12) : Int).toNat)).bind fun bt136 => (if 1025 ≤ 281474976710656 then ((journal_Text.f k (([strOfNums (List.replicate 1025 0)] : List ByteArray))).bind fun bt146 => (if (t126.size : Int) = 21 then ((grafterlaw0_Num.f t127).bind fun t148 => (if t148 = 0 then ((grafterlaw0_SameTexts.f k t128 (([(⟨#[97]⟩ : ByteArray), (⟨#[]⟩ : ByteArray), (⟨#[98, 99]⟩ : ByteArray)] : List ByteArray))).bind fun t152 => (if t152 = true then (if t129 = 21 then ((grafterlaw0_SameTexts.f k t132 t128).bind fun t153 => (if t153 = true then (if t133 = 21 then ((grafterlaw0_SameTexts.f k bt136.1 (([(⟨#[97]⟩ : ByteArray), (⟨#[]⟩ : ByteArray)] : List ByteArray))).bind fun t157 => (if t157 = true then (if bt136.2 = 13 then ((grafterlaw0_Num.f bt146.2).bind fun t158 => (some (t158 == 1700))) else (some false)) else (some false))) else (some false)) else (some false))) else (some false)) else (some false))) else (some false))) else (some false))) else (none))) else (none)) else (none)) = some r := by first | (rw [hji12] at H; exact H) | (simp only [hji12] at H ⊢; exact H)
      (try rw [hji12] at A1)
      (try rw [hji12] at A2)
      (try rw [hji12] at A4)
      have hji12w : (IntKind.i64.wrap ((t126.size : Int) - 1)) = ji12 := (i64_w _).trans hji12
      by_cases c13 : 0 ≤ (ji12)
      · rw [if_pos c13] at H
        have c13b0 := eq_true c13
        have c13b1 : decide (0 ≤ (ji12)) = true := decide_eq_true c13
        clear c13
        by_cases c14 : (ji12) ≤ (t126.size : Int)
        · rw [if_pos c14] at H
          have c14b0 := eq_true c14
          have c14b1 : decide ((ji12) ≤ (t126.size : Int)) = true := decide_eq_true c14
          clear c14
          replace H := Option.bind_eq_some_iff.mp H
          obtain ⟨⟨t136, t137⟩, A150, H⟩ := H
          replace H : (if 1025 ≤ 281474976710656 then ((journal_Text.f k (([strOfNums (List.replicate 1025 0)] : List ByteArray))).bind fun bt146 => (if (t126.size : Int) = 21 then ((grafterlaw0_Num.f t127).bind fun t148 => (if t148 = 0 then ((grafterlaw0_SameTexts.f k t128 (([(⟨#[97]⟩ : ByteArray), (⟨#[]⟩ : ByteArray), (⟨#[98, 99]⟩ : ByteArray)] : List ByteArray))).bind fun t152 => (if t152 = true then (if t129 = 21 then ((grafterlaw0_SameTexts.f k t132 t128).bind fun t153 => (if t153 = true then (if t133 = 21 then ((grafterlaw0_SameTexts.f k t136 (([(⟨#[97]⟩ : ByteArray), (⟨#[]⟩ : ByteArray)] : List ByteArray))).bind fun t157 => (if t157 = true then (if t137 = 13 then ((grafterlaw0_Num.f bt146.2).bind fun t158 => (some (t158 == 1700))) else (some false)) else (some false))) else (some false)) else (some false))) else (some false)) else (some false))) else (some false))) else (some false))) else (none)) = some r := H
          have A15 := Aside0.mk A150
          clear A150
          by_cases c16 : 1025 ≤ 281474976710656
          · rw [if_pos c16] at H
            have c16b0 := eq_true c16
            have c16b1 : decide (1025 ≤ 281474976710656) = true := decide_eq_true c16
            clear c16
            obtain ⟨y140, hy140⟩ : ∃ y_ : List Int, y_ = (List.replicate 1025 0) := ⟨_, rfl⟩
            replace H : ((journal_Text.f k (([strOfNums y140] : List ByteArray))).bind fun bt146 => (if (t126.size : Int) = 21 then ((grafterlaw0_Num.f t127).bind fun t148 => (if t148 = 0 then ((grafterlaw0_SameTexts.f k t128 (([(⟨#[97]⟩ : ByteArray), (⟨#[]⟩ : ByteArray), (⟨#[98, 99]⟩ : ByteArray)] : List ByteArray))).bind fun t152 => (if t152 = true then (if t129 = 21 then ((grafterlaw0_SameTexts.f k t132 t128).bind fun t153 => (if t153 = true then (if t133 = 21 then ((grafterlaw0_SameTexts.f k t136 (([(⟨#[97]⟩ : ByteArray), (⟨#[]⟩ : ByteArray)] : List ByteArray))).bind fun t157 => (if t157 = true then (if t137 = 13 then ((grafterlaw0_Num.f bt146.2).bind fun t158 => (some (t158 == 1700))) else (some false)) else (some false))) else (some false)) else (some false))) else (some false)) else (some false))) else (some false))) else (some false))) = some r := by first | (rw [hy140]; with_reducible exact H) | (have H2_ := (Option.bind_some _ _).symm.trans H; rw [hy140]; with_reducible exact H2_) | (have H2_ := (Option.bind_some _ _).symm.trans H; with_reducible exact H2_) | with_reducible exact H | (rw [hy140]; exact H) | exact H
            have Ny140 := Aside0.mk hy140
            clear hy140
            obtain ⟨y143, hy143⟩ : ∃ y_ : List ByteArray, y_ = (([strOfNums y140] : List ByteArray)) := ⟨_, rfl⟩
            replace H : ((journal_Text.f k y143).bind fun bt146 => (if (t126.size : Int) = 21 then ((grafterlaw0_Num.f t127).bind fun t148 => (if t148 = 0 then ((grafterlaw0_SameTexts.f k t128 (([(⟨#[97]⟩ : ByteArray), (⟨#[]⟩ : ByteArray), (⟨#[98, 99]⟩ : ByteArray)] : List ByteArray))).bind fun t152 => (if t152 = true then (if t129 = 21 then ((grafterlaw0_SameTexts.f k t132 t128).bind fun t153 => (if t153 = true then (if t133 = 21 then ((grafterlaw0_SameTexts.f k t136 (([(⟨#[97]⟩ : ByteArray), (⟨#[]⟩ : ByteArray)] : List ByteArray))).bind fun t157 => (if t157 = true then (if t137 = 13 then ((grafterlaw0_Num.f bt146.2).bind fun t158 => (some (t158 == 1700))) else (some false)) else (some false))) else (some false)) else (some false))) else (some false)) else (some false))) else (some false))) else (some false))) = some r := by first | (rw [hy143]; with_reducible exact H) | (have H2_ := (Option.bind_some _ _).symm.trans H; rw [hy143]; with_reducible exact H2_) | (have H2_ := (Option.bind_some _ _).symm.trans H; with_reducible exact H2_) | with_reducible exact H | (rw [hy143]; exact H) | exact H
            have Ny143 := Aside0.mk hy143
            clear hy143
            replace H := Option.bind_eq_some_iff.mp H
            obtain ⟨⟨t146, t147⟩, A170, H⟩ := H
            replace H : (if (t126.size : Int) = 21 then ((grafterlaw0_Num.f t127).bind fun t148 => (if t148 = 0 then ((grafterlaw0_SameTexts.f k t128 (([(⟨#[97]⟩ : ByteArray), (⟨#[]⟩ : ByteArray), (⟨#[98, 99]⟩ : ByteArray)] : List ByteArray))).bind fun t152 => (if t152 = true then (if t129 = 21 then ((grafterlaw0_SameTexts.f k t132 t128).bind fun t153 => (if t153 = true then (if t133 = 21 then ((grafterlaw0_SameTexts.f k t136 (([(⟨#[97]⟩ : ByteArray), (⟨#[]⟩ : ByteArray)] : List ByteArray))).bind fun t157 => (if t157 = true then (if t137 = 13 then ((grafterlaw0_Num.f t147).bind fun t158 => (some (t158 == 1700))) else (some false)) else (some false))) else (some false)) else (some false))) else (some false)) else (some false))) else (some false))) else (some false)) = some r := H
            have A17 := Aside0.mk A170
            clear A170
            by_cases c18 : (t126.size : Int) = 21
            · rw [if_pos c18] at H
              have c18b0 : ((t126.size : Int) == 21) = true := beq_iff_eq.mpr c18
              have c18b1 : ((t126.size : Int) != 21) = false := bne_eq_false_iff_eq.mpr c18
              clear c18
              replace H := Option.bind_eq_some_iff.mp H
              obtain ⟨t148, A190, H⟩ := H
              replace H : (if t148 = 0 then ((grafterlaw0_SameTexts.f k t128 (([(⟨#[97]⟩ : ByteArray), (⟨#[]⟩ : ByteArray), (⟨#[98, 99]⟩ : ByteArray)] : List ByteArray))).bind fun t152 => (if t152 = true then (if t129 = 21 then ((grafterlaw0_SameTexts.f k t132 t128).bind fun t153 => (if t153 = true then (if t133 = 21 then ((grafterlaw0_SameTexts.f k t136 (([(⟨#[97]⟩ : ByteArray), (⟨#[]⟩ : ByteArray)] : List ByteArray))).bind fun t157 => (if t157 = true then (if t137 = 13 then ((grafterlaw0_Num.f t147).bind fun t158 => (some (t158 == 1700))) else (some false)) else (some false))) else (some false)) else (some false))) else (some false)) else (some false))) else (some false)) = some r := H
              have A19 := Aside0.mk A190
              clear A190
              by_cases c20 : t148 = 0
              · rw [if_pos c20] at H
                have c20b0 : (t148 == 0) = true := beq_iff_eq.mpr c20
                have c20b1 : (t148 != 0) = false := bne_eq_false_iff_eq.mpr c20
                clear c20
                obtain ⟨y149, hy149⟩ : ∃ y_ : List ByteArray, y_ = (([(⟨#[97]⟩ : ByteArray), (⟨#[]⟩ : ByteArray), (⟨#[98, 99]⟩ : ByteArray)] : List ByteArray)) := ⟨_, rfl⟩
                replace H : ((grafterlaw0_SameTexts.f k t128 y149).bind fun t152 => (if t152 = true then (if t129 = 21 then ((grafterlaw0_SameTexts.f k t132 t128).bind fun t153 => (if t153 = true then (if t133 = 21 then ((grafterlaw0_SameTexts.f k t136 (([(⟨#[97]⟩ : ByteArray), (⟨#[]⟩ : ByteArray)] : List ByteArray))).bind fun t157 => (if t157 = true then (if t137 = 13 then ((grafterlaw0_Num.f t147).bind fun t158 => (some (t158 == 1700))) else (some false)) else (some false))) else (some false)) else (some false))) else (some false)) else (some false))) = some r := by first | (rw [hy149]; with_reducible exact H) | (have H2_ := (Option.bind_some _ _).symm.trans H; rw [hy149]; with_reducible exact H2_) | (have H2_ := (Option.bind_some _ _).symm.trans H; with_reducible exact H2_) | with_reducible exact H | (rw [hy149]; exact H) | exact H
                have Ny149 := Aside0.mk hy149
                clear hy149
                replace H := Option.bind_eq_some_iff.mp H
                obtain ⟨t152, A210, H⟩ := H
                replace H : (if t152 = true then (if t129 = 21 then ((grafterlaw0_SameTexts.f k t132 t128).bind fun t153 => (if t153 = true then (if t133 = 21 then ((grafterlaw0_SameTexts.f k t136 (([(⟨#[97]⟩ : ByteArray), (⟨#[]⟩ : ByteArray)] : List ByteArray))).bind fun t157 => (if t157 = true then (if t137 = 13 then ((grafterlaw0_Num.f t147).bind fun t158 => (some (t158 == 1700))) else (some false)) else (some false))) else (some false)) else (some false))) else (some false)) else (some false)) = some r := H
                have A21 := Aside0.mk A210
                clear A210
                by_cases c22 : t152 = true
                · subst c22
                  have H1 : (if t129 = 21 then ((grafterlaw0_SameTexts.f k t132 t128).bind fun t153 => (if t153 = true then (if t133 = 21 then ((grafterlaw0_SameTexts.f k t136 (([(⟨#[97]⟩ : ByteArray), (⟨#[]⟩ : ByteArray)] : List ByteArray))).bind fun t157 => (if t157 = true then (if t137 = 13 then ((grafterlaw0_Num.f t147).bind fun t158 => (some (t158 == 1700))) else (some false)) else (some false))) else (some false)) else (some false))) else (some false)) = some r := by rw [if_pos rfl] at H; exact H
                  clear H
                  have H := H1
                  clear H1
                  by_cases c23 : t129 = 21
                  · rw [if_pos c23] at H
                    have c23b0 : (t129 == 21) = true := beq_iff_eq.mpr c23
                    have c23b1 : (t129 != 21) = false := bne_eq_false_iff_eq.mpr c23
                    clear c23
                    replace H := Option.bind_eq_some_iff.mp H
                    obtain ⟨t153, A240, H⟩ := H
                    replace H : (if t153 = true then (if t133 = 21 then ((grafterlaw0_SameTexts.f k t136 (([(⟨#[97]⟩ : ByteArray), (⟨#[]⟩ : ByteArray)] : List ByteArray))).bind fun t157 => (if t157 = true then (if t137 = 13 then ((grafterlaw0_Num.f t147).bind fun t158 => (some (t158 == 1700))) else (some false)) else (some false))) else (some false)) else (some false)) = some r := H
                    have A24 := Aside0.mk A240
                    clear A240
                    by_cases c25 : t153 = true
                    · subst c25
                      have H1 : (if t133 = 21 then ((grafterlaw0_SameTexts.f k t136 (([(⟨#[97]⟩ : ByteArray), (⟨#[]⟩ : ByteArray)] : List ByteArray))).bind fun t157 => (if t157 = true then (if t137 = 13 then ((grafterlaw0_Num.f t147).bind fun t158 => (some (t158 == 1700))) else (some false)) else (some false))) else (some false)) = some r := by rw [if_pos rfl] at H; exact H
                      clear H
                      have H := H1
                      clear H1
                      by_cases c26 : t133 = 21
                      · rw [if_pos c26] at H
                        have c26b0 : (t133 == 21) = true := beq_iff_eq.mpr c26
                        have c26b1 : (t133 != 21) = false := bne_eq_false_iff_eq.mpr c26
                        clear c26
                        obtain ⟨y154, hy154⟩ : ∃ y_ : List ByteArray, y_ = (([(⟨#[97]⟩ : ByteArray), (⟨#[]⟩ : ByteArray)] : List ByteArray)) := ⟨_, rfl⟩
                        replace H : ((grafterlaw0_SameTexts.f k t136 y154).bind fun t157 => (if t157 = true then (if t137 = 13 then ((grafterlaw0_Num.f t147).bind fun t158 => (some (t158 == 1700))) else (some false)) else (some false))) = some r := by first | (rw [hy154]; with_reducible exact H) | (have H2_ := (Option.bind_some _ _).symm.trans H; rw [hy154]; with_reducible exact H2_) | (have H2_ := (Option.bind_some _ _).symm.trans H; with_reducible exact H2_) | with_reducible exact H | (rw [hy154]; exact H) | exact H
                        have Ny154 := Aside0.mk hy154
                        clear hy154
                        replace H := Option.bind_eq_some_iff.mp H
                        obtain ⟨t157, A270, H⟩ := H
                        replace H : (if t157 = true then (if t137 = 13 then ((grafterlaw0_Num.f t147).bind fun t158 => (some (t158 == 1700))) else (some false)) else (some false)) = some r := H
                        have A27 := Aside0.mk A270
                        clear A270
                        by_cases c28 : t157 = true
                        · subst c28
                          have H1 : (if t137 = 13 then ((grafterlaw0_Num.f t147).bind fun t158 => (some (t158 == 1700))) else (some false)) = some r := by rw [if_pos rfl] at H; exact H
                          clear H
                          have H := H1
                          clear H1
                          by_cases c29 : t137 = 13
                          · rw [if_pos c29] at H
                            have c29b0 : (t137 == 13) = true := beq_iff_eq.mpr c29
                            have c29b1 : (t137 != 13) = false := bne_eq_false_iff_eq.mpr c29
                            clear c29
                            replace H := Option.bind_eq_some_iff.mp H
                            obtain ⟨t158, A300, H⟩ := H
                            replace H : (some (t158 == 1700)) = some r := H
                            have A30 := Aside0.mk A300
                            clear A300
                            obtain rfl := Option.some.inj H
                            go_enter Try.func37, Try.ntmps37
                            go_wp2_with (first | ((with_reducible refine gate_dst (N := 12) rfl ?_); (try (refine gate_guard (by rfl) ?_; dsimp only)); refine Kd.R_lit Kd.string _ 9 ?hg (N := 12) ?hd (xs := ([(⟨#[97]⟩ : ByteArray), (⟨#[]⟩ : ByteArray), (⟨#[98, 99]⟩ : ByteArray)] : List ByteArray)) (inner := [.string (⟨#[97]⟩ : ByteArray), .string (⟨#[]⟩ : ByteArray), .string (⟨#[98, 99]⟩ : ByteArray)]) (ok := fun _ => True) (okp := fun _ => True) ?hr ?hp (fun _ hk => hk) trivial (Below.refl _ _) (Nat.le_refl _) (by simp) ?_; (case hd => rfl); (case hg => rfl); (case hr => first | (go_simp; done) | (go_simp; rfl)); (case hp => exact (Reps.one (show Kd.M Kd.string _ _ _ (⟨#[97]⟩ : ByteArray) [.string (⟨#[97]⟩ : ByteArray)] from rfl) (Reps.one (show Kd.M Kd.string _ _ _ (⟨#[]⟩ : ByteArray) [.string (⟨#[]⟩ : ByteArray)] from rfl) (Reps.one (show Kd.M Kd.string _ _ _ (⟨#[98, 99]⟩ : ByteArray) [.string (⟨#[98, 99]⟩ : ByteArray)] from rfl) (Reps.none _ _))))); intro v124 w31 ho32 hb hg_ hnew_; clear hg_ hnew_; (first | rw [← Ny123.out] at ho32 | (simp only [Int.reduceToNat] at ho32; rw [← Ny123.out] at ho32)); have n0_ := Aside0.mk (Kd.R_lower ho32 (below_size (by repeat (first | (with_reducible first | exact HB.out | apply below_alloc | apply pw_below_drewN | apply below_drew1) | exact HB.out)))); have n1_ := Aside0.mk (below_step (by repeat (first | (with_reducible first | exact HB.out | apply below_alloc | apply pw_below_drewN | apply below_drew1) | exact HB.out)) hb); clear HB; have HO125 := n0_; have HB := n1_; clear n0_ n1_; clear hb ho32; obtain ⟨Ao33, co33, eo33⟩ := Kd.R_slice HO125.out; subst eo33) | ((with_reducible refine gate_callee (f := 30) rfl ?_); refine goesL_ (some 13) rfl rfl Try.func30 (by kernel_rfl) rfl #[.slice Ao33 y123.length co33] rfl (by (try simp only [List.map_toArray, List.map_cons, List.map_nil]); first | done | rfl | (simp only [List.length_drop, List.length_take]; rfl)) ?_; (with_reducible refine (journal_Text.calls k _ _ y123 t126 t127 _ ?side1 ?side2 A1.out).mono ?_); (case side1 => repeat (first | exact (Kd.R_reads' HO125.out).2.2 | (with_reducible refine Kd.C_alloc ?_ _) | (with_reducible refine Kd.C_drewN ?_ _) | (with_reducible refine Kd.C_drew ?_))); (case side2 => exact (Kd.R_reads' HO125.out).2.1); rintro e w34 ⟨rfl, hb⟩; refine ⟨_, rfl, ?_⟩; have n0_ := Aside0.mk (Kd.R_below (by (with_reducible repeat (first | apply Kd.R_alloc | apply Kd.R_drewN | apply Kd.R_drew)); exact HO125.out) hb); have n1_ := Aside0.mk (below_step (by repeat (first | (with_reducible first | exact HB.out | apply below_alloc | apply pw_below_drewN | apply below_drew1) | exact HB.out)) hb); clear HO125; clear HB; have HO125 := n0_; have HB := n1_; clear n0_ n1_; (try clear hb); (try clear hb2); (try clear hk); (try clear hi); (try clear A1)) | ((with_reducible refine gate_callee (f := 32) rfl ?_); refine goesL_ (some 18) rfl rfl Try.func32 (by kernel_rfl) rfl #[.string t126] rfl (by (try simp only [List.map_toArray, List.map_cons, List.map_nil]); first | done | rfl | (simp only [List.length_drop, List.length_take]; rfl)) ?_; (with_reducible refine (journal_Load.calls k t126 t128 t129 _ A2.out).mono ?_); rintro e w35 ⟨v130, rfl, ho0, hb⟩; refine ⟨_, rfl, ?_⟩; have n0_ := Aside0.mk (Kd.R_elder' (by (with_reducible repeat (first | apply Kd.R_alloc | apply Kd.R_drewN | apply Kd.R_drew)); exact HO125.out) (Kd.R_base ho0) hb); have n1_ := Aside0.mk (Kd.R_lower (Kd.R_new' ho0 (Kd.R_lt (by (with_reducible repeat (first | apply Kd.R_alloc | apply Kd.R_drewN | apply Kd.R_drew)); exact HO125.out))) (below_size (by repeat (first | (with_reducible first | exact HB.out | apply below_alloc | apply pw_below_drewN | apply below_drew1) | exact HB.out)))); have n2_ := Aside0.mk (below_step (by repeat (first | (with_reducible first | exact HB.out | apply below_alloc | apply pw_below_drewN | apply below_drew1) | exact HB.out)) hb); clear HO125; clear HB; have HO125 := n0_; have HO131 := n1_; have HB := n2_; clear n0_ n1_ n2_; (try clear hb); (try clear hb2); (try clear hk); (try clear hi); (try clear ho0); (try clear A2)) | ((with_reducible refine gate_callee (f := 32) rfl ?_); refine goesL_ (some 24) rfl rfl Try.func32 (by kernel_rfl) rfl #[.string (t126 ++ (⟨#[120]⟩ : ByteArray))] rfl (by (try simp only [List.map_toArray, List.map_cons, List.map_nil]); first | done | rfl | (simp only [List.length_drop, List.length_take]; rfl)) ?_; (with_reducible refine (journal_Load.calls k (t126 ++ (⟨#[120]⟩ : ByteArray)) t132 t133 _ A4.out).mono ?_); rintro e w36 ⟨v134, rfl, ho0, hb⟩; refine ⟨_, rfl, ?_⟩; have n0_ := Aside0.mk (Kd.R_elder' (by (with_reducible repeat (first | apply Kd.R_alloc | apply Kd.R_drewN | apply Kd.R_drew)); exact HO125.out) (Kd.R_base ho0) hb); have n1_ := Aside0.mk (Kd.R_elder' (by (with_reducible repeat (first | apply Kd.R_alloc | apply Kd.R_drewN | apply Kd.R_drew)); exact HO131.out) (Kd.R_base ho0) hb); have n2_ := Aside0.mk (Kd.R_lower (Kd.R_new' (Kd.R_new' ho0 (Kd.R_lt (by (with_reducible repeat (first | apply Kd.R_alloc | apply Kd.R_drewN | apply Kd.R_drew)); exact HO125.out))) (Kd.R_lt (by (with_reducible repeat (first | apply Kd.R_alloc | apply Kd.R_drewN | apply Kd.R_drew)); exact HO131.out))) (below_size (by repeat (first | (with_reducible first | exact HB.out | apply below_alloc | apply pw_below_drewN | apply below_drew1) | exact HB.out)))); have n3_ := Aside0.mk (below_step (by repeat (first | (with_reducible first | exact HB.out | apply below_alloc | apply pw_below_drewN | apply below_drew1) | exact HB.out)) hb); clear HO125; clear HO131; clear HB; have HO125 := n0_; have HO131 := n1_; have HO135 := n2_; have HB := n3_; clear n0_ n1_ n2_ n3_; (try clear hb); (try clear hb2); (try clear hk); (try clear hi); (try clear ho0); (try clear A4)) | ((with_reducible refine gate_callee (f := 32) rfl ?_); refine goesL_ (some 36) rfl rfl Try.func32 (by kernel_rfl) rfl #[.string (t126.extract 0 ((ji12) : Int).toNat)] rfl (by (try simp only [List.map_toArray, List.map_cons, List.map_nil]); first | done | (simp only [hji12]; rfl) | rfl | (simp only [List.length_drop, List.length_take]; rfl)) ?_; (with_reducible refine (journal_Load.calls k (t126.extract 0 ((ji12) : Int).toNat) t136 t137 _ A15.out).mono ?_); rintro e w37 ⟨v138, rfl, ho0, hb⟩; refine ⟨_, rfl, ?_⟩; have n0_ := Aside0.mk (Kd.R_elder' (by (with_reducible repeat (first | apply Kd.R_alloc | apply Kd.R_drewN | apply Kd.R_drew)); exact HO125.out) (Kd.R_base ho0) hb); have n1_ := Aside0.mk (Kd.R_elder' (by (with_reducible repeat (first | apply Kd.R_alloc | apply Kd.R_drewN | apply Kd.R_drew)); exact HO131.out) (Kd.R_base ho0) hb); have n2_ := Aside0.mk (Kd.R_elder' (by (with_reducible repeat (first | apply Kd.R_alloc | apply Kd.R_drewN | apply Kd.R_drew)); exact HO135.out) (Kd.R_base ho0) hb); have n3_ := Aside0.mk (Kd.R_lower (Kd.R_new' (Kd.R_new' (Kd.R_new' ho0 (Kd.R_lt (by (with_reducible repeat (first | apply Kd.R_alloc | apply Kd.R_drewN | apply Kd.R_drew)); exact HO125.out))) (Kd.R_lt (by (with_reducible repeat (first | apply Kd.R_alloc | apply Kd.R_drewN | apply Kd.R_drew)); exact HO131.out))) (Kd.R_lt (by (with_reducible repeat (first | apply Kd.R_alloc | apply Kd.R_drewN | apply Kd.R_drew)); exact HO135.out))) (below_size (by repeat (first | (with_reducible first | exact HB.out | apply below_alloc | apply pw_below_drewN | apply below_drew1) | exact HB.out)))); have n4_ := Aside0.mk (below_step (by repeat (first | (with_reducible first | exact HB.out | apply below_alloc | apply pw_below_drewN | apply below_drew1) | exact HB.out)) hb); clear HO125; clear HO131; clear HO135; clear HB; have HO125 := n0_; have HO131 := n1_; have HO135 := n2_; have HO139 := n3_; have HB := n4_; clear n0_ n1_ n2_ n3_ n4_; (try clear hb); (try clear hb2); (try clear hk); (try clear hi); (try clear ho0); (try clear A15)) | ((with_reducible refine gate_dst (N := 40) rfl ?_); (try (refine gate_guard (by rfl) ?_; dsimp only)); refine Kd.R_make (Kd.int .u8) _ 5 rfl (N := 40) rfl 34 _ _ rfl 1025 rfl rfl Try.underlying34 (.int .u8 0) 1 info5 rfl (by decide) (by omega) 0 (ok := fun _ => True) (okp := fun _ => True) rfl (fun _ hk => hk) trivial (by omega) (by omega) (Below.refl _ _) (Nat.le_refl _) ?_; intro v141 w38 ho39 hb hg_ hnew_; clear hg_ hnew_; (first | rw [← Ny140.out] at ho39 | (simp only [Int.reduceToNat] at ho39; rw [← Ny140.out] at ho39)); have n0_ := Aside0.mk (Kd.R_below (by (with_reducible repeat (first | apply Kd.R_alloc | apply Kd.R_drewN | apply Kd.R_drew)); exact HO125.out) hb); have n1_ := Aside0.mk (Kd.R_below (by (with_reducible repeat (first | apply Kd.R_alloc | apply Kd.R_drewN | apply Kd.R_drew)); exact HO131.out) hb); have n2_ := Aside0.mk (Kd.R_below (by (with_reducible repeat (first | apply Kd.R_alloc | apply Kd.R_drewN | apply Kd.R_drew)); exact HO135.out) hb); have n3_ := Aside0.mk (Kd.R_below (by (with_reducible repeat (first | apply Kd.R_alloc | apply Kd.R_drewN | apply Kd.R_drew)); exact HO139.out) hb); have n4_ := Aside0.mk (Kd.R_lower ho39 (below_size (by repeat (first | (with_reducible first | exact HB.out | apply below_alloc | apply pw_below_drewN | apply below_drew1) | exact HB.out)))); have n5_ := Aside0.mk (below_step (by repeat (first | (with_reducible first | exact HB.out | apply below_alloc | apply pw_below_drewN | apply below_drew1) | exact HB.out)) hb); clear HO125; clear HO131; clear HO135; clear HO139; clear HB; have HO125 := n0_; have HO131 := n1_; have HO135 := n2_; have HO139 := n3_; have HO142 := n4_; have HB := n5_; clear n0_ n1_ n2_ n3_ n4_ n5_; clear hb ho39; have hcv40 := own_string (P := Try.prog) Try.underlying34 Try.underlying5 Try.underlying9 (Kd.own_of_R HO142.out)) | ((with_reducible refine gate_dst (N := 42) rfl ?_); (try (refine gate_guard (by rfl) ?_; dsimp only)); refine Kd.R_lit Kd.string _ 9 ?hg (N := 42) ?hd (xs := ([strOfNums y140] : List ByteArray)) (inner := [.string (strOfNums y140)]) (ok := fun _ => True) (okp := fun _ => True) ?hr ?hp (fun _ hk => hk) trivial (Below.refl _ _) (Nat.le_refl _) (by simp) ?_; (case hd => rfl); (case hg => rfl); (case hr => first | (go_simp; done) | (go_simp; rfl)); (case hp => exact (Reps.one (show Kd.M Kd.string _ _ _ (strOfNums y140) [.string (strOfNums y140)] from rfl) (Reps.none _ _))); intro v144 w41 ho42 hb hg_ hnew_; clear hg_ hnew_; (first | rw [← Ny143.out] at ho42 | (simp only [Int.reduceToNat] at ho42; rw [← Ny143.out] at ho42)); have n0_ := Aside0.mk (Kd.R_elder' (by (with_reducible repeat (first | apply Kd.R_alloc | apply Kd.R_drewN | apply Kd.R_drew)); exact HO125.out) (Kd.R_base ho42) hb); have n1_ := Aside0.mk (Kd.R_elder' (by (with_reducible repeat (first | apply Kd.R_alloc | apply Kd.R_drewN | apply Kd.R_drew)); exact HO131.out) (Kd.R_base ho42) hb); have n2_ := Aside0.mk (Kd.R_elder' (by (with_reducible repeat (first | apply Kd.R_alloc | apply Kd.R_drewN | apply Kd.R_drew)); exact HO135.out) (Kd.R_base ho42) hb); have n3_ := Aside0.mk (Kd.R_elder' (by (with_reducible repeat (first | apply Kd.R_alloc | apply Kd.R_drewN | apply Kd.R_drew)); exact HO139.out) (Kd.R_base ho42) hb); have n4_ := Aside0.mk (Kd.R_below (by (with_reducible repeat (first | apply Kd.R_alloc | apply Kd.R_drewN | apply Kd.R_drew)); exact HO142.out) hb); have n5_ := Aside0.mk (Kd.R_lower (Kd.R_new' (Kd.R_new' (Kd.R_new' (Kd.R_new' ho42 (Kd.R_lt (by (with_reducible repeat (first | apply Kd.R_alloc | apply Kd.R_drewN | apply Kd.R_drew)); exact HO125.out))) (Kd.R_lt (by (with_reducible repeat (first | apply Kd.R_alloc | apply Kd.R_drewN | apply Kd.R_drew)); exact HO131.out))) (Kd.R_lt (by (with_reducible repeat (first | apply Kd.R_alloc | apply Kd.R_drewN | apply Kd.R_drew)); exact HO135.out))) (Kd.R_lt (by (with_reducible repeat (first | apply Kd.R_alloc | apply Kd.R_drewN | apply Kd.R_drew)); exact HO139.out))) (below_size (by repeat (first | (with_reducible first | exact HB.out | apply below_alloc | apply pw_below_drewN | apply below_drew1) | exact HB.out)))); have n6_ := Aside0.mk (below_step (by repeat (first | (with_reducible first | exact HB.out | apply below_alloc | apply pw_below_drewN | apply below_drew1) | exact HB.out)) hb); clear HO125; clear HO131; clear HO135; clear HO139; clear HO142; clear HB; have HO125 := n0_; have HO131 := n1_; have HO135 := n2_; have HO139 := n3_; have HO142 := n4_; have HO145 := n5_; have HB := n6_; clear n0_ n1_ n2_ n3_ n4_ n5_ n6_; clear hb ho42; obtain ⟨Ao43, co43, eo43⟩ := Kd.R_slice HO145.out; subst eo43) | ((with_reducible refine gate_callee (f := 30) rfl ?_); refine goesL_ (some 43) rfl rfl Try.func30 (by kernel_rfl) rfl #[.slice Ao43 y143.length co43] rfl (by (try simp only [List.map_toArray, List.map_cons, List.map_nil]); first | done | rfl | (simp only [List.length_drop, List.length_take]; rfl)) ?_; (with_reducible refine (journal_Text.calls k _ _ y143 t146 t147 _ ?side1 ?side2 A17.out).mono ?_); (case side1 => repeat (first | exact (Kd.R_reads' HO145.out).2.2 | (with_reducible refine Kd.C_alloc ?_ _) | (with_reducible refine Kd.C_drewN ?_ _) | (with_reducible refine Kd.C_drew ?_))); (case side2 => exact (Kd.R_reads' HO145.out).2.1); rintro e w44 ⟨rfl, hb⟩; refine ⟨_, rfl, ?_⟩; have n0_ := Aside0.mk (Kd.R_below (by (with_reducible repeat (first | apply Kd.R_alloc | apply Kd.R_drewN | apply Kd.R_drew)); exact HO125.out) hb); have n1_ := Aside0.mk (Kd.R_below (by (with_reducible repeat (first | apply Kd.R_alloc | apply Kd.R_drewN | apply Kd.R_drew)); exact HO131.out) hb); have n2_ := Aside0.mk (Kd.R_below (by (with_reducible repeat (first | apply Kd.R_alloc | apply Kd.R_drewN | apply Kd.R_drew)); exact HO135.out) hb); have n3_ := Aside0.mk (Kd.R_below (by (with_reducible repeat (first | apply Kd.R_alloc | apply Kd.R_drewN | apply Kd.R_drew)); exact HO139.out) hb); have n4_ := Aside0.mk (Kd.R_below (by (with_reducible repeat (first | apply Kd.R_alloc | apply Kd.R_drewN | apply Kd.R_drew)); exact HO142.out) hb); have n5_ := Aside0.mk (Kd.R_below (by (with_reducible repeat (first | apply Kd.R_alloc | apply Kd.R_drewN | apply Kd.R_drew)); exact HO145.out) hb); have n6_ := Aside0.mk (below_step (by repeat (first | (with_reducible first | exact HB.out | apply below_alloc | apply pw_below_drewN | apply below_drew1) | exact HB.out)) hb); clear HO125; clear HO131; clear HO135; clear HO139; clear HO142; clear HO145; clear HB; have HO125 := n0_; have HO131 := n1_; have HO135 := n2_; have HO139 := n3_; have HO142 := n4_; have HO145 := n5_; have HB := n6_; clear n0_ n1_ n2_ n3_ n4_ n5_ n6_; (try clear hb); (try clear hb2); (try clear hk); (try clear hi); (try clear A17)) | (go_at_call 26; (with_reducible refine (grafterlaw0_Num.calls t127 t148 _ A19.out).mono ?_); rintro e w' ⟨rfl, ⟨nd, rfl⟩⟩; (try clear A19)) | ((with_reducible refine gate_dst (N := 56) rfl ?_); (try (refine gate_guard (by rfl) ?_; dsimp only)); refine Kd.R_lit Kd.string _ 9 ?hg (N := 56) ?hd (xs := ([(⟨#[97]⟩ : ByteArray), (⟨#[]⟩ : ByteArray), (⟨#[98, 99]⟩ : ByteArray)] : List ByteArray)) (inner := [.string (⟨#[97]⟩ : ByteArray), .string (⟨#[]⟩ : ByteArray), .string (⟨#[98, 99]⟩ : ByteArray)]) (ok := fun _ => True) (okp := fun _ => True) ?hr ?hp (fun _ hk => hk) trivial (Below.refl _ _) (Nat.le_refl _) (by simp) ?_; (case hd => rfl); (case hg => rfl); (case hr => first | (go_simp; done) | (go_simp; rfl)); (case hp => exact (Reps.one (show Kd.M Kd.string _ _ _ (⟨#[97]⟩ : ByteArray) [.string (⟨#[97]⟩ : ByteArray)] from rfl) (Reps.one (show Kd.M Kd.string _ _ _ (⟨#[]⟩ : ByteArray) [.string (⟨#[]⟩ : ByteArray)] from rfl) (Reps.one (show Kd.M Kd.string _ _ _ (⟨#[98, 99]⟩ : ByteArray) [.string (⟨#[98, 99]⟩ : ByteArray)] from rfl) (Reps.none _ _))))); intro v150 w45 ho46 hb hg_ hnew_; clear hg_ hnew_; (first | rw [← Ny149.out] at ho46 | (simp only [Int.reduceToNat] at ho46; rw [← Ny149.out] at ho46)); have n0_ := Aside0.mk (Kd.R_elder' (by (with_reducible repeat (first | apply Kd.R_alloc | apply Kd.R_drewN | apply Kd.R_drew)); exact HO125.out) (Kd.R_base ho46) hb); have n1_ := Aside0.mk (Kd.R_elder' (by (with_reducible repeat (first | apply Kd.R_alloc | apply Kd.R_drewN | apply Kd.R_drew)); exact HO131.out) (Kd.R_base ho46) hb); have n2_ := Aside0.mk (Kd.R_elder' (by (with_reducible repeat (first | apply Kd.R_alloc | apply Kd.R_drewN | apply Kd.R_drew)); exact HO135.out) (Kd.R_base ho46) hb); have n3_ := Aside0.mk (Kd.R_elder' (by (with_reducible repeat (first | apply Kd.R_alloc | apply Kd.R_drewN | apply Kd.R_drew)); exact HO139.out) (Kd.R_base ho46) hb); have n4_ := Aside0.mk (Kd.R_below (by (with_reducible repeat (first | apply Kd.R_alloc | apply Kd.R_drewN | apply Kd.R_drew)); exact HO142.out) hb); have n5_ := Aside0.mk (Kd.R_elder' (by (with_reducible repeat (first | apply Kd.R_alloc | apply Kd.R_drewN | apply Kd.R_drew)); exact HO145.out) (Kd.R_base ho46) hb); have n6_ := Aside0.mk (Kd.R_lower (Kd.R_new' (Kd.R_new' (Kd.R_new' (Kd.R_new' (Kd.R_new' ho46 (Kd.R_lt (by (with_reducible repeat (first | apply Kd.R_alloc | apply Kd.R_drewN | apply Kd.R_drew)); exact HO125.out))) (Kd.R_lt (by (with_reducible repeat (first | apply Kd.R_alloc | apply Kd.R_drewN | apply Kd.R_drew)); exact HO131.out))) (Kd.R_lt (by (with_reducible repeat (first | apply Kd.R_alloc | apply Kd.R_drewN | apply Kd.R_drew)); exact HO135.out))) (Kd.R_lt (by (with_reducible repeat (first | apply Kd.R_alloc | apply Kd.R_drewN | apply Kd.R_drew)); exact HO139.out))) (Kd.R_lt (by (with_reducible repeat (first | apply Kd.R_alloc | apply Kd.R_drewN | apply Kd.R_drew)); exact HO145.out))) (below_size (by repeat (first | (with_reducible first | exact HB.out | apply below_alloc | apply pw_below_drewN | apply below_drew1) | exact HB.out)))); have n7_ := Aside0.mk (below_step (by repeat (first | (with_reducible first | exact HB.out | apply below_alloc | apply pw_below_drewN | apply below_drew1) | exact HB.out)) hb); clear HO125; clear HO131; clear HO135; clear HO139; clear HO142; clear HO145; clear HB; have HO125 := n0_; have HO131 := n1_; have HO135 := n2_; have HO139 := n3_; have HO142 := n4_; have HO145 := n5_; have HO151 := n6_; have HB := n7_; clear n0_ n1_ n2_ n3_ n4_ n5_ n6_ n7_; clear hb ho46; obtain ⟨Ao47, co47, eo47⟩ := Kd.R_slice HO131.out; subst eo47; obtain ⟨Ao48, co48, eo48⟩ := Kd.R_slice HO151.out; subst eo48) | (go_at_call 34; (with_reducible refine (grafterlaw0_SameTexts.calls k _ _ t128 _ _ y149 true _ ?side1 ?side2 ?side3 ?side4 A21.out).mono ?_); (case side1 => repeat (first | exact (Kd.R_reads' HO131.out).2.2 | (with_reducible refine Kd.C_alloc ?_ _) | (with_reducible refine Kd.C_drewN ?_ _) | (with_reducible refine Kd.C_drew ?_))); (case side2 => exact (Kd.R_reads' HO131.out).2.1); (case side3 => repeat (first | exact (Kd.R_reads' HO151.out).2.2 | (with_reducible refine Kd.C_alloc ?_ _) | (with_reducible refine Kd.C_drewN ?_ _) | (with_reducible refine Kd.C_drew ?_))); (case side4 => exact (Kd.R_reads' HO151.out).2.1); rintro e w' ⟨rfl, ⟨nd, rfl⟩⟩; obtain ⟨Ao49, co49, eo49⟩ := Kd.R_slice HO135.out; subst eo49; (try clear A21)) | (go_at_call 34; (with_reducible refine (grafterlaw0_SameTexts.calls k _ _ t132 _ _ t128 true _ ?side1 ?side2 ?side3 ?side4 A24.out).mono ?_); (case side1 => repeat (first | exact (Kd.R_reads' HO135.out).2.2 | (with_reducible refine Kd.C_alloc ?_ _) | (with_reducible refine Kd.C_drewN ?_ _) | (with_reducible refine Kd.C_drew ?_))); (case side2 => exact (Kd.R_reads' HO135.out).2.1); (case side3 => repeat (first | exact (Kd.R_reads' HO131.out).2.2 | (with_reducible refine Kd.C_alloc ?_ _) | (with_reducible refine Kd.C_drewN ?_ _) | (with_reducible refine Kd.C_drew ?_))); (case side4 => exact (Kd.R_reads' HO131.out).2.1); rintro e w' ⟨rfl, ⟨nd, rfl⟩⟩; (try clear A24)) | ((with_reducible refine gate_dst (N := 74) rfl ?_); (try (refine gate_guard (by rfl) ?_; dsimp only)); refine Kd.R_lit Kd.string _ 9 ?hg (N := 74) ?hd (xs := ([(⟨#[97]⟩ : ByteArray), (⟨#[]⟩ : ByteArray)] : List ByteArray)) (inner := [.string (⟨#[97]⟩ : ByteArray), .string (⟨#[]⟩ : ByteArray)]) (ok := fun _ => True) (okp := fun _ => True) ?hr ?hp (fun _ hk => hk) trivial (Below.refl _ _) (Nat.le_refl _) (by simp) ?_; (case hd => rfl); (case hg => rfl); (case hr => first | (go_simp; done) | (go_simp; rfl)); (case hp => exact (Reps.one (show Kd.M Kd.string _ _ _ (⟨#[97]⟩ : ByteArray) [.string (⟨#[97]⟩ : ByteArray)] from rfl) (Reps.one (show Kd.M Kd.string _ _ _ (⟨#[]⟩ : ByteArray) [.string (⟨#[]⟩ : ByteArray)] from rfl) (Reps.none _ _)))); intro v155 w50 ho51 hb hg_ hnew_; clear hg_ hnew_; (first | rw [← Ny154.out] at ho51 | (simp only [Int.reduceToNat] at ho51; rw [← Ny154.out] at ho51)); have n0_ := Aside0.mk (Kd.R_elder' (by (with_reducible repeat (first | apply Kd.R_alloc | apply Kd.R_drewN | apply Kd.R_drew)); exact HO125.out) (Kd.R_base ho51) hb); have n1_ := Aside0.mk (Kd.R_elder' (by (with_reducible repeat (first | apply Kd.R_alloc | apply Kd.R_drewN | apply Kd.R_drew)); exact HO131.out) (Kd.R_base ho51) hb); have n2_ := Aside0.mk (Kd.R_elder' (by (with_reducible repeat (first | apply Kd.R_alloc | apply Kd.R_drewN | apply Kd.R_drew)); exact HO135.out) (Kd.R_base ho51) hb); have n3_ := Aside0.mk (Kd.R_elder' (by (with_reducible repeat (first | apply Kd.R_alloc | apply Kd.R_drewN | apply Kd.R_drew)); exact HO139.out) (Kd.R_base ho51) hb); have n4_ := Aside0.mk (Kd.R_below (by (with_reducible repeat (first | apply Kd.R_alloc | apply Kd.R_drewN | apply Kd.R_drew)); exact HO142.out) hb); have n5_ := Aside0.mk (Kd.R_elder' (by (with_reducible repeat (first | apply Kd.R_alloc | apply Kd.R_drewN | apply Kd.R_drew)); exact HO145.out) (Kd.R_base ho51) hb); have n6_ := Aside0.mk (Kd.R_elder' (by (with_reducible repeat (first | apply Kd.R_alloc | apply Kd.R_drewN | apply Kd.R_drew)); exact HO151.out) (Kd.R_base ho51) hb); have n7_ := Aside0.mk (Kd.R_lower (Kd.R_new' (Kd.R_new' (Kd.R_new' (Kd.R_new' (Kd.R_new' (Kd.R_new' ho51 (Kd.R_lt (by (with_reducible repeat (first | apply Kd.R_alloc | apply Kd.R_drewN | apply Kd.R_drew)); exact HO125.out))) (Kd.R_lt (by (with_reducible repeat (first | apply Kd.R_alloc | apply Kd.R_drewN | apply Kd.R_drew)); exact HO131.out))) (Kd.R_lt (by (with_reducible repeat (first | apply Kd.R_alloc | apply Kd.R_drewN | apply Kd.R_drew)); exact HO135.out))) (Kd.R_lt (by (with_reducible repeat (first | apply Kd.R_alloc | apply Kd.R_drewN | apply Kd.R_drew)); exact HO139.out))) (Kd.R_lt (by (with_reducible repeat (first | apply Kd.R_alloc | apply Kd.R_drewN | apply Kd.R_drew)); exact HO145.out))) (Kd.R_lt (by (with_reducible repeat (first | apply Kd.R_alloc | apply Kd.R_drewN | apply Kd.R_drew)); exact HO151.out))) (below_size (by repeat (first | (with_reducible first | exact HB.out | apply below_alloc | apply pw_below_drewN | apply below_drew1) | exact HB.out)))); have n8_ := Aside0.mk (below_step (by repeat (first | (with_reducible first | exact HB.out | apply below_alloc | apply pw_below_drewN | apply below_drew1) | exact HB.out)) hb); clear HO125; clear HO131; clear HO135; clear HO139; clear HO142; clear HO145; clear HO151; clear HB; have HO125 := n0_; have HO131 := n1_; have HO135 := n2_; have HO139 := n3_; have HO142 := n4_; have HO145 := n5_; have HO151 := n6_; have HO156 := n7_; have HB := n8_; clear n0_ n1_ n2_ n3_ n4_ n5_ n6_ n7_ n8_; clear hb ho51; obtain ⟨Ao52, co52, eo52⟩ := Kd.R_slice HO139.out; subst eo52; obtain ⟨Ao53, co53, eo53⟩ := Kd.R_slice HO156.out; subst eo53) | (go_at_call 34; (with_reducible refine (grafterlaw0_SameTexts.calls k _ _ t136 _ _ y154 true _ ?side1 ?side2 ?side3 ?side4 A27.out).mono ?_); (case side1 => repeat (first | exact (Kd.R_reads' HO139.out).2.2 | (with_reducible refine Kd.C_alloc ?_ _) | (with_reducible refine Kd.C_drewN ?_ _) | (with_reducible refine Kd.C_drew ?_))); (case side2 => exact (Kd.R_reads' HO139.out).2.1); (case side3 => repeat (first | exact (Kd.R_reads' HO156.out).2.2 | (with_reducible refine Kd.C_alloc ?_ _) | (with_reducible refine Kd.C_drewN ?_ _) | (with_reducible refine Kd.C_drew ?_))); (case side4 => exact (Kd.R_reads' HO156.out).2.1); rintro e w' ⟨rfl, ⟨nd, rfl⟩⟩; (try clear A27)) | (go_at_call 26; (with_reducible refine (grafterlaw0_Num.calls t147 t158 _ A30.out).mono ?_); rintro e w' ⟨rfl, ⟨nd, rfl⟩⟩; (try clear A30)))
                            all_goals go_ret
                            all_goals exact ⟨by first | (simp only [← hji12_]; split <;> first | (exfalso; omega) | (simp [ByteArray.extract_zero_size]; done) | (simp [ByteArray.extract_zero_size, *]; done)) | rfl | (simp [errW_none, errW_some] <;> rfl) | (simp only [← hji12]; first | rfl | (simp [errW_none, errW_some] <;> rfl)) | (simp [*, errW_none, errW_some] <;> rfl), by repeat (first | (with_reducible first | exact HB.out | apply below_alloc | apply pw_below_drewN | apply below_drew1) | exact HB.out)⟩
                          · rw [if_neg c29] at H
                            have c29b0 : (t137 == 13) = false := beq_eq_false_iff_ne.mpr c29
                            have c29b1 : (t137 != 13) = true := bne_iff_ne.mpr c29
                            exact absurd ((Option.some.inj H).trans HRT.out) Bool.false_ne_true
                        · replace c28 := Bool.eq_false_iff.mpr c28
                          subst c28
                          have H1 : (some false) = some r := by rw [if_neg (show ¬ (false = true) by decide)] at H; exact H
                          clear H
                          have H := H1
                          clear H1
                          exact absurd ((Option.some.inj H).trans HRT.out) Bool.false_ne_true
                      · rw [if_neg c26] at H
                        have c26b0 : (t133 == 21) = false := beq_eq_false_iff_ne.mpr c26
                        have c26b1 : (t133 != 21) = true := bne_iff_ne.mpr c26
                        exact absurd ((Option.some.inj H).trans HRT.out) Bool.false_ne_true
                    · replace c25 := Bool.eq_false_iff.mpr c25
                      subst c25
                      have H1 : (some false) = some r := by rw [if_neg (show ¬ (false = true) by decide)] at H; exact H
                      clear H
                      have H := H1
                      clear H1
                      exact absurd ((Option.some.inj H).trans HRT.out) Bool.false_ne_true
                  · rw [if_neg c23] at H
                    have c23b0 : (t129 == 21) = false := beq_eq_false_iff_ne.mpr c23
                    have c23b1 : (t129 != 21) = true := bne_iff_ne.mpr c23
                    exact absurd ((Option.some.inj H).trans HRT.out) Bool.false_ne_true
                · replace c22 := Bool.eq_false_iff.mpr c22
                  subst c22
                  have H1 : (some false) = some r := by rw [if_neg (show ¬ (false = true) by decide)] at H; exact H
                  clear H
                  have H := H1
                  clear H1
                  exact absurd ((Option.some.inj H).trans HRT.out) Bool.false_ne_true
              · rw [if_neg c20] at H
                have c20b0 : (t148 == 0) = false := beq_eq_false_iff_ne.mpr c20
                have c20b1 : (t148 != 0) = true := bne_iff_ne.mpr c20
                exact absurd ((Option.some.inj H).trans HRT.out) Bool.false_ne_true
            · rw [if_neg c18] at H
              have c18b0 : ((t126.size : Int) == 21) = false := beq_eq_false_iff_ne.mpr c18
              have c18b1 : ((t126.size : Int) != 21) = true := bne_iff_ne.mpr c18
              exact absurd ((Option.some.inj H).trans HRT.out) Bool.false_ne_true
          · rw [if_neg c16] at H
            exact absurd H (by simp)
        · rw [if_neg c14] at H
          exact absurd H (by simp)
      · rw [if_neg c13] at H
        exact absurd H (by simp)
  · rw [if_neg c3] at H
    exact absurd H (by simp)

/-! ### grafterlaw17_JournalTurned: function 13 -/
mutual
def grafterlaw17_JournalTurned.j0 : Nat → List ByteArray → Int → Int → ByteArray → Int → Bool → Option (Bool)
  | 0, _, _, _, _, _, _ => none
  | k + 1, x0, x1, x2, x7, x8, x30 => if x30 = true then ((grafterlaw0_Num.f x8).bind fun t163 => (if t163 = 0 then (some true) else (some (x7.toList == ([] : List UInt8))))) else (if (IntKind.u64.wrap ((x0.length : Int))) = 0 then (none) else (grafterlaw17_JournalTurned.l0 k x0 x2 x7 (wrap64 (Int.tmod (IntKind.u64.wrap (x1)) (IntKind.u64.wrap ((x0.length : Int))))) 0 0))
def grafterlaw17_JournalTurned.l0 : Nat → List ByteArray → Int → ByteArray → Int → Int → Int → Option (Bool)
  | 0, _, _, _, _, _, _ => none
  | k + 1, x0, x2, x7, x9, x10, x11 => if x11 < x9 then (if 0 ≤ x11 then (if x11 < (x0.length : Int) then (grafterlaw17_JournalTurned.l0 k x0 x2 x7 x9 (wrap64 ((wrap64 (x10 + 6)) + ((rdOf ByteArray.empty x0 x11).size : Int))) (wrap64 (x11 + 1))) else (none)) else (none)) else ((some (([] : List Int) : List Int)).bind fun y165 => (if y165.length + x7.size < 140737488355328 then ((some (y165 ++ bytesOf x7 : List Int)).bind fun y168 => (if 0 ≤ x9 then (if x9 < (x0.length : Int) then (if (IntKind.u64.wrap (wrap64 (((rdOf ByteArray.empty x0 x9).size : Int) + 4))) = 0 then (none) else (if (wrap64 ((wrap64 (x10 + 2)) + (wrap64 (Int.tmod (IntKind.u64.wrap (x2)) (IntKind.u64.wrap (wrap64 (((rdOf ByteArray.empty x0 x9).size : Int) + 4))))))) ≥ (y168.length : Int) then (some false) else (if 0 ≤ (wrap64 ((wrap64 (x10 + 2)) + (wrap64 (Int.tmod (IntKind.u64.wrap (x2)) (IntKind.u64.wrap (wrap64 (((rdOf ByteArray.empty x0 x9).size : Int) + 4))))))) then (if (wrap64 ((wrap64 (x10 + 2)) + (wrap64 (Int.tmod (IntKind.u64.wrap (x2)) (IntKind.u64.wrap (wrap64 (((rdOf ByteArray.empty x0 x9).size : Int) + 4))))))) < (y168.length : Int) then ((journal_Load.f k (strOfNums (y168.set ((wrap64 ((wrap64 (x10 + 2)) + (wrap64 (Int.tmod (IntKind.u64.wrap (x2)) (IntKind.u64.wrap (wrap64 (((rdOf ByteArray.empty x0 x9).size : Int) + 4))))))) : Int).toNat (Go.bits .xor .u8 (rd y168 (wrap64 ((wrap64 (x10 + 2)) + (wrap64 (Int.tmod (IntKind.u64.wrap (x2)) (IntKind.u64.wrap (wrap64 (((rdOf ByteArray.empty x0 x9).size : Int) + 4)))))))) ((wrap64 (1 + (Go.bits .and .i64 x2 127))) % 256))))).bind fun bt174 => (if x9 ≤ (x0.length : Int) then ((grafterlaw0_SameTexts.f k bt174.1 (x0.take (x9 : Int).toNat)).bind fun t179 => (if t179 = true then (some (bt174.2 == x10)) else (some false))) else (none))) else (none)) else (none)))) else (none)) else (none))) else (none)))
end
def grafterlaw17_JournalTurned.f (k : Nat) (l0 : List ByteArray) (a1 : Int) (a2 : Int) : Option (Bool) := (grafterlaw17_awake.f k).bind fun t159 => (if t159 = true then ((journal_Text.f k l0).bind fun bt160 => ((grafterlaw0_Num.f bt160.2).bind fun t162 => (if t162 = 0 then (grafterlaw17_JournalTurned.j0 k l0 a1 a2 bt160.1 bt160.2 ((l0.length : Int) == 0)) else (grafterlaw17_JournalTurned.j0 k l0 a1 a2 bt160.1 bt160.2 true)))) else (some false))
theorem grafterlaw17_JournalTurned.mono_l : ∀ k, (∀ y0 y1 y2 y3 y4 y5, LeO (grafterlaw17_JournalTurned.j0 k y0 y1 y2 y3 y4 y5) (grafterlaw17_JournalTurned.j0 (k + 1) y0 y1 y2 y3 y4 y5)) ∧ (∀ y0 y1 y2 y3 y4 y5, LeO (grafterlaw17_JournalTurned.l0 k y0 y1 y2 y3 y4 y5) (grafterlaw17_JournalTurned.l0 (k + 1) y0 y1 y2 y3 y4 y5))
  | 0 => ⟨fun _ _ _ _ _ _ r h => by simp [grafterlaw17_JournalTurned.j0] at h, fun _ _ _ _ _ _ r h => by simp [grafterlaw17_JournalTurned.l0] at h⟩
  | k + 1 => by
    obtain ⟨ih0, ih1⟩ := grafterlaw17_JournalTurned.mono_l k
    refine ⟨?_, ?_⟩
    · intro y0 y1 y2 y3 y4 y5
      unfold grafterlaw17_JournalTurned.j0
      repeat' first
      | (with_reducible exact ih0 _ _ _ _ _ _)
      | (with_reducible exact ih1 _ _ _ _ _ _)
      | (with_reducible exact grafterlaw0_SameTexts.mono _ _ _)
      | (with_reducible exact grafterlaw17_awake.mono _)
      | (with_reducible exact journal_Load.mono _ _)
      | (with_reducible exact journal_Text.mono _ _)
      | (with_reducible exact LeO.refl _)
      | (with_reducible exact LeO.none _)
      | (with_reducible refine LeO.ite ?_ ?_)
      | (with_reducible refine LeO.bind ?_ (fun _ => ?_))
      | exact ih0 _ _ _ _ _ _
      | exact ih1 _ _ _ _ _ _
      | exact grafterlaw0_SameTexts.mono _ _ _
      | exact grafterlaw17_awake.mono _
      | exact journal_Load.mono _ _
      | exact journal_Text.mono _ _
      | exact LeO.none _
      | refine LeO.ite ?_ ?_
      | refine LeO.bind ?_ (fun _ => ?_)
    · intro y0 y1 y2 y3 y4 y5
      unfold grafterlaw17_JournalTurned.l0
      repeat' first
      | (with_reducible exact ih0 _ _ _ _ _ _)
      | (with_reducible exact ih1 _ _ _ _ _ _)
      | (with_reducible exact grafterlaw0_SameTexts.mono _ _ _)
      | (with_reducible exact grafterlaw17_awake.mono _)
      | (with_reducible exact journal_Load.mono _ _)
      | (with_reducible exact journal_Text.mono _ _)
      | (with_reducible exact LeO.refl _)
      | (with_reducible exact LeO.none _)
      | (with_reducible refine LeO.ite ?_ ?_)
      | (with_reducible refine LeO.bind ?_ (fun _ => ?_))
      | exact ih0 _ _ _ _ _ _
      | exact ih1 _ _ _ _ _ _
      | exact grafterlaw0_SameTexts.mono _ _ _
      | exact grafterlaw17_awake.mono _
      | exact journal_Load.mono _ _
      | exact journal_Text.mono _ _
      | exact LeO.none _
      | refine LeO.ite ?_ ?_
      | refine LeO.bind ?_ (fun _ => ?_)
theorem grafterlaw17_JournalTurned.mono : ∀ a0 a1 a2 k, LeO (grafterlaw17_JournalTurned.f k a0 a1 a2) (grafterlaw17_JournalTurned.f (k + 1) a0 a1 a2) := by
  intro a0 a1 a2 k
  obtain ⟨ih0, ih1⟩ := grafterlaw17_JournalTurned.mono_l k
  unfold grafterlaw17_JournalTurned.f
  repeat' first
      | (with_reducible exact ih0 _ _ _ _ _ _)
      | (with_reducible exact ih1 _ _ _ _ _ _)
      | (with_reducible exact grafterlaw0_SameTexts.mono _ _ _)
      | (with_reducible exact grafterlaw17_awake.mono _)
      | (with_reducible exact journal_Load.mono _ _)
      | (with_reducible exact journal_Text.mono _ _)
      | (with_reducible exact LeO.refl _)
      | (with_reducible exact LeO.none _)
      | (with_reducible refine LeO.ite ?_ ?_)
      | (with_reducible refine LeO.bind ?_ (fun _ => ?_))
      | exact ih0 _ _ _ _ _ _
      | exact ih1 _ _ _ _ _ _
      | exact grafterlaw0_SameTexts.mono _ _ _
      | exact grafterlaw17_awake.mono _
      | exact journal_Load.mono _ _
      | exact journal_Text.mono _ _
      | exact LeO.none _
      | refine LeO.ite ?_ ?_
      | refine LeO.bind ?_ (fun _ => ?_)
set_option maxHeartbeats 8000000 in
set_option maxRecDepth 100000 in
theorem grafterlaw17_JournalTurned.calls (k : Nat) (A0 : Option Addr) (c0 : Nat) (l0 : List ByteArray) (a1 : Int) (a2 : Int) (r : Bool) (w : World) (hrt : r = true) (hr0 : Kd.C Kd.string w A0 l0.length l0) (hc0 : l0.length ≤ c0) (h : grafterlaw17_JournalTurned.f k l0 a1 a2 = some r) :
    Calls Try.prog 13 #[.slice A0 l0.length c0, .int .i64 a1, .int .i64 a2] w fun e w' => e = .returned (.bool r) ∧ Below w.heap.size w w' := by
  have HRT := Aside0.mk hrt
  clear hrt
  have HR0 := Aside0.mk hr0
  have HC0 := Aside0.mk hc0
  clear hr0 hc0
  have HB := Aside0.mk (Below.refl w.heap.size w)
  have H : ((grafterlaw17_awake.f k).bind fun t159 => (if t159 = true then ((journal_Text.f k l0).bind fun bt160 => ((grafterlaw0_Num.f bt160.2).bind fun t162 => (if t162 = 0 then (grafterlaw17_JournalTurned.j0 k l0 a1 a2 bt160.1 bt160.2 ((l0.length : Int) == 0)) else (grafterlaw17_JournalTurned.j0 k l0 a1 a2 bt160.1 bt160.2 true)))) else (some false))) = some r := h
  clear h
  replace H := Option.bind_eq_some_iff.mp H
  obtain ⟨t159, A40, H⟩ := H
  replace H : (if t159 = true then ((journal_Text.f k l0).bind fun bt160 => ((grafterlaw0_Num.f bt160.2).bind fun t162 => (if t162 = 0 then (grafterlaw17_JournalTurned.j0 k l0 a1 a2 bt160.1 bt160.2 ((l0.length : Int) == 0)) else (grafterlaw17_JournalTurned.j0 k l0 a1 a2 bt160.1 bt160.2 true)))) else (some false)) = some r := H
  have A4 := Aside0.mk A40
  clear A40
  by_cases c5 : t159 = true
  · subst c5
    have H1 : ((journal_Text.f k l0).bind fun bt160 => ((grafterlaw0_Num.f bt160.2).bind fun t162 => (if t162 = 0 then (grafterlaw17_JournalTurned.j0 k l0 a1 a2 bt160.1 bt160.2 ((l0.length : Int) == 0)) else (grafterlaw17_JournalTurned.j0 k l0 a1 a2 bt160.1 bt160.2 true)))) = some r := by rw [if_pos rfl] at H; exact H
    clear H
    have H := H1
    clear H1
    replace H := Option.bind_eq_some_iff.mp H
    obtain ⟨⟨t160, t161⟩, A60, H⟩ := H
    replace H : ((grafterlaw0_Num.f t161).bind fun t162 => (if t162 = 0 then (grafterlaw17_JournalTurned.j0 k l0 a1 a2 t160 t161 ((l0.length : Int) == 0)) else (grafterlaw17_JournalTurned.j0 k l0 a1 a2 t160 t161 true))) = some r := H
    have A6 := Aside0.mk A60
    clear A60
    have HC7 := Aside0.mk H
    clear H
    go_enter Try.func13, Try.ntmps13
    go_upto_region 4 with (first | ((with_reducible refine gate_callee (f := 37) rfl ?_); refine goesL_ (some 16) rfl rfl Try.func37 (by kernel_rfl) rfl #[] rfl (by (try simp only [List.map_toArray, List.map_cons, List.map_nil]); first | done | rfl | (simp only [List.length_drop, List.length_take]; rfl)) ?_; (with_reducible refine (grafterlaw17_awake.calls k  true _ rfl A4.out).mono ?_); rintro e w8 ⟨rfl, hb⟩; refine ⟨_, rfl, ?_⟩; have n0_ := Aside0.mk (below_step (by repeat (first | (with_reducible first | exact HB.out | apply below_alloc | apply pw_below_drewN | apply below_drew1) | exact HB.out)) hb); clear HB; have HB := n0_; clear n0_; (try clear hb); (try clear hb2); (try clear hk); (try clear hi)) | ((with_reducible refine gate_callee (f := 30) rfl ?_); refine goesL_ (some 20) rfl rfl Try.func30 (by kernel_rfl) rfl #[.slice A0 l0.length c0] rfl (by (try simp only [List.map_toArray, List.map_cons, List.map_nil]); first | done | rfl | (simp only [List.length_drop, List.length_take]; rfl)) ?_; (with_reducible refine (journal_Text.calls k _ _ l0 t160 t161 _ ?side1 ?side2 A6.out).mono ?_); (case side1 => repeat (first | exact (Kd.C_below HR0.out HB.out) | (with_reducible refine Kd.C_alloc ?_ _) | (with_reducible refine Kd.C_drewN ?_ _) | (with_reducible refine Kd.C_drew ?_))); (case side2 => exact HC0.out); rintro e w9 ⟨rfl, hb⟩; refine ⟨_, rfl, ?_⟩; have n0_ := Aside0.mk (below_step (by repeat (first | (with_reducible first | exact HB.out | apply below_alloc | apply pw_below_drewN | apply below_drew1) | exact HB.out)) hb); clear HB; have HB := n0_; clear n0_; (try clear hb); (try clear hb2); (try clear hk); (try clear hi)))
    (try simp only [Act.put, List.setIfInBounds_toArray, List.set_cons_zero, List.set_cons_succ])
    go_cut [30] (fun v30 wc => ∃ (kq : Nat) (x30_6 : Bool), v30 = .bool x30_6 ∧ Aside0 (grafterlaw17_JournalTurned.j0 kq l0 a1 a2 t160 t161 x30_6 = some r) ∧ Aside0 (kq ≤ k) ∧ Aside0 (Below w.heap.size w wc))
    case first =>
      have H := HC7.out
      clear HC7
      replace H := Option.bind_eq_some_iff.mp H
      obtain ⟨t162, A100, H⟩ := H
      replace H : (if t162 = 0 then (grafterlaw17_JournalTurned.j0 k l0 a1 a2 t160 t161 ((l0.length : Int) == 0)) else (grafterlaw17_JournalTurned.j0 k l0 a1 a2 t160 t161 true)) = some r := H
      have A10 := Aside0.mk A100
      clear A100
      by_cases c11 : t162 = 0
      · rw [if_pos c11] at H
        have c11b0 : (t162 == 0) = true := beq_iff_eq.mpr c11
        have c11b1 : (t162 != 0) = false := bne_eq_false_iff_eq.mpr c11
        clear c11
        (first | rw [c11b0] | (simp only [i64_w, i32_w]; rw [c11b0]) | skip)
        have H' := Aside0.mk H
        clear H
        go_wp2_with (first | ((with_reducible refine gate_callee (f := 26) rfl ?_); refine goesL_ (some 24) rfl rfl Try.func26 (by kernel_rfl) rfl #[.int .i64 t161] rfl (by (try simp only [List.map_toArray, List.map_cons, List.map_nil]); first | done | rfl | (simp only [List.length_drop, List.length_take]; rfl)) ?_; (with_reducible refine (grafterlaw0_Num.calls t161 t162 _ A10.out).mono ?_); rintro e w' ⟨rfl, ⟨nd, rfl⟩⟩; refine ⟨_, rfl, ?_⟩))
        go_meet
        case rel => exact ⟨_, (((l0.length : Int) == 0)), (by first | rfl | (simp; done) | (simp [*]; done)), H', ⟨by first | omega | exact Nat.le_refl _⟩, ⟨by repeat (first | (with_reducible first | exact HB.out | apply below_alloc | apply pw_below_drewN | apply below_drew1) | exact HB.out)⟩⟩
      · rw [if_neg c11] at H
        have c11b0 : (t162 == 0) = false := beq_eq_false_iff_ne.mpr c11
        have c11b1 : (t162 != 0) = true := bne_iff_ne.mpr c11
        (first | rw [c11b0] | (simp only [i64_w, i32_w]; rw [c11b0]) | skip)
        have H' := Aside0.mk H
        clear H
        go_wp2_with (first | ((with_reducible refine gate_callee (f := 26) rfl ?_); refine goesL_ (some 24) rfl rfl Try.func26 (by kernel_rfl) rfl #[.int .i64 t161] rfl (by (try simp only [List.map_toArray, List.map_cons, List.map_nil]); first | done | rfl | (simp only [List.length_drop, List.length_take]; rfl)) ?_; (with_reducible refine (grafterlaw0_Num.calls t161 t162 _ A10.out).mono ?_); rintro e w' ⟨rfl, ⟨nd, rfl⟩⟩; refine ⟨_, rfl, ?_⟩))
        go_meet
        case rel => exact ⟨_, (true), (by first | rfl | (simp; done) | (simp [*]; done)), H', ⟨by first | omega | exact Nat.le_refl _⟩, ⟨by repeat (first | (with_reducible first | exact HB.out | apply below_alloc | apply pw_below_drewN | apply below_drew1) | exact HB.out)⟩⟩
    case rest =>
      clear HC7
      try clear c1
      try clear c2
      try clear p2
      try clear c3
      try clear c5
      try clear c11
      try clear c11b0
      try clear c11b1
      obtain ⟨kq, x30_6, rfl, HA, HJ6, HB⟩ := hcut
      cases kq with
      | zero => exact absurd HA.out (by simp [grafterlaw17_JournalTurned.j0])
      | succ kj6 =>
        have H := HA.out
        clear HA
        simp only [grafterlaw17_JournalTurned.j0] at H
        by_cases c12 : x30_6 = true
        · subst c12
          have H1 : ((grafterlaw0_Num.f t161).bind fun t163 => (if t163 = 0 then (some true) else (some (t160.toList == ([] : List UInt8))))) = some r := by rw [if_pos rfl] at H; exact H
          clear H
          have H := H1
          clear H1
          replace H := Option.bind_eq_some_iff.mp H
          obtain ⟨t163, A130, H⟩ := H
          replace H : (if t163 = 0 then (some true) else (some (t160.toList == ([] : List UInt8)))) = some r := H
          have A13 := Aside0.mk A130
          clear A130
          by_cases c14 : t163 = 0
          · rw [if_pos c14] at H
            have c14b0 : (t163 == 0) = true := beq_iff_eq.mpr c14
            have c14b1 : (t163 != 0) = false := bne_eq_false_iff_eq.mpr c14
            clear c14
            obtain rfl := Option.some.inj H
            go_wp2_with (first | ((with_reducible refine gate_callee (f := 26) rfl ?_); refine goesL_ (some 32) rfl rfl Try.func26 (by kernel_rfl) rfl #[.int .i64 t161] rfl (by (try simp only [List.map_toArray, List.map_cons, List.map_nil]); first | done | rfl | (simp only [List.length_drop, List.length_take]; rfl)) ?_; (with_reducible refine (grafterlaw0_Num.calls t161 t163 _ A13.out).mono ?_); rintro e w' ⟨rfl, ⟨nd, rfl⟩⟩; refine ⟨_, rfl, ?_⟩))
            go_ret
            exact ⟨by first | rfl | (simp [errW_none, errW_some] <;> rfl) | (simp [*, errW_none, errW_some] <;> rfl), by repeat (first | (with_reducible first | exact HB.out | apply below_alloc | apply pw_below_drewN | apply below_drew1) | exact HB.out)⟩
          · rw [if_neg c14] at H
            have c14b0 : (t163 == 0) = false := beq_eq_false_iff_ne.mpr c14
            have c14b1 : (t163 != 0) = true := bne_iff_ne.mpr c14
            obtain rfl := Option.some.inj H
            go_wp2_with (first | ((with_reducible refine gate_callee (f := 26) rfl ?_); refine goesL_ (some 32) rfl rfl Try.func26 (by kernel_rfl) rfl #[.int .i64 t161] rfl (by (try simp only [List.map_toArray, List.map_cons, List.map_nil]); first | done | rfl | (simp only [List.length_drop, List.length_take]; rfl)) ?_; (with_reducible refine (grafterlaw0_Num.calls t161 t163 _ A13.out).mono ?_); rintro e w' ⟨rfl, ⟨nd, rfl⟩⟩; refine ⟨_, rfl, ?_⟩))
            go_ret
            exact ⟨by first | rfl | (simp [errW_none, errW_some] <;> rfl) | (simp [*, errW_none, errW_some] <;> rfl), by repeat (first | (with_reducible first | exact HB.out | apply below_alloc | apply pw_below_drewN | apply below_drew1) | exact HB.out)⟩
        · replace c12 := Bool.eq_false_iff.mpr c12
          subst c12
          have H1 : (if (IntKind.u64.wrap ((l0.length : Int))) = 0 then (none) else (grafterlaw17_JournalTurned.l0 kj6 l0 a2 t160 (wrap64 (Int.tmod (IntKind.u64.wrap (a1)) (IntKind.u64.wrap ((l0.length : Int))))) 0 0)) = some r := by rw [if_neg (show ¬ (false = true) by decide)] at H; exact H
          clear H
          have H := H1
          clear H1
          by_cases c15 : (IntKind.u64.wrap ((l0.length : Int))) = 0
          · rw [if_pos c15] at H
            exact absurd H (by simp)
          · rw [if_neg c15] at H
            have c15b0 : ((IntKind.u64.wrap ((l0.length : Int))) == 0) = false := beq_eq_false_iff_ne.mpr c15
            have c15b1 : ((IntKind.u64.wrap ((l0.length : Int))) != 0) = true := bne_iff_ne.mpr c15
            have H' := Aside0.mk H
            clear H
            go_wp2
            go_loopg [10, 11] kj6 (fun kq v10 v11 w' => ∃ (x10_2 : Int) (x11_2 : Int), v10 = .int .i64 x10_2 ∧ v11 = .int .i64 x11_2 ∧ Aside0 (grafterlaw17_JournalTurned.l0 kq l0 a2 t160 (wrap64 (Int.tmod (IntKind.u64.wrap (a1)) (IntKind.u64.wrap ((l0.length : Int))))) x10_2 x11_2 = some r) ∧ Aside0 (kq ≤ kj6) ∧ Aside0 (Below w.heap.size w w'))
            case atStart => exact ⟨(0), (0), (by first | rfl | (simp; done) | (simp [*]; done)), (by first | rfl | (simp; done) | (simp [*]; done)), H', ⟨Nat.le_refl _⟩, ⟨by repeat (first | (with_reducible first | exact HB.out | apply below_alloc | apply pw_below_drewN | apply below_drew1) | exact HB.out)⟩⟩
            case round =>
              clear H'
              try clear c1
              try clear c2
              try clear p2
              try clear c3
              try clear c5
              try clear p6
              try clear c11
              try clear c11b0
              try clear c11b1
              try clear c12
              try clear c13
              try clear c14
              try clear c14b0
              try clear c14b1
              try clear c15
              try clear c15b0
              try clear c15b1
              try clear p2
              obtain ⟨x10_2, x11_2, rfl, rfl, HA, HK2, HB⟩ := hrel
              cases gk with
              | zero => exact absurd HA.out (by simp [grafterlaw17_JournalTurned.l0])
              | succ k2 =>
                have H := HA.out
                clear HA
                simp only [grafterlaw17_JournalTurned.l0] at H
                by_cases c16 : x11_2 < (wrap64 (Int.tmod (IntKind.u64.wrap (a1)) (IntKind.u64.wrap ((l0.length : Int)))))
                · rw [if_pos c16] at H
                  have c16b0 : decide (x11_2 < (wrap64 (Int.tmod (IntKind.u64.wrap (a1)) (IntKind.u64.wrap ((l0.length : Int)))))) = true := decide_eq_true c16
                  clear c16
                  by_cases c17 : 0 ≤ x11_2
                  · rw [if_pos c17] at H
                    have c17b0 : decide (0 ≤ x11_2) = true := decide_eq_true c17
                    clear c17
                    by_cases c18 : x11_2 < (l0.length : Int)
                    · rw [if_pos c18] at H
                      have c18b0 : decide (x11_2 < (l0.length : Int)) = true := decide_eq_true c18
                      clear c18
                      have H' := Aside0.mk H
                      clear H
                      have p164 : 0 ≤ (x11_2 : Int) := of_decide_eq_true (by first | (with_reducible assumption) | assumption)
                      have q164 : x11_2 < (l0.length : Int) := of_decide_eq_true (by first | (with_reducible assumption) | assumption)
                      obtain ⟨ad164, e164, hx164_0⟩ := Kd.at_string HR0.out x11_2 p164 q164
                      cases e164
                      replace hx164_0 := (HB.out.cell (World.block_lt_of_cell? w _ hx164_0)).trans hx164_0
                      replace p164 := eq_true p164
                      replace q164 := eq_true q164
                      go_wp2
                      go_roundg k2
                      case measure => have := HJ6.out; have := HK2.out; omega
                      case rel => exact ⟨(wrap64 ((wrap64 (x10_2 + 6)) + ((rdOf ByteArray.empty l0 x11_2).size : Int))), (wrap64 (x11_2 + 1)), (by first | rfl | (simp; done) | (simp [*]; done)), (by first | rfl | (simp; done) | (simp [*]; done)), H', ⟨by have := HJ6.out; have := HK2.out; omega⟩, ⟨by repeat (first | (with_reducible first | exact HB.out | apply below_alloc | apply pw_below_drewN | apply below_drew1) | exact HB.out)⟩⟩
                    · rw [if_neg c18] at H
                      exact absurd H (by simp)
                  · rw [if_neg c17] at H
                    exact absurd H (by simp)
                · rw [if_neg c16] at H
                  have c16b0 : decide (x11_2 < (wrap64 (Int.tmod (IntKind.u64.wrap (a1)) (IntKind.u64.wrap ((l0.length : Int)))))) = false := decide_eq_false c16
                  clear c16
                  obtain ⟨y165, hy165⟩ : ∃ y_ : List Int, y_ = (([] : List Int)) := ⟨_, rfl⟩
                  replace H : (if y165.length + t160.size < 140737488355328 then ((some (y165 ++ bytesOf t160 : List Int)).bind fun y168 => (if 0 ≤ (wrap64 (Int.tmod (IntKind.u64.wrap (a1)) (IntKind.u64.wrap ((l0.length : Int))))) then (if (wrap64 (Int.tmod (IntKind.u64.wrap (a1)) (IntKind.u64.wrap ((l0.length : Int))))) < (l0.length : Int) then (if (IntKind.u64.wrap (wrap64 (((rdOf ByteArray.empty l0 (wrap64 (Int.tmod (IntKind.u64.wrap (a1)) (IntKind.u64.wrap ((l0.length : Int)))))).size : Int) + 4))) = 0 then (none) else (if (wrap64 ((wrap64 (x10_2 + 2)) + (wrap64 (Int.tmod (IntKind.u64.wrap (a2)) (IntKind.u64.wrap (wrap64 (((rdOf ByteArray.empty l0 (wrap64 (Int.tmod (IntKind.u64.wrap (a1)) (IntKind.u64.wrap ((l0.length : Int)))))).size : Int) + 4))))))) ≥ (y168.length : Int) then (some false) else (if 0 ≤ (wrap64 ((wrap64 (x10_2 + 2)) + (wrap64 (Int.tmod (IntKind.u64.wrap (a2)) (IntKind.u64.wrap (wrap64 (((rdOf ByteArray.empty l0 (wrap64 (Int.tmod (IntKind.u64.wrap (a1)) (IntKind.u64.wrap ((l0.length : Int)))))).size : Int) + 4))))))) then (if (wrap64 ((wrap64 (x10_2 + 2)) + (wrap64 (Int.tmod (IntKind.u64.wrap (a2)) (IntKind.u64.wrap (wrap64 (((rdOf ByteArray.empty l0 (wrap64 (Int.tmod (IntKind.u64.wrap (a1)) (IntKind.u64.wrap ((l0.length : Int)))))).size : Int) + 4))))))) < (y168.length : Int) then ((journal_Load.f k2 (strOfNums (y168.set ((wrap64 ((wrap64 (x10_2 + 2)) + (wrap64 (Int.tmod (IntKind.u64.wrap (a2)) (IntKind.u64.wrap (wrap64 (((rdOf ByteArray.empty l0 (wrap64 (Int.tmod (IntKind.u64.wrap (a1)) (IntKind.u64.wrap ((l0.length : Int)))))).size : Int) + 4))))))) : Int).toNat (Go.bits .xor .u8 (rd y168 (wrap64 ((wrap64 (x10_2 + 2)) + (wrap64 (Int.tmod (IntKind.u64.wrap (a2)) (IntKind.u64.wrap (wrap64 (((rdOf ByteArray.empty l0 (wrap64 (Int.tmod (IntKind.u64.wrap (a1)) (IntKind.u64.wrap ((l0.length : Int)))))).size : Int) + 4)))))))) ((wrap64 (1 + (Go.bits .and .i64 a2 127))) % 256))))).bind fun bt174 => (if (wrap64 (Int.tmod (IntKind.u64.wrap (a1)) (IntKind.u64.wrap ((l0.length : Int))))) ≤ (l0.length : Int) then ((grafterlaw0_SameTexts.f k2 bt174.1 (l0.take ((wrap64 (Int.tmod (IntKind.u64.wrap (a1)) (IntKind.u64.wrap ((l0.length : Int))))) : Int).toNat)).bind fun t179 => (if t179 = true then (some (bt174.2 == x10_2)) else (some false))) else (none))) else (none)) else (none)))) else (none)) else (none))) else (none)) = some r := by first | (rw [hy165]; with_reducible exact H) | (have H2_ := (Option.bind_some _ _).symm.trans H; rw [hy165]; with_reducible exact H2_) | (have H2_ := (Option.bind_some _ _).symm.trans H; with_reducible exact H2_) | with_reducible exact H | (rw [hy165]; exact H) | exact H
                  have Ny165 := Aside0.mk hy165
                  clear hy165
                  by_cases c19 : y165.length + t160.size < 140737488355328
                  · rw [if_pos c19] at H
                    have LMc19 := Aside0.mk c19
                    clear c19
                    obtain ⟨y168, hy168⟩ : ∃ y_ : List Int, y_ = (y165 ++ bytesOf t160) := ⟨_, rfl⟩
                    replace H : (if 0 ≤ (wrap64 (Int.tmod (IntKind.u64.wrap (a1)) (IntKind.u64.wrap ((l0.length : Int))))) then (if (wrap64 (Int.tmod (IntKind.u64.wrap (a1)) (IntKind.u64.wrap ((l0.length : Int))))) < (l0.length : Int) then (if (IntKind.u64.wrap (wrap64 (((rdOf ByteArray.empty l0 (wrap64 (Int.tmod (IntKind.u64.wrap (a1)) (IntKind.u64.wrap ((l0.length : Int)))))).size : Int) + 4))) = 0 then (none) else (if (wrap64 ((wrap64 (x10_2 + 2)) + (wrap64 (Int.tmod (IntKind.u64.wrap (a2)) (IntKind.u64.wrap (wrap64 (((rdOf ByteArray.empty l0 (wrap64 (Int.tmod (IntKind.u64.wrap (a1)) (IntKind.u64.wrap ((l0.length : Int)))))).size : Int) + 4))))))) ≥ (y168.length : Int) then (some false) else (if 0 ≤ (wrap64 ((wrap64 (x10_2 + 2)) + (wrap64 (Int.tmod (IntKind.u64.wrap (a2)) (IntKind.u64.wrap (wrap64 (((rdOf ByteArray.empty l0 (wrap64 (Int.tmod (IntKind.u64.wrap (a1)) (IntKind.u64.wrap ((l0.length : Int)))))).size : Int) + 4))))))) then (if (wrap64 ((wrap64 (x10_2 + 2)) + (wrap64 (Int.tmod (IntKind.u64.wrap (a2)) (IntKind.u64.wrap (wrap64 (((rdOf ByteArray.empty l0 (wrap64 (Int.tmod (IntKind.u64.wrap (a1)) (IntKind.u64.wrap ((l0.length : Int)))))).size : Int) + 4))))))) < (y168.length : Int) then ((journal_Load.f k2 (strOfNums (y168.set ((wrap64 ((wrap64 (x10_2 + 2)) + (wrap64 (Int.tmod (IntKind.u64.wrap (a2)) (IntKind.u64.wrap (wrap64 (((rdOf ByteArray.empty l0 (wrap64 (Int.tmod (IntKind.u64.wrap (a1)) (IntKind.u64.wrap ((l0.length : Int)))))).size : Int) + 4))))))) : Int).toNat (Go.bits .xor .u8 (rd y168 (wrap64 ((wrap64 (x10_2 + 2)) + (wrap64 (Int.tmod (IntKind.u64.wrap (a2)) (IntKind.u64.wrap (wrap64 (((rdOf ByteArray.empty l0 (wrap64 (Int.tmod (IntKind.u64.wrap (a1)) (IntKind.u64.wrap ((l0.length : Int)))))).size : Int) + 4)))))))) ((wrap64 (1 + (Go.bits .and .i64 a2 127))) % 256))))).bind fun bt174 => (if (wrap64 (Int.tmod (IntKind.u64.wrap (a1)) (IntKind.u64.wrap ((l0.length : Int))))) ≤ (l0.length : Int) then ((grafterlaw0_SameTexts.f k2 bt174.1 (l0.take ((wrap64 (Int.tmod (IntKind.u64.wrap (a1)) (IntKind.u64.wrap ((l0.length : Int))))) : Int).toNat)).bind fun t179 => (if t179 = true then (some (bt174.2 == x10_2)) else (some false))) else (none))) else (none)) else (none)))) else (none)) else (none)) = some r := by first | (rw [hy168]; with_reducible exact H) | (have H2_ := (Option.bind_some _ _).symm.trans H; rw [hy168]; with_reducible exact H2_) | (have H2_ := (Option.bind_some _ _).symm.trans H; with_reducible exact H2_) | with_reducible exact H | (rw [hy168]; exact H) | exact H
                    have Ny168 := Aside0.mk hy168
                    clear hy168
                    obtain ⟨ji20, hji20⟩ : ∃ j_ : Int, (wrap64 (Int.tmod (IntKind.u64.wrap (a1)) (IntKind.u64.wrap ((l0.length : Int))))) = j_ := ⟨_, rfl⟩
                    replace H : (if 0 ≤ (ji20) then (if (ji20) < (l0.length : Int) then (if (IntKind.u64.wrap (wrap64 (((rdOf ByteArray.empty l0 (ji20)).size : Int) + 4))) = 0 then (none) else (if (wrap64 ((wrap64 (x10_2 + 2)) + (wrap64 (Int.tmod (IntKind.u64.wrap (a2)) (IntKind.u64.wrap (wrap64 (((rdOf ByteArray.empty l0 (ji20)).size : Int) + 4))))))) ≥ (y168.length : Int) then (some false) else (if 0 ≤ (wrap64 ((wrap64 (x10_2 + 2)) + (wrap64 (Int.tmod (IntKind.u64.wrap (a2)) (IntKind.u64.wrap (wrap64 (((rdOf ByteArray.empty l0 (ji20)).size : Int) + 4))))))) then (if (wrap64 ((wrap64 (x10_2 + 2)) + (wrap64 (Int.tmod (IntKind.u64.wrap (a2)) (IntKind.u64.wrap (wrap64 (((rdOf ByteArray.empty l0 (ji20)).size : Int) + 4))))))) < (y168.length : Int) then ((journal_Load.f k2 (strOfNums (y168.set ((wrap64 ((wrap64 (x10_2 + 2)) + (wrap64 (Int.tmod (IntKind.u64.wrap (a2)) (IntKind.u64.wrap (wrap64 (((rdOf ByteArray.empty l0 (ji20)).size : Int) + 4))))))) : Int).toNat (Go.bits .xor .u8 (rd y168 (wrap64 ((wrap64 (x10_2 + 2)) + (wrap64 (Int.tmod (IntKind.u64.wrap (a2)) (IntKind.u64.wrap (wrap64 (((rdOf ByteArray.empty l0 (ji20)).size : Int) + 4)))))))) ((wrap64 (1 + (Go.bits .and .i64 a2 127))) % 256))))).bind fun bt174 => (if (ji20) ≤ (l0.length : Int) then ((grafterlaw0_SameTexts.f k2 bt174.1 (l0.take ((ji20) : Int).toNat)).bind fun t179 => (if t179 = true then (some (bt174.2 == x10_2)) else (some false))) else (none))) else (none)) else (none)))) else (none)) else (none)) = some r := by first | (rw [hji20] at H; exact H) | (simp only [hji20] at H ⊢; exact H)
                    (try rw [hji20] at c16b0)
                    have hji20w : (IntKind.i64.wrap (Int.tmod (IntKind.u64.wrap (a1)) (IntKind.u64.wrap ((l0.length : Int))))) = ji20 := (i64_w _).trans hji20
                    by_cases c21 : 0 ≤ (ji20)
                    · rw [if_pos c21] at H
                      have c21b0 : decide (0 ≤ (ji20)) = true := decide_eq_true c21
                      clear c21
                      by_cases c22 : (ji20) < (l0.length : Int)
                      · rw [if_pos c22] at H
                        have c22b0 : decide ((ji20) < (l0.length : Int)) = true := decide_eq_true c22
                        clear c22
                        by_cases c23 : (IntKind.u64.wrap (wrap64 (((rdOf ByteArray.empty l0 (ji20)).size : Int) + 4))) = 0
                        · rw [if_pos c23] at H
                          exact absurd H (by simp)
                        · rw [if_neg c23] at H
                          have c23b0 : ((IntKind.u64.wrap (wrap64 (((rdOf ByteArray.empty l0 (ji20)).size : Int) + 4))) == 0) = false := beq_eq_false_iff_ne.mpr c23
                          have c23b1 : ((IntKind.u64.wrap (wrap64 (((rdOf ByteArray.empty l0 (ji20)).size : Int) + 4))) != 0) = true := bne_iff_ne.mpr c23
                          by_cases c24 : (wrap64 ((wrap64 (x10_2 + 2)) + (wrap64 (Int.tmod (IntKind.u64.wrap (a2)) (IntKind.u64.wrap (wrap64 (((rdOf ByteArray.empty l0 (ji20)).size : Int) + 4))))))) ≥ (y168.length : Int)
                          · rw [if_pos c24] at H
                            have c24b0 : decide ((y168.length : Int) ≤ (wrap64 ((wrap64 (x10_2 + 2)) + (wrap64 (Int.tmod (IntKind.u64.wrap (a2)) (IntKind.u64.wrap (wrap64 (((rdOf ByteArray.empty l0 (ji20)).size : Int) + 4)))))))) = true := decide_eq_true c24
                            clear c24
                            exact absurd ((Option.some.inj H).trans HRT.out) Bool.false_ne_true
                          · rw [if_neg c24] at H
                            have c24b0 : decide ((y168.length : Int) ≤ (wrap64 ((wrap64 (x10_2 + 2)) + (wrap64 (Int.tmod (IntKind.u64.wrap (a2)) (IntKind.u64.wrap (wrap64 (((rdOf ByteArray.empty l0 (ji20)).size : Int) + 4)))))))) = false := decide_eq_false c24
                            clear c24
                            obtain ⟨ji29, hji29⟩ : ∃ j_ : Int, (wrap64 ((wrap64 (x10_2 + 2)) + (wrap64 (Int.tmod (IntKind.u64.wrap (a2)) (IntKind.u64.wrap (wrap64 (((rdOf ByteArray.empty l0 (ji20)).size : Int) + 4))))))) = j_ := ⟨_, rfl⟩
                            replace H : (if 0 ≤ (ji29) then (if (ji29) < (y168.length : Int) then ((journal_Load.f k2 (strOfNums (y168.set ((ji29) : Int).toNat (Go.bits .xor .u8 (rd y168 (ji29)) ((wrap64 (1 + (Go.bits .and .i64 a2 127))) % 256))))).bind fun bt174 => (if (ji20) ≤ (l0.length : Int) then ((grafterlaw0_SameTexts.f k2 bt174.1 (l0.take ((ji20) : Int).toNat)).bind fun t179 => (if t179 = true then (some (bt174.2 == x10_2)) else (some false))) else (none))) else (none)) else (none)) = some r := by first | (rw [hji29] at H; exact H) | (simp only [hji29] at H ⊢; exact H)
                            (try rw [hji29] at c24b0)
                            have hji29w : (IntKind.i64.wrap ((wrap64 (x10_2 + 2)) + (wrap64 (Int.tmod (IntKind.u64.wrap (a2)) (IntKind.u64.wrap (wrap64 (((rdOf ByteArray.empty l0 (ji20)).size : Int) + 4))))))) = ji29 := (i64_w _).trans hji29
                            by_cases c30 : 0 ≤ (ji29)
                            · rw [if_pos c30] at H
                              have c30b0 : decide (0 ≤ (ji29)) = true := decide_eq_true c30
                              clear c30
                              by_cases c31 : (ji29) < (y168.length : Int)
                              · rw [if_pos c31] at H
                                have c31b0 : decide ((ji29) < (y168.length : Int)) = true := decide_eq_true c31
                                clear c31
                                obtain ⟨y173, hy173⟩ : ∃ y_ : List Int, y_ = (y168.set ((ji29) : Int).toNat (Go.bits .xor .u8 (rd y168 (ji29)) ((wrap64 (1 + (Go.bits .and .i64 a2 127))) % 256))) := ⟨_, rfl⟩
                                replace H : ((journal_Load.f k2 (strOfNums y173)).bind fun bt174 => (if (ji20) ≤ (l0.length : Int) then ((grafterlaw0_SameTexts.f k2 bt174.1 (l0.take ((ji20) : Int).toNat)).bind fun t179 => (if t179 = true then (some (bt174.2 == x10_2)) else (some false))) else (none))) = some r := by first | (rw [hy173]; with_reducible exact H) | (have H2_ := (Option.bind_some _ _).symm.trans H; rw [hy173]; with_reducible exact H2_) | (have H2_ := (Option.bind_some _ _).symm.trans H; with_reducible exact H2_) | with_reducible exact H | (rw [hy173]; exact H) | exact H
                                have Ny173 := Aside0.mk hy173
                                clear hy173
                                replace H := Option.bind_eq_some_iff.mp H
                                obtain ⟨⟨t174, t175⟩, A330, H⟩ := H
                                replace H : (if (ji20) ≤ (l0.length : Int) then ((grafterlaw0_SameTexts.f k2 t174 (l0.take ((ji20) : Int).toNat)).bind fun t179 => (if t179 = true then (some (t175 == x10_2)) else (some false))) else (none)) = some r := H
                                have A33 := Aside0.mk A330
                                clear A330
                                have c34b0 := eq_true (of_decide_eq_true (by first | (with_reducible assumption) | assumption) : 0 ≤ (ji20))
                                by_cases c35 : (ji20) ≤ (l0.length : Int)
                                · rw [if_pos c35] at H
                                  have c35b0 := eq_true c35
                                  have c35b1 : decide ((ji20) ≤ (l0.length : Int)) = true := decide_eq_true c35
                                  clear c35
                                  replace H := Option.bind_eq_some_iff.mp H
                                  obtain ⟨t179, A360, H⟩ := H
                                  replace H : (if t179 = true then (some (t175 == x10_2)) else (some false)) = some r := H
                                  have A36 := Aside0.mk A360
                                  clear A360
                                  by_cases c37 : t179 = true
                                  · subst c37
                                    have H1 : (some (t175 == x10_2)) = some r := by rw [if_pos rfl] at H; exact H
                                    clear H
                                    have H := H1
                                    clear H1
                                    obtain rfl := Option.some.inj H
                                    obtain ⟨W1, hW1⟩ : ∃ W1, W1 = Lib.bytesWorld wr 5 t160 := ⟨_, rfl⟩
                                    obtain ⟨Ao41, hgS⟩ : ∃ g : Option Addr, g = some ⟨wr.heap.size, 0, none⟩ := ⟨_, rfl⟩
                                    obtain ⟨co41, hco⟩ : ∃ c, c = grownCap wr t160.size 0 5 := ⟨_, rfl⟩
                                    have hyl : y168.length = t160.size := by rw [Ny168.out, Ny165.out, List.nil_append, bytesOf_length]
                                    have kc : (convert 9 34 (.string t160)).run Try.prog wr = .ok (.slice Ao41 y168.length co41) W1 := by
                                      rw [hW1, hgS, hco, hyl]
                                      exact Lib.run_convert_string_bytes wr 9 34 5 t160 Try.underlying9 Try.underlying34 Try.underlying5
                                    have HO170 := Aside0.mk (show Go.Proofs.Ytbhkmgidokonkaa.Cv.RF W1 w.heap.size (.slice Ao41 y168.length co41) y168 by
                                      rw [hW1, hgS, hco, hyl, Ny168.out, Ny165.out, List.nil_append]
                                      exact Go.Proofs.Ytbhkmgidokonkaa.Cv.rf_made wr t160 (by have := LMc19.out; omega) w.heap.size HB.out.size)
                                    have HBn := Aside0.mk (show Below w.heap.size w W1 by
                                      rw [hW1]
                                      exact below_step HB.out (below_bytesWorld wr 5 t160))
                                    clear HB
                                    have HB := HBn
                                    clear HBn hW1 hgS hco hyl
                                    (have p171 : 0 ≤ ((ji20) : Int) := of_decide_eq_true (by first | (with_reducible assumption) | assumption); have q171 : (ji20) < (l0.length : Int) := of_decide_eq_true (by first | (with_reducible assumption) | assumption); obtain ⟨ad171, e171, hx171_0⟩ := Kd.at_string HR0.out (ji20) p171 q171; cases e171; replace hx171_0 := (HB.out.cell (World.block_lt_of_cell? w _ hx171_0)).trans hx171_0; replace p171 := eq_true p171; replace q171 := eq_true q171; have p172 : 0 ≤ ((ji29) : Int) := of_decide_eq_true (by first | (with_reducible assumption) | assumption); have q172 : (ji29) < (y168.length : Int) := of_decide_eq_true (by first | (with_reducible assumption) | assumption); obtain ⟨ad172, e172, hx172_0⟩ := Kd.at_int (Go.Proofs.Ytbhkmgidokonkaa.Cv.rf_C HO170.out) (ji29) p172 q172; cases e172; replace p172 := eq_true p172; replace q172 := eq_true q172; have p32 : 0 ≤ ((ji29) : Int) := of_decide_eq_true (by first | (with_reducible assumption) | assumption); have q32 : ((ji29) : Int) < ((y168.length : Int) : Int) := of_decide_eq_true (by first | (with_reducible assumption) | assumption); obtain ⟨go32, co32, eo32, gb32, gl32, cl32, HG32⟩ := Go.Proofs.Ytbhkmgidokonkaa.Cv.rf_form HO170.out (by omega); (first | cases eo32 | (injection eo32 with ea_ en_ ec_; (first | subst ea_ | (injection ea_ with ea_; subst ea_)); subst ec_; clear en_)); have GB32 := Aside0.mk gb32; have GG32 := Aside0.mk HG32; clear gb32 gl32 HG32; (first | simp only [add_plain] at hx172_0 | skip); obtain ⟨hx32_0, hf32_0⟩ := Go.Proofs.Ytbhkmgidokonkaa.Cv.rf_celln HO170.out ((ji29) : Int) p32 q32; replace p32 := eq_true p32; replace q32 := eq_true q32; obtain ⟨hy42_, hz42_⟩ := Go.Proofs.Ytbhkmgidokonkaa.Cv.rf_celln HO170.out ((ji29) : Int) (of_decide_eq_true (by first | (with_reducible assumption) | assumption)) (of_decide_eq_true (by first | (with_reducible assumption) | assumption)); have HP42 := Go.Proofs.Ytbhkmgidokonkaa.Cv.rf_putg HO170.out ((ji29) : Int) (Go.bits .xor .u8 (rd y168 (ji29)) ((wrap64 (1 + (Go.bits .and .i64 a2 127))) % 256)))
                                    go_wp2_with (first | ((with_reducible refine gate_store (t := 5) (p := 89) rfl ?_); refine store_event (t := 5) (p := 89) (v := ?vo_w43) (w1 := (W1.setCell ⟨go32, ((ji29) : Int).toNat, none⟩ (.int .u8 (Go.bits .xor .u8 (rd y168 (ji29)) ((wrap64 (1 + (Go.bits .and .i64 a2 127))) % 256))))) ?hg ?ho ?hn ?hr ?_; (case ho => rfl); (case hg => rfl); (case hn => rfl); (case hr => first | (go_simp; done) | (go_simp; rfl)); intro w43 hw; have hg := True.intro; have hp_ : Go.Proofs.Ytbhkmgidokonkaa.Cv.RF w43 w.heap.size (.slice (some ⟨go32, 0, none⟩) y168.length co41) y173 := (by rw [hw, Ny173.out]; exact HP42.1); clear HP42; have n0_ := Aside0.mk (hp_); have n1_ := Aside0.mk ((by rw [hw]; exact below_set (HB.out) GB32.out : Below w.heap.size w w43)); clear HO170; clear HB; have HO170 := n0_; have HB := n1_; clear n0_ n1_; clear hg hw hp_; have hcv44 := Go.Proofs.Ytbhkmgidokonkaa.Cv.rf_string (P := Try.prog) Try.underlying34 Try.underlying5 Try.underlying9 HO170.out) | ((with_reducible refine gate_callee (f := 32) rfl ?_); refine goesL_ (some 93) rfl rfl Try.func32 (by kernel_rfl) rfl #[.string (strOfNums y173)] rfl (by (try simp only [List.map_toArray, List.map_cons, List.map_nil]); first | done | rfl | (simp only [List.length_drop, List.length_take]; rfl)) ?_; (with_reducible refine (journal_Load.calls k2 (strOfNums y173) t174 t175 _ A33.out).mono ?_); rintro e w45 ⟨v176, rfl, ho0, hb⟩; refine ⟨_, rfl, ?_⟩; have n0_ := Aside0.mk (Go.Proofs.Ytbhkmgidokonkaa.Cv.rf_below (by (with_reducible repeat (first | apply Go.Proofs.Ytbhkmgidokonkaa.Cv.rf_alloc | apply Go.Proofs.Ytbhkmgidokonkaa.Cv.rf_drewN | apply Go.Proofs.Ytbhkmgidokonkaa.Cv.rf_drew)); exact HO170.out) hb); have n1_ := Aside0.mk (Kd.R_lower ho0 (below_size (by repeat (first | (with_reducible first | exact HB.out | apply below_alloc | apply pw_below_drewN | apply below_drew1) | exact HB.out)))); have n2_ := Aside0.mk (below_step (by repeat (first | (with_reducible first | exact HB.out | apply below_alloc | apply pw_below_drewN | apply below_drew1) | exact HB.out)) hb); clear HO170; clear HB; have HO170 := n0_; have HO177 := n1_; have HB := n2_; clear n0_ n1_ n2_; (try clear hb); (try clear hb2); (try clear hk); (try clear hi); (try clear ho0); obtain ⟨i046, hi046, _, hsz46, _⟩ := info_parts info9; obtain ⟨hcut46, hA46, hC46⟩ := print_take_of (P := Try.prog) Value.string (⟨#[]⟩ : ByteArray) 42 9 .i64 Try.underlying42 hi046 hsz46 (some ad171) c0 l0 (ji20) (of_decide_eq_true (by first | (with_reducible assumption) | assumption)) (of_decide_eq_true (by first | (with_reducible assumption) | assumption)) HC0.out; have HR178 := Aside0.mk (Kd.C_of_reads (h1 := fun _ => rfl) (hA46 _ (Kd.reads_of_C HR0.out))); have HC178 := Aside0.mk hC46; clear hA46 hC46 hi046 hsz46; obtain ⟨Ao47, co47, eo47⟩ := Kd.R_slice HO177.out; subst eo47) | ((with_reducible refine gate_callee (f := 34) rfl ?_); refine goesL_ (some 100) rfl rfl Try.func34 (by kernel_rfl) rfl #[.slice Ao47 t174.length co47, .slice (some ad171) (l0.take ((ji20) : Int).toNat).length c0] rfl (by (try simp only [List.map_toArray, List.map_cons, List.map_nil]); first | done | (rw [show (l0.take ((ji20) : Int).toNat).length = (ji20).toNat from (by rw [List.length_take]; have h_ : ((ji20) : Int) ≤ (l0.length : Int) := of_decide_eq_true (by first | (with_reducible assumption) | assumption); omega)] <;> rfl) | (simp only [hji20]; rfl) | rfl | (simp only [List.length_drop, List.length_take]; rfl)) ?_; (with_reducible refine (grafterlaw0_SameTexts.calls k2 _ _ t174 _ _ (l0.take ((ji20) : Int).toNat) true _ ?side1 ?side2 ?side3 ?side4 A36.out).mono ?_); (case side1 => repeat (first | exact (Kd.R_reads' HO177.out).2.2 | (with_reducible refine Kd.C_alloc ?_ _) | (with_reducible refine Kd.C_drewN ?_ _) | (with_reducible refine Kd.C_drew ?_))); (case side2 => exact (Kd.R_reads' HO177.out).2.1); (case side3 => repeat (first | exact (Kd.C_below HR178.out HB.out) | (with_reducible refine Kd.C_alloc ?_ _) | (with_reducible refine Kd.C_drewN ?_ _) | (with_reducible refine Kd.C_drew ?_))); (case side4 => exact HC178.out); rintro e w' ⟨rfl, ⟨nd, rfl⟩⟩; refine ⟨_, rfl, ?_⟩))
                                    go_ret
                                    exact ⟨by first | rfl | (simp [errW_none, errW_some] <;> rfl) | (simp only [← hji20, ← hji29]; first | rfl | (simp [errW_none, errW_some] <;> rfl)) | (simp [*, errW_none, errW_some] <;> rfl), by repeat (first | (with_reducible first | exact HB.out | apply below_alloc | apply pw_below_drewN | apply below_drew1) | exact HB.out)⟩
                                  · replace c37 := Bool.eq_false_iff.mpr c37
                                    subst c37
                                    have H1 : (some false) = some r := by rw [if_neg (show ¬ (false = true) by decide)] at H; exact H
                                    clear H
                                    have H := H1
                                    clear H1
                                    exact absurd ((Option.some.inj H).trans HRT.out) Bool.false_ne_true
                                · rw [if_neg c35] at H
                                  exact absurd H (by simp)
                              · rw [if_neg c31] at H
                                exact absurd H (by simp)
                            · rw [if_neg c30] at H
                              exact absurd H (by simp)
                      · rw [if_neg c22] at H
                        exact absurd H (by simp)
                    · rw [if_neg c21] at H
                      exact absurd H (by simp)
                  · rw [if_neg c19] at H
                    exact absurd H (by simp)
  · replace c5 := Bool.eq_false_iff.mpr c5
    subst c5
    have H1 : (some false) = some r := by rw [if_neg (show ¬ (false = true) by decide)] at H; exact H
    clear H
    have H := H1
    clear H1
    exact absurd ((Option.some.inj H).trans HRT.out) Bool.false_ne_true

def grafterlaw17_JournalTurned.Pure : Prop := ∀ (l0 : List ByteArray) (a1 : Int) (a2 : Int), l0.length * 16 ≤ 140737488351232 → (Lit.int .i64 a1).wf = true → (Lit.int .i64 a2).wf = true → ∃ k, grafterlaw17_JournalTurned.f k l0 a1 a2 = some true
theorem grafterlaw17_JournalTurned.walk (P : grafterlaw17_JournalTurned.Pure) (a0 : Option Addr) (cap0 : Nat) (l0 : List ByteArray) (a1 : Int) (a2 : Int) (w : World) (hr0 : Kd.C Kd.string w a0 l0.length l0) (hc0 : l0.length ≤ cap0) (y0 : l0.length * 16 ≤ 140737488351232) (w1 : (Lit.int .i64 a1).wf = true) (w2 : (Lit.int .i64 a2).wf = true) :
    Calls Try.prog 13 #[.slice a0 l0.length cap0, .int .i64 a1, .int .i64 a2] w fun e w' => e = .returned (.bool true) ∧ Below w.heap.size w w' := by
  obtain ⟨k, h⟩ := P l0 a1 a2 y0 w1 w2
  refine (grafterlaw17_JournalTurned.calls k _ _ l0 a1 a2 true w rfl hr0 hc0 h).mono ?_
  rintro e w' ⟨rfl, hd⟩
  exact ⟨rfl, hd⟩

end Go.Proofs.Ytbhkmgidokonkaa.PJournalTurned
