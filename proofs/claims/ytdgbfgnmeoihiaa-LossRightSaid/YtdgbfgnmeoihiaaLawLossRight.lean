import Derived.Test.YtdgbfgnmeoihiaaRows
import Derived.Test.YtdgbfgnmeoihiaaPLossRightx7
import Derived.Test.YtdgbfgnmeoihiaaPureLossRight
import Derived.WalkKit
import Derived.ProofKit
import Derived.OpenShut
import Derived.ShutString
import Derived.ChangeOld
import Derived.Below
import Derived.SizedLaws
import Derived.Lib.SmallJoins
import Derived.Test.YtdgbfgnmeoihiaaWSized
import Derived.Test.YtdgbfgnmeoihiaaHelpOpen
namespace Go.Proofs.Ytdgbfgnmeoihiaa.lossRight
open Go.ChangeShapes Go.WideShapes Go.ChangeAt Go.RowKit Go.Joins Go.Proofs.Ytdgbfgnmeoihiaa Go.Proofs.YtdgbfgnmeoihiaaW.PrintWords Go.Proofs.Ytdgbfgnmeoihiaa.PLossRight
open Go.ChangeMaps (open_string shut_string)
set_option linter.unusedVariables false
set_option linter.unusedSimpArgs false
theorem own : ownKnob Try.prog.godebug = none := by kernel_rfl
theorem laidOut : laidOutB Try.prog = true := by kernel_rfl
theorem bytes3 : Try.prog.bytesOf 3 = 8 := by kernel_rfl
theorem bytes35 : Try.prog.bytesOf 35 = 32 := by kernel_rfl
set_option maxRecDepth 100000 in
theorem lifted (os : Os) (started : os.Started) (H : Type) (enc : TypeId × Value → H) :
    ReturnsInHanded {} Try.checked os 9 .any (Rows.lossRightSpec.pre6 enc Try.prog Try.f9 Rows.lossRightRow.domain false) (Rows.lossRightSpec.post enc Try.prog Try.f9 false true false false) := by
  refine returnsInHanded_of_change_sized (C := Try.checked) own started (by kernel_rfl) Try.func9
    (ChangeSpec.witness6 (enc := enc) (C := Try.checked) false ⟨#[], #[.agg #[.int .i64 0, .int .i64 0], .slice none 0 0, .slice none 0 0], []⟩ 8 (by kernel_rfl) (by kernel_rfl) (by kernel_rfl) (by kernel_rfl)) ?_
  intro W base args ds gs before hval0 hW hcnd hsz0 _
  have hsz : (DataW.weightsEach Try.prog (Try.f9.params.toList ++ Rows.lossRightSpec.plain.varTypes Try.prog) (ds ++ gs)).all (· ≤ reachBytes) = true := hsz0
  have hval : ∀ (j : Nat) t v, Try.f9.params[j]? = some t → args[j]? = some v → Value.okWide Try.prog W .any base t v := hval0
  have hW' := hW
  obtain ⟨p, q, hA0, hV, rfl, hfz, hnd⟩ := hW
  have hA : DataW.TrodAll enc Try.prog W 0 (fun _ => true) true Try.f9.params.toList args.toList ds p := hA0
  rw [Try.params9] at hA hval hsz
  obtain ⟨v0, vs0, d0, ds0, p0, q0, hargs, rfl, rfl, h0, r0⟩ := trodAll_cons hA
  obtain ⟨v1, vs1, d1, ds1, p1, q1, rfl, rfl, rfl, h1, r1⟩ := trodAll_cons r0
  obtain ⟨v2, vs2, d2, ds2, p2, q2, rfl, rfl, rfl, h2, r2⟩ := trodAll_cons r1
  obtain ⟨rfl, rfl, rfl⟩ := trodAll_nil r2
  obtain rfl : args = #[v0, v1, v2] := by cases args; simp_all
  obtain ⟨rfl, rfl⟩ := trodVars_none hV
  obtain ⟨cs0, rfl, hz0⟩ := okWide_struct Try.underlying23 (hval 0 23 v0 rfl rfl)
  have k0 := h0
  have lt0 : ∀ x ∈ p0, x.block < W.heap.size := by obtain ⟨m, hm⟩ := k0; exact DataW.trod_lt m _ _ _ hm
  obtain ⟨⟨a0_0, a0_1⟩, hK0, hG0⟩ := Op.open_str (Op.opens_pairs Try.underlying23 (by kernel_rfl) (Op.opensFs_cons (Op.opens_int Try.underlying3) (Op.opensFs_one (Op.opens_int Try.underlying3) rfl (by kernel_rfl)) rfl (by kernel_rfl))) (Op.fine_of hsz (j := 0) (t := 23) rfl rfl) h0
  obtain ⟨_, _, hcs0, rfl, rfl⟩ := hK0
  obtain ⟨w0_0_0, w0_1_0⟩ := hG0
  obtain ⟨csl0⟩ := cs0
  obtain rfl : csl0 = [.int .i64 a0_0, .int .i64 a0_1] := hcs0
  obtain ⟨A1, len1, c1, rfl⟩ := okWide_slice Try.underlying33 (hval 1 33 v1 rfl rfl)
  have k1 := h1
  have lt1 : ∀ x ∈ p1, x.block < W.heap.size := by obtain ⟨m, hm⟩ := k1; exact DataW.trod_lt m _ _ _ hm
  obtain ⟨l1, rfl, hc1, hr1, w1_0, w1_1, w1_2⟩ := Op.open_row (Op.opens_slice Try.underlying33 (by kernel_rfl) (Op.opens_int Try.underlying3)) (Op.fine_of hsz (j := 1) (t := 33) rfl rfl) h1
  simp only [bytes3, bytes35] at w1_1
  obtain ⟨A2, len2, c2, rfl⟩ := okWide_slice Try.underlying24 (hval 2 24 v2 rfl rfl)
  have k2 := h2
  have lt2 : ∀ x ∈ p2, x.block < W.heap.size := by obtain ⟨m, hm⟩ := k2; exact DataW.trod_lt m _ _ _ hm
  obtain ⟨l2, rfl, hc2, hr2, w2_0, w2_1, w2_2⟩ := Op.open_row (Op.opens_slice Try.underlying24 (by kernel_rfl) (Op.opens_struct Try.underlying35 (by kernel_rfl) (Op.opensFs_cons (Op.opens_slice Try.underlying33 (by kernel_rfl) (Op.opens_int Try.underlying3)) (Op.opensFs_one (Op.opens_int Try.underlying3) rfl (by kernel_rfl)) rfl (by kernel_rfl)) (fun x : S35 => (x.f0, x.f1)) (fun v => ⟨v.1, v.2⟩) (fun _ => rfl))) (Op.fine_of hsz (j := 2) (t := 24) rfl rfl) h2
  simp only [bytes3, bytes35] at w2_1 w2_2
  clear hA0 hval0 hsz0 hsz
  refine (PLossRight.grafterlaw10_LossRight.walk Pure.LossRight a0_0 a0_1 A1 c1 l1 A2 c2 l2 W w0_0_0 w0_1_0 hr1 hc1 w1_0 w1_1 w1_2 hr2 hc2 w2_0 w2_1 w2_2).mono fun e W' ⟨he, bel⟩ => ?_
  subst he
  exact ⟨_, rfl, _, _, _, [], _, [], hW', trodAll_mk1 (shut_bool Try.underlying4 _), (trodAll_cons_mk (Below.trod laidOut (by kernel_rfl) (of_decide_eq_true (by kernel_rfl)) k0 bel lt0) (trodAll_cons_mk (Below.trod laidOut (by kernel_rfl) (of_decide_eq_true (by kernel_rfl)) k1 bel lt1) (trodAll_cons_mk (Below.trod laidOut (by kernel_rfl) (of_decide_eq_true (by kernel_rfl)) k2 bel lt2) trodAll_mk0))), rfl, bel.frame _, fun h => by cases h⟩
theorem over : Rows.lossRightRow.holds Try.pinned (OpenSpec.ofChange Rows.lossRightSpec) :=
  OpenClaim.holds_of_wide 9 Try.f9 rfl rfl rfl rfl rfl rfl rfl ⟨rfl, rfl, rfl, rfl, rfl⟩ rfl rfl rfl rfl rfl (by kernel_rfl) Try.func9 (by kernel_rfl)
    (of_decide_eq_true (by kernel_rfl)) (by unfold Func.isWrapper; first | (rw [if_pos (by decide +kernel)]; kernel_rfl) | (rw [if_neg (by decide +kernel)]; exact ⟨rfl, rfl⟩))
    (fun os started H enc _ => lifted os started H enc)
theorem proved : Rows.LossRightSaid := over
#print axioms proved
end Go.Proofs.Ytdgbfgnmeoihiaa.lossRight
namespace Go.Proofs.Ytdgbfgnmeoihiaa
/-- The row, under a short name, for the claim. -/
theorem lossRight_holds : Rows.LossRightSaid := lossRight.proved
end Go.Proofs.Ytdgbfgnmeoihiaa
