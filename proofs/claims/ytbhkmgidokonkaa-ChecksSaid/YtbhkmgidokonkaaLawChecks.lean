import Derived.Test.YtbhkmgidokonkaaRows
import Derived.Test.YtbhkmgidokonkaaPChecksx10
import Derived.Test.YtbhkmgidokonkaaPureChecks
import Derived.WalkKit
import Derived.ProofKit
import Derived.OpenShut
import Derived.ShutString
import Derived.ChangeOld
import Derived.Below
import Derived.SizedLaws
import Derived.Lib.SmallJoins
import Derived.Test.YtbhkmgidokonkaaWSized
import Derived.Test.YtbhkmgidokonkaaHelpOpen
namespace Go.Proofs.Ytbhkmgidokonkaa.checks
open Go.ChangeShapes Go.WideShapes Go.ChangeAt Go.RowKit Go.Joins Go.Proofs.Ytbhkmgidokonkaa Go.Proofs.YtbhkmgidokonkaaW.PrintWords Go.Proofs.Ytbhkmgidokonkaa.PChecks
open Go.ChangeMaps (open_string shut_string)
set_option linter.unusedVariables false
set_option linter.unusedSimpArgs false
theorem own : ownKnob Try.prog.godebug = none := by kernel_rfl
theorem laidOut : laidOutB Try.prog = true := by kernel_rfl
theorem bytes3 : Try.prog.bytesOf 3 = 8 := by kernel_rfl
set_option maxRecDepth 100000 in
theorem lifted (os : Os) (started : os.Started) (H : Type) (enc : TypeId × Value → H) :
    ReturnsInHanded {} Try.checked os 14 .any (Rows.checksSpec.pre6 enc Try.prog Try.f14 Rows.checksRow.domain false) (Rows.checksSpec.post enc Try.prog Try.f14 false true false false) := by
  refine returnsInHanded_of_change_sized (C := Try.checked) own started (by kernel_rfl) Try.func14
    (ChangeSpec.witness6 (enc := enc) (C := Try.checked) false ⟨#[], #[.agg #[.slice none 0 0, .slice none 0 0, .int .i64 0, .int .i64 0, .int .i64 0], .string ByteArray.empty], []⟩ 8 (by kernel_rfl) (by kernel_rfl) (by kernel_rfl) (by kernel_rfl)) ?_
  intro W base args ds gs before hval0 hW hcnd hsz0 _
  have hsz : (DataW.weightsEach Try.prog (Try.f14.params.toList ++ Rows.checksSpec.plain.varTypes Try.prog) (ds ++ gs)).all (· ≤ reachBytes) = true := hsz0
  have hval : ∀ (j : Nat) t v, Try.f14.params[j]? = some t → args[j]? = some v → Value.okWide Try.prog W .any base t v := hval0
  have hW' := hW
  obtain ⟨p, q, hA0, hV, rfl, hfz, hnd⟩ := hW
  have hA : DataW.TrodAll enc Try.prog W 0 (fun _ => true) true Try.f14.params.toList args.toList ds p := hA0
  rw [Try.params14] at hA hval hsz
  obtain ⟨v0, vs0, d0, ds0, p0, q0, hargs, rfl, rfl, h0, r0⟩ := trodAll_cons hA
  obtain ⟨v1, vs1, d1, ds1, p1, q1, rfl, rfl, rfl, h1, r1⟩ := trodAll_cons r0
  obtain ⟨rfl, rfl, rfl⟩ := trodAll_nil r1
  obtain rfl : args = #[v0, v1] := by cases args; simp_all
  obtain ⟨rfl, rfl⟩ := trodVars_none hV
  obtain ⟨cs0, rfl, hz0⟩ := okWide_struct Try.underlying56 (hval 0 56 v0 rfl rfl)
  have k0 := h0
  have lt0 : ∀ x ∈ p0, x.block < W.heap.size := by obtain ⟨m, hm⟩ := k0; exact DataW.trod_lt m _ _ _ hm
  obtain ⟨⟨l0_0, l0_1, ⟨a0_2, a0_3⟩, a0_4⟩, hK0, hG0⟩ := Op.open_str (Op.opens_pairs Try.underlying56 (by kernel_rfl) (Op.opensFs_cons (Op.opens_slice Try.underlying37 (by kernel_rfl) (Op.opens_int Try.underlying3)) (Op.opensFs_cons (Op.opens_slice Try.underlying37 (by kernel_rfl) (Op.opens_int Try.underlying3)) (Op.opensFs_cons (Op.opens_pairs Try.underlying54 (by kernel_rfl) (Op.opensFs_cons (Op.opens_int Try.underlying3) (Op.opensFs_one (Op.opens_int Try.underlying3) rfl (by kernel_rfl)) rfl (by kernel_rfl))) (Op.opensFs_one (Op.opens_int Try.underlying3) rfl (by kernel_rfl)) rfl (by kernel_rfl)) rfl (by kernel_rfl)) rfl (by kernel_rfl))) (Op.fine_of hsz (j := 0) (t := 56) rfl rfl) h0
  obtain ⟨_, _, hcs0, ⟨A0_0, c0_0, rfl, hc0_0, hr0_0⟩, ⟨_, _, rfl, ⟨A0_1, c0_1, rfl, hc0_1, hr0_1⟩, ⟨_, _, rfl, ⟨_, _, rfl, rfl, rfl⟩, rfl⟩⟩⟩ := hK0
  obtain ⟨⟨w0_0_0, w0_0_1, w0_0_2⟩, ⟨w0_1_0, w0_1_1, w0_1_2⟩, ⟨w0_2_0, w0_3_0⟩, w0_4_0⟩ := hG0
  obtain ⟨csl0⟩ := cs0
  obtain rfl : csl0 = [.slice A0_0 l0_0.length c0_0, .slice A0_1 l0_1.length c0_1, .int .i64 a0_2, .int .i64 a0_3, .int .i64 a0_4] := hcs0
  simp only [bytes3] at w0_0_1
  simp only [bytes3] at w0_1_1
  obtain ⟨a1, rfl, rfl, rfl, y1⟩ := open_string Try.underlying9 (hval 1 9 v1 rfl rfl) h1
  have w1_0 : a1.size ≤ 140737488351232 := by
    have z := sized_string hsz (j := 1) (t := 9) rfl rfl
    rw [Array.length_toList] at z
    exact z
  clear hA0 hval0 hsz0 hsz
  refine (PChecks.grafterlaw14_Checks.walk Pure.Checks A0_0 c0_0 l0_0 A0_1 c0_1 l0_1 a0_2 a0_3 a0_4 a1 W hr0_0 hc0_0 w0_0_0 w0_0_1 w0_0_2 hr0_1 hc0_1 w0_1_0 w0_1_1 w0_1_2 w0_2_0 w0_3_0 w0_4_0 w1_0).mono fun e W' ⟨he, bel⟩ => ?_
  subst he
  exact ⟨_, rfl, _, _, _, [], _, [], hW', trodAll_mk1 (shut_bool Try.underlying4 _), (trodAll_cons_mk (Below.trod laidOut (by kernel_rfl) (of_decide_eq_true (by kernel_rfl)) k0 bel lt0) (trodAll_cons_mk (shut_string Try.underlying9 y1) trodAll_mk0)), rfl, bel.frame _, fun h => by cases h⟩
theorem over : Rows.checksRow.holds Try.pinned (OpenSpec.ofChange Rows.checksSpec) :=
  OpenClaim.holds_of_wide 14 Try.f14 rfl rfl rfl rfl rfl rfl rfl ⟨rfl, rfl, rfl, rfl, rfl⟩ rfl rfl rfl rfl rfl (by kernel_rfl) Try.func14 (by kernel_rfl)
    (of_decide_eq_true (by kernel_rfl)) (by unfold Func.isWrapper; first | (rw [if_pos (by decide +kernel)]; kernel_rfl) | (rw [if_neg (by decide +kernel)]; exact ⟨rfl, rfl⟩))
    (fun os started H enc _ => lifted os started H enc)
theorem proved : Rows.ChecksSaid := over
#print axioms proved
end Go.Proofs.Ytbhkmgidokonkaa.checks
namespace Go.Proofs.Ytbhkmgidokonkaa
/-- The row, under a short name, for the claim. -/
theorem checks_holds : Rows.ChecksSaid := checks.proved
end Go.Proofs.Ytbhkmgidokonkaa
