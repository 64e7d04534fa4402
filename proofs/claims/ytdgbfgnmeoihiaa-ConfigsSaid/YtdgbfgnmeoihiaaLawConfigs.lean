import Derived.Test.YtdgbfgnmeoihiaaRows
import Derived.Test.YtdgbfgnmeoihiaaPConfigsx8
import Derived.Test.YtdgbfgnmeoihiaaPureConfigs
import Derived.WalkKit
import Derived.ProofKit
import Derived.OpenShut
import Derived.ShutString
import Derived.ChangeOld
import Derived.Below
import Derived.SizedLaws
import Derived.Lib.SmallJoins
import Derived.Test.YtdgbfgnmeoihiaaWSized
import Derived.Test.YtdgbfgnmeoihiaaHelpOpen
namespace Go.Proofs.Ytdgbfgnmeoihiaa.configs
open Go.ChangeShapes Go.WideShapes Go.ChangeAt Go.RowKit Go.Joins Go.Proofs.Ytdgbfgnmeoihiaa Go.Proofs.YtdgbfgnmeoihiaaW.PrintWords Go.Proofs.Ytdgbfgnmeoihiaa.PConfigs
open Go.ChangeMaps (open_string shut_string)
set_option linter.unusedVariables false
theorem own : ownKnob Try.prog.godebug = none := by kernel_rfl
theorem laidOut : laidOutB Try.prog = true := by kernel_rfl
theorem bytes35 : Try.prog.bytesOf 35 = 32 := by kernel_rfl
theorem bytes3 : Try.prog.bytesOf 3 = 8 := by kernel_rfl
set_option maxRecDepth 100000 in
theorem lifted (os : Os) (started : os.Started) (H : Type) (enc : TypeId × Value → H) :
    ReturnsInHanded {} Try.checked os 3 .any (Rows.configsSpec.pre6 enc Try.prog Try.f3 Rows.configsRow.domain false) (Rows.configsSpec.post enc Try.prog Try.f3 false true false false) := by
  refine returnsInHanded_of_change_sized (C := Try.checked) own started (by kernel_rfl) Try.func3
    (ChangeSpec.witness6 (enc := enc) (C := Try.checked) false ⟨#[], #[.agg #[.int .i64 0, .int .i64 0, .int .i64 0, .slice none 0 0, .int .i64 0, .int .i64 0, .int .i64 0, .int .i64 0, .bool false]], []⟩ 8 (by kernel_rfl) (by kernel_rfl) (by kernel_rfl) (by kernel_rfl)) ?_
  intro W base args ds gs before hval0 hW hcnd hsz0 _
  have hsz : (DataW.weightsEach Try.prog (Try.f3.params.toList ++ Rows.configsSpec.plain.varTypes Try.prog) (ds ++ gs)).all (· ≤ reachBytes) = true := hsz0
  have hval : ∀ (j : Nat) t v, Try.f3.params[j]? = some t → args[j]? = some v → Value.okWide Try.prog W .any base t v := hval0
  have hW' := hW
  obtain ⟨p, q, hA0, hV, rfl, hfz, hnd⟩ := hW
  have hA : DataW.TrodAll enc Try.prog W 0 (fun _ => true) true Try.f3.params.toList args.toList ds p := hA0
  rw [Try.params3] at hA hval hsz
  obtain ⟨v0, vs0, d0, ds0, p0, q0, hargs, rfl, rfl, h0, r0⟩ := trodAll_cons hA
  obtain ⟨rfl, rfl, rfl⟩ := trodAll_nil r0
  obtain rfl : args = #[v0] := by cases args; simp_all
  obtain ⟨rfl, rfl⟩ := trodVars_none hV
  obtain ⟨cs0, rfl, hz0⟩ := okWide_struct Try.underlying26 (hval 0 26 v0 rfl rfl)
  have k0 := h0
  have lt0 : ∀ x ∈ p0, x.block < W.heap.size := by obtain ⟨m, hm⟩ := k0; exact DataW.trod_lt m _ _ _ hm
  obtain ⟨⟨a0_0, ⟨a0_1, a0_2⟩, l0_3, a0_4, a0_5, a0_6, a0_7, a0_8⟩, hK0, hG0⟩ := Op.open_str (Op.opens_pairs Try.underlying26 (by kernel_rfl) (Op.opensFs_cons (Op.opens_int Try.underlying3) (Op.opensFs_cons (Op.opens_pairs Try.underlying23 (by kernel_rfl) (Op.opensFs_cons (Op.opens_int Try.underlying3) (Op.opensFs_one (Op.opens_int Try.underlying3) rfl (by kernel_rfl)) rfl (by kernel_rfl))) (Op.opensFs_cons (Op.opens_slice Try.underlying24 (by kernel_rfl) (Op.opens_struct Try.underlying35 (by kernel_rfl) (Op.opensFs_cons (Op.opens_slice Try.underlying33 (by kernel_rfl) (Op.opens_int Try.underlying3)) (Op.opensFs_one (Op.opens_int Try.underlying3) rfl (by kernel_rfl)) rfl (by kernel_rfl)) (fun x : S35 => (x.f0, x.f1)) (fun v => ⟨v.1, v.2⟩) (fun _ => rfl))) (Op.opensFs_cons (Op.opens_int Try.underlying3) (Op.opensFs_cons (Op.opens_int Try.underlying3) (Op.opensFs_cons (Op.opens_int Try.underlying3) (Op.opensFs_cons (Op.opens_int Try.underlying3) (Op.opensFs_one (Op.opens_bool Try.underlying4) rfl (by kernel_rfl)) rfl (by kernel_rfl)) rfl (by kernel_rfl)) rfl (by kernel_rfl)) rfl (by kernel_rfl)) rfl (by kernel_rfl)) rfl (by kernel_rfl)) rfl (by kernel_rfl))) (Op.fine_of hsz (j := 0) (t := 26) rfl rfl) h0
  obtain ⟨_, _, hcs0, rfl, ⟨_, _, rfl, ⟨_, _, rfl, rfl, rfl⟩, ⟨_, _, rfl, ⟨A0_3, c0_3, rfl, hc0_3, hr0_3⟩, ⟨_, _, rfl, rfl, ⟨_, _, rfl, rfl, ⟨_, _, rfl, rfl, ⟨_, _, rfl, rfl, rfl⟩⟩⟩⟩⟩⟩⟩ := hK0
  obtain ⟨w0_0_0, ⟨w0_1_0, w0_2_0⟩, ⟨w0_3_0, w0_3_1, w0_3_2⟩, w0_4_0, w0_5_0, w0_6_0, w0_7_0, w0_8_0⟩ := hG0
  obtain ⟨csl0⟩ := cs0
  obtain rfl : csl0 = [.int .i64 a0_0, .int .i64 a0_1, .int .i64 a0_2, .slice A0_3 l0_3.length c0_3, .int .i64 a0_4, .int .i64 a0_5, .int .i64 a0_6, .int .i64 a0_7, .bool a0_8] := hcs0
  simp only [bytes35, bytes3] at w0_3_1 w0_3_2
  clear hA0 hval0 hsz0 hsz
  refine (PConfigs.grafterlaw19_Configs.walk Pure.Configs a0_0 a0_1 a0_2 A0_3 c0_3 l0_3 a0_4 a0_5 a0_6 a0_7 a0_8 W w0_0_0 w0_1_0 w0_2_0 hr0_3 hc0_3 w0_3_0 w0_3_1 w0_3_2 w0_4_0 w0_5_0 w0_6_0 w0_7_0).mono fun e W' ⟨he, bel⟩ => ?_
  subst he
  exact ⟨_, rfl, _, _, _, [], _, [], hW', trodAll_mk1 (shut_bool Try.underlying4 _), (trodAll_cons_mk (Below.trod laidOut (by kernel_rfl) (of_decide_eq_true (by kernel_rfl)) k0 bel lt0) trodAll_mk0), rfl, bel.frame _, fun h => by cases h⟩
theorem over : Rows.configsRow.holds Try.pinned (OpenSpec.ofChange Rows.configsSpec) :=
  OpenClaim.holds_of_wide 3 Try.f3 rfl rfl rfl rfl rfl rfl rfl ⟨rfl, rfl, rfl, rfl, rfl⟩ rfl rfl rfl rfl rfl (by kernel_rfl) Try.func3 (by kernel_rfl)
    (of_decide_eq_true (by kernel_rfl)) (by unfold Func.isWrapper; first | (rw [if_pos (by decide +kernel)]; kernel_rfl) | (rw [if_neg (by decide +kernel)]; exact ⟨rfl, rfl⟩))
    (fun os started H enc _ => lifted os started H enc)
theorem proved : Rows.ConfigsSaid := over
#print axioms proved
end Go.Proofs.Ytdgbfgnmeoihiaa.configs
namespace Go.Proofs.Ytdgbfgnmeoihiaa
/-- The row, under a short name, for the claim. -/
theorem configs_holds : Rows.ConfigsSaid := configs.proved
end Go.Proofs.Ytdgbfgnmeoihiaa
