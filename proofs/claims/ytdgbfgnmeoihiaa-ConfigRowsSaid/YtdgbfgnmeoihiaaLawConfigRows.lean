import Derived.Test.YtdgbfgnmeoihiaaRows
import Derived.Test.YtdgbfgnmeoihiaaPConfigRowsx5
import Derived.Test.YtdgbfgnmeoihiaaPureConfigRows
import Derived.WalkKit
import Derived.ProofKit
import Derived.OpenShut
import Derived.ShutString
import Derived.ChangeOld
import Derived.Below
import Derived.SizedLaws
import Derived.Lib.SmallJoins
import Derived.Test.YtdgbfgnmeoihiaaWSized
import Derived.Test.YtdgbfgnmeoihiaaHelpOpen
namespace Go.Proofs.Ytdgbfgnmeoihiaa.configRows
open Go.ChangeShapes Go.WideShapes Go.ChangeAt Go.RowKit Go.Joins Go.Proofs.Ytdgbfgnmeoihiaa Go.Proofs.YtdgbfgnmeoihiaaW.PrintWords Go.Proofs.Ytdgbfgnmeoihiaa.PConfigRows
open Go.ChangeMaps (open_string shut_string)
set_option linter.unusedVariables false
set_option linter.unusedSimpArgs false
theorem own : ownKnob Try.prog.godebug = none := by kernel_rfl
theorem laidOut : laidOutB Try.prog = true := by kernel_rfl
theorem bytes35 : Try.prog.bytesOf 35 = 32 := by kernel_rfl
theorem bytes3 : Try.prog.bytesOf 3 = 8 := by kernel_rfl
set_option maxRecDepth 100000 in
theorem lifted (os : Os) (started : os.Started) (H : Type) (enc : TypeId × Value → H) :
    ReturnsInHanded {} Try.checked os 6 .any (Rows.configRowsSpec.pre6 enc Try.prog Try.f6 Rows.configRowsRow.domain false) (Rows.configRowsSpec.post enc Try.prog Try.f6 false true false false) := by
  refine returnsInHanded_of_change_sized (C := Try.checked) own started (by kernel_rfl) Try.func6
    (ChangeSpec.witness6 (enc := enc) (C := Try.checked) false ⟨#[], #[.agg #[.int .i64 0, .int .i64 0, .int .i64 0, .slice none 0 0, .int .i64 0, .int .i64 0, .int .i64 0, .int .i64 0, .bool false], .int .i64 0, .int .i64 0, .int .i64 0], []⟩ 8 (by kernel_rfl) (by kernel_rfl) (by kernel_rfl) (by kernel_rfl)) ?_
  intro W base args ds gs before hval0 hW hcnd hsz0 _
  have hsz : (DataW.weightsEach Try.prog (Try.f6.params.toList ++ Rows.configRowsSpec.plain.varTypes Try.prog) (ds ++ gs)).all (· ≤ reachBytes) = true := hsz0
  have hval : ∀ (j : Nat) t v, Try.f6.params[j]? = some t → args[j]? = some v → Value.okWide Try.prog W .any base t v := hval0
  have hW' := hW
  obtain ⟨p, q, hA0, hV, rfl, hfz, hnd⟩ := hW
  have hA : DataW.TrodAll enc Try.prog W 0 (fun _ => true) true Try.f6.params.toList args.toList ds p := hA0
  rw [Try.params6] at hA hval hsz
  obtain ⟨v0, vs0, d0, ds0, p0, q0, hargs, rfl, rfl, h0, r0⟩ := trodAll_cons hA
  obtain ⟨v1, vs1, d1, ds1, p1, q1, rfl, rfl, rfl, h1, r1⟩ := trodAll_cons r0
  obtain ⟨v2, vs2, d2, ds2, p2, q2, rfl, rfl, rfl, h2, r2⟩ := trodAll_cons r1
  obtain ⟨v3, vs3, d3, ds3, p3, q3, rfl, rfl, rfl, h3, r3⟩ := trodAll_cons r2
  obtain ⟨rfl, rfl, rfl⟩ := trodAll_nil r3
  obtain rfl : args = #[v0, v1, v2, v3] := by cases args; simp_all
  obtain ⟨rfl, rfl⟩ := trodVars_none hV
  obtain ⟨cs0, rfl, hz0⟩ := okWide_struct Try.underlying26 (hval 0 26 v0 rfl rfl)
  have k0 := h0
  have lt0 : ∀ x ∈ p0, x.block < W.heap.size := by obtain ⟨m, hm⟩ := k0; exact DataW.trod_lt m _ _ _ hm
  obtain ⟨⟨a0_0, ⟨a0_1, a0_2⟩, l0_3, a0_4, a0_5, a0_6, a0_7, a0_8⟩, hK0, hG0⟩ := Op.open_str (Op.opens_pairs Try.underlying26 (by kernel_rfl) (Op.opensFs_cons (Op.opens_int Try.underlying3) (Op.opensFs_cons (Op.opens_pairs Try.underlying23 (by kernel_rfl) (Op.opensFs_cons (Op.opens_int Try.underlying3) (Op.opensFs_one (Op.opens_int Try.underlying3) rfl (by kernel_rfl)) rfl (by kernel_rfl))) (Op.opensFs_cons (Op.opens_slice Try.underlying24 (by kernel_rfl) (Op.opens_struct Try.underlying35 (by kernel_rfl) (Op.opensFs_cons (Op.opens_slice Try.underlying33 (by kernel_rfl) (Op.opens_int Try.underlying3)) (Op.opensFs_one (Op.opens_int Try.underlying3) rfl (by kernel_rfl)) rfl (by kernel_rfl)) (fun x : S35 => (x.f0, x.f1)) (fun v => ⟨v.1, v.2⟩) (fun _ => rfl))) (Op.opensFs_cons (Op.opens_int Try.underlying3) (Op.opensFs_cons (Op.opens_int Try.underlying3) (Op.opensFs_cons (Op.opens_int Try.underlying3) (Op.opensFs_cons (Op.opens_int Try.underlying3) (Op.opensFs_one (Op.opens_bool Try.underlying4) rfl (by kernel_rfl)) rfl (by kernel_rfl)) rfl (by kernel_rfl)) rfl (by kernel_rfl)) rfl (by kernel_rfl)) rfl (by kernel_rfl)) rfl (by kernel_rfl)) rfl (by kernel_rfl))) (Op.fine_of hsz (j := 0) (t := 26) rfl rfl) h0
  obtain ⟨_, _, hcs0, rfl, ⟨_, _, rfl, ⟨_, _, rfl, rfl, rfl⟩, ⟨_, _, rfl, ⟨A0_3, c0_3, rfl, hc0_3, hr0_3⟩, ⟨_, _, rfl, rfl, ⟨_, _, rfl, rfl, ⟨_, _, rfl, rfl, ⟨_, _, rfl, rfl, rfl⟩⟩⟩⟩⟩⟩⟩ := hK0
  obtain ⟨w0_0_0, ⟨w0_1_0, w0_2_0⟩, ⟨w0_3_0, w0_3_1, w0_3_2⟩, w0_4_0, w0_5_0, w0_6_0, w0_7_0, w0_8_0⟩ := hG0
  obtain ⟨csl0⟩ := cs0
  obtain rfl : csl0 = [.int .i64 a0_0, .int .i64 a0_1, .int .i64 a0_2, .slice A0_3 l0_3.length c0_3, .int .i64 a0_4, .int .i64 a0_5, .int .i64 a0_6, .int .i64 a0_7, .bool a0_8] := hcs0
  simp only [bytes35, bytes3] at w0_3_1 w0_3_2
  obtain ⟨a1, rfl, rfl, rfl, w1_0⟩ := open_int Try.underlying3 (hval 1 3 v1 rfl rfl) h1
  obtain ⟨a2, rfl, rfl, rfl, w2_0⟩ := open_int Try.underlying3 (hval 2 3 v2 rfl rfl) h2
  obtain ⟨a3, rfl, rfl, rfl, w3_0⟩ := open_int Try.underlying3 (hval 3 3 v3 rfl rfl) h3
  clear hA0 hval0 hsz0 hsz
  refine (PConfigRows.grafterlaw19_ConfigRows.walk Pure.ConfigRows a0_0 a0_1 a0_2 A0_3 c0_3 l0_3 a0_4 a0_5 a0_6 a0_7 a0_8 a1 a2 a3 W w0_0_0 w0_1_0 w0_2_0 hr0_3 hc0_3 w0_3_0 w0_3_1 w0_3_2 w0_4_0 w0_5_0 w0_6_0 w0_7_0 w1_0 w2_0 w3_0).mono fun e W' ⟨he, bel⟩ => ?_
  subst he
  exact ⟨_, rfl, _, _, _, [], _, [], hW', trodAll_mk1 (shut_bool Try.underlying4 _), (trodAll_cons_mk (Below.trod laidOut (by kernel_rfl) (of_decide_eq_true (by kernel_rfl)) k0 bel lt0) (trodAll_cons_mk (shut_int Try.underlying3 w1_0) (trodAll_cons_mk (shut_int Try.underlying3 w2_0) (trodAll_cons_mk (shut_int Try.underlying3 w3_0) trodAll_mk0)))), rfl, bel.frame _, fun h => by cases h⟩
theorem over : Rows.configRowsRow.holds Try.pinned (OpenSpec.ofChange Rows.configRowsSpec) :=
  OpenClaim.holds_of_wide 6 Try.f6 rfl rfl rfl rfl rfl rfl rfl ⟨rfl, rfl, rfl, rfl, rfl⟩ rfl rfl rfl rfl rfl (by kernel_rfl) Try.func6 (by kernel_rfl)
    (of_decide_eq_true (by kernel_rfl)) (by unfold Func.isWrapper; first | (rw [if_pos (by decide +kernel)]; kernel_rfl) | (rw [if_neg (by decide +kernel)]; exact ⟨rfl, rfl⟩))
    (fun os started H enc _ => lifted os started H enc)
theorem proved : Rows.ConfigRowsSaid := over
#print axioms proved
end Go.Proofs.Ytdgbfgnmeoihiaa.configRows
namespace Go.Proofs.Ytdgbfgnmeoihiaa
/-- The row, under a short name, for the claim. -/
theorem configRows_holds : Rows.ConfigRowsSaid := configRows.proved
end Go.Proofs.Ytdgbfgnmeoihiaa
