/- The law on a step of training: it answers true. -/
import Derived.Test.YtffopeihcebpjaaGreatMF
import Derived.Test.YtffopeihcebpjaaGreatNAwake
set_option linter.unusedVariables false
set_option linter.unusedSimpArgs false
set_option maxRecDepth 10000
set_option maxHeartbeats 4000000
namespace Go.Proofs.YtffopeihcebpjaaGreat.X
open Go
@[simp] theorem K13_nil : K13 [] = some (db true) := rfl
def K4 := argG fun c => argI fun id => argC fun k => fin (some (db true))
theorem ok4 : Con.ok ⟨4, K4⟩ := Sat.con L16ok (.G fun c => .I fun id => .C fun k => .fin 99 1 9 (by
  cases hf : pTrainForm c id k
  · simp -implicitDefEqProofs (maxSteps := 10000000) [enG, enC, zChk, cb Tryz.func4, Tryz.f4, cb Tryz.func17, Tryz.f17, cb Tryz.func20, Tryz.f20, lk16, lk15, lk14, lk13, lk12, lk11, lk10, lk9, lk8, lk7, lk6, lk5, lk4, lk3, lk2, K19, K24, hf]
  by_cases h5 : k.s < c.total
  · have hf' := hf
    unfold pTrainForm at hf'
    simp only [Bool.and_eq_true] at hf'
    obtain ⟨h1, h2, h3, h4⟩ := hf'
    obtain ⟨r1, r2, r3, r4, r5, r6⟩ := train_facts h1 h2 h3 h4
    have r4' : c.rows[(pRow c.seed id k.s c.rows.length).toNat]'(by omega) = pRowAt c id k := by
      rw [List.getElem?_eq_getElem (by omega)] at r4
      exact Option.some.inj r4
    have gf : pGrad c.inn.toNat c.hid.toNat k.ws (pRowAt c id k).1 (pRowAt c id k).2 = pGs c id k := rfl
    obtain ⟨t1, t2, t3, t4, t5⟩ := train_ok h1 h2 h3 h4 h5
    have hk : k.ws.length ≤ 16 := by
      unfold pFits pVec at h4
      simp only [Bool.and_eq_true, decide_eq_true_eq] at h4
      exact h4.2.2.1
    have n1 : ¬ pRow c.seed id k.s c.rows.length < 0 := by omega
    have n2 : ¬ (c.rows.length : Int) ≤ pRow c.seed id k.s c.rows.length := by omega
    have w1 : (pTrain c id k).ws = pNext k.r k.ws (pSpeed k.m k.vs (pGs c id k)) := rfl
    have w2 : (pTrain c id k).vs = pSpeed k.m k.vs (pGs c id k) := rfl
    have l1 : (pNext k.r k.ws (pSpeed k.m k.vs (pGs c id k))).length ≤ 1000 := by rw [← w1]; omega
    have l2 : (pSpeed k.m k.vs (pGs c id k)).length ≤ 1000 := by rw [← w2]; omega
    obtain ⟨sp, hsp⟩ : ∃ sp, pSpeed k.m k.vs (pGs c id k) = sp := ⟨_, rfl⟩
    rw [hsp] at l1 l2 w1 w2
    obtain ⟨nx, hnx⟩ : ∃ nx, pNext k.r k.ws sp = nx := ⟨_, rfl⟩
    rw [hnx] at l1 w1
    obtain ⟨g, hg⟩ : ∃ g, pGs c id k = g := ⟨_, rfl⟩
    rw [hg] at gf hsp r6
    obtain ⟨rw, hrw⟩ : ∃ rw, pRowAt c id k = rw := ⟨_, rfl⟩
    rw [hrw] at gf r4' r5
    obtain ⟨xs, y⟩ := rw
    obtain ⟨j, hj⟩ : ∃ j, pRow c.seed id k.s c.rows.length = j := ⟨_, rfl⟩
    simp only [hj] at n1 n2 r2 r3 r4'
    obtain ⟨a, ha⟩ : ∃ a, pTrain c id k = a := ⟨_, rfl⟩
    rw [ha] at t1 w1 w2
    obtain ⟨ws, vs, r, m, s⟩ := a
    simp only at w1 w2
    subst w1 w2
    simp only at gf
    simp -implicitDefEqProofs (maxSteps := 1000000) [enG, enC, enW, cb Tryz.func4, Tryz.f4, cb Tryz.func17, Tryz.f17, lk16, lk15, lk14, lk13, lk12, lk11, lk10, lk9, lk8, lk7, lk6, lk5, lk4, lk3, lk2, K19, K21, K22, K23, K24, K25, K26, ha, hj, hsp, hnx, hf, h5, h1, n1, n2, r1, r2, r3, r4', r5, r6, gf, l1, l2, t1]
  · simp -implicitDefEqProofs (maxSteps := 10000000) [enG, enC, zChk, cb Tryz.func4, Tryz.f4, cb Tryz.func17, Tryz.f17, cb Tryz.func20, Tryz.f20, lk16, lk15, lk14, lk13, lk12, lk11, lk10, lk9, lk8, lk7, lk6, lk5, lk4, lk3, lk2, K19, K24, hf, h5]))
theorem topTrains_deep (c : Cfg) (id : Int) (k : Chk) : DeepOk Tryz.prog 4 [enG c, dn id, enC k] (db true) ∧ HasBody Tryz.prog 4 := ok4 _ _ (by
  show K4 [enG c, dn id, enC k] = _
  simp [K4, enG, enC])
end Go.Proofs.YtffopeihcebpjaaGreat.X
