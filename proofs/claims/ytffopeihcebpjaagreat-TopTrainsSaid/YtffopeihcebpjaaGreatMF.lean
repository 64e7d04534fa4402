/- Contracts: the gradient, any shape. What the numbers of training bear: ranges, lengths. Contracts: a step of training. What a step of training keeps. Structs that are compared: their fields one by one. Members, events, entries, states as deep values. -/
import Derived.Test.YtffopeihcebpjaaGreatNGr1
import Derived.Test.YtffopeihcebpjaaGreatNGr2
import Derived.Test.YtffopeihcebpjaaGreatNGr3
import Derived.Test.YtffopeihcebpjaaGreatMD
section
set_option linter.unusedVariables false
set_option linter.unusedSimpArgs false
set_option maxRecDepth 10000
set_option maxHeartbeats 4000000
namespace Go.Proofs.YtffopeihcebpjaaGreat.X
open Go
theorem len1 {l : List Int} (h : l.length = 1) : ∃ a0, l = [a0] := by
  match l, h with
  | [a0], _ => exact ⟨a0, rfl⟩
theorem len2 {l : List Int} (h : l.length = 2) : ∃ a0 a1, l = [a0, a1] := by
  match l, h with
  | [a0, a1], _ => exact ⟨a0, a1, rfl⟩
theorem len3 {l : List Int} (h : l.length = 3) : ∃ a0 a1 a2, l = [a0, a1, a2] := by
  match l, h with
  | [a0, a1, a2], _ => exact ⟨a0, a1, a2, rfl⟩
theorem len4 {l : List Int} (h : l.length = 4) : ∃ a0 a1 a2 a3, l = [a0, a1, a2, a3] := by
  match l, h with
  | [a0, a1, a2, a3], _ => exact ⟨a0, a1, a2, a3, rfl⟩
theorem len5 {l : List Int} (h : l.length = 5) : ∃ a0 a1 a2 a3 a4, l = [a0, a1, a2, a3, a4] := by
  match l, h with
  | [a0, a1, a2, a3, a4], _ => exact ⟨a0, a1, a2, a3, a4, rfl⟩
theorem len6 {l : List Int} (h : l.length = 6) : ∃ a0 a1 a2 a3 a4 a5, l = [a0, a1, a2, a3, a4, a5] := by
  match l, h with
  | [a0, a1, a2, a3, a4, a5], _ => exact ⟨a0, a1, a2, a3, a4, a5, rfl⟩
theorem len7 {l : List Int} (h : l.length = 7) : ∃ a0 a1 a2 a3 a4 a5 a6, l = [a0, a1, a2, a3, a4, a5, a6] := by
  match l, h with
  | [a0, a1, a2, a3, a4, a5, a6], _ => exact ⟨a0, a1, a2, a3, a4, a5, a6, rfl⟩
theorem len9 {l : List Int} (h : l.length = 9) : ∃ a0 a1 a2 a3 a4 a5 a6 a7 a8, l = [a0, a1, a2, a3, a4, a5, a6, a7, a8] := by
  match l, h with
  | [a0, a1, a2, a3, a4, a5, a6, a7, a8], _ => exact ⟨a0, a1, a2, a3, a4, a5, a6, a7, a8, rfl⟩
theorem len10 {l : List Int} (h : l.length = 10) : ∃ a0 a1 a2 a3 a4 a5 a6 a7 a8 a9, l = [a0, a1, a2, a3, a4, a5, a6, a7, a8, a9] := by
  match l, h with
  | [a0, a1, a2, a3, a4, a5, a6, a7, a8, a9], _ => exact ⟨a0, a1, a2, a3, a4, a5, a6, a7, a8, a9, rfl⟩
theorem len11 {l : List Int} (h : l.length = 11) : ∃ a0 a1 a2 a3 a4 a5 a6 a7 a8 a9 a10, l = [a0, a1, a2, a3, a4, a5, a6, a7, a8, a9, a10] := by
  match l, h with
  | [a0, a1, a2, a3, a4, a5, a6, a7, a8, a9, a10], _ => exact ⟨a0, a1, a2, a3, a4, a5, a6, a7, a8, a9, a10, rfl⟩
theorem len13 {l : List Int} (h : l.length = 13) : ∃ a0 a1 a2 a3 a4 a5 a6 a7 a8 a9 a10 a11 a12, l = [a0, a1, a2, a3, a4, a5, a6, a7, a8, a9, a10, a11, a12] := by
  match l, h with
  | [a0, a1, a2, a3, a4, a5, a6, a7, a8, a9, a10, a11, a12], _ => exact ⟨a0, a1, a2, a3, a4, a5, a6, a7, a8, a9, a10, a11, a12, rfl⟩
theorem len16 {l : List Int} (h : l.length = 16) : ∃ a0 a1 a2 a3 a4 a5 a6 a7 a8 a9 a10 a11 a12 a13 a14 a15, l = [a0, a1, a2, a3, a4, a5, a6, a7, a8, a9, a10, a11, a12, a13, a14, a15] := by
  match l, h with
  | [a0, a1, a2, a3, a4, a5, a6, a7, a8, a9, a10, a11, a12, a13, a14, a15], _ => exact ⟨a0, a1, a2, a3, a4, a5, a6, a7, a8, a9, a10, a11, a12, a13, a14, a15, rfl⟩
def pGradOk (i h : Int) (ws : List Int) (w : Rw) : Bool := pFits i h ws && (pInputs i w.1 && pFix w.2)
def K22 := arg2 fun i h => argR fun ws => argW fun w => fin (some (if pGradOk i h ws w then .tu [.sl 1 (elR (pGrad i.toNat h.toNat ws w.1 w.2)), dn 0] else .tu [dz, dn 700]))
theorem ok22 : Con.ok ⟨22, K22⟩ := Sat.con L13ok (.P fun i h => .R fun ws => .W fun w => .fin 99 1 9 (by
  obtain ⟨xs, y⟩ := w
  cases h1 : pFits i h ws
  · simp -implicitDefEqProofs [enW, cb22, p22_0, p22_1, p22_2, seqHead, dropSeq, Tryz.f22, cb Tryz.func65, Tryz.f65, lk13, lk12, lk11, lk10, lk9, lk8, lk7, lk6, lk5, lk4, lk3, lk2, K130, K131, K66, h1, pGradOk]
  cases h2 : pInputs i xs
  · simp -implicitDefEqProofs [enW, cb22, p22_0, p22_1, p22_2, seqHead, dropSeq, Tryz.f22, cb Tryz.func65, Tryz.f65, lk13, lk12, lk11, lk10, lk9, lk8, lk7, lk6, lk5, lk4, lk3, lk2, K130, K131, K66, h1, h2, pGradOk]
  cases h3 : pFix y
  · simp -implicitDefEqProofs [enW, cb22, p22_0, p22_1, p22_2, seqHead, dropSeq, Tryz.f22, cb Tryz.func65, Tryz.f65, lk13, lk12, lk11, lk10, lk9, lk8, lk7, lk6, lk5, lk4, lk3, lk2, K130, K131, K66, h1, h2, h3, pGradOk]
  have e : pGradOk i h ws (xs, y) = true := by unfold pGradOk; simp only; rw [h1, h2, h3]; rfl
  rw [e, if_pos rfl]
  show deepB Tryz.prog (GC L13) 99 1 9 22 [.ag [dn i, dn h], .sl 1 (elR ws), .ag [.sl 1 (elR xs), dn y]] = some (.tu [.sl 1 (elR (pGrad i.toNat h.toNat ws xs y)), dn 0])
  have q1 := h1
  have q2 := h2
  unfold pFits pShape at q1
  unfold pInputs at q2
  simp only [Bool.and_eq_true, decide_eq_true_eq] at q1 q2
  obtain ⟨⟨i1, i2, j1, j2⟩, m1, m2⟩ := q1
  have hi : i = 1 ∨ i = 2 ∨ i = 3 := by omega
  have hh : h = 1 ∨ h = 2 ∨ h = 3 := by omega
  rcases hi with rfl | rfl | rfl <;> rcases hh with rfl | rfl | rfl
  · have l1 : ws.length = 4 := by rw [show pMany 1 1 = 4 from by kernel_rfl] at m1; omega
    obtain ⟨a0, a1, a2, a3, rfl⟩ := len4 l1
    obtain ⟨x0, rfl⟩ := len1 (show xs.length = 1 by omega)
    exact grad11 a0 a1 a2 a3 x0 y h1 h2 h3
  · have l1 : ws.length = 7 := by rw [show pMany 1 2 = 7 from by kernel_rfl] at m1; omega
    obtain ⟨a0, a1, a2, a3, a4, a5, a6, rfl⟩ := len7 l1
    obtain ⟨x0, rfl⟩ := len1 (show xs.length = 1 by omega)
    exact grad12 a0 a1 a2 a3 a4 a5 a6 x0 y h1 h2 h3
  · have l1 : ws.length = 10 := by rw [show pMany 1 3 = 10 from by kernel_rfl] at m1; omega
    obtain ⟨a0, a1, a2, a3, a4, a5, a6, a7, a8, a9, rfl⟩ := len10 l1
    obtain ⟨x0, rfl⟩ := len1 (show xs.length = 1 by omega)
    exact grad13 a0 a1 a2 a3 a4 a5 a6 a7 a8 a9 x0 y h1 h2 h3
  · have l1 : ws.length = 5 := by rw [show pMany 2 1 = 5 from by kernel_rfl] at m1; omega
    obtain ⟨a0, a1, a2, a3, a4, rfl⟩ := len5 l1
    obtain ⟨x0, x1, rfl⟩ := len2 (show xs.length = 2 by omega)
    exact grad21 a0 a1 a2 a3 a4 x0 x1 y h1 h2 h3
  · have l1 : ws.length = 9 := by rw [show pMany 2 2 = 9 from by kernel_rfl] at m1; omega
    obtain ⟨a0, a1, a2, a3, a4, a5, a6, a7, a8, rfl⟩ := len9 l1
    obtain ⟨x0, x1, rfl⟩ := len2 (show xs.length = 2 by omega)
    exact grad22 a0 a1 a2 a3 a4 a5 a6 a7 a8 x0 x1 y h1 h2 h3
  · have l1 : ws.length = 13 := by rw [show pMany 2 3 = 13 from by kernel_rfl] at m1; omega
    obtain ⟨a0, a1, a2, a3, a4, a5, a6, a7, a8, a9, a10, a11, a12, rfl⟩ := len13 l1
    obtain ⟨x0, x1, rfl⟩ := len2 (show xs.length = 2 by omega)
    exact grad23 a0 a1 a2 a3 a4 a5 a6 a7 a8 a9 a10 a11 a12 x0 x1 y h1 h2 h3
  · have l1 : ws.length = 6 := by rw [show pMany 3 1 = 6 from by kernel_rfl] at m1; omega
    obtain ⟨a0, a1, a2, a3, a4, a5, rfl⟩ := len6 l1
    obtain ⟨x0, x1, x2, rfl⟩ := len3 (show xs.length = 3 by omega)
    exact grad31 a0 a1 a2 a3 a4 a5 x0 x1 x2 y h1 h2 h3
  · have l1 : ws.length = 11 := by rw [show pMany 3 2 = 11 from by kernel_rfl] at m1; omega
    obtain ⟨a0, a1, a2, a3, a4, a5, a6, a7, a8, a9, a10, rfl⟩ := len11 l1
    obtain ⟨x0, x1, x2, rfl⟩ := len3 (show xs.length = 3 by omega)
    exact grad32 a0 a1 a2 a3 a4 a5 a6 a7 a8 a9 a10 x0 x1 x2 y h1 h2 h3
  · have l1 : ws.length = 16 := by rw [show pMany 3 3 = 16 from by kernel_rfl] at m1; omega
    obtain ⟨a0, a1, a2, a3, a4, a5, a6, a7, a8, a9, a10, a11, a12, a13, a14, a15, rfl⟩ := len16 l1
    obtain ⟨x0, x1, x2, rfl⟩ := len3 (show xs.length = 3 by omega)
    exact grad33 a0 a1 a2 a3 a4 a5 a6 a7 a8 a9 a10 a11 a12 a13 a14 a15 x0 x1 x2 y h1 h2 h3))
end Go.Proofs.YtffopeihcebpjaaGreat.X
end
section
set_option linter.unusedVariables false
set_option linter.unusedSimpArgs false
namespace Go.Proofs.YtffopeihcebpjaaGreat.X
open Go
theorem pFix_cut (x : Int) : pFix (pCut x) = true := by
  unfold pFix pCut pMin pMax
  simp only [Bool.and_eq_true, decide_eq_true_eq]
  split <;> split <;> omega
theorem pFix_times (a b : Int) : pFix (pTimes a b) = true := pFix_cut _
theorem pFix_plus (a b : Int) : pFix (pPlus a b) = true := pFix_cut _
theorem pAnd_nn (a : Int) : 0 ≤ pAnd a 2147483647 ∧ pAnd a 2147483647 ≤ 2147483647 := by
  unfold pAnd
  have h1 : (BitVec.ofInt 64 a &&& BitVec.ofInt 64 2147483647).toNat ≤ 2147483647 := by
    rw [BitVec.toNat_and]
    exact Nat.and_le_right
  rw [w64_id (by omega) (by omega)]
  omega
theorem pDraw_in (s k : Int) : 0 ≤ pDraw s k ∧ pDraw s k ≤ 65535 := by
  unfold pDraw
  obtain ⟨x, hx⟩ : ∃ x, x = pMix (pMix (pMix (pAnd (w64 (w64 (w64 (40503 * s) + w64 (30011 * k)) + 12345)) 2147483647))) := ⟨_, rfl⟩
  rw [← hx]
  have h : 0 ≤ x := by rw [hx]; exact (pAnd_nn _).1
  have h2 : 0 ≤ x.fdiv 256 := Int.fdiv_nonneg h (by decide)
  show 0 ≤ (x.fdiv 256).tmod 65536 ∧ (x.fdiv 256).tmod 65536 ≤ 65535
  rw [Int.tmod_eq_emod_of_nonneg h2]
  omega
theorem pPick_in {s k b : Int} (h1 : 1 ≤ b) (h2 : b ≤ 65536) : 0 ≤ pPick s k b ∧ pPick s k b < b := by
  obtain ⟨d1, d2⟩ := pDraw_in s k
  unfold pPick
  have m1 : 0 ≤ pDraw s k * b := Int.mul_nonneg d1 (by omega)
  have m2 : pDraw s k * b ≤ 65535 * b := Int.mul_le_mul_of_nonneg_right d2 (by omega)
  rw [w64_id (n := pDraw s k * b) (by omega) (by omega), Int.tdiv_eq_ediv_of_nonneg m1]
  have q1 : 0 ≤ pDraw s k * b / 65536 := Int.ediv_nonneg m1 (by decide)
  have q2 : pDraw s k * b / 65536 < b := by omega
  rw [w64_id (by omega) (by omega)]
  exact ⟨q1, q2⟩
theorem grad_len {i h : Nat} {ws xs : List Int} {y : Int} (hx : xs.length = i) : (pGrad i h ws xs y).length = h * (i + 1) + h + 1 := by
  unfold pGrad pUnits
  simp only [List.length_append, List.length_flatten, List.map_map, List.length_map, List.length_range, List.length_cons, List.length_nil]
  have : ∀ (l : List Nat) (f : Nat → List Int), (∀ j ∈ l, (f j).length = i + 1) → (l.map (List.length ∘ f)).sum = l.length * (i + 1) := by
    intro l
    induction l with
    | nil => intro f _; simp
    | cons a r ih =>
      intro f hf
      rw [List.map_cons, List.sum_cons, ih f (fun j hj => hf j (List.mem_cons_of_mem _ hj)), Function.comp, hf a (List.mem_cons_self ..), List.length_cons, Nat.succ_mul]
      omega
  rw [this _ _ (fun j _ => by simp [hx]), List.length_range]
theorem grad_fix {i h : Nat} {ws xs : List Int} {y : Int} : (pGrad i h ws xs y).all pFix = true := by
  unfold pGrad
  simp only [List.all_append, List.all_flatten, Bool.and_eq_true]
  refine ⟨⟨?_, ?_⟩, ?_⟩
  · rw [List.all_eq_true]
    intro l hl
    obtain ⟨j, _, rfl⟩ := List.mem_map.1 hl
    rw [List.all_append, Bool.and_eq_true]
    refine ⟨?_, ?_⟩
    · rw [List.all_eq_true]
      intro v hv
      obtain ⟨u, _, rfl⟩ := List.mem_map.1 hv
      exact pFix_times _ _
    · simp [pFix_times]
  · rw [List.all_eq_true]
    intro v hv
    obtain ⟨u, _, rfl⟩ := List.mem_map.1 hv
    exact pFix_times _ _
  · simp [pFix_plus]
end Go.Proofs.YtffopeihcebpjaaGreat.X
end
section
set_option linter.unusedVariables false
set_option linter.unusedSimpArgs false
set_option maxRecDepth 10000
set_option maxHeartbeats 4000000
namespace Go.Proofs.YtffopeihcebpjaaGreat.X
open Go
def L14 : List Con := ⟨22, K22⟩ :: L13
theorem lk14 (f : FuncId) (ds : List DV) : lookC L14 f ds = if 22 = f then K22 ds else lookC L13 f ds := rfl
theorem L14ok : ConsOk L14 := .cons _ _ ok22 L13ok
def pTrainForm (c : Cfg) (id : Int) (k : Chk) : Bool := pCfg c && (pIn id 0 (w64 (c.mem - 1)) && (pCheck k && pFits c.inn c.hid k.ws))
def pRowAt (c : Cfg) (id : Int) (k : Chk) : Rw := c.rows.getD (pRow c.seed id k.s c.rows.length).toNat ([], 0)
def pGs (c : Cfg) (id : Int) (k : Chk) : List Int := pGrad c.inn.toNat c.hid.toNat k.ws (pRowAt c id k).1 (pRowAt c id k).2
def pTrain (c : Cfg) (id : Int) (k : Chk) : Chk := ⟨pNext k.r k.ws (pSpeed k.m k.vs (pGs c id k)), pSpeed k.m k.vs (pGs c id k), k.r, k.m, w64 (k.s + 1)⟩
def zChk : DV := .ag [dz, dz, dn 0, dn 0, dn 0]
def K19 := argG fun c => argI fun id => argC fun k => fin (some (if pTrainForm c id k then (if k.s < c.total then .tu [enC (pTrain c id k), dn 0] else .tu [zChk, dn 2101]) else .tu [zChk, dn 2100]))
theorem train_facts {c : Cfg} {id : Int} {k : Chk} (h1 : pCfg c = true) (h2 : pIn id 0 (w64 (c.mem - 1)) = true) (h3 : pCheck k = true) (h4 : pFits c.inn c.hid k.ws = true) :
    pRowOk c.seed id k.s c.rows.length = true ∧ 0 ≤ pRow c.seed id k.s c.rows.length ∧ pRow c.seed id k.s c.rows.length < c.rows.length ∧ c.rows[(pRow c.seed id k.s c.rows.length).toNat]? = some (pRowAt c id k) ∧ pGradOk c.inn c.hid k.ws (pRowAt c id k) = true ∧ pStepOk k.ws k.vs (pGs c id k) k.r k.m = true := by
  unfold pCfg pLoss pIn at h1
  simp only [Bool.and_eq_true, decide_eq_true_eq] at h1
  obtain ⟨⟨m1, m2⟩, ⟨l1, l2, l3, l4⟩, s1, _⟩ := h1
  unfold pIn at h2
  rw [w64_id (by omega) (by omega)] at h2
  simp only [Bool.and_eq_true, decide_eq_true_eq] at h2
  have h3' := h3
  unfold pCheck at h3'
  simp only [Bool.and_eq_true, decide_eq_true_eq] at h3'
  obtain ⟨k1, k2, k3, k4, k5⟩ := h3'
  have r1 : pRowOk c.seed id k.s c.rows.length = true := by
    unfold pRowOk pIn
    simp only [Bool.and_eq_true, decide_eq_true_eq]
    omega
  have at0 : w64 (w64 (4096 * id) + k.s) = 4096 * id + k.s := by
    rw [w64_id (n := 4096 * id) (by omega) (by omega), w64_id (by omega) (by omega)]
  have r2 : 0 ≤ pRow c.seed id k.s c.rows.length ∧ pRow c.seed id k.s c.rows.length < c.rows.length := by
    unfold pRow
    split
    · exact pPick_in (by omega) (by omega)
    · omega
  have r3 : c.rows[(pRow c.seed id k.s c.rows.length).toNat]? = some (pRowAt c id k) := by
    unfold pRowAt
    rw [List.getD_eq_getElem?_getD, List.getElem?_eq_getElem (by omega)]
    rfl
  have r4 := List.all_eq_true.1 l4 _ (List.mem_of_getElem? r3)
  unfold pRow1 at r4
  rw [Bool.and_eq_true] at r4
  have r5 : pGradOk c.inn c.hid k.ws (pRowAt c id k) = true := by
    unfold pGradOk
    rw [h4, r4.1, r4.2]
    rfl
  refine ⟨r1, r2.1, r2.2, r3, r5, ?_⟩
  have q1 := h4
  have q2 := r4.1
  unfold pFits pShape at q1
  unfold pInputs at q2
  unfold pAl2 at k1
  simp only [Bool.and_eq_true, decide_eq_true_eq] at q1 q2 k1
  obtain ⟨⟨i1, i2, j1, j2⟩, n1, n2⟩ := q1
  have gl : (pGs c id k).length = k.ws.length := by
    unfold pGs
    rw [grad_len (by omega)]
    have hi : c.inn = 1 ∨ c.inn = 2 ∨ c.inn = 3 := by omega
    have hh : c.hid = 1 ∨ c.hid = 2 ∨ c.hid = 3 := by omega
    unfold pMany at n1
    rcases hi with e | e | e <;> rcases hh with f | f | f <;> rw [e, f] at n1 ⊢ <;> simp at n1 ⊢ <;> omega
  have gv : pVec (pGs c id k) = true := by
    have w1 : pVec k.ws = true := k1.1
    unfold pVec at w1 ⊢
    rw [Bool.and_eq_true, decide_eq_true_eq] at w1 ⊢
    exact ⟨by omega, grad_fix⟩
  unfold pStepOk pAl3
  rw [k1.1, k1.2.1, gv, k3, gl, k1.2.2]
  simp
theorem ok19 : Con.ok ⟨19, K19⟩ := Sat.con L14ok (.G fun c => .I fun id => .C fun k => .fin 99 1 9 (by
  cases h1 : pCfg c
  · simp -implicitDefEqProofs [enG, enC, zChk, cb Tryz.func19, Tryz.f19, cb Tryz.func52, Tryz.f52, cb Tryz.func62, Tryz.f62, lk14, lk13, lk12, lk11, lk10, lk9, lk8, lk7, lk6, lk5, lk4, lk3, lk2, K26, h1, pTrainForm]
  cases h2 : pIn id 0 (w64 (c.mem - 1))
  · simp -implicitDefEqProofs [enG, enC, zChk, cb Tryz.func19, Tryz.f19, cb Tryz.func52, Tryz.f52, cb Tryz.func62, Tryz.f62, lk14, lk13, lk12, lk11, lk10, lk9, lk8, lk7, lk6, lk5, lk4, lk3, lk2, K26, K77, h1, h2, pTrainForm]
  cases h3 : pCheck k
  · simp -implicitDefEqProofs [enG, enC, zChk, cb Tryz.func19, Tryz.f19, cb Tryz.func52, Tryz.f52, cb Tryz.func62, Tryz.f62, lk14, lk13, lk12, lk11, lk10, lk9, lk8, lk7, lk6, lk5, lk4, lk3, lk2, K26, K77, K25, h1, h2, h3, pTrainForm]
  cases h4 : pFits c.inn c.hid k.ws
  · simp -implicitDefEqProofs [enG, enC, zChk, cb Tryz.func19, Tryz.f19, cb Tryz.func52, Tryz.f52, cb Tryz.func62, Tryz.f62, lk14, lk13, lk12, lk11, lk10, lk9, lk8, lk7, lk6, lk5, lk4, lk3, lk2, K26, K77, K25, K130, h1, h2, h3, h4, pTrainForm]
  obtain ⟨r1, r2, r3, r4, r5, r6⟩ := train_facts h1 h2 h3 h4
  have r4' : c.rows[(pRow c.seed id k.s c.rows.length).toNat]'(by omega) = pRowAt c id k := by
    rw [List.getElem?_eq_getElem (by omega)] at r4
    exact Option.some.inj r4
  have gf : pGrad c.inn.toNat c.hid.toNat k.ws (pRowAt c id k).1 (pRowAt c id k).2 = pGs c id k := rfl
  by_cases h5 : k.s < c.total
  · have h5' : ¬ c.total ≤ k.s := by omega
    simp -implicitDefEqProofs [enG, enC, enW, zChk, cb Tryz.func19, Tryz.f19, cb Tryz.func52, Tryz.f52, cb Tryz.func62, Tryz.f62, lk14, lk13, lk12, lk11, lk10, lk9, lk8, lk7, lk6, lk5, lk4, lk3, lk2, K26, K77, K25, K130, K21, K22, K23, h1, h2, h3, h4, h5, h5', r1, r2, r3, r4', r5, r6, gf, pTrainForm, pTrain]
  · have h5' : c.total ≤ k.s := by omega
    simp -implicitDefEqProofs [enG, enC, zChk, cb Tryz.func19, Tryz.f19, cb Tryz.func52, Tryz.f52, cb Tryz.func62, Tryz.f62, lk14, lk13, lk12, lk11, lk10, lk9, lk8, lk7, lk6, lk5, lk4, lk3, lk2, K26, K77, K25, K130, h1, h2, h3, h4, h5, h5', pTrainForm]))
def L15 : List Con := ⟨19, K19⟩ :: L14
theorem lk15 (f : FuncId) (ds : List DV) : lookC L15 f ds = if 19 = f then K19 ds else lookC L14 f ds := rfl
theorem L15ok : ConsOk L15 := .cons _ _ ok19 L14ok
end Go.Proofs.YtffopeihcebpjaaGreat.X
end
section
set_option linter.unusedVariables false
set_option linter.unusedSimpArgs false
namespace Go.Proofs.YtffopeihcebpjaaGreat.X
open Go
theorem zip_fix {f : Int → Int → Int} (h : ∀ a b, pFix (f a b) = true) : ∀ xs ys : List Int, (List.zipWith f xs ys).all pFix = true
  | [], _ => rfl
  | _ :: _, [] => rfl
  | a :: r, b :: s => by rw [List.zipWith_cons_cons, List.all_cons, h, zip_fix h r s]; rfl
theorem train_ok {c : Cfg} {id : Int} {k : Chk} (h1 : pCfg c = true) (h2 : pIn id 0 (w64 (c.mem - 1)) = true) (h3 : pCheck k = true) (h4 : pFits c.inn c.hid k.ws = true) (h5 : k.s < c.total) :
    pCheck (pTrain c id k) = true ∧ pFits c.inn c.hid (pTrain c id k).ws = true ∧ (pTrain c id k).ws.length = k.ws.length ∧ (pTrain c id k).vs.length = k.ws.length ∧ (pTrain c id k).s = k.s + 1 := by
  obtain ⟨_, _, _, _, _, r6⟩ := train_facts h1 h2 h3 h4
  unfold pStepOk at r6
  rw [Bool.and_eq_true] at r6
  obtain ⟨n1, n2, n3⟩ := pAl3_len r6.1
  unfold pCheck at h3
  simp only [Bool.and_eq_true, decide_eq_true_eq] at h3
  obtain ⟨k1, k2, k3, k4, k5⟩ := h3
  have ht : c.total ≤ 32 := by
    unfold pCfg pIn at h1
    simp only [Bool.and_eq_true, decide_eq_true_eq] at h1
    exact h1.2.2.2.1.2
  have lsp : (pSpeed k.m k.vs (pGs c id k)).length = k.ws.length := by unfold pSpeed; rw [List.length_zipWith]; omega
  have lns : (pNext k.r k.ws (pSpeed k.m k.vs (pGs c id k))).length = k.ws.length := by unfold pNext; rw [List.length_zipWith, lsp]; omega
  have v1 : pVec (pSpeed k.m k.vs (pGs c id k)) = true := by
    unfold pVec
    rw [Bool.and_eq_true, decide_eq_true_eq]
    exact ⟨by omega, zip_fix (fun _ _ => pFix_plus _ _) _ _⟩
  have v2 : pVec (pNext k.r k.ws (pSpeed k.m k.vs (pGs c id k))) = true := by
    unfold pVec
    rw [Bool.and_eq_true, decide_eq_true_eq]
    exact ⟨by omega, zip_fix (fun _ _ => pFix_plus _ _) _ _⟩
  have hs : w64 (k.s + 1) = k.s + 1 := w64_id (by omega) (by omega)
  refine ⟨?_, ?_, lns, lsp, hs⟩
  · unfold pCheck pTrain pAl2
    simp only [Bool.and_eq_true, decide_eq_true_eq]
    refine ⟨⟨v2, v1, by omega⟩, by omega, k3, by omega, by omega⟩
  · unfold pFits at h4 ⊢
    unfold pTrain
    simp only [Bool.and_eq_true, decide_eq_true_eq] at h4 ⊢
    refine ⟨h4.1, ?_, v2⟩
    rw [← h4.2.1, lns]
end Go.Proofs.YtffopeihcebpjaaGreat.X
end
section
set_option linter.unusedVariables false
set_option linter.unusedSimpArgs false
set_option maxRecDepth 10000
set_option maxHeartbeats 4000000
namespace Go.Proofs.YtffopeihcebpjaaGreat.X
open Go
theorem plain_bind {α β : Type} (P : Program) (s : Sem α) (f : α → Sem β) : plain P (s >>= f) = (plain P s).bind fun a => plain P (f a) := by
  induction s with
  | pure a => rfl
  | program k ih => exact ih P
  | _ => rfl
theorem beq_bytes (a b : ByteArray) : (a == b) = true ↔ a = b := by
  obtain ⟨⟨x⟩⟩ := a
  obtain ⟨⟨y⟩⟩ := b
  show ((⟨x⟩ : Array UInt8) == ⟨y⟩) = true ↔ _
  simp
/-- A field of two structs, and whether it is the same in both. -/
structure FieldEq (P : Program) (d : Nat) (xs ys : Array Value) (f : Field) (b : Bool) : Prop where
  name : f.name ≠ "_"
  ex : ∃ u v, plain P (part f.type xs f.offset) = some u ∧ plain P (part f.type ys f.offset) = some v ∧ plain P (Op.equalIn d f.type u v) = some b
inductive FieldsEq (P : Program) (d : Nat) (xs ys : Array Value) : List Field → List Bool → Prop
  | nil : FieldsEq P d xs ys [] []
  | cons (f : Field) (b : Bool) (fs : List Field) (bs : List Bool) (h : FieldEq P d xs ys f b) (hs : FieldsEq P d xs ys fs bs) : FieldsEq P d xs ys (f :: fs) (b :: bs)
theorem loop_eq {P : Program} {d : Nat} {xs ys : Array Value} : ∀ {fs : List Field} {bs : List Bool}, FieldsEq P d xs ys fs bs →
    plain P (forIn fs ((none : Option Bool), ()) fun f __s =>
      if f.name ≠ "_" then do
        let __do_lift ← part f.type xs f.offset
        let __do_lift_1 ← part f.type ys f.offset
        let __do_lift ← Op.equalIn d f.type __do_lift __do_lift_1
        if (!__do_lift) = true then pure (ForInStep.done (some false, ()))
        else pure (ForInStep.yield (none, ()))
      else pure (ForInStep.yield (none, ()))) = some (if bs.all id then (none, ()) else (some false, ()))
  | _, _, .nil => rfl
  | _, _, .cons f b fs bs h hs => by
    obtain ⟨u, v, h1, h2, h3⟩ := h.ex
    rw [List.forIn_cons, if_pos h.name, plain_bind, plain_bind, h1]
    simp only [Option.bind]
    rw [plain_bind, h2]
    simp only [Option.bind]
    rw [plain_bind, h3]
    cases b with
    | false => rfl
    | true =>
      have ih := loop_eq hs
      simp only [Option.bind, Bool.not_true, Bool.false_eq_true, if_false]
      show plain P _ = _
      simpa using ih
theorem eq_struct {P : Program} {d : Nat} {t : TypeId} {fs : Array Field} {xs ys : Array Value} {bs : List Bool} (hu : P.underlying t = some (.struct fs)) (hst : P.stoodInHeld t = false) (h : FieldsEq P d xs ys fs.toList bs) :
    plain P (Op.equalIn (d + 1) t (.agg xs) (.agg ys)) = some (bs.all id) := by
  rw [Op.equalIn.eq_def]
  have hu' : plain P (underlying t) = some (.struct fs) := by
    show plain P (match P.underlying t with
      | some d => pure d
      | none => stuck "no such type") = _
    rw [hu]
    rfl
  rw [plain_bind, hu']
  simp only [Option.bind]
  show plain P (if P.stoodInHeld t = true then _ else _) = _
  rw [hst, if_neg Bool.false_ne_true]
  rw [plain_bind, ← Array.forIn_toList, loop_eq h]
  cases bs.all id <;> rfl
theorem feq_int {P : Program} {d : Nat} {xs ys : Array Value} {f : Field} {a b : Int} (hn : f.name ≠ "_") (hu : P.underlying f.type = some (.int .i64)) (h1 : plain P (part f.type xs f.offset) = some (.int .i64 a)) (h2 : plain P (part f.type ys f.offset) = some (.int .i64 b)) : FieldEq P (d + 1) xs ys f (decide (a = b)) :=
  ⟨hn, _, _, h1, h2, by
    rw [Op.equalIn.eq_def]
    have hu' : plain P (underlying f.type) = some (.int .i64) := by
      show plain P (match P.underlying f.type with
        | some d => pure d
        | none => stuck "no such type") = _
      rw [hu]
      rfl
    rw [plain_bind, hu']
    rfl⟩
theorem feq_str {P : Program} {d : Nat} {xs ys : Array Value} {f : Field} {a b : ByteArray} (hn : f.name ≠ "_") (hu : P.underlying f.type = some .string) (h1 : plain P (part f.type xs f.offset) = some (.string a)) (h2 : plain P (part f.type ys f.offset) = some (.string b)) : FieldEq P (d + 1) xs ys f (decide (a = b)) :=
  ⟨hn, _, _, h1, h2, by
    rw [Op.equalIn.eq_def]
    have hu' : plain P (underlying f.type) = some .string := by
      show plain P (match P.underlying f.type with
        | some d => pure d
        | none => stuck "no such type") = _
      rw [hu]
      rfl
    rw [plain_bind, hu']
    show some (a == b) = _
    rw [show (a == b) = decide (a = b) from by rw [Bool.eq_iff_iff, beq_bytes]; simp]⟩
theorem eq44' (d : Nat) (a b c e : Int) : plain Tryz.prog (Op.equalIn (d + 2) 44 (.agg #[.int .i64 a, .int .i64 b]) (.agg #[.int .i64 c, .int .i64 e])) = some (decide (a = c) && decide (b = e)) := by
  rw [eq_struct (d := d + 1) (bs := [decide (a = c), decide (b = e)]) Tryz.underlying44 (by kernel_rfl) (.cons _ _ _ _ (feq_int (by decide) Tryz.underlying3 (by kernel_rfl) (by kernel_rfl)) (.cons _ _ _ _ (feq_int (by decide) Tryz.underlying3 (by kernel_rfl) (by kernel_rfl)) .nil))]
  simp
theorem eql_agg {t : TypeId} {x y : Operand} {u v : AV} {xs ys : Array Value} {b : Bool} (hu : toV u = some (.agg xs)) (hv : toV v = some (.agg ys)) (hns : ∀ o sz off n c, u ≠ .sl o sz off n c) (hg : Tryz.prog.eqGuardType Tryz.prog.depth t = false) (h : plain Tryz.prog (Op.equalIn 10000 t (.agg xs) (.agg ys)) = some b) :
    binA Tryz.prog .eql t x y u v = some (B b) ∧ binA Tryz.prog .neq t x y u v = some (B (!b)) := by
  have key : ∀ op, (∀ (k : Sem Value), True) → binA Tryz.prog op t x y u v = plainV Tryz.prog (do eqGuard op t x y (.agg xs) (.agg ys); binOp op t (.agg xs) (.agg ys)) := fun op _ => by
    unfold binA
    split
    · exact absurd rfl (hns _ _ _ _ _)
    · rw [hu, hv]
  have gd : ∀ op, op = .eql ∨ op = .neq → plain Tryz.prog (eqGuard op t x y (.agg xs) (.agg ys)) = some () := fun op ho => by
    rcases ho with rfl | rfl
    all_goals
      show plain Tryz.prog (if !(Tryz.prog.eqGuardType Tryz.prog.depth t) then _ else _) = _
      rw [hg]
      rfl
  constructor
  · rw [key _ (fun _ => trivial)]
    unfold plainV
    rw [plain_bind, gd _ (.inl rfl)]
    show Option.map AV.v (plain Tryz.prog (do pure (.bool (← Op.equal t (.agg xs) (.agg ys))))) = _
    rw [plain_bind, show Op.equal t (.agg xs) (.agg ys) = Op.equalIn 10000 t (.agg xs) (.agg ys) from rfl, h]
    rfl
  · rw [key _ (fun _ => trivial)]
    unfold plainV
    rw [plain_bind, gd _ (.inr rfl)]
    show Option.map AV.v (plain Tryz.prog (do pure (.bool (!(← Op.equal t (.agg xs) (.agg ys)))))) = _
    rw [plain_bind, show Op.equal t (.agg xs) (.agg ys) = Op.equalIn 10000 t (.agg xs) (.agg ys) from rfl, h]
    rfl
section
variable (x y : Operand)
@[simp] theorem b_eql44 (a b c e : Int) : binA Tryz.prog .eql 44 x y (.ag [I a, I b]) (.ag [I c, I e]) = some (B (decide (a = c) && decide (b = e))) :=
  (eql_agg rfl rfl (fun _ _ _ _ _ h => by cases h) (by kernel_rfl) (eq44' 9998 a b c e)).1
@[simp] theorem b_neq44 (a b c e : Int) : binA Tryz.prog .neq 44 x y (.ag [I a, I b]) (.ag [I c, I e]) = some (B (!(decide (a = c) && decide (b = e)))) :=
  (eql_agg rfl rfl (fun _ _ _ _ _ h => by cases h) (by kernel_rfl) (eq44' 9998 a b c e)).2
end
end Go.Proofs.YtffopeihcebpjaaGreat.X
end
section
set_option linter.unusedVariables false
set_option linter.unusedSimpArgs false
namespace Go.Proofs.YtffopeihcebpjaaGreat.X
open Go
structure Mem where
  k : Chk
  h : Int
structure Ev where
  kd : Int
  id : Int
  don : Int
  pos : Int
  r : Int
  m : Int
  deriving DecidableEq
structure Ent where
  id : Int
  t : ByteArray
  n : Int
structure Sta where
  c : Cfg
  ms : List Mem
  es : List Ev
  st : List Ent
abbrev dt (s : ByteArray) : DV := .v (.string s)
abbrev T (s : ByteArray) : AV := .v (.string s)
def enM (m : Mem) : List DV := [.sl 1 (elR m.k.ws), .sl 1 (elR m.k.vs), dn m.k.r, dn m.k.m, dn m.k.s, dn m.h]
def enE (e : Ev) : List DV := [dn e.kd, dn e.id, dn e.don, dn e.pos, dn e.r, dn e.m]
def enT (e : Ent) : List DV := [dn e.id, dt e.t, dn e.n]
def unM : List DV → Option Mem
  | [a, b, .v (.int .i64 r), .v (.int .i64 m), .v (.int .i64 s), .v (.int .i64 h)] => (unR a).bind fun ws => (unR b).bind fun vs => some ⟨⟨ws, vs, r, m, s⟩, h⟩
  | _ => none
def unEv : List DV → Option Ev
  | [.v (.int .i64 a), .v (.int .i64 b), .v (.int .i64 c), .v (.int .i64 d), .v (.int .i64 e), .v (.int .i64 f)] => some ⟨a, b, c, d, e, f⟩
  | _ => none
def unEn : List DV → Option Ent
  | [.v (.int .i64 a), .v (.string t), .v (.int .i64 c)] => some ⟨a, t, c⟩
  | _ => none
theorem unM_gen {e : List DV} {x : Mem} (h : unM e = some x) : Gens e (enM x) := by
  unfold unM at h
  split at h
  · rename_i a b r m s hd
    cases q1 : unR a with
    | none => rw [q1] at h; cases h
    | some ws =>
      cases q2 : unR b with
      | none => rw [q1, q2] at h; cases h
      | some vs =>
        rw [q1, q2] at h
        cases h
        exact .cons _ _ _ _ (unR_gen q1) (.cons _ _ _ _ (unR_gen q2) (.cons _ _ _ _ (.refl _) (.cons _ _ _ _ (.refl _) (.cons _ _ _ _ (.refl _) (.cons _ _ _ _ (.refl _) .nil)))))
  · cases h
theorem Gens.rfl' : ∀ (ds : List DV), Gens ds ds
  | [] => .nil
  | a :: r => .cons _ _ _ _ (.refl a) (Gens.rfl' r)
theorem unEv_gen {e : List DV} {x : Ev} (h : unEv e = some x) : Gens e (enE x) := by
  unfold unEv at h
  split at h
  · cases h; exact Gens.rfl' _
  · cases h
theorem unEn_gen {e : List DV} {x : Ent} (h : unEn e = some x) : Gens e (enT x) := by
  unfold unEn at h
  split at h
  · cases h; exact Gens.rfl' _
  · cases h
@[simp] theorem unM_en (x : Mem) : unM (enM x) = some x := by simp [unM, enM]
@[simp] theorem unEv_en (x : Ev) : unEv (enE x) = some x := rfl
@[simp] theorem unEn_en (x : Ent) : unEn (enT x) = some x := rfl
/-! Rows of them. -/
def el {α : Type} (en : α → List DV) (xs : List α) : List (List DV) := xs.map en
section
variable {α : Type} (en : α → List DV) (xs ys : List α)
@[simp] theorem el_len : (el en xs).length = xs.length := List.length_map ..
@[simp] theorem el_get (i : Nat) : (el en xs)[i]? = (xs[i]?).map en := List.getElem?_map
@[simp] theorem el_drop (i : Nat) : (el en xs).drop i = el en (xs.drop i) := List.map_drop.symm
@[simp] theorem el_take (i : Nat) : (el en xs).take i = el en (xs.take i) := List.map_take.symm
@[simp] theorem el_app : el en xs ++ el en ys = el en (xs ++ ys) := List.map_append.symm
@[simp] theorem el_at (i : Nat) (h : i < (el en xs).length) : (el en xs)[i] = en (xs[i]'(by simpa using h)) := by simp [el]
theorem el_set (i : Nat) (a : α) : (el en xs).set i (en a) = el en (xs.set i a) := List.map_set.symm
@[simp] theorem el_nil : el en [] = [] := rfl
theorem el_one (a : α) : [en a] = el en [a] := rfl
end
def unEls {α : Type} (un : List DV → Option α) : List (List DV) → Option (List α)
  | [] => some []
  | e :: r => (un e).bind fun a => (unEls un r).bind fun us => some (a :: us)
def unSl {α : Type} (sz : Nat) (un : List DV → Option α) : DV → Option (List α)
  | .sl s els => if s = sz then unEls un els else none
  | .v (.slice none 0 0) => some []
  | _ => none
section
variable {α : Type} {un : List DV → Option α} {en : α → List DV}
theorem unEls_gen (hu : ∀ e x, un e = some x → Gens e (en x)) : ∀ {els : List (List DV)} {xs : List α}, unEls un els = some xs → Genss els (el en xs)
  | [], xs, h => by cases h; exact .nil
  | e :: r, xs, h => by
    unfold unEls at h
    cases q1 : un e with
    | none => rw [q1] at h; cases h
    | some w =>
      cases q2 : unEls un r with
      | none => rw [q1, q2] at h; cases h
      | some us =>
        rw [q1, q2] at h
        cases h
        exact .cons _ _ _ _ (hu _ _ q1) (unEls_gen hu q2)
theorem unSl_gen (hu : ∀ e x, un e = some x → Gens e (en x)) {sz : Nat} {d : DV} {xs : List α} (h : unSl sz un d = some xs) : Gen d (.sl sz (el en xs)) := by
  unfold unSl at h
  split at h
  · split at h
    · rename_i q; subst q; exact .sl _ _ _ (unEls_gen hu h)
    · cases h
  · cases h; exact .nil sz
  · cases h
theorem unEls_el (hu : ∀ x, un (en x) = some x) (xs : List α) : unEls un (el en xs) = some xs := by
  induction xs with
  | nil => rfl
  | cons w r ih =>
    show (un (en w)).bind (fun w => (unEls un (el en r)).bind fun ws => some (w :: ws)) = _
    rw [hu, ih]
    rfl
theorem eqE_el' (he : ∀ x, eqL (en x) (en x) = true) (xs : List α) : eqE (el en xs) (el en xs) = true := by
  induction xs with
  | nil => rfl
  | cons w r ih =>
    show (eqL (en w) (en w) && eqE (el en r) (el en r)) = true
    rw [he, ih]
    rfl
end
@[simp] theorem unMs_el (xs : List Mem) : unSl 6 unM (.sl 6 (el enM xs)) = some xs := by
  show (if 6 = 6 then unEls unM (el enM xs) else none) = _
  rw [if_pos rfl, unEls_el unM_en]
@[simp] theorem unEs_el (xs : List Ev) : unSl 6 unEv (.sl 6 (el enE xs)) = some xs := by
  show (if 6 = 6 then unEls unEv (el enE xs) else none) = _
  rw [if_pos rfl, unEls_el unEv_en]
@[simp] theorem unTs_el (xs : List Ent) : unSl 3 unEn (.sl 3 (el enT xs)) = some xs := by
  show (if 3 = 3 then unEls unEn (el enT xs) else none) = _
  rw [if_pos rfl, unEls_el unEn_en]
@[simp] theorem eqE_M (xs : List Mem) : eqE (el enM xs) (el enM xs) = true := eqE_el' (fun x => by simp [enM]) xs
@[simp] theorem eqE_E (xs : List Ev) : eqE (el enE xs) (el enE xs) = true := eqE_el' (fun x => by simp [enE]) xs
@[simp] theorem eqE_T (xs : List Ent) : eqE (el enT xs) (el enT xs) = true := eqE_el' (fun x => by simp [enT]) xs
/-! States. -/
def enS (s : Sta) : DV := .ag [dn s.c.mem, dn s.c.inn, dn s.c.hid, .sl 2 (elW s.c.rows), dn s.c.seed, dn s.c.total, dn s.c.intv, dn s.c.cut, db s.c.pert, .sl 6 (el enM s.ms), .sl 6 (el enE s.es), .sl 3 (el enT s.st)]
def unS : DV → Option Sta
  | .ag [.v (.int .i64 a), .v (.int .i64 b), .v (.int .i64 c), rs, .v (.int .i64 d), .v (.int .i64 e), .v (.int .i64 f), .v (.int .i64 g), .v (.bool p), x, y, z] =>
    (unRows rs).bind fun rows => (unSl 6 unM x).bind fun ms => (unSl 6 unEv y).bind fun es => (unSl 3 unEn z).bind fun st => some ⟨⟨a, b, c, rows, d, e, f, g, p⟩, ms, es, st⟩
  | _ => none
theorem unS_gen {d : DV} {s : Sta} (h : unS d = some s) : Gen d (enS s) := by
  unfold unS at h
  split at h
  · rename_i a b c rs d e f g p x y z
    cases q1 : unRows rs with
    | none => rw [q1] at h; cases h
    | some rows =>
      cases q2 : unSl 6 unM x with
      | none => rw [q1, q2] at h; cases h
      | some ms =>
        cases q3 : unSl 6 unEv y with
        | none => rw [q1, q2, q3] at h; cases h
        | some es =>
          cases q4 : unSl 3 unEn z with
          | none => rw [q1, q2, q3, q4] at h; cases h
          | some st =>
            rw [q1, q2, q3, q4] at h
            cases h
            exact .ag _ _ (.cons _ _ _ _ (.refl _) (.cons _ _ _ _ (.refl _) (.cons _ _ _ _ (.refl _) (.cons _ _ _ _ (unRows_gen q1) (.cons _ _ _ _ (.refl _) (.cons _ _ _ _ (.refl _) (.cons _ _ _ _ (.refl _) (.cons _ _ _ _ (.refl _) (.cons _ _ _ _ (.refl _)
              (.cons _ _ _ _ (unSl_gen (fun _ _ => unM_gen) q2) (.cons _ _ _ _ (unSl_gen (fun _ _ => unEv_gen) q3) (.cons _ _ _ _ (unSl_gen (fun _ _ => unEn_gen) q4) .nil))))))))))))
  · cases h
/-! Arguments. -/
def argT (g : ByteArray → List DV → Option DV) : List DV → Option DV
  | .v (.string s) :: r => g s r
  | _ => none
def unTx : DV → Option ByteArray
  | .v (.string s) => some s
  | _ => none
def argMs (g : List Mem → List DV → Option DV) : List DV → Option DV
  | a :: r => (unSl 6 unM a).bind fun x => g x r
  | [] => none
def argEs (g : List Ev → List DV → Option DV) : List DV → Option DV
  | a :: r => (unSl 6 unEv a).bind fun x => g x r
  | [] => none
def argTs (g : List Ent → List DV → Option DV) : List DV → Option DV
  | a :: r => (unSl 3 unEn a).bind fun x => g x r
  | [] => none
def argS (g : Sta → List DV → Option DV) : List DV → Option DV
  | a :: r => (unS a).bind fun x => g x r
  | [] => none
def unMv : DV → Option Mem
  | .ag e => unM e
  | _ => none
def argM (g : Mem → List DV → Option DV) : List DV → Option DV
  | a :: r => (unMv a).bind fun x => g x r
  | [] => none
@[simp] theorem argT_dt (g : ByteArray → List DV → Option DV) (s : ByteArray) (r : List DV) : argT g (dt s :: r) = g s r := rfl
@[simp] theorem argMs_el (g : List Mem → List DV → Option DV) (xs : List Mem) (r : List DV) : argMs g (.sl 6 (el enM xs) :: r) = g xs r := by simp [argMs]
@[simp] theorem argEs_el (g : List Ev → List DV → Option DV) (xs : List Ev) (r : List DV) : argEs g (.sl 6 (el enE xs) :: r) = g xs r := by simp [argEs]
@[simp] theorem argTs_el (g : List Ent → List DV → Option DV) (xs : List Ent) (r : List DV) : argTs g (.sl 3 (el enT xs) :: r) = g xs r := by simp [argTs]
@[simp] theorem argMs_dz (g : List Mem → List DV → Option DV) (r : List DV) : argMs g (dz :: r) = g [] r := rfl
@[simp] theorem argEs_dz (g : List Ev → List DV → Option DV) (r : List DV) : argEs g (dz :: r) = g [] r := rfl
@[simp] theorem argTs_dz (g : List Ent → List DV → Option DV) (r : List DV) : argTs g (dz :: r) = g [] r := rfl
@[simp] theorem argS_ag (k : Sta → List DV → Option DV) (a b c : Int) (rows : List Rw) (d e f g : Int) (p : Bool) (ms : List Mem) (es : List Ev) (st : List Ent) (q : List DV) :
    argS k (.ag [dn a, dn b, dn c, .sl 2 (elW rows), dn d, dn e, dn f, dn g, db p, .sl 6 (el enM ms), .sl 6 (el enE es), .sl 3 (el enT st)] :: q) = k ⟨⟨a, b, c, rows, d, e, f, g, p⟩, ms, es, st⟩ q := by
  simp [argS, unS]
@[simp] theorem argM_ag (k : Mem → List DV → Option DV) (ws vs : List Int) (r m s h : Int) (q : List DV) : argM k (.ag [.sl 1 (elR ws), .sl 1 (elR vs), dn r, dn m, dn s, dn h] :: q) = k ⟨⟨ws, vs, r, m, s⟩, h⟩ q := by
  simp [argM, unMv, unM]
section
variable {L : List Con} {f : FuncId} {pre : List DV}
theorem Sat.T {g : ByteArray → List DV → Option DV} (h : ∀ x, Sat L f (pre ++ [dt x]) (g x)) : Sat L f pre (argT g) := by
  have e : argT g = fun ds => match ds with
    | a :: r => (unTx a).bind fun x => g x r
    | [] => none := by
    funext ds
    match ds with
    | [] => rfl
    | a :: r =>
      show argT g (a :: r) = (unTx a).bind fun x => g x r
      unfold argT unTx
      split
      · rename_i q; cases q; rfl
      · rename_i q
        split
        · exact absurd rfl (q _ _)
        · rfl
  rw [e]
  exact Sat.arg (en := dt) (fun d x e => by
    unfold unTx at e
    split at e
    · cases e; exact .refl _
    · cases e) h
theorem Sat.Ms {g : List Mem → List DV → Option DV} (h : ∀ c, Sat L f (pre ++ [.sl 6 (el enM c)]) (g c)) : Sat L f pre (argMs g) := by
  rw [arg_eq (K := argMs g) (fun _ _ => rfl) rfl]
  exact Sat.arg (fun d x e => unSl_gen (fun _ _ => unM_gen) e) h
theorem Sat.Es {g : List Ev → List DV → Option DV} (h : ∀ c, Sat L f (pre ++ [.sl 6 (el enE c)]) (g c)) : Sat L f pre (argEs g) := by
  rw [arg_eq (K := argEs g) (fun _ _ => rfl) rfl]
  exact Sat.arg (fun d x e => unSl_gen (fun _ _ => unEv_gen) e) h
theorem Sat.Ts {g : List Ent → List DV → Option DV} (h : ∀ c, Sat L f (pre ++ [.sl 3 (el enT c)]) (g c)) : Sat L f pre (argTs g) := by
  rw [arg_eq (K := argTs g) (fun _ _ => rfl) rfl]
  exact Sat.arg (fun d x e => unSl_gen (fun _ _ => unEn_gen) e) h
theorem Sat.S {g : Sta → List DV → Option DV} (h : ∀ c, Sat L f (pre ++ [enS c]) (g c)) : Sat L f pre (argS g) := by
  rw [arg_eq (K := argS g) (fun _ _ => rfl) rfl]
  exact Sat.arg (fun d x e => unS_gen e) h
theorem Sat.M {g : Mem → List DV → Option DV} (h : ∀ c, Sat L f (pre ++ [.ag (enM c)]) (g c)) : Sat L f pre (argM g) := by
  rw [arg_eq (K := argM g) (fun _ _ => rfl) rfl]
  refine Sat.arg (fun d x e => ?_) h
  unfold unMv at e
  split at e
  · exact .ag _ _ (unM_gen e)
  · cases e
end
end Go.Proofs.YtffopeihcebpjaaGreat.X
end
