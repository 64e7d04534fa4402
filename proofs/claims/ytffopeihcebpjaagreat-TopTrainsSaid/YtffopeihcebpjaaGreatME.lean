/- Contracts: activations, rows that are alike, checkpoints, sums. Contracts: sums, checkpoints, rows of a config, configs. Contracts: a config's rows; configs. Contracts: rows that are the same; a step of optimising. Contracts: a step of optimising. Contracts: the gradient. -/
import Derived.Test.YtffopeihcebpjaaGreatMD
section
set_option linter.unusedVariables false
set_option linter.unusedSimpArgs false
set_option maxRecDepth 10000
set_option maxHeartbeats 4000000
namespace Go.Proofs.YtffopeihcebpjaaGreat.X
open Go
def L7 : List Con := ⟨76, K76⟩ :: ⟨130, K130⟩ :: ⟨131, K131⟩ :: ⟨21, K21⟩ :: L6
theorem lk7 (f : FuncId) (ds : List DV) : lookC L7 f ds = if 76 = f then K76 ds else if 130 = f then K130 ds else if 131 = f then K131 ds else if 21 = f then K21 ds else lookC L6 f ds := rfl
theorem L7ok : ConsOk L7 := .cons _ _ ok76 <| .cons _ _ ok130 <| .cons _ _ ok131 <| .cons _ _ ok21 L6ok
def pAl2 (x y : List Int) : Bool := pVec x && (pVec y && decide (y.length = x.length))
def pAl3 (x y z : List Int) : Bool := pVec x && (pVec y && (decide (y.length = x.length) && (pVec z && decide (z.length = x.length))))
def K74 : List DV → Option DV
  | [.sl 1 [[a], [b]]] => (unR a).bind fun x => (unR b).bind fun y => some (db (pAl2 x y))
  | [.sl 1 [[a], [b], [c]]] => (unR a).bind fun x => (unR b).bind fun y => (unR c).bind fun z => some (db (pAl3 x y z))
  | _ => none
@[simp] theorem K74_2 (x y : List Int) : K74 [.sl 1 [[.sl 1 (elR x)], [.sl 1 (elR y)]]] = some (db (pAl2 x y)) := by simp [K74]
@[simp] theorem K74_3 (x y z : List Int) : K74 [.sl 1 [[.sl 1 (elR x)], [.sl 1 (elR y)], [.sl 1 (elR z)]]] = some (db (pAl3 x y z)) := by simp [K74]
set_option maxHeartbeats 4000000 in
theorem ok74 : Con.ok ⟨74, K74⟩ := con_of L7ok fun ds d e => by
  change K74 ds = some d at e
  show ∃ n k m ds' d0, Gens ds ds' ∧ deepB Tryz.prog (GC L7) n k m 74 ds' = some d0 ∧ Gen d0 d
  unfold K74 at e
  split at e
  · rename_i a b
    cases q1 : unR a with
    | none => rw [q1] at e; cases e
    | some x =>
      cases q2 : unR b with
      | none => rw [q1, q2] at e; cases e
      | some y =>
        rw [q1, q2] at e
        cases e
        refine ⟨99, 1, 9, [.sl 1 [[.sl 1 (elR x)], [.sl 1 (elR y)]]], _, .cons _ _ _ _ (.sl _ _ _ (.cons _ _ _ _ (.cons _ _ _ _ (unR_gen q1) .nil) (.cons _ _ _ _ (.cons _ _ _ _ (unR_gen q2) .nil) .nil))) .nil, ?_, .refl _⟩
        cases h1 : pVec x
        · simp -implicitDefEqProofs [cb Tryz.func74, Tryz.f74, k_loop, loop_s, lk7, lk6, K136, pAl2, h1]
        · cases h2 : pVec y
          · simp -implicitDefEqProofs [cb Tryz.func74, Tryz.f74, k_loop, loop_s, lk7, lk6, K136, pAl2, h1, h2]
          · by_cases h3 : y.length = x.length
            · simp -implicitDefEqProofs [cb Tryz.func74, Tryz.f74, k_loop, loop_s, lk7, lk6, K136, pAl2, h1, h2, eq_true h3, eq_true (show (y.length : Int) = x.length by omega)]
            · simp -implicitDefEqProofs [cb Tryz.func74, Tryz.f74, k_loop, loop_s, lk7, lk6, K136, pAl2, h1, h2, h3, show ¬ (y.length : Int) = x.length by omega]
  · rename_i a b c
    cases q1 : unR a with
    | none => rw [q1] at e; cases e
    | some x =>
      cases q2 : unR b with
      | none => rw [q1, q2] at e; cases e
      | some y =>
        cases q3 : unR c with
        | none => rw [q1, q2, q3] at e; cases e
        | some z =>
          rw [q1, q2, q3] at e
          cases e
          refine ⟨99, 1, 9, [.sl 1 [[.sl 1 (elR x)], [.sl 1 (elR y)], [.sl 1 (elR z)]]], _, .cons _ _ _ _ (.sl _ _ _ (.cons _ _ _ _ (.cons _ _ _ _ (unR_gen q1) .nil) (.cons _ _ _ _ (.cons _ _ _ _ (unR_gen q2) .nil) (.cons _ _ _ _ (.cons _ _ _ _ (unR_gen q3) .nil) .nil)))) .nil, ?_, .refl _⟩
          cases h1 : pVec x
          · simp -implicitDefEqProofs [cb Tryz.func74, Tryz.f74, k_loop, loop_s, lk7, lk6, K136, pAl3, h1]
          · cases h2 : pVec y
            · simp -implicitDefEqProofs [cb Tryz.func74, Tryz.f74, k_loop, loop_s, lk7, lk6, K136, pAl3, h1, h2]
            · by_cases h3 : y.length = x.length
              · cases h4 : pVec z
                · simp -implicitDefEqProofs [cb Tryz.func74, Tryz.f74, k_loop, loop_s, lk7, lk6, K136, pAl3, h1, h2, eq_true h3, eq_true (show (y.length : Int) = x.length by omega), h4]
                · by_cases h5 : z.length = x.length
                  · simp -implicitDefEqProofs [cb Tryz.func74, Tryz.f74, k_loop, loop_s, lk7, lk6, K136, pAl3, h1, h2, eq_true h3, eq_true (show (y.length : Int) = x.length by omega), h4, eq_true h5, eq_true (show (z.length : Int) = x.length by omega)]
                  · simp -implicitDefEqProofs [cb Tryz.func74, Tryz.f74, k_loop, loop_s, lk7, lk6, K136, pAl3, h1, h2, eq_true h3, eq_true (show (y.length : Int) = x.length by omega), h4, h5, show ¬ (z.length : Int) = x.length by omega]
              · simp -implicitDefEqProofs [cb Tryz.func74, Tryz.f74, k_loop, loop_s, lk7, lk6, K136, pAl3, h1, h2, h3, show ¬ (y.length : Int) = x.length by omega]
  · cases e
@[simp] theorem elR_set (xs : List Int) (i : Nat) (v : Int) : (elR xs).set i [dn v] = elR (xs.set i v) := List.map_set.symm
@[simp] theorem elR_rep (n : Nat) (v : Int) : List.replicate n [dn v] = elR (List.replicate n v) := by simp [elR]
@[simp] theorem elR_at (xs : List Int) (i : Nat) (h : i < (elR xs).length) : (elR xs)[i] = [dn (xs[i]'(by simpa using h))] := by simp [elR]
theorem mk_27 (h : H) (n : Nat) (hn : n ≤ 1000) : makeSliceA Tryz.prog 27 (I n) (I n) h = some (.sl h.n 1 0 n none, h.new (.row 1 (elR (List.replicate n 0)) true), []) := by
  have h1 : n ≤ 35184372088832 ∧ n * 8 ≤ 35184372088832 := by omega
  simp [makeSliceA, intOf, ro_3, h1]
def K73 := argR fun xs => fin (if xs.length ≤ 1000 then some (.sl 1 (elR (xs.map pHard))) else none)
theorem ok73 : Con.ok ⟨73, K73⟩ := Sat.con L7ok (.R fun xs => .cond 1001 1 2 (fun hl => by
  simp -implicitDefEqProofs [cb Tryz.func73, Tryz.f73, k_loop, mk_27 _ _ hl]
  generalize hL : loopN _ 1001 _ = r
  obtain ⟨e, st', rfl, rfl, q1, q2, q3⟩ := loop_use hL xs.length (fun i st => (∃ ys, st.h = ⟨[(1, .row 1 (elR ys) true), (0, .row 1 (elR xs) false)], 2⟩ ∧ ys.length = xs.length ∧ ∀ j x, j < i → xs[j]? = some x → ys[j]? = some (pHard x)) ∧ st.tm.length = 23 ∧ tget st.tm 3 = .sl 1 1 0 xs.length none ∧ tget st.tm 9 = .sl 0 1 0 xs.length none ∧ tget st.tm 10 = I xs.length ∧ tget st.tm 11 = I i)
    (fun e st => e = .exit 0 ∧ st.h = ⟨[(1, .row 1 (elR (xs.map pHard)) true), (0, .row 1 (elR xs) false)], 2⟩ ∧ st.tm.length = 23 ∧ tget st.tm 3 = .sl 1 1 0 xs.length none) (by omega) (by simp; exact ⟨_, rfl, by simp⟩) (fun i st hi ⟨⟨ys, f1, y1, y2⟩, f2, f3, f4, f5, f6⟩ => by
      have hxi : xs[i]? = some xs[i] := List.getElem?_eq_getElem hi
      have hyi : ys[i]? = some (ys[i]'(by omega)) := List.getElem?_eq_getElem (by omega)
      have w : w64 ((i : Int) + 1) = ((i + 1 : Nat) : Int) := w64_id (by omega) (by omega)
      left
      simp -implicitDefEqProofs [f1, f2, f3, f4, f5, f6, hi, hxi, hyi, w, lk7, lk6, lk5, lk4, lk3, lk2, K135]
      refine ⟨_, rfl, by simp [y1], fun j x hj hx => ?_⟩
      rw [List.getElem?_set]
      by_cases z : i = j
      · subst z
        rw [hxi] at hx
        cases hx
        simp [y1, hi]
      · rw [if_neg z]
        exact y2 j x (by omega) hx)
    (fun st ⟨⟨ys, f1, y1, y2⟩, f2, f3, f4, f5, f6⟩ => by
      have : ys = xs.map pHard := by
        refine List.ext_getElem? (fun j => ?_)
        rw [List.getElem?_map]
        cases q : xs[j]? with
        | none => have := List.getElem?_eq_none_iff.1 q; rw [List.getElem?_eq_none (by omega)]; rfl
        | some x => exact y2 j x (List.getElem?_eq_some_iff.1 q).1 q
      subst this
      refine ⟨.exit 0, ?_⟩
      simp -implicitDefEqProofs [f1, f2, f3, f4, f5, f6])
  have ht : (xs.map pHard).take xs.length = xs.map pHard := List.take_of_length_le (by simp)
  simp -implicitDefEqProofs [q1, q2, q3, ht]))
end Go.Proofs.YtffopeihcebpjaaGreat.X
end
section
set_option linter.unusedVariables false
set_option linter.unusedSimpArgs false
set_option maxRecDepth 10000
set_option maxHeartbeats 4000000
namespace Go.Proofs.YtffopeihcebpjaaGreat.X
open Go
def L8 : List Con := ⟨73, K73⟩ :: ⟨74, K74⟩ :: L7
theorem lk8 (f : FuncId) (ds : List DV) : lookC L8 f ds = if 73 = f then K73 ds else if 74 = f then K74 ds else lookC L7 f ds := rfl
theorem L8ok : ConsOk L8 := .cons _ _ ok73 <| .cons _ _ ok74 L7ok
def pSum (xs ys : List Int) : Nat → Int
  | 0 => 0
  | i + 1 => pPlus (pSum xs ys i) (pTimes (xs.getD i 0) (ys.getD i 0))
def K133 := argR fun xs => argR fun ys => fin (if xs.length ≤ ys.length ∧ xs.length ≤ 1000 then some (dn (pSum xs ys xs.length)) else none)
theorem ok133 : Con.ok ⟨133, K133⟩ := Sat.con L8ok (.R fun xs => .R fun ys => .cond 1001 1 2 (fun ⟨hl, hb⟩ => by
  simp -implicitDefEqProofs [cb Tryz.func133, Tryz.f133, k_loop]
  generalize hL : loopN _ 1001 _ = r
  obtain ⟨e, st', rfl, rfl, q1, q2, q3⟩ := loop_use hL xs.length (fun i st => st.h = ⟨[(1, .row 1 (elR ys) false), (0, .row 1 (elR xs) false)], 2⟩ ∧ st.tm.length = 25 ∧ tget st.tm 1 = .sl 1 1 0 ys.length none ∧ tget st.tm 8 = .sl 0 1 0 xs.length none ∧ tget st.tm 9 = I xs.length ∧ tget st.tm 10 = I i ∧ tget st.tm 5 = I (pSum xs ys i))
    (fun e st => e = .exit 0 ∧ st.h = ⟨[(1, .row 1 (elR ys) false), (0, .row 1 (elR xs) false)], 2⟩ ∧ st.tm.length = 25 ∧ tget st.tm 5 = I (pSum xs ys xs.length)) (by omega) (by simp [pSum]) (fun i st hi ⟨f1, f2, f3, f4, f5, f6, f7⟩ => by
      have hxi : xs[i]? = some xs[i] := List.getElem?_eq_getElem hi
      have hi2 : i < ys.length := by omega
      have hyi : ys[i]? = some ys[i] := List.getElem?_eq_getElem hi2
      have w : w64 ((i : Int) + 1) = ((i + 1 : Nat) : Int) := w64_id (by omega) (by omega)
      left
      simp -implicitDefEqProofs [f1, f2, f3, f4, f5, f6, f7, hi, hi2, lk8, lk7, lk6, lk5, lk4, lk3, lk2, K71, K68, pSum, hxi, hyi, w])
    (fun st ⟨f1, f2, f3, f4, f5, f6, f7⟩ => by
      refine ⟨.exit 0, ?_⟩
      simp -implicitDefEqProofs [f1, f2, f3, f4, f5, f6, f7])
  simp -implicitDefEqProofs [q1, q2, q3]))
def pCheck (c : Chk) : Bool := pAl2 c.ws c.vs && (decide (0 < c.ws.length) && (pHyper c.r c.m && (decide (0 ≤ c.s) && decide (c.s ≤ 32))))
def K25 := argC fun c => fin (some (db (pCheck c)))
theorem ok25 : Con.ok ⟨25, K25⟩ := Sat.con L8ok (.C fun c => .fin 9 1 2 (by
  cases h1 : pAl2 c.ws c.vs
  · simp -implicitDefEqProofs [cb Tryz.func25, Tryz.f25, enC, lk8, lk7, lk6, K76, pCheck, h1]
  by_cases h2 : 0 < c.ws.length
  · cases h3 : pHyper c.r c.m
    · simp -implicitDefEqProofs [cb Tryz.func25, Tryz.f25, enC, lk8, lk7, lk6, K76, pCheck, h1, h2, h3]
    · by_cases h4 : 0 ≤ c.s <;> by_cases h5 : c.s ≤ 32 <;> simp -implicitDefEqProofs [cb Tryz.func25, Tryz.f25, enC, lk8, lk7, lk6, K76, pCheck, h1, h2, h3, h4, h5]
  · simp -implicitDefEqProofs [cb Tryz.func25, Tryz.f25, enC, lk8, lk7, lk6, K76, pCheck, h1, h2]))
end Go.Proofs.YtffopeihcebpjaaGreat.X
end
section
set_option linter.unusedVariables false
set_option linter.unusedSimpArgs false
set_option maxRecDepth 10000
set_option maxHeartbeats 4000000
namespace Go.Proofs.YtffopeihcebpjaaGreat.X
open Go
theorem get_new (h : H) (x : Ob) (o : Nat) : (h.new x).get o = if o = h.n then x else h.get o := by
  by_cases q : o = h.n
  · rw [if_pos q, q, get_new_same]
  · rw [if_neg q, get_new_ne q]
@[simp] theorem elW_at (ws : List Rw) (i : Nat) (h : i < (elW ws).length) : (elW ws)[i] = enW (ws[i]'(by simpa using h)) := by simp [elW]
theorem load_row {h : H} {o i : Nat} {ws : List Rw} {w : Rw} (hg : h.get o = .row 2 (elW ws) false) (hw : ws[i]? = some w) : loadA Tryz.prog 55 (.pt o 2 i 0) h = some (.ag [.sl h.n 1 0 w.1.length none, I w.2], h.new (.row 1 (elR w.1) false)) := by
  simp [load_eq, hg, hw, enW]
/-- The first odd row. What holds of the heap: the rows lie there; it goes on holding when objects are made. -/
theorem idx185 (C : Told) (n k : Nat) (J : H → Prop) (p : Rw → Bool) (ws : List Rw) (o : Nat) (c : Option Nat) (fv : FuncId) (cap : List AV) (h : H) (h0 : J h) (hrow : ∀ h', J h' → h'.get o = .row 2 (elW ws) false)
    (hc : ∀ h' w, J h' → w ∈ ws → ∃ h'', C fv ([.ag [.sl h'.n 1 0 w.1.length none, I w.2]] ++ cap) (h'.new (.row 1 (elR w.1) false)) = some (B (p w), h'') ∧ J h'') (hn : ws.length < n) (hs : ws.length < 2 ^ 60) :
    ∃ h', callB Tryz.prog n (k + 1) C 185 [.sl o 2 0 ws.length c, .fn fv cap] h = some (I (pIdx p ws), h') ∧ J h' := by
  simp -implicitDefEqProofs [cb Tryz.func185, Tryz.f185, k_loop]
  generalize hL : loopN _ n _ = r
  obtain ⟨e, st', rfl, q⟩ := loop_use hL ws.length (fun i st => J st.h ∧ st.tm.length = 19 ∧ tget st.tm 0 = .sl o 2 0 ws.length c ∧ tget st.tm 1 = .fn fv cap ∧ tget st.tm 7 = I ws.length ∧ tget st.tm 8 = I i ∧ ∀ j y, j < i → ws[j]? = some y → p y = false)
    (fun e st => J st.h ∧ st.tm.length = 19 ∧ ((e = .exit 0 ∧ fIdx p ws = none) ∨ (e = .ret ∧ ∃ i : Nat, fIdx p ws = some i ∧ tget st.tm 4 = I i))) hn (by simp [h0]) (fun i st hi ⟨f1, f2, f3, f4, f5, f6, f7⟩ => by
      have hxi : ws[i]? = some ws[i] := List.getElem?_eq_getElem hi
      obtain ⟨h'', hcx, hJ⟩ := hc st.h ws[i] f1 (List.getElem_mem hi)
      have w : w64 ((i : Int) + 1) = ((i + 1 : Nat) : Int) := w64_id (by omega) (by omega)
      have hcx' : C fv (.ag [.sl st.h.n 1 0 ws[i].1.length none, I ws[i].2] :: cap) (st.h.new (.row 1 (elR ws[i].1) false)) = some (B (p ws[i]), h'') := hcx
      cases hp : p ws[i] with
      | false =>
        left
        simp -implicitDefEqProofs [f2, f3, f4, f5, f6, hi, load_row (hrow _ f1) hxi, hcx', hp, w, hJ]
        intro j y1 y2 hj hy
        rcases Nat.lt_or_eq_of_le (show j ≤ i by omega) with z | rfl
        · exact f7 j _ z hy
        · have z := Option.some.inj (hxi.symm.trans hy)
          rw [← z]; exact hp
      | true =>
        right
        refine ⟨.ret, ?_⟩
        simp -implicitDefEqProofs [f2, f3, f4, f5, f6, hi, load_row (hrow _ f1) hxi, hcx', hp, hJ]
        exact ⟨i, fIdx_some hxi hp f7, rfl⟩)
    (fun st ⟨f1, f2, f3, f4, f5, f6, f7⟩ => by
      refine ⟨.exit 0, ?_⟩
      simp -implicitDefEqProofs [f1, f2, f3, f4, f5, f6]
      exact fIdx_none fun j y hy => f7 j y (List.getElem?_eq_some_iff.1 hy).1 hy)
  obtain ⟨q1, q2, ⟨rfl, q3⟩ | ⟨rfl, i, q3, q4⟩⟩ := q
  · refine ⟨st'.h, ?_, q1⟩
    simp -implicitDefEqProofs [q2, q3, pIdx]
  · refine ⟨st'.h, ?_, q1⟩
    simp -implicitDefEqProofs [q2, q3, q4, pIdx]
def L9 : List Con := ⟨133, K133⟩ :: ⟨25, K25⟩ :: L8
theorem lk9 (f : FuncId) (ds : List DV) : lookC L9 f ds = if 133 = f then K133 ds else if 25 = f then K25 ds else lookC L8 f ds := rfl
theorem L9ok : ConsOk L9 := .cons _ _ ok133 <| .cons _ _ ok25 L8ok
def pRow1 (i : Int) (w : Rw) : Bool := pInputs i w.1 && pFix w.2
def pLoss (i h : Int) (ws : List Rw) : Bool := pShape i h && (decide (1 ≤ ws.length) && (decide (ws.length ≤ 8) && ws.all (pRow1 i)))
def K78 := arg2 fun i h => argRs fun ws => fin (some (db (pLoss i h ws)))
theorem ok78 : Con.ok ⟨78, K78⟩ := Sat.con L9ok (.P fun i h => .Rs fun ws => .fin 99 1 9 (by
  cases h1 : pShape i h
  · simp -implicitDefEqProofs [cb Tryz.func78, Tryz.f78, makeFuncA, lk9, lk8, lk7, lk6, lk5, K138, pLoss, h1]
  by_cases h2 : 1 ≤ ws.length
  · by_cases h3 : ws.length ≤ 8
    · obtain ⟨h', H1, H2⟩ := idx185 (callN Tryz.prog (GC L9) 99 1 7) 99 0 (fun h' => h'.get 0 = .row 2 (elW ws) false ∧ h'.get 1 = .box [I i, I h] ∧ 2 ≤ h'.n) (fun w => !pRow1 i w) ws 0 none 137 [.pt 1 0 0 0] ⟨[(1, .box [I i, I h]), (0, .row 2 (elW ws) false)], 2⟩ (by simp) (fun h' q => q.1)
        (fun h' w q hw => by
          obtain ⟨q1, q2, q3⟩ := q
          have e1 : ¬ 1 = h'.n := by omega
          have e2 : ¬ 0 = h'.n := by omega
          have e3 : ¬ 1 = h'.n + 1 := by omega
          have e4 : ¬ 0 = h'.n + 1 := by omega
          have e5 : ¬ h'.n = h'.n + 1 := by omega
          have e6 : ¬ h'.n = 0 := by omega
          cases hp : pInputs i w.1
          · simp -implicitDefEqProofs [cb Tryz.func137, Tryz.f137, lk9, lk8, lk7, K131, get_new, new_n, q1, q2, q3, e1, e2, e3, e4, e5, e6, hp, pRow1]
          · simp -implicitDefEqProofs [cb Tryz.func137, Tryz.f137, lk9, lk8, lk7, lk6, lk5, lk4, lk3, lk2, K131, K66, get_new, new_n, q1, q2, q3, e1, e2, e3, e4, e5, e6, hp, pRow1]) (by omega) (by omega)
      rw [Nat.zero_add] at H1
      have e : ws.all (pRow1 i) = !(ws.any fun x => !pRow1 i x) := by simp [List.not_any_eq_all_not]
      simp -implicitDefEqProofs [cb Tryz.func78, Tryz.f78, cb Tryz.func139, Tryz.f139, makeFuncA, seal_fn, lk9, lk8, lk7, lk6, lk5, K138, pLoss, h1, h2, h3, e, H1, pIdx_any, show (1 : Int) ≤ ws.length by omega, show (ws.length : Int) ≤ 8 by omega]
    · simp -implicitDefEqProofs [cb Tryz.func78, Tryz.f78, makeFuncA, lk9, lk8, lk7, lk6, lk5, K138, pLoss, h1, h2, h3, show (1 : Int) ≤ ws.length by omega, show ¬ (ws.length : Int) ≤ 8 by omega]
  · simp -implicitDefEqProofs [cb Tryz.func78, Tryz.f78, makeFuncA, lk9, lk8, lk7, lk6, lk5, K138, pLoss, h1, h2, show ¬ (1 : Int) ≤ ws.length by omega]))
def L10 : List Con := ⟨78, K78⟩ :: L9
theorem lk10 (f : FuncId) (ds : List DV) : lookC L10 f ds = if 78 = f then K78 ds else lookC L9 f ds := rfl
theorem L10ok : ConsOk L10 := .cons _ _ ok78 L9ok
theorem b_quo2 (x y : Operand) (a : Int) : binA Tryz.prog .quo 3 x y (I a) (I 2) = some (I (w64 (a.tdiv 2))) := by kernel_rfl
def pCfg (c : Cfg) : Bool := pIn c.mem 2 8 && (pLoss c.inn c.hid c.rows && (pIn c.seed 0 65535 && (pIn c.total 1 32 && (pIn c.intv 1 8 && pIn c.cut 1 (w64 (c.mem.tdiv 2))))))
def K26 := argG fun c => fin (some (db (pCfg c)))
theorem ok26 : Con.ok ⟨26, K26⟩ := Sat.con L10ok (.G fun c => .fin 9 1 2 (by
  cases h1 : pIn c.mem 2 8
  · simp -implicitDefEqProofs [cb Tryz.func26, Tryz.f26, enG, lk10, lk9, lk8, lk7, lk6, lk5, lk4, lk3, lk2, K77, K78, K63, pCfg, h1]
  cases h2 : pLoss c.inn c.hid c.rows
  · simp -implicitDefEqProofs [cb Tryz.func26, Tryz.f26, enG, lk10, lk9, lk8, lk7, lk6, lk5, lk4, lk3, lk2, K77, K78, K63, pCfg, h1, h2]
  cases h3 : pIn c.seed 0 65535
  · simp -implicitDefEqProofs [cb Tryz.func26, Tryz.f26, enG, lk10, lk9, lk8, lk7, lk6, lk5, lk4, lk3, lk2, K77, K78, K63, pCfg, h1, h2, h3]
  cases h4 : pIn c.total 1 32
  · simp -implicitDefEqProofs [cb Tryz.func26, Tryz.f26, enG, lk10, lk9, lk8, lk7, lk6, lk5, lk4, lk3, lk2, K77, K78, K63, pCfg, h1, h2, h3, h4]
  cases h5 : pIn c.intv 1 8
  · simp -implicitDefEqProofs [cb Tryz.func26, Tryz.f26, enG, lk10, lk9, lk8, lk7, lk6, lk5, lk4, lk3, lk2, K77, K78, K63, pCfg, h1, h2, h3, h4, h5]
  cases h6 : pIn c.cut 1 (w64 (c.mem.tdiv 2))
  · simp -implicitDefEqProofs [cb Tryz.func26, Tryz.f26, enG, lk10, lk9, lk8, lk7, lk6, lk5, lk4, lk3, lk2, K77, K78, K63, pCfg, b_quo2, h1, h2, h3, h4, h5, h6]
  · simp -implicitDefEqProofs [cb Tryz.func26, Tryz.f26, enG, lk10, lk9, lk8, lk7, lk6, lk5, lk4, lk3, lk2, K77, K78, K63, pCfg, b_quo2, h1, h2, h3, h4, h5, h6]))
end Go.Proofs.YtffopeihcebpjaaGreat.X
end
section
set_option linter.unusedVariables false
set_option linter.unusedSimpArgs false
set_option maxRecDepth 10000
set_option maxHeartbeats 4000000
namespace Go.Proofs.YtffopeihcebpjaaGreat.X
open Go
def L11 : List Con := ⟨26, K26⟩ :: L10
theorem lk11 (f : FuncId) (ds : List DV) : lookC L11 f ds = if 26 = f then K26 ds else lookC L10 f ds := rfl
theorem L11ok : ConsOk L11 := .cons _ _ ok26 L10ok
def K24 := argR fun xs => argR fun ys => fin (if xs.length ≤ 1000 then some (db (decide (xs = ys))) else none)
theorem ok24 : Con.ok ⟨24, K24⟩ := Sat.con L11ok (.R fun xs => .R fun ys => .cond 1001 1 2 (fun hb => by
  by_cases hl : xs.length = ys.length
  · have hl' : (xs.length : Int) = ys.length := by omega
    simp -implicitDefEqProofs [cb Tryz.func24, Tryz.f24, k_loop, eq_true hl, eq_true hl']
    generalize hL : loopN _ 1001 _ = r
    obtain ⟨e, st', rfl, q⟩ := loop_use hL xs.length (fun i st => st.h = ⟨[(1, .row 1 (elR ys) false), (0, .row 1 (elR xs) false)], 2⟩ ∧ st.tm.length = 26 ∧ tget st.tm 0 = .sl 0 1 0 xs.length none ∧ tget st.tm 1 = .sl 1 1 0 ys.length none ∧ tget st.tm 5 = I i ∧ ∀ j, j < i → xs[j]? = ys[j]?)
      (fun e st => st.h = ⟨[(1, .row 1 (elR ys) false), (0, .row 1 (elR xs) false)], 2⟩ ∧ st.tm.length = 26 ∧ ((e = .exit 0 ∧ xs = ys) ∨ (e = .ret ∧ xs ≠ ys ∧ tget st.tm 4 = B false))) (by omega) (by simp) (fun i st hi ⟨f1, f2, f3, f4, f5, f6⟩ => by
        have hxi : xs[i]? = some xs[i] := List.getElem?_eq_getElem hi
        have hi2 : i < ys.length := by omega
        have hyi : ys[i]? = some ys[i] := List.getElem?_eq_getElem hi2
        have w : w64 ((i : Int) + 1) = ((i + 1 : Nat) : Int) := w64_id (by omega) (by omega)
        by_cases hq : xs[i] = ys[i]
        · left
          simp -implicitDefEqProofs [f1, f2, f3, f4, f5, hi, hi2, hxi, hyi, eq_true hq, w]
          intro j hj
          rcases Nat.lt_or_eq_of_le (show j ≤ i by omega) with z | rfl
          · exact f6 j z
          · rw [hxi, hyi, hq]
        · right
          refine ⟨.ret, ?_⟩
          simp -implicitDefEqProofs [f1, f2, f3, f4, f5, hi, hi2, hxi, hyi, hq]
          intro z
          subst z
          exact hq rfl)
      (fun st ⟨f1, f2, f3, f4, f5, f6⟩ => by
        refine ⟨.exit 0, ?_⟩
        simp -implicitDefEqProofs [f1, f2, f3, f4, f5]
        refine List.ext_getElem? (fun j => ?_)
        by_cases z : j < xs.length
        · exact f6 j z
        · rw [List.getElem?_eq_none (by omega), List.getElem?_eq_none (by omega)])
    obtain ⟨q1, q2, ⟨rfl, q3⟩ | ⟨rfl, q3, q4⟩⟩ := q
    · simp -implicitDefEqProofs [q1, q2, eq_true q3]
    · simp -implicitDefEqProofs [q1, q2, q3, q4]
  · have hl' : ¬ (xs.length : Int) = ys.length := by omega
    have hne : ¬ xs = ys := fun z => hl (by rw [z])
    simp -implicitDefEqProofs [cb Tryz.func24, Tryz.f24, hl, hl', hne]))
end Go.Proofs.YtffopeihcebpjaaGreat.X
end
section
set_option linter.unusedVariables false
set_option linter.unusedSimpArgs false
set_option maxRecDepth 10000
set_option maxHeartbeats 4000000
namespace Go.Proofs.YtffopeihcebpjaaGreat.X
open Go
def L12 : List Con := ⟨24, K24⟩ :: L11
theorem lk12 (f : FuncId) (ds : List DV) : lookC L12 f ds = if 24 = f then K24 ds else lookC L11 f ds := rfl
theorem L12ok : ConsOk L12 := .cons _ _ ok24 L11ok
def pSpeed (m : Int) (vs gs : List Int) : List Int := List.zipWith (fun v g => pPlus (pTimes v m) g) vs gs
def pNext (r : Int) (ws sp : List Int) : List Int := List.zipWith (fun w s => pPlus w (w64 (0 - pTimes r s))) ws sp
def pStepOk (ws vs gs : List Int) (r m : Int) : Bool := pAl3 ws vs gs && pHyper r m
def K23 := argR fun ws => argR fun vs => argR fun gs => arg2 fun r m => fin (some (if pStepOk ws vs gs r m then .tu [.sl 1 (elR (pNext r ws (pSpeed m vs gs))), .sl 1 (elR (pSpeed m vs gs)), dn 0] else .tu [dz, dz, dn 800]))
theorem pAl3_len {x y z : List Int} (h : pAl3 x y z = true) : x.length ≤ 16 ∧ y.length = x.length ∧ z.length = x.length := by
  unfold pAl3 at h
  simp only [Bool.and_eq_true, decide_eq_true_eq] at h
  obtain ⟨h1, h2, h3, h4, h5⟩ := h
  unfold pVec at h1
  simp only [Bool.and_eq_true, decide_eq_true_eq] at h1
  exact ⟨h1.1, h3, h5⟩
theorem ok23 : Con.ok ⟨23, K23⟩ := Sat.con L12ok (.R fun ws => .R fun vs => .R fun gs => .P fun r m => .fin 99 1 2 (by
  cases h1 : pAl3 ws vs gs
  · simp -implicitDefEqProofs [cb Tryz.func23, Tryz.f23, lk12, lk11, lk10, lk9, lk8, lk7, lk6, lk5, lk4, lk3, lk2, K75, h1, pStepOk]
  cases h2 : pHyper r m
  · simp -implicitDefEqProofs [cb Tryz.func23, Tryz.f23, lk12, lk11, lk10, lk9, lk8, lk7, lk6, lk5, lk4, lk3, lk2, K75, h1, h2, pStepOk]
  obtain ⟨n1, n2, n3⟩ := pAl3_len h1
  simp -implicitDefEqProofs [cb Tryz.func23, Tryz.f23, k_loop, mk_27 _ _ (show ws.length ≤ 1000 by omega), lk12, lk11, lk10, lk9, lk8, lk7, lk6, lk5, lk4, lk3, lk2, K75, h1, h2, pStepOk]
  generalize hL : loopN _ 99 _ = q
  obtain ⟨HP, hHP⟩ : ∃ HP : List Int → List Int → H, HP = fun ns sp => ⟨[(6, .row 1 (elR sp) true), (5, .row 1 (elR ns) true), (4, .row 1 [[.sl 1 (elR ws)], [.sl 1 (elR vs)], [.sl 1 (elR gs)]] true), (3, .box [I r, I m]), (2, .row 1 (elR gs) false), (1, .row 1 (elR vs) false), (0, .row 1 (elR ws) false)], 7⟩ := ⟨_, rfl⟩
  have hsp : ∀ j (hj : j < ws.length), (pSpeed m vs gs)[j]? = some (pPlus (pTimes (vs[j]'(by omega)) m) (gs[j]'(by omega))) := fun j hj => by
    unfold pSpeed
    rw [List.getElem?_zipWith, List.getElem?_eq_getElem (show j < vs.length by omega), List.getElem?_eq_getElem (show j < gs.length by omega)]
  have hns : ∀ j (hj : j < ws.length), (pNext r ws (pSpeed m vs gs))[j]? = some (pPlus ws[j] (w64 (0 - pTimes r (pPlus (pTimes (vs[j]'(by omega)) m) (gs[j]'(by omega)))))) := fun j hj => by
    unfold pNext
    rw [List.getElem?_zipWith, List.getElem?_eq_getElem hj, hsp j hj]
  have lsp : (pSpeed m vs gs).length = ws.length := by unfold pSpeed; rw [List.length_zipWith]; omega
  have lns : (pNext r ws (pSpeed m vs gs)).length = ws.length := by unfold pNext; rw [List.length_zipWith, lsp]; omega
  obtain ⟨e, st', rfl, rfl, q1, q2, q3, q4⟩ := loop_use hL ws.length (fun i st => (∃ ns sp, st.h = HP ns sp ∧ ns.length = ws.length ∧ sp.length = ws.length ∧ ∀ j, j < i → sp[j]? = (pSpeed m vs gs)[j]? ∧ ns[j]? = (pNext r ws (pSpeed m vs gs))[j]?) ∧ st.tm.length = 70 ∧ tget st.tm 0 = .sl 0 1 0 ws.length none ∧ tget st.tm 2 = .sl 2 1 0 gs.length none ∧ tget st.tm 7 = .pt 3 0 0 0 ∧ tget st.tm 11 = .sl 5 1 0 ws.length none ∧ tget st.tm 12 = .sl 6 1 0 ws.length none ∧ tget st.tm 32 = .sl 1 1 0 vs.length none ∧ tget st.tm 33 = I vs.length ∧ tget st.tm 34 = I i)
    (fun e st => e = .exit 0 ∧ st.h = HP (pNext r ws (pSpeed m vs gs)) (pSpeed m vs gs) ∧ st.tm.length = 70 ∧ tget st.tm 11 = .sl 5 1 0 ws.length none ∧ tget st.tm 12 = .sl 6 1 0 ws.length none) (by omega)
    ⟨⟨List.replicate ws.length 0, List.replicate ws.length 0, by rw [hHP], by simp, by simp, fun j hj => by omega⟩, rfl, rfl, rfl, rfl, rfl, rfl, rfl, rfl, rfl⟩
    (fun i st hi ⟨⟨ns, sp, f1, y1, y2, y3⟩, g0, g2, g7, g11, g12, g32, g33, g34, g35⟩ => by
      have hi2 : i < vs.length := by omega
      have hi3 : i < gs.length := by omega
      have hi4 : i < ns.length := by omega
      have hi5 : i < sp.length := by omega
      have w : w64 ((i : Int) + 1) = ((i + 1 : Nat) : Int) := w64_id (by omega) (by omega)
      have f1' : st.h = ⟨[(6, .row 1 (elR sp) true), (5, .row 1 (elR ns) true), (4, .row 1 [[.sl 1 (elR ws)], [.sl 1 (elR vs)], [.sl 1 (elR gs)]] true), (3, .box [I r, I m]), (2, .row 1 (elR gs) false), (1, .row 1 (elR vs) false), (0, .row 1 (elR ws) false)], 7⟩ := by rw [f1, hHP]
      left
      rw [hHP]
      simp -implicitDefEqProofs [f1', g0, g2, g7, g11, g12, g32, g33, g34, g35, hi, hi2, hi3, hi4, hi5, w, lk12, lk11, lk10, lk9, lk8, lk7, lk6, lk5, lk4, lk3, lk2, K71, K68]
      refine ⟨ns.set i _, sp.set i _, ⟨rfl, rfl⟩, by rw [List.length_set, y1], by rw [List.length_set, y2], fun j hj => ?_⟩
      rw [List.getElem?_set, List.getElem?_set]
      by_cases z : i = j
      · subst z
        rw [if_pos rfl, if_pos rfl, if_pos hi4, if_pos hi5, hsp i hi, hns i hi, Int.zero_sub]
        exact ⟨rfl, rfl⟩
      · rw [if_neg z, if_neg z]
        exact y3 j (by omega))
    (fun st ⟨⟨ns, sp, f1, y1, y2, y3⟩, g0, g2, g7, g11, g12, g32, g33, g34, g35⟩ => by
      have e1 : sp = pSpeed m vs gs := by
        refine List.ext_getElem? (fun j => ?_)
        by_cases z : j < ws.length
        · exact (y3 j z).1
        · rw [List.getElem?_eq_none (by omega), List.getElem?_eq_none (by omega)]
      have e2 : ns = pNext r ws (pSpeed m vs gs) := by
        refine List.ext_getElem? (fun j => ?_)
        by_cases z : j < ws.length
        · exact (y3 j z).2
        · rw [List.getElem?_eq_none (by omega), List.getElem?_eq_none (by omega)]
      rw [e1, e2] at f1
      refine ⟨.exit 0, ?_⟩
      simp -implicitDefEqProofs [f1, g0, g2, g7, g11, g12, g32, g33, g34, g35, eq_true n2, show (vs.length : Int) = ws.length by omega])
  have t1 : (pNext r ws (pSpeed m vs gs)).take ws.length = pNext r ws (pSpeed m vs gs) := List.take_of_length_le (by omega)
  have t2 : (pSpeed m vs gs).take ws.length = pSpeed m vs gs := List.take_of_length_le (by omega)
  simp -implicitDefEqProofs [q1, q2, q3, q4, hHP, t1, t2, lsp, lns]))
end Go.Proofs.YtffopeihcebpjaaGreat.X
end
section
set_option linter.unusedVariables false
set_option linter.unusedSimpArgs false
set_option maxRecDepth 10000
set_option maxHeartbeats 4000000
namespace Go.Proofs.YtffopeihcebpjaaGreat.X
open Go
def L13 : List Con := ⟨23, K23⟩ :: L12
theorem lk13 (f : FuncId) (ds : List DV) : lookC L13 f ds = if 23 = f then K23 ds else lookC L12 f ds := rfl
theorem L13ok : ConsOk L13 := .cons _ _ ok23 L12ok
def seqHead : Code → Code
  | .seq a _ => a
  | c => c
def dropSeq : Nat → Code → Code
  | 0, c => c
  | n + 1, .seq _ b => dropSeq n b
  | _, c => c
noncomputable def p22_0 : Code := seqHead (dropSeq 0 (Tryz.f22.body.getD .skip))
noncomputable def p22_1 : Code := seqHead (dropSeq 1 (Tryz.f22.body.getD .skip))
noncomputable def p22_2 : Code := seqHead (dropSeq 2 (Tryz.f22.body.getD .skip))
noncomputable def p22_3 : Code := seqHead (dropSeq 3 (Tryz.f22.body.getD .skip))
noncomputable def p22_4 : Code := seqHead (dropSeq 4 (Tryz.f22.body.getD .skip))
noncomputable def rest22 : Code := dropSeq 5 (Tryz.f22.body.getD .skip)
theorem cb22 (n k : Nat) (C : Told) (args : List AV) (h : H) : callB Tryz.prog n k C 22 args h = match codeA Tryz.prog C n k (p22_0.seq (p22_1.seq (p22_2.seq (p22_3.seq (p22_4.seq rest22))))) ⟨args ++ List.replicate (107 - args.length) .un, h⟩ with
      | some (.normal, st) => match resA Tryz.prog st [.tmp 6, .tmp 7] with
        | none => none
        | some r => some (oneOf r.1, r.2)
      | some (.ret, st) => match resA Tryz.prog st [.tmp 6, .tmp 7] with
        | none => none
        | some r => some (oneOf r.1, r.2)
      | _ => none := by kernel_rfl
theorem mk_1 (h : H) : makeSliceA Tryz.prog 27 (I 1) (I 1) h = some (.sl h.n 1 0 1 none, h.new (.row 1 (elR [0]) true), []) := mk_27 h 1 (by decide)
theorem mk_2 (h : H) : makeSliceA Tryz.prog 27 (I 2) (I 2) h = some (.sl h.n 1 0 2 none, h.new (.row 1 (elR [0, 0]) true), []) := mk_27 h 2 (by decide)
theorem mk_3 (h : H) : makeSliceA Tryz.prog 27 (I 3) (I 3) h = some (.sl h.n 1 0 3 none, h.new (.row 1 (elR [0, 0, 0]) true), []) := mk_27 h 3 (by decide)
theorem slice_27 (o off m : Nat) (a b : Int) (h1 : 0 ≤ a) (h2 : a ≤ b) (h3 : b ≤ m) : sliceA Tryz.prog 27 (.sl o 1 off m none) (some (I a)) (some (I b)) none = some (.sl o 1 (off + a.toNat) (b.toNat - a.toNat) none) := by
  have h4 : 0 ≤ b := by omega
  have h5 : a ≤ max b 0 := by omega
  simp [sliceA, boundA, intOf, h1, h3, h4, h5]
/-- A unit: its weights, its bias. -/
def pUnit (i j : Nat) (ws xs : List Int) : Int := pPlus (ws.getD (j * (i + 1) + i) 0) (pSum ((ws.drop (j * (i + 1))).take i) xs i)
def pUnits (i h : Nat) (ws xs : List Int) : List Int := (List.range h).map fun j => pUnit i j ws xs
def pTells (i h : Nat) (ws hs : List Int) : Int := pPlus (ws.getD (h * (i + 1) + h) 0) (pSum ((ws.drop (h * (i + 1))).take h) (hs.map pHard) h)
def pGrad (i h : Nat) (ws xs : List Int) (y : Int) : List Int :=
  let hs := pUnits i h ws xs
  let e := pPlus (pTells i h ws hs) (w64 (-y))
  ((List.range h).map fun j => (xs.map (pTimes (pTimes (pTimes e (ws.getD (h * (i + 1) + j) 0)) (pRise (hs.getD j 0)))) ++ [pTimes (pTimes e (ws.getD (h * (i + 1) + j) 0)) (pRise (hs.getD j 0))])).flatten ++ (hs.map pHard).map (pTimes e) ++ [e]
end Go.Proofs.YtffopeihcebpjaaGreat.X
end
