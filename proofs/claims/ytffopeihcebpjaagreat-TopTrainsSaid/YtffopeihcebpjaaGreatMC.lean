/- Regions whose order is drawn: what their run in index order tells. Quiet operations: they hang on the counter and on what they read, and add to the heap alone. Whom an operation of a drawn region waits for; what the static test tells. Regions whose order is drawn: what the run in index order tells of each order. Regions whose order is drawn do what the executor tells. The executor is sound; calls whose arguments and answers are deep values. -/
import Derived.Test.YtffopeihcebpjaaGreatMB
section
set_option linter.unusedVariables false
namespace Go.Proofs.YtffopeihcebpjaaGreat.X
open Go Go.RowKit
/-- The run in index order: temporaries and heap before each operation, is it wanted, its answer, the ids it does not see, the heap that an effect left of what it saw. -/
structure Dat where
  tm : Nat → List AV
  h : Nat → H
  w : Nat → Bool
  v : Nat → AV
  hid : Nat → List Nat
  V' : Nat → H
def Dat.lg (D : Dat) (i : Nat) (o : Oper) : Lg := ⟨i, (D.h i).n, (D.h (i + 1)).n, !quietA o, D.h i, D.h (i + 1), if quietA o then readsA (D.tm i) o else []⟩
/-- What is told of operation i. -/
structure Told1 (P : Program) (G : Told) (ops : Array Oper) (D : Dat) (i : Nat) (o : Oper) : Prop where
  want : wantA ops (D.tm i) o = some (D.w i)
  tm : D.tm (i + 1) = putA (D.tm i) o.dst (D.v i)
  no : D.w i = false → D.v i = .un ∧ D.h (i + 1) = D.h i
  quiet : D.w i = true → quietA o = true → ∃ ws, opA P (D.tm i) (D.h i) o = some (D.v i, D.h (i + 1), ws)
  eff : D.w i = true → quietA o = false → stepA P G (D.tm i) (hideA (D.hid i) (D.h i)) o = some (D.v i, D.V' i) ∧ D.h (i + 1) = backA (D.hid i) (D.h i) (D.V' i)
def upd {α : Type} (f : Nat → α) (i : Nat) (x : α) : Nat → α := fun k => if k = i then x else f k
theorem upd_same {α : Type} (f : Nat → α) (i : Nat) (x : α) : upd f i x i = x := if_pos rfl
theorem upd_ne {α : Type} {f : Nat → α} {i k : Nat} (h : k ≠ i) (x : α) : upd f i x k = f k := if_neg h
theorem mem_hidOf {bits x : Nat} : ∀ {log : List Lg}, x ∈ hidOf bits log ↔ ∃ g ∈ log, bits.testBit g.i = false ∧ g.lo ≤ x ∧ x < g.hi
  | [] => by simp [hidOf]
  | g :: r => by
    unfold hidOf
    split
    · rename_i q
      rw [mem_hidOf]
      constructor
      · rintro ⟨g', h1, h2⟩; exact ⟨g', List.mem_cons_of_mem _ h1, h2⟩
      · rintro ⟨g', h1, h2⟩
        rcases List.mem_cons.1 h1 with rfl | h1
        · rw [q] at h2; cases h2.1
        · exact ⟨g', h1, h2⟩
    · rename_i q
      rw [List.mem_append, mem_hidOf]
      constructor
      · rintro (h | ⟨g', h1, h2⟩)
        · obtain ⟨k, hk, rfl⟩ := List.mem_map.1 h
          have := List.mem_range.1 hk
          exact ⟨g, List.mem_cons_self .., by simpa using q, by omega, by omega⟩
        · exact ⟨g', List.mem_cons_of_mem _ h1, h2⟩
      · rintro ⟨g', h1, h2⟩
        rcases List.mem_cons.1 h1 with rfl | h1
        · exact .inl (List.mem_map.2 ⟨x - g'.lo, List.mem_range.2 (by omega), by omega⟩)
        · exact .inr ⟨g', h1, h2⟩
/-- The same from a number on. -/
def Dat.from (D D' : Dat) (i : Nat) : Prop := ∀ k, i ≤ k → D'.tm k = D.tm k ∧ D'.h k = D.h k ∧ D'.w k = D.w k ∧ D'.v k = D.v k ∧ D'.hid k = D.hid k ∧ D'.V' k = D.V' k
theorem Told1.congr {P : Program} {G : Told} {ops : Array Oper} {D D' : Dat} {i k : Nat} {o : Oper} (hd : D.from D' i) (hk : i ≤ k) (t : Told1 P G ops D k o) : Told1 P G ops D' k o := by
  obtain ⟨a1, a2, a3, a4, a5, a6⟩ := hd k hk
  obtain ⟨b1, b2, b3, b4, b5, b6⟩ := hd (k + 1) (by omega)
  refine ⟨by rw [a1, a3]; exact t.want, by rw [a1, b1, a4]; exact t.tm, by rw [a3, a4, a2, b2]; exact t.no, by rw [a3, a1, a2, a4, b2]; exact t.quiet, ?_⟩
  rw [a3, a5, a2, a1, a4, a6, b2]
  intro h1 h2
  exact t.eff h1 h2
theorem Dat.from_lg {D D' : Dat} {i k : Nat} {o : Oper} (hd : D.from D' i) (hk : i ≤ k) : D'.lg k o = D.lg k o := by
  obtain ⟨a1, a2, a3, a4, a5, a6⟩ := hd k hk
  obtain ⟨b1, b2, b3, b4, b5, b6⟩ := hd (k + 1) (by omega)
  unfold Dat.lg
  rw [a1, a2, b2]
/-- What the run in index order of the operations from i on tells. -/
def Data (P : Program) (G : Told) (ops : Array Oper) (l : List Oper) (i : Nat) (log : List Lg) (bits : List Nat) (tm : List AV) (h : H) (y : St) : Prop :=
    ∃ D : Dat, D.tm i = tm ∧ D.h i = h ∧ D.tm (i + l.length) = y.tm ∧ D.h (i + l.length) = y.h ∧
      (∀ k o, l[k]? = some o → Told1 P G ops D (i + k) o) ∧
      (∀ k o g, l[k]? = some o → g ∈ log → D.w (i + k) = true → pairOk (bits.getD k 0) g (D.lg (i + k) o) = true) ∧
      (∀ k k' o o', l[k]? = some o → l[k']? = some o' → k' < k → D.w (i + k') = true → D.w (i + k) = true → pairOk (bits.getD k 0) (D.lg (i + k') o') (D.lg (i + k) o) = true) ∧
      (∀ k o x, l[k]? = some o → D.w (i + k) = true → quietA o = false → (x ∈ D.hid (i + k) ↔ (∃ g ∈ log, (bits.getD k 0).testBit g.i = false ∧ g.lo ≤ x ∧ x < g.hi) ∨
        ∃ k' o', k' < k ∧ l[k']? = some o' ∧ D.w (i + k') = true ∧ (bits.getD k 0).testBit (i + k') = false ∧ (D.h (i + k')).n ≤ x ∧ x < (D.h (i + k' + 1)).n))
/-- One operation put ahead of what follows. -/
theorem data_cons {P : Program} {G : Told} {ops : Array Oper} {o : Oper} {l : List Oper} {i : Nat} {log log' : List Lg} {bits : List Nat} {tm : List AV} {h h' V' : H} {y : St} {b : Bool} {v : AV} {hid : List Nat}
    (ih : Data P G ops l (i + 1) log' bits.tail (putA tm o.dst v) h' y)
    (c1 : b = false → log' = log) (c2 : b = true → log' = ⟨i, h.n, h'.n, !quietA o, h, h', if quietA o then readsA tm o else []⟩ :: log)
    (c3 : wantA ops tm o = some b) (c4 : b = false → v = .un ∧ h' = h) (c5 : b = true → quietA o = true → ∃ ws, opA P tm h o = some (v, h', ws))
    (c6 : b = true → quietA o = false → stepA P G tm (hideA hid h) o = some (v, V') ∧ h' = backA hid h V')
    (c7 : b = true → log.all (pairOk (bits.headD 0) · ⟨i, h.n, h'.n, !quietA o, h, h', if quietA o then readsA tm o else []⟩) = true) (c8 : b = true → quietA o = false → hid = hidOf (bits.headD 0) log) :
    Data P G ops (o :: l) i log bits tm h y := by
  have bget : ∀ k, bits.getD (k + 1) 0 = bits.tail.getD k 0 := fun k => by cases bits <;> simp
  have bhead : bits.getD 0 0 = bits.headD 0 := by cases bits <;> rfl
  obtain ⟨D, d1, d2, d3, d4, d5, d6, d7, d8⟩ := ih
  let D1 : Dat := ⟨upd D.tm i tm, upd D.h i h, upd D.w i b, upd D.v i v, upd D.hid i hid, upd D.V' i V'⟩
  have hD : D.from D1 (i + 1) := fun k hk => ⟨upd_ne (by omega) _, upd_ne (by omega) _, upd_ne (by omega) _, upd_ne (by omega) _, upd_ne (by omega) _, upd_ne (by omega) _⟩
  have z1 : D1.tm i = tm := upd_same ..
  have z2 : D1.h i = h := upd_same ..
  have z3 : D1.w i = b := upd_same ..
  have z4 : D1.v i = v := upd_same ..
  have z5 : D1.hid i = hid := upd_same ..
  have z6 : D1.V' i = V' := upd_same ..
  have z7 : D1.tm (i + 1) = putA tm o.dst v := (hD (i + 1) (Nat.le_refl _)).1.trans d1
  have z8 : D1.h (i + 1) = h' := (hD (i + 1) (Nat.le_refl _)).2.1.trans d2
  have zlg : D1.lg i o = ⟨i, h.n, h'.n, !quietA o, h, h', if quietA o then readsA tm o else []⟩ := by unfold Dat.lg; rw [z1, z2, z8]
  have sh : ∀ k, i + (k + 1) = i + 1 + k := fun k => by omega
  have wk : ∀ k, D1.w (i + (k + 1)) = D.w (i + 1 + k) := fun k => by rw [sh]; exact (hD _ (by omega)).2.2.1
  have lgk : ∀ k (o' : Oper), D1.lg (i + (k + 1)) o' = D.lg (i + 1 + k) o' := fun k o' => by rw [sh]; exact Dat.from_lg hD (by omega)
  have old : ∀ g ∈ log, g ∈ log' := fun g hg => by
    cases b
    · rw [c1 rfl]; exact hg
    · rw [c2 rfl]; exact List.mem_cons_of_mem _ hg
  have len : i + (o :: l).length = i + 1 + l.length := by rw [List.length_cons]; omega
  refine ⟨D1, z1, z2, ?_, ?_, fun k o' hk => ?_, fun k o' g hk hg hw => ?_, fun k k' o1 o2 hk hk' hlt hw' hw => ?_, fun k o' x hk hw hq => ?_⟩
  · rw [len]; exact (hD _ (by omega)).1.trans d3
  · rw [len]; exact (hD _ (by omega)).2.1.trans d4
  · cases k with
    | zero =>
      cases hk
      show Told1 P G ops D1 i o
      refine ⟨by rw [z1, z3]; exact c3, by rw [z7, z1, z4], ?_, ?_, ?_⟩
      · rw [z3, z4, z8, z2]; exact c4
      · rw [z3, z1, z2, z4, z8]; exact c5
      · rw [z3, z5, z2, z1, z4, z6, z8]; exact c6
    | succ k =>
      rw [sh]
      exact (d5 k o' hk).congr hD (by omega)
  · cases k with
    | zero =>
      cases hk
      rw [Nat.add_zero] at hw ⊢
      rw [z3] at hw
      rw [zlg, bhead]
      exact (List.all_eq_true.1 (c7 hw)) g hg
    | succ k =>
      rw [wk] at hw
      rw [lgk, bget]
      exact d6 k o' g hk (old g hg) hw
  · cases k with
    | zero => omega
    | succ k =>
      rw [wk] at hw
      rw [lgk, bget]
      cases k' with
      | zero =>
        cases hk'
        rw [Nat.add_zero] at hw' ⊢
        rw [z3] at hw'
        rw [zlg]
        exact d6 k o1 _ hk (by rw [c2 hw']; exact List.mem_cons_self ..) hw
      | succ k' =>
        rw [wk] at hw'
        rw [lgk]
        exact d7 k k' o1 o2 hk hk' (by omega) hw' hw
  · cases k with
    | zero =>
      cases hk
      rw [Nat.add_zero] at hw ⊢
      rw [z3] at hw
      rw [z5, c8 hw hq, mem_hidOf, bhead]
      constructor
      · exact fun q => .inl q
      · rintro (q | ⟨k', _, q, _⟩)
        · exact q
        · omega
    | succ k =>
      rw [wk] at hw
      have hx : D1.hid (i + (k + 1)) = D.hid (i + 1 + k) := by rw [sh]; exact (hD _ (by omega)).2.2.2.2.1
      rw [hx, bget, d8 k o' x hk hw hq]
      constructor
      · rintro (⟨g, g1, g2, g3, g4⟩ | ⟨k', o2, q1, q2, q3, q4, q5, q6⟩)
        · cases b
          · rw [c1 rfl] at g1
            exact .inl ⟨g, g1, g2, g3, g4⟩
          · rw [c2 rfl] at g1
            rcases List.mem_cons.1 g1 with rfl | g1
            · refine .inr ⟨0, o, by omega, rfl, z3, g2, ?_, ?_⟩
              · rw [Nat.add_zero, z2]; exact g3
              · rw [Nat.add_zero, z8]; exact g4
            · exact .inl ⟨g, g1, g2, g3, g4⟩
        · refine .inr ⟨k' + 1, o2, by omega, q2, by rw [wk]; exact q3, by rw [sh]; exact q4, ?_, ?_⟩
          · rw [sh, (hD _ (by omega)).2.1]; exact q5
          · rw [sh, (hD _ (by omega)).2.1]; exact q6
      · rintro (⟨g, g1, g2, g3, g4⟩ | ⟨k', o2, q1, q2, q3, q4, q5, q6⟩)
        · exact .inl ⟨g, old g g1, g2, g3, g4⟩
        · cases k' with
          | zero =>
            cases q2
            rw [Nat.add_zero] at q3 q4 q5 q6
            rw [z3] at q3
            rw [z2] at q5
            rw [z8] at q6
            exact .inl ⟨_, by rw [c2 q3]; exact List.mem_cons_self .., q4, q5, q6⟩
          | succ k' =>
            rw [wk] at q3
            rw [sh] at q4
            rw [sh, (hD _ (by omega)).2.1] at q5
            rw [sh, (hD _ (by omega)).2.1] at q6
            exact .inr ⟨k', o2, by omega, q2, q3, q4, q5, q6⟩
theorem drawn_data {P : Program} {G : Told} {ops : Array Oper} : ∀ (l : List Oper) (i : Nat) (log : List Lg) (bits : List Nat) (tm : List AV) (h : H) (y : St), drawnA P G ops l i log tm h bits = some y → Data P G ops l i log bits tm h y
  | [], i, log, bits, tm, h, y, e => by
    have : y = ⟨tm, h⟩ := by unfold drawnA at e; cases e; rfl
    subst this
    exact ⟨⟨fun _ => tm, fun _ => h, fun _ => false, fun _ => .un, fun _ => [], fun _ => h⟩, rfl, rfl, rfl, rfl, by simp, by simp, by simp, by simp⟩
  | o :: l, i, log, bits, tm, h, y, e => by
    unfold drawnA at e
    split at e
    · cases e
    · rename_i hw
      exact data_cons (V' := h) (hid := []) (drawn_data l (i + 1) _ _ _ _ _ e) (fun _ => rfl) (fun q => by cases q) hw (fun _ => ⟨rfl, rfl⟩) (fun q => by cases q) (fun q => by cases q) (fun q => by cases q) (fun q => by cases q)
    · rename_i hw
      split at e
      · rename_i hq
        split at e
        · cases e
        · rename_i r hr
          split at e
          · rename_i hlog
            refine data_cons (V' := h) (hid := []) (b := true) (drawn_data l (i + 1) _ _ _ _ _ e) (fun q => by cases q) (fun _ => by rw [hq]; rfl) hw (fun q => by cases q) (fun _ _ => ⟨r.2.2, hr⟩) (fun _ q => by rw [hq] at q; cases q) (fun _ => ?_) (fun _ q => by rw [hq] at q; cases q)
            rw [hq]
            exact hlog
          · cases e
      · rename_i hq
        have hq : quietA o = false := by simpa using hq
        split at e
        · cases e
        · rename_i r hr
          split at e
          · rename_i hlog
            refine data_cons (V' := r.2) (b := true) (hid := hidOf (bits.headD 0) log) (drawn_data l (i + 1) _ _ _ _ _ e) (fun q => by cases q) (fun _ => by rw [hq]; rfl) hw (fun q => by cases q) (fun _ q => by rw [hq] at q; cases q) (fun _ _ => ⟨hr, rfl⟩) (fun _ => ?_) (fun _ _ => rfl)
            rw [hq]
            exact hlog
          · cases e
end Go.Proofs.YtffopeihcebpjaaGreat.X
end
section
set_option linter.unusedVariables false
namespace Go.Proofs.YtffopeihcebpjaaGreat.X
open Go Go.RowKit
def addL (news : List (Nat × Ob)) (m : Nat) (h : H) : H := ⟨news ++ h.l, m⟩
theorem addL_nil (h : H) : addL [] h.n h = h := rfl
mutual
theorem openD_local (n : Nat) : ∀ d : DV, ∃ a news m, n ≤ m ∧ (∀ p ∈ news, n ≤ p.1) ∧ ∀ h : H, h.n = n → openD h d = (a, addL news m h)
  | .v x => ⟨.v x, [], n, Nat.le_refl _, by simp, fun h q => by subst q; rfl⟩
  | .sl sz els => ⟨.sl n sz 0 els.length none, [(n, .row sz els false)], n + 1, Nat.le_succ _, by simp, fun h q => by subst q; rfl⟩
  | .ag cs => by
    obtain ⟨a, news, m, h1, h2, h3⟩ := openL_local n cs
    exact ⟨.ag a, news, m, h1, h2, fun h q => by unfold openD; rw [h3 h q]⟩
  | .tu cs => by
    obtain ⟨a, news, m, h1, h2, h3⟩ := openL_local n cs
    exact ⟨.tu a, news, m, h1, h2, fun h q => by unfold openD; rw [h3 h q]⟩
theorem openL_local (n : Nat) : ∀ ds : List DV, ∃ as news m, n ≤ m ∧ (∀ p ∈ news, n ≤ p.1) ∧ ∀ h : H, h.n = n → openL h ds = (as, addL news m h)
  | [] => ⟨[], [], n, Nat.le_refl _, by simp, fun h q => by subst q; rfl⟩
  | d :: ds => by
    obtain ⟨a, news, m, h1, h2, h3⟩ := openD_local n d
    obtain ⟨as, news2, m2, k1, k2, k3⟩ := openL_local m ds
    refine ⟨a :: as, news2 ++ news, m2, Nat.le_trans h1 k1, fun p hp => ?_, fun h q => ?_⟩
    · rcases List.mem_append.1 hp with hp | hp
      · exact Nat.le_trans h1 (k2 p hp)
      · exact h2 p hp
    · unfold openL
      rw [h3 h q]
      simp only
      rw [k3 (addL news m h) rfl]
      simp [addL]
end
/-- What a quiet run tells. -/
def Local (h : H) (reads : List Nat) (f : H → Option (AV × H × List Nat)) (y : AV × H × List Nat) : Prop :=
  ∃ news, h.n ≤ y.2.1.n ∧ (∀ p ∈ news, h.n ≤ p.1) ∧ y.2.1 = addL news y.2.1.n h ∧ ∀ k : H, k.n = h.n → (∀ x ∈ reads, k.get x = h.get x) → ∃ ws, f k = some (y.1, addL news y.2.1.n k, ws)
theorem Local.same {h : H} {reads : List Nat} {f : H → Option (AV × H × List Nat)} {v : AV} {ws : List Nat} (hf : ∀ k : H, k.n = h.n → (∀ x ∈ reads, k.get x = h.get x) → f k = some (v, k, ws)) : Local h reads f (v, h, ws) :=
  ⟨[], Nat.le_refl _, by simp, rfl, fun k h1 h2 => ⟨ws, by rw [hf k h1 h2, ← h1]; rfl⟩⟩
theorem loadA_local {P : Program} {t : TypeId} {a : AV} {h : H} {y : AV × H} (e : loadA P t a h = some y) :
    ∃ news, h.n ≤ y.2.n ∧ (∀ p ∈ news, h.n ≤ p.1) ∧ y.2 = addL news y.2.n h ∧ ∀ k : H, k.n = h.n → (∀ x ∈ objOf a, k.get x = h.get x) → loadA P t a k = some (y.1, addL news y.2.n k) := by
  unfold loadA at e
  split at e
  · rename_i o sz i f wd hwd
    split at e
    · rename_i cs hg
      split at e
      · rename_i hc
        split at e
        · rename_i x hx
          cases e
          refine ⟨[], Nat.le_refl _, by simp, rfl, fun k h1 h2 => ?_⟩
          unfold loadA
          rw [hwd]
          simp only
          rw [h2 o (by simp [objOf]), hg]
          simp only [if_pos hc, hx]
          rw [← h1]
          rfl
        · cases e
      · cases e
    · rename_i sz' els own hg
      split at e
      · rename_i el hel
        split at e
        · rename_i hc
          split at e
          · rename_i x hx
            cases e
            obtain ⟨as, news, m, k1, k2, k3⟩ := openL_local h.n ((el.drop f).take wd.2)
            have q := k3 h rfl
            refine ⟨news, ?_, k2, ?_, fun k h1 h2 => ?_⟩
            · rw [q]; exact k1
            · rw [q]; rfl
            · unfold loadA
              rw [hwd]
              simp only
              rw [h2 o (by simp [objOf]), hg]
              simp only [hel, if_pos hc]
              rw [k3 k h1]
              rw [q] at hx ⊢
              simp only [hx]
              rfl
          · cases e
        · cases e
      · cases e
    · cases e
  · cases e
theorem elsAt_local {h k : H} {es : Nat} {x : AV} (hr : ∀ o ∈ objOf x, k.get o = h.get o) : elsAt k es x = elsAt h es x := by
  cases x with
  | sl o sz off n c => unfold elsAt; simp only; rw [hr o (by simp [objOf])]
  | v y =>
    cases y with
    | slice a m n => cases a <;> cases m <;> cases n <;> rfl
    | _ => rfl
  | _ => rfl
theorem zerosA_any {P : Program} {e : TypeId} (h k : H) : zerosA P e k = zerosA P e h := by
  unfold zerosA
  cases q : zeroT P e with
  | none => rfl
  | some z =>
    simp only
    have : ∃ v : Value, z = v.cells.toList.map AV.v := by
      unfold zeroT at q
      split at q
      · rename_i i hi
        cases q2 : i.zero with
        | none => rw [q2] at q; cases q
        | some v =>
          rw [q2] at q
          cases q
          exact ⟨v, by cases v <;> rfl⟩
      · cases q
    obtain ⟨v, rfl⟩ := this
    rw [seal_v, seal_v]
theorem convA_local {P : Program} {s d : TypeId} {x : AV} {h : H} {y : AV × H} (e : convA P s d x h = some y) : y.2 = h ∧ ∀ k : H, (∀ o ∈ objOf x, k.get o = h.get o) → convA P s d x k = some (y.1, k) := by
  refine ⟨convA_grows e, fun k hk => ?_⟩
  unfold convA at e ⊢
  rw [elsAt_local (es := 1) hk]
  split at e
  · rename_i a ha
    cases e
    rfl
  · cases e
theorem Local.one {h : H} {reads : List Nat} {f : H → Option (AV × H × List Nat)} (g : Nat → AV) (ob : Ob) (hf : ∀ k : H, f k = some (g k.n, k.new ob, [])) : Local h reads f (g h.n, h.new ob, []) :=
  ⟨[(h.n, ob)], Nat.le_succ _, by simp, rfl, fun k h1 h2 => ⟨[], by rw [hf k, h1]; simp [addL, H.new, h1]⟩⟩
theorem opA_local {P : Program} {tm : List AV} {h : H} {o : Oper} {y : AV × H × List Nat} (hq : quietA o = true) (e : opA P tm h o = some y) : Local h (readsA tm o) (fun k => opA P tm k o) y := by
  have any : (∀ k : H, opA P tm k o = (opA P tm h o).map fun r => (r.1, k, r.2.2)) → y.2.1 = h → Local h (readsA tm o) (fun k => opA P tm k o) y := fun q1 q2 => by
    obtain ⟨v, h', ws⟩ := y
    simp only at q2
    subst q2
    exact Local.same (fun k _ _ => by show opA P tm k o = _; rw [q1 k, e]; rfl)
  have one : ∀ (g : Nat → AV) (ob : Ob), (∀ k : H, opA P tm k o = some (g k.n, k.new ob, [])) → Local h (readsA tm o) (fun k => opA P tm k o) y := fun g ob q => by
    have : y = (g h.n, h.new ob, []) := by rw [q h] at e; cases e; rfl
    subst this
    exact Local.one g ob q
  unfold quietA at hq
  split at hq
  case h_4 t ho =>
    rw [opA_eq] at e
    unfold opA0 at e
    rw [ho] at e
    simp only at e
    split at e
    · rename_i z hz
      refine one (fun n => .pt n 0 0 0) (.box z) (fun k => ?_)
      simp only [opA_eq]
      unfold opA0
      rw [ho]
      simp only [hz]
    · cases e
  case h_5 t x ho =>
    rw [opA_eq] at e
    unfold opA0 at e
    rw [ho] at e
    simp only at e
    split at e
    · rename_i z hz
      refine one (fun n => .pt n 0 0 0) (.box z) (fun k => ?_)
      simp only [opA_eq]
      unfold opA0
      rw [ho]
      simp only [hz]
    · cases e
  case h_6 t x ho =>
    rw [opA_eq] at e
    unfold opA0 at e
    rw [ho] at e
    simp only at e
    split at e
    · rename_i r hr
      cases e
      obtain ⟨news, a1, a2, a3, a4⟩ := loadA_local hr
      refine ⟨news, a1, a2, a3, fun k h1 h2 => ⟨[], ?_⟩⟩
      show opA P tm k o = _
      simp only [opA_eq]
      unfold opA0
      rw [ho]
      simp only
      rw [a4 k h1 (by unfold readsA at h2; rw [ho] at h2; exact h2)]
    · cases e
  case h_10 s d x ho =>
    rw [opA_eq] at e
    unfold opA0 at e
    rw [ho] at e
    simp only at e
    split at e
    · rename_i r hr
      cases e
      obtain ⟨a1, a2⟩ := convA_local hr
      rw [a1]
      refine Local.same (ws := []) (fun k h1 h2 => ?_)
      show opA P tm k o = _
      simp only [opA_eq]
      unfold opA0
      rw [ho]
      simp only
      rw [a2 k (by unfold readsA at h2; rw [ho] at h2; exact h2)]
    · cases e
  case h_17 t l c ho =>
    rw [opA_eq] at e
    unfold opA0 at e
    rw [ho] at e
    simp only at e
    split at e
    · rename_i et het
      split at e
      · rename_i li ci z s hl hc hz hs
        split at e
        · rename_i hif
          refine one (fun n => .sl n s 0 li.toNat none) (.row s (List.replicate li.toNat z) true) (fun k => ?_)
          simp only [opA_eq]
          unfold opA0
          rw [ho]
          simp only [het, hl, hc, zerosA_any h k, hz, hs, if_pos hif]
        · cases e
      · cases e
    · cases e
  case h_19 t x ho =>
    rw [opA_eq] at e
    unfold opA0 at e
    rw [ho] at e
    simp only at e
    split at e
    all_goals try (cases e; done)
    all_goals rename_i q
    all_goals try (cases q; done)
    all_goals (
      cases q
      refine one (fun n => .mp n) (.map []) (fun k => ?_)
      simp only [opA_eq]
      unfold opA0
      rw [ho])
  case h_20 t m kk ok ho =>
    have e0 := e
    rw [opA_eq] at e
    unfold opA0 at e
    rw [ho] at e
    simp only at e
    split at e
    · rename_i kt et oo kv hm hu ha hk
      split at e
      · rename_i es h1 h2 h3
        cases e
        refine Local.same (ws := []) (fun k k1 k2 => ?_)
        show opA P tm k o = _
        have k3 : k.get kv = h.get kv := k2 kv (by unfold readsA; rw [ho]; simp only; rw [ha]; simp [objOf])
        simp only [opA_eq]
        unfold opA0
        rw [ho]
        simp only [hu, ha, hk]
        rw [k3]
        simp only [h1, h2, h3]
      · cases e
    · cases e
  case h_18 fn first cap ho =>
    rw [opA_eq] at e
    unfold opA0 at e
    rw [ho] at e
    cases fn with
    | func f =>
      simp only at e
      split at e
      · rename_i q
        cases e
        refine Local.same (ws := []) (fun k k1 k2 => ?_)
        show opA P tm k o = _
        simp only [opA_eq]
        unfold opA0
        rw [ho]
        simp only [if_pos q]
      · cases e
    | _ => cases e
  case h_22 c ho =>
    split at hq
    all_goals try (cases hq; done)
    all_goals rename_i hc
    all_goals
      refine any (fun k => ?_) ?_
      · simp only [opA_eq]
        unfold opA0
        rw [ho]
        simp only [hc]
        unfold builtinA
        try simp only
        repeat' split
        all_goals first | rfl | simp_all
      · rw [opA_eq] at e
        unfold opA0 at e
        rw [ho] at e
        simp only [hc] at e
        unfold builtinA at e
        try simp only at e
        repeat' split at e
        all_goals first | (cases e; done) | contradiction | (cases e; rfl)
  all_goals try (cases hq; done)
  all_goals rename_i ho
  all_goals
    refine any (fun k => ?_) ?_
    · simp only [opA_eq]
      unfold opA0
      rw [ho]
      try simp only
      repeat' split
      all_goals first | rfl | simp_all
    · rw [opA_eq] at e
      unfold opA0 at e
      rw [ho] at e
      try simp only at e
      repeat' split at e
      all_goals first | (cases e; done) | contradiction | (cases e; rfl)
/-! Operands. -/
theorem evalA_list {tm tm' : List AV} {l : List Operand} (h : ∀ x ∈ l, evalA tm x = evalA tm' x) : l.map (evalA tm) = l.map (evalA tm') := List.map_congr_left h
theorem opA_congr {P : Program} {tm tm' : List AV} {h : H} {o : Oper} (hx : ∀ x ∈ o.op.operands, evalA tm x = evalA tm' x) : opA P tm h o = opA P tm' h o := by
  have pairs : ∀ ps : Array (Nat × Operand), (∀ x ∈ ps.toList.map (·.2), evalA tm x = evalA tm' x) → (ps.toList.map fun p => (p.1, evalA tm p.2)) = (ps.toList.map fun p => (p.1, evalA tm' p.2)) := fun ps hp =>
    List.map_congr_left fun p hm => by rw [hp p.2 (List.mem_map.2 ⟨p, hm, rfl⟩)]
  simp only [opA_eq]
  unfold opA0
  cases ho : o.op
  all_goals rw [ho] at hx
  all_goals simp only [Op.operands] at hx
  case build t ps => simp only; rw [pairs ps fun x hm => hx x (by simpa using hm)]
  case buildSlice t n ps => simp only; rw [pairs ps fun x hm => hx x (by simpa using hm)]
  case makeFunc fn first captured =>
    cases fn with
    | func f => simp only; rw [evalA_list (l := captured.toList) fun x hm => hx x (by simp [Array.mem_toList_iff.1 hm])]
    | _ => rfl
  case call c =>
    simp only
    rw [evalA_list (l := c.args.toList) fun x hm => hx x (by simp [Call.operands, Array.mem_toList_iff.1 hm])]
  case slice t x lo hi mx => cases lo <;> cases hi <;> cases mx <;> simp_all
  case makeMap t r => cases r <;> rfl
  all_goals first | rfl | (simp_all; done)
theorem calleeA_congr {tm tm' : List AV} {o : Oper} (hx : ∀ x ∈ o.op.operands, evalA tm x = evalA tm' x) : calleeA tm o = calleeA tm' o := by
  unfold calleeA
  cases ho : o.op
  all_goals simp only
  rename_i c
  rw [ho] at hx
  cases hc : c.callee
  all_goals simp only
  rename_i f
  rw [hx f (by simp [Op.operands, Call.operands, hc]), evalA_list (l := c.args.toList) fun x hm => hx x (by simp [Op.operands, Call.operands, Array.mem_toList_iff.1 hm])]
theorem stepA_congr {P : Program} {C : Told} {tm tm' : List AV} {h : H} {o : Oper} (hx : ∀ x ∈ o.op.operands, evalA tm x = evalA tm' x) : stepA P C tm h o = stepA P C tm' h o := by
  unfold stepA; rw [calleeA_congr hx, opA_congr hx]
theorem readsA_congr {tm tm' : List AV} {o : Oper} (hx : ∀ x ∈ o.op.operands, evalA tm x = evalA tm' x) : readsA tm o = readsA tm' o := by
  unfold readsA
  cases ho : o.op
  all_goals rw [ho] at hx
  all_goals simp only [Op.operands] at hx
  all_goals first | rfl | (simp_all; done)
end Go.Proofs.YtffopeihcebpjaaGreat.X
end
section
set_option linter.unusedVariables false
namespace Go.Proofs.YtffopeihcebpjaaGreat.X
open Go Go.RowKit
/-- Does operation k wait for operation j? -/
def anc (ops : Array Oper) (k j : Nat) : Bool := ((bitsL [] 0 ops.toList).getD k 0).testBit j
theorem bitsL_get : ∀ (l : List Oper) (acc : List Nat) (n k : Nat) (o : Oper), l[k]? = some o → (bitsL acc n l)[k]? = some (bitsOf (((bitsL acc n l).take k).reverse ++ acc) (n + k) o)
  | [], acc, n, k, o, h => by simp at h
  | a :: r, acc, n, 0, o, h => by cases h; simp [bitsL]
  | a :: r, acc, n, k + 1, o, h => by
    rw [List.getElem?_cons_succ] at h
    unfold bitsL
    rw [List.getElem?_cons_succ, bitsL_get r _ (n + 1) k o h]
    simp [Nat.add_assoc, Nat.add_comm 1 k]
theorem bitsL_len : ∀ (l : List Oper) (acc : List Nat) (n : Nat), (bitsL acc n l).length = l.length
  | [], _, _ => rfl
  | a :: r, acc, n => by unfold bitsL; rw [List.length_cons, List.length_cons, bitsL_len]
theorem fold_bits {f : Edge → Option Nat} (j : Nat) : ∀ (l : List Edge) (m : Nat), (l.foldl (fun m e => match f e with
    | some b => m ||| 2 ^ e.on ||| b
    | none => m) m).testBit j = true → m.testBit j = true ∨ ∃ e ∈ l, ∃ b, f e = some b ∧ (e.on = j ∨ b.testBit j = true)
  | [], m, h => .inl h
  | e :: r, m, h => by
    rw [List.foldl_cons] at h
    rcases fold_bits j r _ h with h | ⟨e', h1, h2⟩
    · cases q : f e with
      | none => rw [q] at h; exact .inl h
      | some b =>
        rw [q] at h
        simp only [Nat.testBit_or, Bool.or_eq_true, Nat.testBit_two_pow, decide_eq_true_eq] at h
        rcases h with (h | h) | h
        · exact .inl h
        · exact .inr ⟨e, List.mem_cons_self .., b, q, .inl h⟩
        · exact .inr ⟨e, List.mem_cons_self .., b, q, .inr h⟩
    · exact .inr ⟨e', List.mem_cons_of_mem _ h1, h2⟩
theorem bitsOf_bit {acc : List Nat} {n j : Nat} {o : Oper} (h : (bitsOf acc n o).testBit j = true) : ∃ e ∈ o.after.toList, Region.binds .any e = true ∧ (e.on = j ∨ (acc.getD (n - 1 - e.on) 0).testBit j = true) := by
  unfold bitsOf at h
  have : (fun (m : Nat) (e : Edge) => if Region.binds .any e then m ||| 2 ^ e.on ||| acc.getD (n - 1 - e.on) 0 else m) = fun m e => match (if Region.binds .any e then some (acc.getD (n - 1 - e.on) 0) else none) with
    | some b => m ||| 2 ^ e.on ||| b
    | none => m := by
    funext m e
    by_cases q : Region.binds .any e = true
    · simp [q]
    · simp [q]
  rw [this] at h
  rcases fold_bits (f := fun e => if Region.binds .any e then some (acc.getD (n - 1 - e.on) 0) else none) j _ _ h with h | ⟨e, h1, b, h2, h3⟩
  · simp at h
  · by_cases q : Region.binds .any e = true
    · rw [if_pos q] at h2
      cases h2
      exact ⟨e, h1, q, h3⟩
    · rw [if_neg q] at h2; cases h2
theorem anc_step {ops : Array Oper} {k j : Nat} {o : Oper} (ho : ops[k]? = some o) (hd : ∀ e ∈ o.after.toList, Region.binds .any e = true → e.on < k) (h : anc ops k j = true) :
    ∃ e ∈ o.after.toList, Region.binds .any e = true ∧ e.on < k ∧ (e.on = j ∨ anc ops e.on j = true) := by
  unfold anc at h
  rw [← Array.getElem?_toList] at ho
  have h1 := bitsL_get ops.toList [] 0 k o ho
  rw [List.getD_eq_getElem?_getD, h1] at h
  simp only [Option.getD_some, Nat.zero_add, List.append_nil] at h
  obtain ⟨e, e1, e2, e3⟩ := bitsOf_bit h
  have e4 := hd e e1 e2
  refine ⟨e, e1, e2, e4, e3.imp id (fun q => ?_)⟩
  have hk : k < ops.toList.length := (List.getElem?_eq_some_iff.1 ho).1
  unfold anc
  rw [List.getD_eq_getElem?_getD] at q ⊢
  rw [List.getElem?_reverse (by rw [List.length_take, bitsL_len]; omega), List.length_take, bitsL_len, List.getElem?_take] at q
  rw [show min k ops.toList.length - 1 - (k - 1 - e.on) = e.on by omega, if_pos e4] at q
  exact q
/-- What the static test tells. -/
structure Shaped (ops : Array Oper) : Prop where
  down : ∀ (k : Nat) (o : Oper), ops[k]? = some o → ∀ e ∈ o.after.toList, Region.binds .any e = true → e.on < k
  dst : ∀ (i j : Nat) (oi oj : Oper) (d : Tmp), i ≠ j → ops[i]? = some oi → ops[j]? = some oj → oi.dst = some d → oj.dst ≠ some d
  look : ∀ (i j : Nat) (oi oj : Oper) (d : Tmp), ops[i]? = some oi → ops[j]? = some oj → oj.dst = some d → d ∈ oi.looksAt ops → anc ops i j = true ∨ anc ops j i = true ∨ i = j
theorem dstIs_iff {t : Tmp} {o : Oper} : dstIs t o = true ↔ o.dst = some t := by
  unfold dstIs
  cases o.dst with
  | none => simp
  | some d => simp [Nat.beq_eq]
theorem lookOk_get {bits i : Nat} {t : Tmp} : ∀ (l : List Oper) (j k : Nat) (bs : List Nat) (o : Oper), lookOk bits i t j l bs = true → l[k]? = some o → o.dst = some t → bits.testBit (j + k) = true ∨ (bs.getD k 0).testBit i = true ∨ i = j + k
  | [], j, k, bs, o, h, hk, hd => by simp at hk
  | a :: r, j, 0, bs, o, h, hk, hd => by
    cases hk
    unfold lookOk at h
    rw [Bool.and_eq_true, dstIs_iff.2 hd] at h
    have h := h.1
    simp only [Bool.not_true, Bool.false_or, Bool.or_eq_true] at h
    rcases h with (h | h) | h
    · exact .inl h
    · refine .inr (.inl ?_)
      cases bs <;> exact h
    · exact .inr (.inr (Nat.eq_of_beq_eq_true h))
  | a :: r, j, k + 1, bs, o, h, hk, hd => by
    unfold lookOk at h
    rw [Bool.and_eq_true] at h
    rw [List.getElem?_cons_succ] at hk
    have := lookOk_get r (j + 1) k bs.tail o h.2 hk hd
    rw [show j + (k + 1) = j + 1 + k by omega]
    refine this.imp id (fun q => q.imp (fun q => ?_) id)
    cases bs with
    | nil => simp at q
    | cons b bs => simpa using q
theorem regOkL_get {ops : Array Oper} {all : List Oper} {abs : List Nat} : ∀ (l : List Oper) (i k : Nat) (bs : List Nat) (o : Oper), regOkL ops all abs i l bs = true → l[k]? = some o →
    (∀ e ∈ o.after.toList, Region.binds .any e = true → e.on < i + k) ∧ (∀ t ∈ o.looksAt ops, lookOk (bs.getD k 0) (i + k) t 0 all abs = true) ∧ (∀ d, o.dst = some d → ∀ k' q, k < k' → l[k']? = some q → q.dst ≠ some d)
  | [], i, k, bs, o, h, hk => by simp at hk
  | a :: r, i, 0, bs, o, h, hk => by
    cases hk
    unfold regOkL at h
    simp only [Bool.and_eq_true, List.all_eq_true] at h
    obtain ⟨⟨⟨h1, h2⟩, h3⟩, h4⟩ := h
    refine ⟨fun e he hb => ?_, fun t ht => ?_, fun d hd k' q hk' hq => ?_⟩
    · have := h1 e he
      rw [hb] at this
      have : Nat.blt e.on i = true := by simpa using this
      rw [Nat.add_zero]
      exact (Nat.blt_eq ▸ this : e.on < i)
    · have := h2 t ht
      cases bs <;> exact this
    · rw [hd] at h3
      obtain ⟨k', rfl⟩ : ∃ n, k' = n + 1 := ⟨k' - 1, by omega⟩
      rw [List.getElem?_cons_succ] at hq
      have := List.all_eq_true.1 h3 q (List.mem_of_getElem? hq)
      intro z
      rw [dstIs_iff.2 z] at this
      cases this
  | a :: r, i, k + 1, bs, o, h, hk => by
    unfold regOkL at h
    simp only [Bool.and_eq_true] at h
    rw [List.getElem?_cons_succ] at hk
    obtain ⟨a1, a2, a3⟩ := regOkL_get r (i + 1) k bs.tail o h.2 hk
    refine ⟨fun e he hb => by have := a1 e he hb; omega, fun t ht => ?_, fun d hd k' q hk' hq => ?_⟩
    · have := a2 t ht
      rw [show i + (k + 1) = i + 1 + k by omega]
      cases bs <;> simpa using this
    · obtain ⟨k', rfl⟩ : ∃ n, k' = n + 1 := ⟨k' - 1, by omega⟩
      rw [List.getElem?_cons_succ] at hq
      exact a3 d hd k' q (by omega) hq
theorem regOk_shaped {ops : Array Oper} (h : regOk ops = true) : Shaped ops := by
  unfold regOk at h
  have get := fun k o (ho : ops[k]? = some o) => regOkL_get ops.toList 0 k _ o h (by rw [Array.getElem?_toList]; exact ho)
  refine ⟨fun k o ho e he hb => by have := (get k o ho).1 e he hb; omega, fun i j oi oj d hij hi hj hd hd' => ?_, fun i j oi oj d hi hj hd hl => ?_⟩
  · rcases Nat.lt_or_gt_of_ne hij with q | q
    · exact (get i oi hi).2.2 d hd j oj q (by rw [Array.getElem?_toList]; exact hj) hd'
    · exact (get j oj hj).2.2 d hd' i oi q (by rw [Array.getElem?_toList]; exact hi) hd
  · have := lookOk_get ops.toList 0 j _ oj ((get i oi hi).2.1 d hl) (by rw [Array.getElem?_toList]; exact hj) hd
    rw [Nat.zero_add, Nat.zero_add] at this
    exact this
/-- What has been carried out: closed under waiting. -/
def Closed (ops : Array Oper) (S : Nat → Bool) : Prop := ∀ k o, S k = true → ops[k]? = some o → ∀ e ∈ o.after.toList, Region.binds .any e = true → S e.on = true
theorem anc_lt {ops : Array Oper} (sh : Shaped ops) : ∀ (k j : Nat) (o : Oper), ops[k]? = some o → anc ops k j = true → j < k := by
  intro k
  induction k using Nat.strongRecOn with
  | ind k ih =>
    intro j o ho h
    obtain ⟨e, e1, e2, e3, e4⟩ := anc_step ho (sh.down k o ho) h
    rcases e4 with rfl | e4
    · exact e3
    · have hlt : e.on < ops.size := by
        have := (Array.getElem?_eq_some_iff.1 ho).1
        omega
      have := ih e.on e3 j _ (Array.getElem?_eq_getElem hlt) e4
      omega
theorem anc_in {ops : Array Oper} (sh : Shaped ops) {S : Nat → Bool} (hS : Closed ops S) : ∀ (k j : Nat) (o : Oper), ops[k]? = some o → (∀ e ∈ o.after.toList, Region.binds .any e = true → S e.on = true) → anc ops k j = true → S j = true := by
  intro k
  induction k using Nat.strongRecOn with
  | ind k ih =>
    intro j o ho hd h
    obtain ⟨e, e1, e2, e3, e4⟩ := anc_step ho (sh.down k o ho) h
    rcases e4 with rfl | e4
    · exact hd e e1 e2
    · have hlt : e.on < ops.size := by
        have := (Array.getElem?_eq_some_iff.1 ho).1
        omega
      exact ih e.on e3 j _ (Array.getElem?_eq_getElem hlt) (hS _ _ (hd e e1 e2) (Array.getElem?_eq_getElem hlt)) e4
end Go.Proofs.YtffopeihcebpjaaGreat.X
end
section
set_option linter.unusedVariables false
namespace Go.Proofs.YtffopeihcebpjaaGreat.X
open Go Go.RowKit
section
variable {P : Program} {G : Told} {ops : Array Oper} {D : Dat}
/-- What the run in index order tells, of all operations. -/
structure Ran (P : Program) (G : Told) (ops : Array Oper) (D : Dat) : Prop where
  told : ∀ (k : Nat) (o : Oper), ops[k]? = some o → Told1 P G ops D k o
  pair : ∀ (k k' : Nat) (o o' : Oper), ops[k]? = some o → ops[k']? = some o' → k' < k → D.w k' = true → D.w k = true → pairOk ((bitsL [] 0 ops.toList).getD k 0) (D.lg k' o') (D.lg k o) = true
  hid : ∀ (k : Nat) (o : Oper) (x : Nat), ops[k]? = some o → D.w k = true → quietA o = false → (x ∈ D.hid k ↔ ∃ (k' : Nat) (o' : Oper), k' < k ∧ ops[k']? = some o' ∧ D.w k' = true ∧ anc ops k k' = false ∧ (D.h k').n ≤ x ∧ x < (D.h (k' + 1)).n)
  ok : (D.h 0).ok
theorem Ran.pairs (R : Ran P G ops D) {k k' : Nat} {o o' : Oper} (ho : ops[k]? = some o) (ho' : ops[k']? = some o') (hlt : k' < k) (hw' : D.w k' = true) (hw : D.w k = true) : anc ops k k' = true ∨
    ((quietA o' = false → quietA o = true) ∧ (quietA o = true → ∀ x ∈ readsA (D.tm k) o, ¬ ((D.h k').n ≤ x ∧ x < (D.h (k' + 1)).n)) ∧
     (quietA o = false → quietA o' = true → ∀ x ∈ readsA (D.tm k') o', (D.h k).get x = (D.h (k + 1)).get x) ∧ (quietA o' = false → quietA o = true → ∀ x ∈ readsA (D.tm k) o, (D.h k').get x = (D.h (k' + 1)).get x)) := by
  have h := R.pair k k' o o' ho ho' hlt hw' hw
  unfold pairOk Dat.lg at h
  rw [Bool.or_eq_true] at h
  rcases h with h | h
  · exact .inl h
  · refine .inr ?_
    simp only [Bool.and_eq_true, List.all_eq_true] at h
    obtain ⟨⟨⟨h1, h2⟩, h3⟩, h4⟩ := h
    refine ⟨fun q => ?_, fun q x hx hh => ?_, fun q q' x hx => ?_, fun q q' x hx => ?_⟩
    · rw [q] at h1
      cases z : quietA o
      · rw [z] at h1; cases h1
      · rfl
    · have := h2 x (by rw [if_pos q]; exact hx)
      rw [show Nat.ble (D.h k').n x = true from Nat.ble_eq.mpr hh.1, show Nat.blt x (D.h (k' + 1)).n = true from Nat.ble_eq.mpr hh.2] at this
      cases this
    · rw [q, q'] at h3
      simp only [Bool.not_false, Bool.not_true, Bool.false_or, if_true, List.all_eq_true] at h3
      exact sameOb_eq (h3 x hx)
    · rw [q, q'] at h4
      simp only [Bool.not_false, Bool.not_true, Bool.false_or, if_true, List.all_eq_true] at h4
      exact sameOb_eq (h4 x hx)
theorem Ran.size_lt {k : Nat} {o : Oper} (ho : ops[k]? = some o) : k < ops.size := (Array.getElem?_eq_some_iff.1 ho).1
theorem Ran.grow (hG : ToldGrows G) (R : Ran P G ops D) : ∀ k, k ≤ ops.size → (D.h k).ok ∧ ∀ j, j ≤ k → (D.h j).n ≤ (D.h k).n
  | 0, _ => ⟨R.ok, fun j hj => by have : j = 0 := by omega
                                  rw [this]; exact Nat.le_refl _⟩
  | k + 1, hk => by
    obtain ⟨h1, h2⟩ := R.grow hG k (by omega)
    obtain ⟨o, ho⟩ : ∃ o, ops[k]? = some o := ⟨_, Array.getElem?_eq_getElem (by omega)⟩
    have t := R.told k o ho
    have g : Grows (D.h k) (D.h (k + 1)) := by
      cases hw : D.w k with
      | false => rw [(t.no hw).2]; exact Grows.refl _
      | true =>
        cases hq : quietA o with
        | true =>
          obtain ⟨ws, e⟩ := t.quiet hw hq
          exact opA_grows e
        | false =>
          obtain ⟨n2, e⟩ := t.eff hw hq
          rw [e]
          refine hideA_grows (fun x hx => ?_) (stepA_grows hG n2)
          obtain ⟨k', o', a1, a2, a3, a4, a5, a6⟩ := (R.hid k o x ho hw hq).1 hx
          exact Nat.lt_of_lt_of_le a6 (h2 _ a1)
    refine ⟨g.2 h1, fun j hj => ?_⟩
    rcases Nat.lt_or_eq_of_le hj with q | rfl
    · exact Nat.le_trans (h2 j (by omega)) g.1
    · exact Nat.le_refl _
theorem Ran.mono (hG : ToldGrows G) (R : Ran P G ops D) {j k : Nat} (h : j ≤ k) (hk : k ≤ ops.size) : (D.h j).n ≤ (D.h k).n := (R.grow hG k hk).2 j h
theorem Ran.top (hG : ToldGrows G) (R : Ran P G ops D) {k x : Nat} (hk : k ≤ ops.size) (hx : (D.h k).get x ≠ .dead) : x < (D.h k).n := (R.grow hG k hk).1.lt hx
theorem Ran.dead (hG : ToldGrows G) (R : Ran P G ops D) {k x : Nat} (hk : k ≤ ops.size) (hx : (D.h k).n ≤ x) : (D.h k).get x = .dead := by
  by_cases q : (D.h k).get x = .dead
  · exact q
  · exact absurd (R.top hG hk q) (by omega)
theorem getL_ahead {news l : List (Nat × Ob)} {x : Nat} (h : ∀ p ∈ news, p.1 ≠ x) : getL (news ++ l) x = getL l x := by
  induction news with
  | nil => rfl
  | cons p r ih =>
    obtain ⟨k, b⟩ := p
    show (if Nat.beq k x = true then b else getL (r ++ l) x) = _
    rw [if_neg (fun q => h (k, b) (List.mem_cons_self ..) (Nat.eq_of_beq_eq_true q)), ih (fun p hp => h p (List.mem_cons_of_mem _ hp))]
theorem getL_map {f : Nat → Ob} {l : List (Nat × Ob)} {x : Nat} : ∀ hid : List Nat, getL (hid.map (fun o => (o, f o)) ++ l) x = if x ∈ hid then f x else getL l x
  | [] => by simp
  | k :: r => by
    show (if Nat.beq k x = true then f k else getL (r.map (fun o => (o, f o)) ++ l) x) = _
    by_cases q : k = x
    · subst q
      rw [if_pos (Nat.beq_refl _), if_pos (List.mem_cons_self ..)]
    · rw [if_neg (fun z => q (Nat.eq_of_beq_eq_true z)), getL_map r]
      have : (x ∈ k :: r) = (x ∈ r) := by
        rw [List.mem_cons]
        exact propext ⟨fun z => z.resolve_left (fun y => q y.symm), .inr⟩
      simp only [this]
theorem hide_get {hid : List Nat} {h : H} {x : Nat} : (hideA hid h).get x = if x ∈ hid then .dead else h.get x := getL_map (f := fun _ => .dead) hid
theorem back_get {hid : List Nat} {h h' : H} {x : Nat} : (backA hid h h').get x = if x ∈ hid then h.get x else h'.get x := getL_map (f := h.get) hid
theorem Ran.quiet_keep (R : Ran P G ops D) {k x : Nat} {o : Oper} (ho : ops[k]? = some o) (hw : D.w k = true) (hq : quietA o = true) (hx : x < (D.h k).n) : (D.h (k + 1)).get x = (D.h k).get x := by
  obtain ⟨ws, e⟩ := (R.told k o ho).quiet hw hq
  obtain ⟨news, a1, a2, a3, a4⟩ := opA_local hq e
  show getL (D.h (k + 1)).l x = _
  have : (D.h (k + 1)).l = news ++ (D.h k).l := by
    have := congrArg H.l a3
    exact this
  rw [this, getL_ahead (fun p hp => by have := a2 p hp; omega)]
  rfl
/-- Does an operation write the object, as it ran? -/
def touch (ops : Array Oper) (D : Dat) (k x : Nat) : Bool := match ops[k]? with
  | none => false
  | some o => D.w k && (if quietA o then decide ((D.h k).n ≤ x ∧ x < (D.h (k + 1)).n) else decide (x ∉ D.hid k ∧ x < (D.h (k + 1)).n))
theorem touch_iff {k x : Nat} {o : Oper} (ho : ops[k]? = some o) : touch ops D k x = true ↔ D.w k = true ∧ ((quietA o = true ∧ (D.h k).n ≤ x ∧ x < (D.h (k + 1)).n) ∨ (quietA o = false ∧ x ∉ D.hid k ∧ x < (D.h (k + 1)).n)) := by
  unfold touch
  rw [ho]
  simp only [Bool.and_eq_true]
  cases quietA o <;> simp
theorem Ran.still (hG : ToldGrows G) (R : Ran P G ops D) {k x : Nat} {o : Oper} (ho : ops[k]? = some o) (ht : touch ops D k x = false) (hx : x < (D.h (k + 1)).n) : x < (D.h k).n ∧ (D.h (k + 1)).get x = (D.h k).get x := by
  have nt : ¬ touch ops D k x = true := by rw [ht]; exact Bool.false_ne_true
  rw [touch_iff ho] at nt
  cases hw : D.w k with
  | false =>
    have := ((R.told k o ho).no hw).2
    rw [this] at hx ⊢
    exact ⟨hx, rfl⟩
  | true =>
    cases hq : quietA o with
    | true =>
      have : x < (D.h k).n := by
        rcases Nat.lt_or_ge x (D.h k).n with q | q
        · exact q
        · exact absurd ⟨hw, .inl ⟨hq, q, hx⟩⟩ nt
      exact ⟨this, R.quiet_keep ho hw hq this⟩
    | false =>
      have : x ∈ D.hid k := by
        by_cases q : x ∈ D.hid k
        · exact q
        · exact absurd ⟨hw, .inr ⟨hq, q, hx⟩⟩ nt
      obtain ⟨k', o', a1, a2, a3, a4, a5, a6⟩ := (R.hid k o x ho hw hq).1 this
      have hs := Ran.size_lt ho
      refine ⟨Nat.lt_of_lt_of_le a6 (R.mono hG a1 (by omega)), ?_⟩
      rw [((R.told k o ho).eff hw hq).2, back_get, if_pos this]
/-- What an object is, of the first k operations those in S carried out. -/
def cont (ops : Array Oper) (D : Dat) (S : Nat → Bool) : Nat → Nat → Ob
  | 0, x => (D.h 0).get x
  | k + 1, x => if S k && touch ops D k x then (D.h (k + 1)).get x else cont ops D S k x
theorem Ran.cont_eq (hG : ToldGrows G) (R : Ran P G ops D) {S : Nat → Bool} {i : Nat} (hi : i ≤ ops.size) {X : Nat → Prop}
    (hX : ∀ k, k < i → S k = false → D.w k = true → ∀ x, X x → x < (D.h (k + 1)).n → x < (D.h k).n ∧ (D.h (k + 1)).get x = (D.h k).get x) :
    ∀ k, k ≤ i → ∀ x, X x → x < (D.h k).n → cont ops D S k x = (D.h k).get x
  | 0, _, x, _, _ => rfl
  | k + 1, hk, x, h1, h2 => by
    obtain ⟨o, ho⟩ : ∃ o, ops[k]? = some o := ⟨_, Array.getElem?_eq_getElem (by omega)⟩
    unfold cont
    split
    · rfl
    · rename_i q
      have key : x < (D.h k).n ∧ (D.h (k + 1)).get x = (D.h k).get x := by
        cases hS : S k with
        | true =>
          rw [hS, Bool.true_and] at q
          exact R.still hG ho (by simpa using q) h2
        | false =>
          cases hw : D.w k with
          | false =>
            have := ((R.told k o ho).no hw).2
            rw [this] at h2 ⊢
            exact ⟨h2, rfl⟩
          | true => exact hX k (by omega) hS hw x h1 h2
      rw [key.2]
      exact R.cont_eq hG hi hX k (by omega) x h1 key.1
/-- May an operation be carried out next? -/
structure Next1 (ops : Array Oper) (S : Nat → Bool) (i : Nat) (o : Oper) : Prop where
  op : ops[i]? = some o
  shaped : Shaped ops
  closed : Closed ops S
  no : S i = false
  deps : ∀ e ∈ o.after.toList, Region.binds .any e = true → S e.on = true
theorem Next1.lt {S : Nat → Bool} {i : Nat} {o : Oper} (N : Next1 ops S i o) : i < ops.size := Ran.size_lt N.op
theorem Next1.anc {S : Nat → Bool} {i j : Nat} {o : Oper} (N : Next1 ops S i o) (h : anc ops i j = true) : S j = true := anc_in N.shaped N.closed i j o N.op N.deps h
theorem Next1.not_anc {S : Nat → Bool} {i j : Nat} {o oj : Oper} (N : Next1 ops S i o) (hj : ops[j]? = some oj) (hS : S j = true) : Go.Proofs.YtffopeihcebpjaaGreat.X.anc ops j i = false := by
  cases q : Go.Proofs.YtffopeihcebpjaaGreat.X.anc ops j i with
  | false => rfl
  | true => have := anc_in N.shaped N.closed j i oj hj (fun e he hb => N.closed j oj hS hj e he hb) q; rw [N.no] at this; cases this
/-- What an effect sees is as in index order. -/
theorem Ran.seen_eff (hG : ToldGrows G) (R : Ran P G ops D) {S : Nat → Bool} {i : Nat} {o : Oper} (N : Next1 ops S i o) (hw : D.w i = true) (hq : quietA o = false) : ∀ k, i ≤ k → k ≤ ops.size → ∀ x, x ∉ D.hid i → x < (D.h i).n → cont ops D S k x = (D.h i).get x := by
  intro k hik
  induction hik with
  | refl =>
    intro hk x h1 h2
    refine R.cont_eq hG hk (X := fun x => x ∉ D.hid i) (fun k hk hS hwk x hx hl => ?_) i (Nat.le_refl _) x h1 h2
    have hs := N.lt
    obtain ⟨ok, hok⟩ : ∃ o, ops[k]? = some o := ⟨_, Array.getElem?_eq_getElem (by omega)⟩
    have na : anc ops i k = false := by
      cases q : anc ops i k with
      | false => rfl
      | true => rw [N.anc q] at hS; cases hS
    have lt : x < (D.h k).n := by
      rcases Nat.lt_or_ge x (D.h k).n with q | q
      · exact q
      · exact absurd ((R.hid i o x N.op hw hq).2 ⟨k, ok, hk, hok, hwk, na, q, hl⟩) hx
    refine ⟨lt, ?_⟩
    rcases R.pairs N.op hok hk hwk hw with q | q
    · rw [na] at q; cases q
    · cases hqk : quietA ok with
      | true => exact R.quiet_keep hok hwk hqk lt
      | false => have := q.1 hqk; rw [hq] at this; cases this
  | step hle ih =>
    rename_i k
    intro hk x h1 h2
    unfold cont
    split
    · rename_i q
      rw [Bool.and_eq_true] at q
      exfalso
      obtain ⟨ok, hok⟩ : ∃ o, ops[k]? = some o := ⟨_, Array.getElem?_eq_getElem (by omega)⟩
      obtain ⟨q1, q2⟩ := q
      rw [touch_iff hok] at q2
      have hne : k ≠ i := fun z => by rw [z, N.no] at q1; cases q1
      have hlt : i < k := by have : i ≤ k := hle; omega
      rcases q2.2 with ⟨z1, z2, z3⟩ | ⟨z1, z2, z3⟩
      · have := R.mono hG (show i ≤ k by omega) (by omega)
        omega
      · rcases R.pairs hok N.op hlt hw q2.1 with z | z
        · rw [N.not_anc hok q1] at z; cases z
        · have := z.1 hq; rw [z1] at this; cases this
    · exact ih (by omega) x h1 h2
/-- What a quiet operation reads is as in index order. -/
theorem Ran.seen_quiet (hG : ToldGrows G) (R : Ran P G ops D) {S : Nat → Bool} {i : Nat} {o : Oper} (N : Next1 ops S i o) (hw : D.w i = true) (hq : quietA o = true) : ∀ k, i ≤ k → k ≤ ops.size → ∀ x, x ∈ readsA (D.tm i) o → x < (D.h i).n → cont ops D S k x = (D.h i).get x := by
  intro k hik
  induction hik with
  | refl =>
    intro hk x h1 h2
    refine R.cont_eq hG hk (X := fun x => x ∈ readsA (D.tm i) o) (fun k hk hS hwk x hx hl => ?_) i (Nat.le_refl _) x h1 h2
    have hs := N.lt
    obtain ⟨ok, hok⟩ : ∃ o, ops[k]? = some o := ⟨_, Array.getElem?_eq_getElem (by omega)⟩
    have na : anc ops i k = false := by
      cases q : anc ops i k with
      | false => rfl
      | true => rw [N.anc q] at hS; cases hS
    rcases R.pairs N.op hok hk hwk hw with q | q
    · rw [na] at q; cases q
    · have lt : x < (D.h k).n := by
        rcases Nat.lt_or_ge x (D.h k).n with z | z
        · exact z
        · exact absurd ⟨z, hl⟩ (q.2.1 hq x hx)
      refine ⟨lt, ?_⟩
      cases hqk : quietA ok with
      | true => exact R.quiet_keep hok hwk hqk lt
      | false => exact (q.2.2.2 hqk hq x hx).symm
  | step hle ih =>
    rename_i k
    intro hk x h1 h2
    unfold cont
    split
    · rename_i q
      rw [Bool.and_eq_true] at q
      obtain ⟨ok, hok⟩ : ∃ o, ops[k]? = some o := ⟨_, Array.getElem?_eq_getElem (by omega)⟩
      obtain ⟨q1, q2⟩ := q
      rw [touch_iff hok] at q2
      have hle' : i ≤ k := hle
      have effk : quietA ok = false := by
        rcases q2.2 with ⟨z1, z2, z3⟩ | ⟨z1, z2, z3⟩
        · have := R.mono hG hle' (by omega)
          omega
        · exact z1
      have same : ∀ m, i ≤ m → m ≤ k + 1 → (D.h m).get x = (D.h i).get x := by
        intro m him
        induction him with
        | refl => intro _; rfl
        | step hm ihm =>
          rename_i m
          intro hmk
          have hm' : i ≤ m := hm
          rw [← ihm (by omega)]
          obtain ⟨om, hom⟩ : ∃ o, ops[m]? = some o := ⟨_, Array.getElem?_eq_getElem (by omega)⟩
          have lt : x < (D.h m).n := Nat.lt_of_lt_of_le h2 (R.mono hG hm' (by omega))
          cases hwm : D.w m with
          | false => rw [((R.told m om hom).no hwm).2]
          | true =>
            cases hqm : quietA om with
            | true => exact R.quiet_keep hom hwm hqm lt
            | false =>
              have hSm : S m = true := by
                rcases Nat.lt_or_eq_of_le (show m ≤ k by omega) with z | z
                · rcases R.pairs hok hom z hwm q2.1 with y | y
                  · exact anc_in N.shaped N.closed k m ok hok (fun e he hb => N.closed k ok q1 hok e he hb) y
                  · have := y.1 hqm; rw [effk] at this; cases this
                · rw [z]; exact q1
              have hne : i ≠ m := fun z => by rw [← z, N.no] at hSm; cases hSm
              rcases R.pairs hom N.op (show i < m by omega) hw hwm with y | y
              · rw [N.not_anc hom hSm] at y; cases y
              · exact (y.2.2.1 hqm hq x h1).symm
      exact same (k + 1) (by omega) (Nat.le_refl _)
    · exact ih (by omega) x h1 h2
/-- One operation more. -/
theorem Ran.cont_more (hG : ToldGrows G) (R : Ran P G ops D) {S S' : Nat → Bool} {i : Nat} {o : Oper} (N : Next1 ops S i o) (h1 : ∀ k, k ≠ i → S' k = S k) (h2 : S' i = true) (x : Nat) : ∀ k, k ≤ ops.size →
    cont ops D S' k x = if i < k ∧ touch ops D i x = true then (D.h (i + 1)).get x else cont ops D S k x
  | 0, _ => by rw [if_neg (by omega)]; rfl
  | k + 1, hk => by
    have ih := R.cont_more hG N h1 h2 x k (by omega)
    obtain ⟨ok, hok⟩ : ∃ o, ops[k]? = some o := ⟨_, Array.getElem?_eq_getElem (by omega)⟩
    have cs : ∀ S, cont ops D S (k + 1) x = if S k && touch ops D k x then (D.h (k + 1)).get x else cont ops D S k x := fun _ => rfl
    rw [cs S', ih]
    rcases Nat.lt_trichotomy i k with q | q | q
    · rw [h1 k (by omega)]
      by_cases t : touch ops D i x = true
      · rw [if_pos (c := i < k ∧ touch ops D i x = true) ⟨q, t⟩, if_pos (c := i < k + 1 ∧ touch ops D i x = true) ⟨by omega, t⟩]
        split
        · rename_i z
          exfalso
          rw [Bool.and_eq_true] at z
          obtain ⟨z1, z2⟩ := z
          rw [touch_iff hok] at z2
          rw [touch_iff N.op] at t
          have hx : x < (D.h (i + 1)).n := by rcases t.2 with y | y <;> exact y.2.2
          have := R.mono hG (show i + 1 ≤ k by omega) (by omega)
          rcases z2.2 with ⟨y1, y2, y3⟩ | ⟨y1, y2, y3⟩
          · omega
          · have na := N.not_anc hok z1
            rcases t.2 with ⟨u1, u2, u3⟩ | ⟨u1, u2, u3⟩
            · exact y2 ((R.hid k ok x hok z2.1 y1).2 ⟨i, o, q, N.op, t.1, na, u2, u3⟩)
            · rcases R.pairs hok N.op q t.1 z2.1 with v | v
              · rw [na] at v; cases v
              · have := v.1 u1; rw [y1] at this; cases this
        · rfl
      · rw [if_neg (c := i < k ∧ touch ops D i x = true) (fun z => t z.2), if_neg (c := i < k + 1 ∧ touch ops D i x = true) (fun z => t z.2), cs S]
    · subst q
      rw [h2, cs S, N.no, if_neg (c := i < i ∧ touch ops D i x = true) (fun z => absurd z.1 (Nat.lt_irrefl _))]
      by_cases t : touch ops D i x = true
      · rw [if_pos (c := i < i + 1 ∧ touch ops D i x = true) ⟨by omega, t⟩, t]
        rfl
      · rw [if_neg (c := i < i + 1 ∧ touch ops D i x = true) (fun z => t z.2), Bool.true_and, Bool.false_and, if_neg t]
        rfl
    · rw [h1 k (by omega), if_neg (c := i < k ∧ touch ops D i x = true) (fun z => absurd z.1 (by omega)), if_neg (c := i < k + 1 ∧ touch ops D i x = true) (fun z => absurd z.1 (by omega)), cs S]
/-! Temporaries. -/
def tms (ops : Array Oper) (D : Dat) (S : Nat → Bool) : Nat → List AV
  | 0 => D.tm 0
  | k + 1 => match ops[k]? with
    | some o => if S k then putA (tms ops D S k) o.dst (D.v k) else tms ops D S k
    | none => tms ops D S k
theorem tms_succ {S : Nat → Bool} {k : Nat} {o : Oper} (ho : ops[k]? = some o) : tms ops D S (k + 1) = if S k then putA (tms ops D S k) o.dst (D.v k) else tms ops D S k := by
  show (match ops[k]? with
    | some o => if S k then putA (tms ops D S k) o.dst (D.v k) else tms ops D S k
    | none => tms ops D S k) = _
  rw [ho]
theorem putA_len (l : List AV) (d : Option Tmp) (v : AV) : (putA l d v).length = l.length := by
  unfold putA
  cases d with
  | none => rfl
  | some d => exact List.length_set
theorem putA_ne {l : List AV} {d : Option Tmp} {v : AV} {t : Tmp} (h : d ≠ some t) : (putA l d v).getD t .un = l.getD t .un := by
  unfold putA
  cases d with
  | none => rfl
  | some d =>
    have : d ≠ t := fun z => h (by rw [z])
    simp only [List.getD_eq_getElem?_getD]
    rw [List.getElem?_set_ne this]
theorem putA_same {l l' : List AV} {d : Option Tmp} {v : AV} {t : Tmp} (hl : l.length = l'.length) (h : l.getD t .un = l'.getD t .un) : (putA l d v).getD t .un = (putA l' d v).getD t .un := by
  by_cases q : d = some t
  · subst q
    show (l.set t v).getD t .un = (l'.set t v).getD t .un
    simp only [List.getD_eq_getElem?_getD, List.getElem?_set_self']
    cases z : l[t]? with
    | none => rw [show l'[t]? = none by rw [List.getElem?_eq_none_iff] at z ⊢; omega]
    | some y =>
      have : t < l'.length := by rw [← hl]; exact (List.getElem?_eq_some_iff.1 z).1
      rw [List.getElem?_eq_getElem this]
      rfl
  · rw [putA_ne q, putA_ne q, h]
theorem Ran.tms_low (R : Ran P G ops D) {S : Nat → Bool} {i : Nat} (hi : i ≤ ops.size) {t : Tmp} (hS : ∀ j oj, j < i → ops[j]? = some oj → oj.dst = some t → S j = true) : ∀ k, k ≤ i → (tms ops D S k).length = (D.tm k).length ∧ (tms ops D S k).getD t .un = (D.tm k).getD t .un
  | 0, _ => ⟨rfl, rfl⟩
  | k + 1, hk => by
    obtain ⟨a1, a2⟩ := R.tms_low hi hS k (by omega)
    obtain ⟨o, ho⟩ : ∃ o, ops[k]? = some o := ⟨_, Array.getElem?_eq_getElem (by omega)⟩
    rw [tms_succ ho, (R.told k o ho).tm]
    split
    · exact ⟨by rw [putA_len, putA_len, a1], putA_same a1 a2⟩
    · rename_i q
      refine ⟨by rw [putA_len, a1], ?_⟩
      rw [putA_ne (fun z => q (hS k o (by omega) ho z)), a2]
theorem tms_high {S : Nat → Bool} {i : Nat} {t : Tmp} (h : ∀ j oj, i ≤ j → ops[j]? = some oj → S j = true → oj.dst ≠ some t) {k : Nat} (hk : i ≤ k) : k ≤ ops.size → (tms ops D S k).getD t .un = (tms ops D S i).getD t .un := by
  induction hk with
  | refl => intro _; rfl
  | step hle ih =>
    rename_i k
    intro hs
    obtain ⟨o, ho⟩ : ∃ o, ops[k]? = some o := ⟨_, Array.getElem?_eq_getElem (by omega)⟩
    rw [tms_succ ho, ← ih (by omega)]
    split
    · rename_i q; exact putA_ne (h k o hle ho q)
    · rfl
theorem Ran.look (R : Ran P G ops D) {S : Nat → Bool} {i : Nat} {o : Oper} (N : Next1 ops S i o) {t : Tmp} (ht : t ∈ o.looksAt ops) : (tms ops D S ops.size).getD t .un = (D.tm i).getD t .un := by
  have hl := N.lt
  have w : ∀ j oj, ops[j]? = some oj → oj.dst = some t → (j < i ∧ S j = true) ∨ (i ≤ j ∧ S j = false) := fun j oj hj hd => by
    rcases N.shaped.look i j o oj t N.op hj hd ht with q | q | q
    · exact .inl ⟨anc_lt N.shaped i j o N.op q, N.anc q⟩
    · refine .inr ⟨Nat.le_of_lt (anc_lt N.shaped j i oj hj q), ?_⟩
      cases z : S j with
      | false => rfl
      | true => rw [N.not_anc hj z] at q; cases q
    · subst q; exact .inr ⟨Nat.le_refl _, N.no⟩
  rw [tms_high (S := S) (i := i) (fun j oj hij hj hS hd => by
    rcases w j oj hj hd with q | q
    · omega
    · rw [q.2] at hS; cases hS) (by omega) (Nat.le_refl _)]
  exact (R.tms_low (by omega) (fun j oj hj h1 h2 => by
    rcases w j oj h1 h2 with q | q
    · exact q.2
    · omega) i (Nat.le_refl _)).2
theorem Ran.eval (R : Ran P G ops D) {S : Nat → Bool} {i : Nat} {o : Oper} (N : Next1 ops S i o) : ∀ x ∈ o.op.operands, evalA (tms ops D S ops.size) x = evalA (D.tm i) x := fun x hx => by
  cases x with
  | tmp t => exact R.look N (List.mem_append_left _ (List.mem_filterMap.2 ⟨.tmp t, by simpa using hx, rfl⟩))
  | _ => rfl
theorem Ran.want (R : Ran P G ops D) {S : Nat → Bool} {i : Nat} {o : Oper} (N : Next1 ops S i o) : wantA ops (tms ops D S ops.size) o = some (D.w i) := by
  rw [← (R.told i o N.op).want]
  unfold wantA
  cases hg : o.guard with
  | none => rfl
  | some q =>
    obtain ⟨j, b⟩ := q
    simp only
    cases hj : ops[j]? with
    | none => rfl
    | some oj =>
      simp only
      cases hd : oj.dst with
      | none => rfl
      | some d =>
        simp only
        rw [R.look N (t := d)]
        refine List.mem_append_right _ ?_
        rw [hg]
        simp [hj, hd]
theorem putA_comm {l : List AV} {d e : Option Tmp} {v u : AV} (h : ∀ t, d = some t → e ≠ some t) : putA (putA l d v) e u = putA (putA l e u) d v := by
  cases d with
  | none => rfl
  | some d =>
    cases e with
    | none => rfl
    | some e =>
      have : d ≠ e := fun z => h d rfl (by rw [z])
      exact List.set_comm _ _ this
theorem tms_more {S S' : Nat → Bool} {i : Nat} {o : Oper} (N : Next1 ops S i o) (h1 : ∀ k, k ≠ i → S' k = S k) (h2 : S' i = true) : ∀ k, k ≤ ops.size → tms ops D S' k = if i < k then putA (tms ops D S k) o.dst (D.v i) else tms ops D S k
  | 0, _ => by rw [if_neg (by omega)]; rfl
  | k + 1, hk => by
    have ih := tms_more N h1 h2 k (by omega)
    obtain ⟨ok, hok⟩ : ∃ o, ops[k]? = some o := ⟨_, Array.getElem?_eq_getElem (by omega)⟩
    rw [tms_succ hok, tms_succ hok, ih]
    rcases Nat.lt_trichotomy i k with q | q | q
    · rw [h1 k (by omega), if_pos q, if_pos (show i < k + 1 by omega)]
      split
      · exact putA_comm (fun t z => N.shaped.dst i k o ok t (by omega) N.op hok z)
      · rfl
    · subst q
      rw [N.op] at hok
      cases hok
      rw [h2, N.no, if_neg (Nat.lt_irrefl _), if_pos (Nat.lt_succ_self _)]
      rfl
    · rw [h1 k (by omega), if_neg (show ¬ i < k by omega), if_neg (show ¬ i < k + 1 by omega)]
end
end Go.Proofs.YtffopeihcebpjaaGreat.X
end
section
set_option linter.unusedVariables false
namespace Go.Proofs.YtffopeihcebpjaaGreat.X
open Go Go.RowKit
section
variable {P : Program} {G : Told} {ops : Array Oper} {D : Dat} {w0 : Base} {σ : Sg} {T : Nat → Prop} {w : World}
/-- A heap out of its objects. -/
def ofFun (N : Nat) (f : Nat → Ob) (n : Nat) : H := ⟨(List.range N).map (fun x => (x, f x)), n⟩
theorem ofFun_get {N n x : Nat} {f : Nat → Ob} : (ofFun N f n).get x = if x < N then f x else .dead := by
  have := getL_map (f := f) (l := []) (x := x) (List.range N)
  rw [List.append_nil] at this
  show getL ((List.range N).map (fun o => (o, f o))) x = _
  rw [this]
  simp only [List.mem_range]
  rfl
/-- The heap when those in S have been carried out. -/
def hS (ops : Array Oper) (D : Dat) (S : Nat → Bool) : H := ofFun (D.h ops.size).n (cont ops D S ops.size) (D.h ops.size).n
theorem hS_get {S : Nat → Bool} {x : Nat} : (hS ops D S).get x = if x < (D.h ops.size).n then cont ops D S ops.size x else .dead := ofFun_get
theorem Hr.same {h h' : H} (r : Hr w0 σ T h w) (hg : ∀ x, h'.get x = h.get x) (hn : h.n ≤ h'.n) : Hr w0 σ T h' w where
  below := r.below
  stay := r.stay
  hold := r.hold
  low := Nat.le_trans r.low hn
  dom o h1 h2 := r.dom o (Nat.le_trans hn h1) h2
  rest := r.rest
  top o ho := Nat.lt_of_lt_of_le (r.top o (by rw [← hg]; exact ho)) hn
  obj o := by rw [hg]; exact r.obj o
  own o b q := r.own o b (by rw [← hg]; exact q)
  sep o o' b q q' := r.sep o o' b (by rw [← hg]; exact q) (by rw [← hg]; exact q')
theorem Hr.lessn {h h' : H} (r : Hr w0 σ T h w) (hg : ∀ x, h'.get x = h.get x) (hn : h'.n = h.n) : Hr w0 σ T h' w := r.same hg (by rw [hn]; exact Nat.le_refl _)
theorem getL_tails {x : Nat} {l l' : List (Nat × Ob)} (news : List (Nat × Ob)) (c1 : getL l x = .dead) (c2 : getL l' x = .dead) : getL (news ++ l) x = getL (news ++ l') x := by
  induction news with
  | nil => exact c1.trans c2.symm
  | cons p r ih =>
    obtain ⟨k, b⟩ := p
    show (if Nat.beq k x = true then b else getL (r ++ l) x) = (if Nat.beq k x = true then b else getL (r ++ l') x)
    rw [ih]
/-- What holds between the operations of a drawn region. -/
structure Inv (w0 : Base) (σ0 : Sg) (T0 : Nat → Prop) (ops : Array Oper) (D : Dat) (S : Nat → Bool) (a : Act) (w : World) : Prop where
  defers : a.defers = []
  more : ∃ σ T, σ0.le σ ∧ (∀ b, T0 b → T b) ∧ AVrs σ (tms ops D S ops.size) a.tmps.toList ∧ Hr w0 σ T (hS ops D S) w ∧ ∀ k, k < ops.size → S k = false → ∀ x, (D.h k).n ≤ x → x < (D.h (k + 1)).n → σ x = none
theorem inv_step (hG : ToldGrows G) (R : Ran P G ops D) {S S' : Nat → Bool} {i : Nat} {o : Oper} (N : Next1 ops S i o) (h1 : ∀ k, k ≠ i → S' k = S k) (h2 : S' i = true) {σ0 : Sg} {T0 : Nat → Prop} {a : Act}
    (hlim : (D.h ops.size).n ≤ w0.lim) (hlow : w0.lo ≤ (D.h 0).n) (inv : Inv w0 σ0 T0 ops D S a w) (V V' : H) (hV : ∀ x, V.get x ≠ .dead → V.get x = (hS ops D S).get x) (Vn : V.n = (D.h i).n) (Vn' : V'.n = (D.h (i + 1)).n)
    (top : ∀ x, V.get x ≠ .dead → x < V.n)
    (does : ∀ (w1 : Base) (σ : Sg) (T : Nat → Prop), V'.n ≤ w1.lim → AVrs σ (tms ops D S ops.size) a.tmps.toList → Hr w1 σ T V w → Does P w1 σ T w o a (D.v i) V')
    (vis : Nat → Prop) [DecidablePred vis] (hv : ∀ x, V.get x ≠ .dead → vis x) (g1 : ∀ x, vis x → (hS ops D S').get x = V'.get x) (g2 : ∀ x, ¬ vis x → (hS ops D S').get x = (hS ops D S).get x)
    {K : Act → World → Prop} {Q : Exit → Act → World → Prop} (hK : ∀ a' w', Inv w0 σ0 T0 ops D S' a' w' → K a' w') : o.wp P a w K Q := by
  obtain ⟨σ, T, s1, t1, g, r, free⟩ := inv.more
  have hi := N.lt
  have m1 : (D.h i).n ≤ (D.h (i + 1)).n := R.mono hG (by omega) (by omega)
  have m2 : (D.h (i + 1)).n ≤ (D.h ops.size).n := R.mono hG (by omega) (Nat.le_refl _)
  have hfree : ∀ x, V.n ≤ x → x < (D.h (i + 1)).n → σ x = none := fun x a1 a2 => free i hi N.no x (by omega) a2
  have rp : Hr (subB w σ T V (D.h (i + 1)).n) σ T V w := r.part hV top hfree
  refine does _ σ T (by rw [Vn']; exact Nat.le_refl _) g rp K Q (fun y w' σ' T' s2 t2 r' v' => hK _ _ ⟨by rw [put_defers]; exact inv.defers, σ', T', Sg.le_trans s1 s2, fun b q => t2 b (t1 b q), ?_, ?_, ?_⟩)
  · rw [tms_more N h1 h2 ops.size (Nat.le_refl _), if_pos hi]
    exact put_ok (g.up s2) v'
  · refine r.lay hV r' s2 t2 vis hv g1 g2 (Nat.le_refl _) ?_ ?_ ?_ ?_
    · rw [Vn']; exact m2
    · rw [Vn]; exact Nat.le_trans hlow (R.mono hG (by omega) (by omega))
    · exact m2
    · exact Nat.le_trans m2 hlim
  · intro k hk hSk x a1 a2
    have hne : k ≠ i := fun z => by rw [z, h2] at hSk; cases hSk
    have hSk' : S k = false := by rw [← h1 k hne]; exact hSk
    have out : x < V.n ∨ (D.h (i + 1)).n ≤ x := by
      rcases Nat.lt_or_gt_of_ne hne with q | q
      · have := R.mono hG (show k + 1 ≤ i by omega) (by omega)
        exact .inl (by omega)
      · have := R.mono hG (show i + 1 ≤ k by omega) (by omega)
        exact .inr (by omega)
    rw [r'.rest x out]
    exact free k hk hSk' x a1 a2
theorem inv_eff (hG : ToldGrows G) (iS : StepOk P G) (R : Ran P G ops D) {S S' : Nat → Bool} {i : Nat} {o : Oper} (N : Next1 ops S i o) (h1 : ∀ k, k ≠ i → S' k = S k) (h2 : S' i = true) {σ0 : Sg} {T0 : Nat → Prop} {a : Act}
    (hlim : (D.h ops.size).n ≤ w0.lim) (hlow : w0.lo ≤ (D.h 0).n) (inv : Inv w0 σ0 T0 ops D S a w) (hw : D.w i = true) (hq : quietA o = false)
    {K : Act → World → Prop} {Q : Exit → Act → World → Prop} (hK : ∀ a' w', Inv w0 σ0 T0 ops D S' a' w' → K a' w') : o.wp P a w K Q := by
  have hi := N.lt
  obtain ⟨n2, e⟩ := (R.told i o N.op).eff hw hq
  have m1 : (D.h i).n ≤ (D.h (i + 1)).n := R.mono hG (by omega) (by omega)
  have m2 : (D.h (i + 1)).n ≤ (D.h ops.size).n := R.mono hG (by omega) (Nat.le_refl _)
  have Vn' : (D.V' i).n = (D.h (i + 1)).n := by rw [e]; rfl
  have alive : ∀ x, (hideA (D.hid i) (D.h i)).get x ≠ .dead → x ∉ D.hid i ∧ x < (D.h i).n ∧ (hideA (D.hid i) (D.h i)).get x = (D.h i).get x := fun x hx => by
    rw [hide_get] at hx ⊢
    by_cases q : x ∈ D.hid i
    · rw [if_pos q] at hx; exact absurd rfl hx
    · rw [if_neg q] at hx ⊢
      exact ⟨q, R.top hG (by omega) hx, rfl⟩
  have hidlt : ∀ x ∈ D.hid i, x < (D.h i).n := fun x hx => by
    obtain ⟨k', o', a1, a2, a3, a4, a5, a6⟩ := (R.hid i o x N.op hw hq).1 hx
    exact Nat.lt_of_lt_of_le a6 (R.mono hG a1 (by omega))
  have okV : (hideA (D.hid i) (D.h i)).ok := fun p hp => by
    rcases List.mem_append.1 hp with hp | hp
    · obtain ⟨x, hx, rfl⟩ := List.mem_map.1 hp
      exact hidlt x hx
    · exact (R.grow hG i (by omega)).1 p hp
  refine inv_step hG R N h1 h2 hlim hlow inv (hideA (D.hid i) (D.h i)) (D.V' i) (fun x hx => ?_) rfl Vn' (fun x hx => (alive x hx).2.1) (fun w1 σ T l g r => ?_)
    (fun x => x ∉ D.hid i ∧ x < (D.h (i + 1)).n) (fun x hx => ?_) (fun x hx => ?_) (fun x hx => ?_) hK
  · obtain ⟨b1, b2, b3⟩ := alive x hx
    rw [b3, hS_get, if_pos (by omega), R.seen_eff hG N hw hq _ (by omega) (Nat.le_refl _) x b1 b2]
  · refine iS _ _ _ (D.v i, D.V' i) ?_ okV _ _ _ _ _ l g r
    rw [stepA_congr (R.eval N)]
    exact n2
  · obtain ⟨b1, b2, b3⟩ := alive x hx
    exact ⟨b1, by omega⟩
  · rw [hS_get, if_pos (by omega), R.cont_more hG N h1 h2 x _ (Nat.le_refl _), if_pos ⟨hi, (touch_iff N.op).2 ⟨hw, .inr ⟨hq, hx.1, hx.2⟩⟩⟩, e, back_get, if_neg hx.1]
  · rw [hS_get, hS_get, R.cont_more hG N h1 h2 x _ (Nat.le_refl _), if_neg (c := i < ops.size ∧ touch ops D i x = true) (fun z => ?_)]
    rcases ((touch_iff N.op).1 z.2).2 with q | q
    · rw [hq] at q; cases q.1
    · exact hx q.2
theorem inv_quiet (hG : ToldGrows G) (R : Ran P G ops D) {S S' : Nat → Bool} {i : Nat} {o : Oper} (N : Next1 ops S i o) (h1 : ∀ k, k ≠ i → S' k = S k) (h2 : S' i = true) {σ0 : Sg} {T0 : Nat → Prop} {a : Act}
    (hlim : (D.h ops.size).n ≤ w0.lim) (hlow : w0.lo ≤ (D.h 0).n) (inv : Inv w0 σ0 T0 ops D S a w) (hw : D.w i = true) (hq : quietA o = true)
    {K : Act → World → Prop} {Q : Exit → Act → World → Prop} (hK : ∀ a' w', Inv w0 σ0 T0 ops D S' a' w' → K a' w') : o.wp P a w K Q := by
  have hi := N.lt
  obtain ⟨ws, e⟩ := (R.told i o N.op).quiet hw hq
  obtain ⟨news, l1, l2, l3, l4⟩ := opA_local hq e
  have m1 : (D.h i).n ≤ (D.h (i + 1)).n := R.mono hG (by omega) (by omega)
  have m2 : (D.h (i + 1)).n ≤ (D.h ops.size).n := R.mono hG (by omega) (Nat.le_refl _)
  obtain ⟨V, hVd⟩ : ∃ V, V = ofFun (D.h i).n (cont ops D S ops.size) (D.h i).n := ⟨_, rfl⟩
  have Vn : V.n = (D.h i).n := by rw [hVd]; rfl
  have Vget : ∀ x, V.get x = if x < (D.h i).n then cont ops D S ops.size x else .dead := fun x => by rw [hVd]; exact ofFun_get
  have run : ∃ ws, opA P (D.tm i) V o = some (D.v i, addL news (D.h (i + 1)).n V, ws) := by
    refine l4 V Vn (fun x hx => ?_)
    rw [Vget]
    by_cases q : x < (D.h i).n
    · rw [if_pos q, R.seen_quiet hG N hw hq _ (by omega) (Nat.le_refl _) x hx q]
    · rw [if_neg q, R.dead hG (by omega) (by omega)]
  obtain ⟨ws', run⟩ := run
  refine inv_step hG R N h1 h2 hlim hlow inv V (addL news (D.h (i + 1)).n V) (fun x hx => ?_) Vn rfl (fun x hx => ?_) (fun w1 σ T l g r => ?_)
    (fun x => x < (D.h (i + 1)).n) (fun x hx => ?_) (fun x hx => ?_) (fun x hx => ?_) hK
  · rw [Vget] at hx ⊢
    by_cases q : x < (D.h i).n
    · rw [if_pos q, hS_get, if_pos (by omega)]
    · rw [if_neg q] at hx; exact absurd rfl hx
  · rw [Vget] at hx
    by_cases q : x < (D.h i).n
    · rw [Vn]; exact q
    · rw [if_neg q] at hx; exact absurd rfl hx
  · refine (opA_ok (ws := ws') l ?_ g r).does
    rw [opA_congr (R.eval N)]
    exact run
  · rw [Vget] at hx
    by_cases q : x < (D.h i).n
    · show x < (D.h (i + 1)).n
      omega
    · rw [if_neg q] at hx; exact absurd rfl hx
  · rw [hS_get, if_pos (by omega), R.cont_more hG N h1 h2 x _ (Nat.le_refl _)]
    show _ = getL (news ++ V.l) x
    by_cases q : x < (D.h i).n
    · rw [if_neg (c := i < ops.size ∧ touch ops D i x = true) (fun z => ?_), getL_ahead (fun p hp => by have := l2 p hp; omega)]
      · have := Vget x
        rw [if_pos q] at this
        exact this.symm
      · rcases ((touch_iff N.op).1 z.2).2 with y | y
        · omega
        · rw [hq] at y; cases y.1
    · rw [if_pos ⟨hi, (touch_iff N.op).2 ⟨hw, .inl ⟨hq, by omega, hx⟩⟩⟩]
      have e1 : (D.h (i + 1)).get x = getL (news ++ (D.h i).l) x := by
        have := congrArg H.l l3
        show getL (D.h (i + 1)).l x = _
        exact congrArg (fun l => getL l x) this
      rw [e1]
      exact getL_tails news (R.dead hG (by omega) (by omega)) (by have := Vget x; rw [if_neg q] at this; exact this)
  · rw [hS_get, hS_get, R.cont_more hG N h1 h2 x _ (Nat.le_refl _), if_neg (c := i < ops.size ∧ touch ops D i x = true) (fun z => ?_)]
    rcases ((touch_iff N.op).1 z.2).2 with q | q
    · exact hx q.2.2
    · exact hx q.2.2
/-- All that is told, at once. -/
theorem drawn_ran {tm : List AV} {h : H} {y : St} (e : drawnA P G ops ops.toList 0 [] tm h (bitsL [] 0 ops.toList) = some y) (hok : h.ok) : ∃ D : Dat, Ran P G ops D ∧ D.tm 0 = tm ∧ D.h 0 = h ∧ D.tm ops.size = y.tm ∧ D.h ops.size = y.h := by
  obtain ⟨D, d1, d2, d3, d4, d5, d6, d7, d8⟩ := drawn_data _ _ _ _ _ _ _ e
  rw [Nat.zero_add, Array.length_toList] at d3 d4
  have get : ∀ {k : Nat} {o : Oper}, ops[k]? = some o → ops.toList[k]? = some o := fun h => by rw [Array.getElem?_toList]; exact h
  refine ⟨D, ⟨fun k o ho => ?_, fun k k' o o' ho ho' hlt hw' hw => ?_, fun k o x ho hw hq => ?_, by rw [d2]; exact hok⟩, d1, d2, d3, d4⟩
  · have := d5 k o (get ho)
    rwa [Nat.zero_add] at this
  · have := d7 k k' o o' (get ho) (get ho') hlt (by rw [Nat.zero_add]; exact hw') (by rw [Nat.zero_add]; exact hw)
    rwa [Nat.zero_add, Nat.zero_add] at this
  · have := d8 k o x (get ho) (by rw [Nat.zero_add]; exact hw) hq
    rw [Nat.zero_add] at this
    rw [this]
    constructor
    · rintro (⟨g, g1, _⟩ | ⟨k', o', q1, q2, q3, q4, q5, q6⟩)
      · cases g1
      · rw [Nat.zero_add] at q3 q4 q5 q6
        refine ⟨k', o', q1, by rw [← Array.getElem?_toList]; exact q2, q3, q4, q5, q6⟩
    · rintro ⟨k', o', q1, q2, q3, q4, q5, q6⟩
      refine .inr ⟨k', o', q1, get q2, ?_, ?_, ?_, ?_⟩ <;> rw [Nat.zero_add] <;> assumption
theorem inv_next (hG : ToldGrows G) (iS : StepOk P G) (R : Ran P G ops D) {S S' : Nat → Bool} {i : Nat} {o : Oper} (N : Next1 ops S i o) (h1 : ∀ k, k ≠ i → S' k = S k) (h2 : S' i = true) {σ0 : Sg} {T0 : Nat → Prop} {a : Act}
    (hlim : (D.h ops.size).n ≤ w0.lim) (hlow : w0.lo ≤ (D.h 0).n) (inv : Inv w0 σ0 T0 ops D S a w)
    {K : Act → World → Prop} {Q : Exit → Act → World → Prop} (hK : ∀ a' w', Inv w0 σ0 T0 ops D S' a' w' → K a' w') : wpOp P ops Q i K a w := by
  have hi := N.lt
  obtain ⟨σ, T, s1, t1, g, r, free⟩ := inv.more
  unfold wpOp
  rw [N.op]
  simp only
  rw [want_ok (R.want N) g]
  cases hw : D.w i with
  | true =>
    rw [if_pos rfl]
    refine .inl ?_
    cases hq : quietA o with
    | true => exact inv_quiet hG R N h1 h2 hlim hlow inv hw hq hK
    | false => exact inv_eff hG iS R N h1 h2 hlim hlow inv hw hq hK
  | false =>
    rw [if_neg Bool.false_ne_true]
    obtain ⟨n1, n2⟩ := (R.told i o N.op).no hw
    refine hK _ _ ⟨by rw [put_defers]; exact inv.defers, σ, T, s1, t1, ?_, ?_, ?_⟩
    · rw [tms_more N h1 h2 ops.size (Nat.le_refl _), if_pos hi, n1]
      exact put_ok g (.un _)
    · refine r.lessn (fun x => ?_) rfl
      rw [hS_get, hS_get, R.cont_more hG N h1 h2 x _ (Nat.le_refl _), if_neg (c := i < ops.size ∧ touch ops D i x = true) (fun z => ?_)]
      have := ((touch_iff N.op).1 z.2).1
      rw [hw] at this
      cases this
    · intro k hk hSk x a1 a2
      have hne : k ≠ i := fun z => by rw [z, h2] at hSk; cases hSk
      exact free k hk (by rw [← h1 k hne]; exact hSk) x a1 a2
theorem sched_ok (hG : ToldGrows G) (iS : StepOk P G) (R : Ran P G ops D) (sh : Shaped ops) {σ0 : Sg} {T0 : Nat → Prop}
    (hlim : (D.h ops.size).n ≤ w0.lim) (hlow : w0.lo ≤ (D.h 0).n) {Q : Exit → Act → World → Prop} (hQ : ∀ S a w, (∀ k, k < ops.size → S k = true) → Inv w0 σ0 T0 ops D S a w → Q .normal a w) :
    ∀ (f : Nat) (listed : Array Bool) (a : Act) (w : World), listed.size = ops.size → Closed ops (fun k => listed.getD k false) → listed.toList.count false ≤ f → Inv w0 σ0 T0 ops D (fun k => listed.getD k false) a w → wpAny P .any ops Q f listed a w := by
  intro f
  have fin : ∀ (listed : Array Bool) (a : Act) (w : World), listed.size = ops.size → Closed ops (fun k => listed.getD k false) → Inv w0 σ0 T0 ops D (fun k => listed.getD k false) a w → Region.ready .any ops listed = [] → Q .normal a w := by
    intro listed a w hsz hcl inv hr
    refine hQ _ a w (fun k hk => ?_) inv
    induction k using Nat.strongRecOn with
    | ind k ih =>
      cases hv : listed.getD k false with
      | true => rfl
      | false =>
        have ho := Array.getElem?_eq_getElem hk
        have : k ∈ Region.ready .any ops listed := by
          rw [mem_ready]
          refine ⟨?_, _, ho, fun e he hb => ?_⟩
          · simp only [Array.getD_eq_getD_getElem?] at hv ⊢
            rw [Array.getElem?_eq_getElem (by omega)] at hv ⊢
            exact hv
          · have := sh.down k _ ho e (Array.mem_toList_iff.2 he) hb
            exact ih e.on this (by omega)
        rw [hr] at this
        cases this
  induction f with
  | zero =>
    intro listed a w hsz hcl hc inv
    have full : ∀ k, k < ops.size → listed.getD k false = true := fun k hk => by
      have h0 : listed.toList.count false = 0 := by omega
      rw [List.count_eq_zero] at h0
      simp only [Array.getD_eq_getD_getElem?]
      rw [Array.getElem?_eq_getElem (by omega)]
      cases z : listed[k]'(by omega) with
      | true => rfl
      | false => exact absurd (by rw [← z]; exact Array.mem_toList_iff.2 (Array.getElem_mem _)) h0
    have hr : Region.ready .any ops listed = [] := by
      refine List.eq_nil_iff_forall_not_mem.2 (fun i hi => ?_)
      rw [mem_ready] at hi
      obtain ⟨z1, o, ho, _⟩ := hi
      have z2 := full i (Ran.size_lt ho)
      have := Ran.size_lt ho
      simp only [Array.getD_eq_getD_getElem?] at z1 z2
      rw [Array.getElem?_eq_getElem (by omega)] at z1 z2
      simp only [Option.getD_some] at z1 z2
      rw [z1] at z2
      cases z2
    exact ⟨hr, fin listed a w hsz hcl inv hr⟩
  | succ f ihf =>
    intro listed a w hsz hcl hc inv
    refine ⟨fin listed a w hsz hcl inv, fun i hi => ?_⟩
    rw [mem_ready] at hi
    obtain ⟨z1, o, ho, hd⟩ := hi
    have hlt := Ran.size_lt ho
    have no : listed.getD i false = false := by
      simp only [Array.getD_eq_getD_getElem?] at z1 ⊢
      rw [Array.getElem?_eq_getElem (by omega)] at z1 ⊢
      exact z1
    have h1 : ∀ k, k ≠ i → (listed.setIfInBounds i true).getD k false = listed.getD k false := fun k hk => getD_set_ne false (Ne.symm hk)
    have h2 : (listed.setIfInBounds i true).getD i false = true := by
      simp [show i < listed.size by omega]
    have N : Next1 ops (fun k => listed.getD k false) i o := ⟨ho, sh, hcl, no, fun e he hb => hd e (Array.mem_toList_iff.1 he) hb⟩
    refine inv_next hG iS R N h1 h2 hlim hlow inv (fun a' w' inv' => ihf _ a' w' (by rw [Array.size_setIfInBounds]; exact hsz) (fun k ok hk hok e he hb => ?_) ?_ inv')
    · by_cases q : k = i
      · subst q
        rw [hok] at ho
        cases ho
        exact getD_set_true (hd e (Array.mem_toList_iff.1 he) hb)
      · have := h1 k q
        simp only at hk
        rw [this] at hk
        exact getD_set_true (hcl k ok hk hok e he hb)
    · rw [Array.toList_setIfInBounds, List.count_set (by rw [Array.length_toList]; omega)]
      have : listed.toList[i]'(by rw [Array.length_toList]; omega) = false := by
        simp only [Array.getD_eq_getD_getElem?] at no
        rw [Array.getElem?_eq_getElem (by omega)] at no
        rw [Array.getElem_toList]
        exact no
      rw [this]
      simp only [beq_self_eq_true, if_true]
      have z : (true == false) = false := rfl
      rw [z, if_neg Bool.false_ne_true]
      omega
theorem drawn_ok (hm : P.follows .mixedOrders = true) (hG : ToldGrows G) (iS : StepOk P G) : DrawnOk P G := by
  intro ops tm h y e hreg hok w0 σ T w a id lim hd g r
  have sh := regOk_shaped hreg
  obtain ⟨D, R, d1, d2, d3, d4⟩ := drawn_ran e hok
  refine wp_region_any hm ?_
  have rep : ∀ k, (Array.replicate ops.size false).getD k false = false := fun k => by
    simp only [Array.getD_eq_getD_getElem?]
    by_cases q : k < ops.size
    · rw [Array.getElem?_replicate, if_pos q]; rfl
    · rw [Array.getElem?_replicate, if_neg q]; rfl
  have none0 : ∀ (S : Nat → Bool), (∀ k, S k = false) → ∀ k x, cont ops D S k x = h.get x := fun S hS k x => by
    induction k with
    | zero => show (D.h 0).get x = _; rw [d2]
    | succ k ih => unfold cont; rw [hS k, Bool.false_and, if_neg Bool.false_ne_true, ih]
  have nonet : ∀ (S : Nat → Bool), (∀ k, S k = false) → ∀ k, tms ops D S k = tm := fun S hS k => by
    induction k with
    | zero => exact d1
    | succ k ih =>
      unfold tms
      split
      · rw [hS k, if_neg Bool.false_ne_true, ih]
      · exact ih
  have hn : h.n ≤ (D.h ops.size).n := by have := R.mono hG (Nat.zero_le ops.size) (Nat.le_refl _); rwa [d2] at this
  have hlim : (D.h ops.size).n ≤ w0.lim := by rw [d4]; exact lim
  refine sched_ok hG iS R sh (w0 := w0) (σ0 := σ) (T0 := T) hlim (by rw [d2]; exact r.low) (fun S a w full inv => ?_) ops.size _ a _ Array.size_replicate (fun k o hk => ?_) ?_ ⟨hd, σ, T, σ.le_refl, fun _ q => q, ?_, ?_, ?_⟩
  · obtain ⟨σ', T', s1, t1, g', r', _⟩ := inv.more
    refine ⟨rfl, inv.defers, σ', T', s1, t1, ?_, r'.lessn (fun x => ?_) ?_⟩
    · have : ∀ k, k ≤ ops.size → tms ops D S k = D.tm k := fun k hk => by
        induction k with
        | zero => rfl
        | succ k ih =>
          have ho := Array.getElem?_eq_getElem (show k < ops.size by omega)
          rw [tms_succ ho, full k (by omega), if_pos rfl, ih (by omega), (R.told k _ ho).tm]
      rw [← d3, ← this ops.size (Nat.le_refl _)]
      exact g'
    · rw [hS_get, ← d4]
      by_cases q : x < (D.h ops.size).n
      · rw [if_pos q]
        exact (R.cont_eq hG (Nat.le_refl _) (X := fun _ => True) (fun k hk hSk => by rw [full k hk] at hSk; cases hSk) ops.size (Nat.le_refl _) x trivial q).symm
      · rw [if_neg q]
        exact R.dead hG (Nat.le_refl _) (by omega)
    · rw [← d4]; rfl
  · simp only at hk; rw [rep k] at hk; cases hk
  · rw [Array.toList_replicate, List.count_replicate_self]; exact Nat.le_refl _
  · rw [nonet _ rep]; exact g
  · refine Hr.same (h := h) r.drew (fun x => ?_) hn
    rw [hS_get, none0 _ rep]
    by_cases q : x < (D.h ops.size).n
    · rw [if_pos q]
    · rw [if_neg q]
      by_cases z : h.get x = .dead
      · exact z.symm
      · exact absurd (hok.lt z) (by omega)
  · intro k hk _ x a1 a2
    have m := R.mono hG (Nat.zero_le k) (by omega)
    rw [d2] at m
    refine r.dom x (by omega) ?_
    have := R.mono hG (show k + 1 ≤ ops.size by omega) (Nat.le_refl _)
    omega
end
end Go.Proofs.YtffopeihcebpjaaGreat.X
end
section
set_option linter.unusedVariables false
namespace Go.Proofs.YtffopeihcebpjaaGreat.X
open Go Go.RowKit
section
variable {P : Program} {G : Told}
theorem callN_ok (hm : P.follows .mixedOrders = true) (hS : Sane P) (hG : ToldGrows G) (hT : ToldOk P G) {n k : Nat} : ∀ d, CallsOk P (callN P G n k d)
  | 0 => fun f args h y e => by cases e
  | d + 1 => fun f args h y e hok => by
    unfold callN at e
    split at e
    · rename_i r hr; cases e; exact hT _ _ _ _ hr hok
    · have gr := callN_grows (P := P) hG (n := n) (k := k) d
      have st := step_ok hS.named (callN_ok hm hS hG hT (n := n) (k := k) d)
      exact .inl (callB_ok gr hS (codeA_ok gr st (drawn_ok hm gr st) k) _ _ _ _ e hok)
/-- What a call does whose arguments are deep: the answer, deep; nothing that is there is written. -/
def DeepOk (P : Program) (f : FuncId) (ds : List DV) (d : DV) : Prop :=
  ∀ (w : World) (T : Nat → Prop) (Args : List Value), (∀ b, T b → b < w.heap.size) → DVrs T w ds Args →
    Calls P f Args.toArray w fun e w' => ∃ y T', e = .returned y ∧ w'.os = w.os ∧ w'.tape = w.tape ∧ w'.output = w.output ∧ w.heap.size ≤ w'.heap.size ∧ (∀ b, b < w.heap.size → w'.heap[b]? = w.heap[b]?) ∧
      (∀ b, T b → T' b) ∧ (∀ b, T' b → b < w'.heap.size) ∧ (∀ b, T' b → b < w.heap.size → T b) ∧ DVr T' w' d y
/-- A call of deep values. -/
def deepA (P : Program) (G : Told) (n k d : Nat) (f : FuncId) (ds : List DV) : Option DV := match callN P G n k d f (openL ⟨[], 0⟩ ds).1 (openL ⟨[], 0⟩ ds).2 with
  | some r => match sealD r.2 r.1 with
    | some y => some y.1
    | none => none
  | none => none
/-- A call of deep values; the function itself is run. -/
def deepB (P : Program) (G : Told) (n k d : Nat) (f : FuncId) (ds : List DV) : Option DV := match callB P n k (callN P G n k d) f (openL ⟨[], 0⟩ ds).1 (openL ⟨[], 0⟩ ds).2 with
  | some r => match sealD r.2 r.1 with
    | some y => some y.1
    | none => none
  | none => none
theorem deep_run {C : Told} (hC : ToldGrows C) {f : FuncId} {ds : List DV} {r : AV × H} {y : DV × H} (hk : (openL ⟨[], 0⟩ ds).2.ok → CallOk P f (openL ⟨[], 0⟩ ds).1 (openL ⟨[], 0⟩ ds).2 r.1 r.2 ∧ HasBody P f) (hr : C f (openL ⟨[], 0⟩ ds).1 (openL ⟨[], 0⟩ ds).2 = some r) (hy : sealD r.2 r.1 = some y) : DeepOk P f ds y.1 ∧ HasBody P f := by
  have g0 := openL_grows ds ⟨[], 0⟩
  have ok0 : (openL ⟨[], 0⟩ ds).2.ok := g0.2 (fun p hp => by cases hp)
  have g1 := hC _ _ _ _ hr
  obtain ⟨k1, k2⟩ := hk ok0
  refine ⟨fun w T Args hT0 gd => ?_, k2⟩
  have r0 : Hr ⟨w, fun b => b < w.heap.size, T, 0, r.2.n, fun _ => none⟩ (fun _ => none) T ⟨[], 0⟩ w :=
    { below := ⟨rfl, rfl, rfl, Nat.le_refl _, fun b q => ⟨q, rfl⟩⟩
      stay := hT0
      hold := fun b q _ => q
      low := Nat.le_refl _
      dom := fun o _ _ => rfl
      rest := fun o _ => rfl
      top := fun o q => absurd rfl q
      obj := fun o => trivial
      own := fun o b q => q.elim
      sep := fun o o' b q _ => q.elim }
  obtain ⟨σ1, s1, r1, a1⟩ := openL_ok (w0 := ⟨w, fun b => b < w.heap.size, T, 0, r.2.n, fun _ => none⟩) g1.1 gd r0
  refine (k1 _ σ1 T w Args (Nat.le_refl _) a1 r1).mono (fun e w' he => ?_)
  obtain ⟨v, σ2, T2, rfl, s2, t2, r2, v2⟩ := he
  obtain ⟨T3, t3, r3, d3⟩ := sealD_ok (d := y.1) (h' := y.2) hy v2 r2
  exact ⟨v, T3, rfl, r3.below.os, r3.below.tape, r3.below.output, r3.below.size, fun b q => (r3.below.block b q).2, fun b q => t3 b (t2 b q), r3.stay, r3.hold, d3⟩
theorem deep_ok (hm : P.follows .mixedOrders = true) (hS : Sane P) (hG : ToldGrows G) (hT : ToldOk P G) {n k c : Nat} {f : FuncId} {ds : List DV} {d : DV} (hB : HasBody P f) (e : deepA P G n k c f ds = some d) : DeepOk P f ds d ∧ HasBody P f := by
  unfold deepA at e
  split at e
  · rename_i r hr
    split at e
    · rename_i y hy
      cases e
      exact deep_run (callN_grows hG c) (fun ok => (callN_ok hm hS hG hT c _ _ _ _ hr ok).resolve_right (fun q => q.2 hB)) hr hy
    · cases e
  · cases e
theorem deepB_ok (hm : P.follows .mixedOrders = true) (hS : Sane P) (hG : ToldGrows G) (hT : ToldOk P G) {n k c : Nat} {f : FuncId} {ds : List DV} {d : DV} (e : deepB P G n k c f ds = some d) : DeepOk P f ds d ∧ HasBody P f := by
  unfold deepB at e
  split at e
  · rename_i r hr
    split at e
    · rename_i y hy
      cases e
      have gr := callN_grows (P := P) hG (n := n) (k := k) c
      have st := step_ok hS.named (callN_ok hm hS hG hT (n := n) (k := k) c)
      exact deep_run (callB_grows gr) (fun ok => callB_ok gr hS (codeA_ok gr st (drawn_ok hm gr st) k) _ _ _ _ hr ok) hr hy
    · cases e
  · cases e
mutual
/-- Is there no slice in a deep value? -/
def scalD : DV → Bool
  | .v _ => true
  | .sl .. => false
  | .ag cs => scalL cs
  | .tu vs => scalL vs
def scalL : List DV → Bool
  | [] => true
  | d :: r => scalD d && scalL r
end
mutual
theorem scal_open (h : H) : ∀ d, scalD d = true → (openD h d).2 = h
  | .v _, _ => rfl
  | .sl .., q => by cases q
  | .ag cs, q => scal_openL h cs q
  | .tu cs, q => scal_openL h cs q
theorem scal_openL (h : H) : ∀ ds, scalL ds = true → (openL h ds).2 = h
  | [], _ => by rw [openL.eq_def]
  | d :: r, q => by
    have q' : (scalD d && scalL r) = true := q
    rw [Bool.and_eq_true] at q'
    rw [openL.eq_def]
    show (openL (openD h d).2 r).2 = h
    rw [scal_open h d q'.1]
    exact scal_openL h r q'.2
end
mutual
theorem scal_r {T T' : Nat → Prop} {w : World} : ∀ {d : DV} {x : Value}, DVr T w d x → scalD d = true → DVr T' w d x
  | _, _, .v x, _ => .v x
  | _, _, .sl .., q => by cases q
  | _, _, .ag _ _ g, q => .ag _ _ (scal_rs g q)
  | _, _, .tu _ _ g, q => .tu _ _ (scal_rs g q)
theorem scal_rs {T T' : Nat → Prop} {w : World} : ∀ {ds : List DV} {xs : List Value}, DVrs T w ds xs → scalL ds = true → DVrs T' w ds xs
  | _, _, .nil, _ => .nil
  | _, _, .cons a x us xs g gs, q => by
    have q' : (scalD a && scalL us) = true := q
    rw [Bool.and_eq_true] at q'
    exact .cons _ _ _ _ (scal_r g q'.1) (scal_rs gs q'.2)
end
/-- Functions told of deep values; where the answer has no slice, all rows are as they were. -/
def toldD (F : FuncId → List DV → Option DV) : Told := fun f args h => match sealL h args with
  | some r => match F f r.1 with
    | some d => some (if scalD d then ((openD h d).1, h) else openD r.2 d)
    | none => none
  | none => none
/-- What is there is as it was; there is more. -/
theorem Hr.more {w0 : Base} {σ : Sg} {T : Nat → Prop} {h : H} {w w' : World} (r : Hr w0 σ T h w) (e1 : w'.os = w.os) (e2 : w'.tape = w.tape) (e3 : w'.output = w.output) (e4 : w.heap.size ≤ w'.heap.size) (e5 : ∀ b, b < w.heap.size → w'.heap[b]? = w.heap[b]?) : Hr w0 σ T h w' where
  below := ⟨e1.trans r.below.os, e2.trans r.below.tape, e3.trans r.below.output, Nat.le_trans r.below.size e4, fun b q => ⟨(r.below.block b q).1, (e5 b (Nat.lt_of_lt_of_le (r.below.block b q).1 r.below.size)).trans (r.below.block b q).2⟩⟩
  stay := fun b q => Nat.lt_of_lt_of_le (r.stay b q) e4
  hold := r.hold
  low := r.low
  dom := r.dom
  rest := r.rest
  top := r.top
  obj := fun o => (r.obj o).keep σ.le_refl (fun _ q => q) (fun b q => e5 b (r.stay b q)) (fun b q => e5 b (r.own o b q).2.1)
  own := fun o b q => by
    obtain ⟨p1, p2, p3⟩ := r.own o b q
    exact ⟨p1, Nat.lt_of_lt_of_le p2 e4, p3⟩
  sep := r.sep
theorem toldD_grows (F : FuncId → List DV → Option DV) : ToldGrows (toldD F) := by
  intro f args h y e
  unfold toldD at e
  split at e
  · rename_i r hr
    split at e
    · cases e
      split
      · exact Grows.refl _
      · exact (sealL_grows _ _ _ hr).trans (openD_grows _ _)
    · cases e
  · cases e
theorem toldD_ok {F : FuncId → List DV → Option DV} (hF : ∀ f ds d, F f ds = some d → DeepOk P f ds d ∧ HasBody P f) : ToldOkB P (toldD F) := by
  intro f args h y e
  unfold toldD at e
  split at e
  · rename_i r hr
    split at e
    · rename_i d hd
      cases e
      obtain ⟨k1, k2⟩ := hF _ _ _ hd
      refine ⟨fun w0 σ T w Args lim g hr0 => ?_, k2⟩
      obtain ⟨T1, t1, r1, d1⟩ := sealL_ok hr g hr0
      refine (k1 w T1 Args r1.stay d1).mono (fun e w' he => ?_)
      obtain ⟨v, T2, rfl, e1, e2, e3, e4, e5, e6, e7, e8, e9⟩ := he
      have r2 : Hr w0 σ T2 r.2 w' :=
        { below := ⟨e1.trans r1.below.os, e2.trans r1.below.tape, e3.trans r1.below.output, Nat.le_trans r1.below.size e4, fun b q => ⟨(r1.below.block b q).1, (e5 b (Nat.lt_of_lt_of_le (r1.below.block b q).1 r1.below.size)).trans (r1.below.block b q).2⟩⟩
          stay := e7
          hold := fun b q q' => r1.hold b (e8 b q (Nat.lt_of_lt_of_le (r1.below.block b q').1 r1.below.size)) q'
          low := r1.low
          dom := r1.dom
          rest := r1.rest
          top := r1.top
          obj := fun o => (r1.obj o).keep σ.le_refl e6 (fun b q => e5 b (r1.stay b q)) (fun b q => e5 b (r1.own o b q).2.1)
          own := fun o b q => by
            obtain ⟨p1, p2, p3⟩ := r1.own o b q
            exact ⟨p1, Nat.lt_of_lt_of_le p2 e4, fun z => p3 (e8 b z p2)⟩
          sep := r1.sep }
      by_cases hs : scalD d = true
      · rw [if_pos hs] at lim ⊢
        have r3 := hr0.more e1 e2 e3 e4 e5
        have ho := scal_open h d hs
        obtain ⟨σ3, s3, r4, v4⟩ := openD_ok (by rw [ho]; exact lim) (scal_r e9 hs) r3
        rw [ho] at r4
        exact ⟨v, σ3, T, rfl, s3, fun b q => q, r4, v4⟩
      · rw [if_neg hs] at lim ⊢
        obtain ⟨σ3, s3, r3, v3⟩ := openD_ok lim e9 r2
        exact ⟨v, σ3, T2, rfl, s3, fun b q => e6 b (t1 b q), r3, v3⟩
    · cases e
  · cases e
end
end Go.Proofs.YtffopeihcebpjaaGreat.X
end
