/- What is appended. Builtin functions, conversions, maps. An operation, joined. Equality of objects, for running. The executor: regions, code, calls. Ids only grow. A part of the heap runs by itself; the rest is laid back. An operation carried out; calls. Regions in order, and code. Calls. -/
import Derived.Test.YtffopeihcebpjaaGreatMA
import Derived.MapKept
import Derived.Laws.BytesArg
import Derived.Orders
import Derived.ScopeJumps
import Derived.Laws.Sem
section
set_option linter.unusedVariables false
namespace Go.Proofs.YtffopeihcebpjaaGreat.X
open Go Go.RowKit
section
variable {P : Program} {w0 : Base} {σ : Sg} {T : Nat → Prop} {h : H} {w : World} {tm : List AV} {a : Act} {o : Oper}
theorem Hr.drew (r : Hr w0 σ T h w) : Hr w0 σ T h w.drew where
  below := ⟨r.below.os, r.below.tape, r.below.output, r.below.size, r.below.block⟩
  stay := r.stay
  hold := r.hold
  low := r.low
  dom := r.dom
  rest := r.rest
  top := r.top
  obj o := Obr.keep (w := w) (w' := w.drew) (Sg.le_refl σ) (fun _ q => q) (fun _ _ => rfl) (fun _ _ => rfl) (r.obj o)
  own := r.own
  sep := r.sep
/-- A new object takes a block that is there and that no object has. -/
theorem Hr.adopt (r : Hr w0 σ T h w) (lim : h.n < w0.lim) {w' : World} (x : Addr × Nat) (ob : Ob) (hb : Kept w0 w') (hsz : w'.heap.size = w.heap.size)
    (hch : ∀ b, ¬ Own (σ.add h.n x) h.n b ob → w'.heap[b]? = w.heap[b]?) (hO : Obr (σ.add h.n x) T w' h.n ob)
    (hfree : ∀ b, Own (σ.add h.n x) h.n b ob → ¬ w0.B b ∧ b < w.heap.size ∧ ¬ T b ∧ ∀ o, ¬ Own σ o b (h.get o)) : Hr w0 (σ.add h.n x) T (h.new ob) w' := by
  have hl := r.add_le lim x
  have old : ∀ o b, Own (σ.add h.n x) o b (h.get o) → Own σ o b (h.get o) := fun o b ho => (r.old hl ho).2
  refine ⟨hb, fun b q => by rw [hsz]; exact r.stay b q, r.hold, Nat.le_trans r.low (Nat.le_succ _), dom_add r x, rest_add r lim x, top_new r ob, fun o => ?_, fun o b ho => ?_, fun o o' b h1 h2 => ?_⟩
  · by_cases e : o = h.n
    · subst e; rw [get_new_same]; exact hO
    · rw [get_new_ne e]
      exact (r.obj o).keep hl (fun _ q => q) (fun b q => hch b (fun q2 => (hfree b q2).2.2.1 q)) (fun b q => hch b (fun q2 => (hfree b q2).2.2.2 o q))
  · by_cases e : o = h.n
    · subst e; rw [get_new_same] at ho
      obtain ⟨f1, f2, f3, _⟩ := hfree b ho
      exact ⟨f1, by omega, f3⟩
    · rw [get_new_ne e] at ho
      have := r.own o b (old o b ho)
      exact ⟨this.1, by omega, this.2.2⟩
  · by_cases e : o = h.n
    · by_cases e' : o' = h.n
      · rw [e, e']
      · rw [e, get_new_same] at h1
        rw [get_new_ne e'] at h2
        exact absurd (old o' b h2) ((hfree b h1).2.2.2 o')
    · rw [get_new_ne e] at h1
      have g1 := old o b h1
      by_cases e' : o' = h.n
      · rw [e', get_new_same] at h2
        exact absurd g1 ((hfree b h2).2.2.2 o)
      · rw [get_new_ne e'] at h2
        exact r.sep o o' b g1 (old o' b h2)
theorem Cells.app {sz : Nat} {e1 e2 : List (List DV)} {v1 v2 : List Value} (h1 : Cells T w sz e1 v1) (h2 : Cells T w sz e2 v2) : Cells T w sz (e1 ++ e2) (v1 ++ v2) := by
  obtain ⟨l1, s1, c1⟩ := h1
  obtain ⟨l2, s2, c2⟩ := h2
  refine ⟨by rw [List.length_append, List.length_append, l1, l2, Nat.add_mul], fun e he => ?_, fun i e j d q1 q2 => ?_⟩
  · rcases List.mem_append.1 he with q | q
    · exact s1 e q
    · exact s2 e q
  · have lj : j < e.length := (List.getElem?_eq_some_iff.1 q2).1
    by_cases hi : i < e1.length
    · rw [List.getElem?_append_left hi] at q1
      have le := s1 e (List.mem_of_getElem? q1)
      obtain ⟨v, hv, hd⟩ := c1 i e j d q1 q2
      exact ⟨v, by rw [List.getElem?_append_left (List.getElem?_eq_some_iff.1 hv).1]; exact hv, hd⟩
    · rw [List.getElem?_append_right (by omega)] at q1
      obtain ⟨v, hv, hd⟩ := c2 (i - e1.length) e j d q1 q2
      refine ⟨v, ?_, hd⟩
      have hm : e1.length * sz ≤ i * sz := Nat.mul_le_mul_right _ (by omega)
      rw [List.getElem?_append_right (by omega), l1, show i * sz + j - e1.length * sz = (i - e1.length) * sz + j by rw [Nat.sub_mul]; omega]
      exact hv
theorem Cells.pad {sz : Nat} {els : List (List DV)} {vs us : List Value} (h : Cells T w sz els vs) {i j : Nat} {e : List DV} {d : DV} (h1 : els[i]? = some e) (h2 : e[j]? = some d) : ∃ v, (vs ++ us)[i * sz + j]? = some v ∧ DVr T w d v := by
  obtain ⟨v, hv, hd⟩ := h.2.2 i e j d h1 h2
  exact ⟨v, by rw [List.getElem?_append_left (List.getElem?_eq_some_iff.1 hv).1]; exact hv, hd⟩
theorem Cells.zeros {v : Value} {sz n : Nat} (hv : v.cells.size = sz) : Cells T w sz (List.replicate n (v.cells.toList.map DV.v)) (Builtin.zeroCells v.cells n).toList := by
  have hz : (v.cells.toList.map DV.v).length = sz := by rw [List.length_map, Array.length_toList]; exact hv
  refine ⟨by simp [Builtin.zeroCells, hv], fun e he => by rw [(List.mem_replicate.1 he).2]; exact hz, fun i e j d q1 q2 => ?_⟩
  have hi := (List.getElem?_eq_some_iff.1 q1).1
  rw [List.length_replicate] at hi
  rw [List.getElem?_replicate, if_pos hi] at q1
  cases q1
  have hj := (List.getElem?_eq_some_iff.1 q2).1
  rw [hz] at hj
  have hb : (i + 1) * sz ≤ n * sz := Nat.mul_le_mul_right _ (by omega)
  have hb2 : (i + 1) * sz = i * sz + sz := Nat.succ_mul ..
  obtain ⟨x, hx, hd⟩ := zrow_cell (T := T) (w := w) (i := i) (j := j) (n := n * v.cells.size) hv (by rw [hv]; omega) q2
  exact ⟨x, by rw [Array.getElem?_toList]; exact hx, hd⟩
/-- What an append runs: the count, and the cells. -/
structure Appd (P : Program) (w : World) (ts : Array TypeId) (e : TypeId) (sz : Nat) (X : Value) (n : Nat) (vs : List Value) : Prop where
  z : ∃ xt u, ts[1]? = some xt ∧ P.underlying xt = some u ∧
    ((∃ k m v, u = .int k ∧ X = .int m n ∧ n ≤ 35184372088832 ∧ (zeroValue e).run P w = .ok v w ∧ v.cells.size = sz ∧ vs = (Builtin.zeroCells v.cells n).toList) ∨
      (∀ k, u ≠ .int k) ∧ (Builtin.lenOf X).run P w = .ok n w ∧ (Builtin.firstCells sz n X).run P w = .ok vs.toArray w)
theorem size_eq {e : TypeId} {sz : Nat} {i : TypeInfo} (hs : sizeT P e = some sz) (hi : P.info? e = some i) : sz = i.size := by
  unfold sizeT at hs
  rw [hi] at hs
  cases hs
  rfl
theorem append_in {ts : Array TypeId} {t e ty : TypeId} {sz n k c : Nat} {A : Option Addr} {X : Value} {vs : List Value} {i : TypeInfo} {w' : World} (h0 : ts[0]? = some t) (hu : P.underlying t = some (.slice e)) (hs : sizeT P e = some sz) (hi : P.info? e = some i)
    (hb : n * i.bytes ≤ 35184372088832) (X1 : Appd P w ts e sz X n vs) (hc : k + n ≤ c) (hst : ∀ a, A = some a → (storeCells (a.add (k * sz)) vs).run P w = .ok () w') (hno : A = none → w' = w) :
    (Builtin.append_ ts ty #[.slice A k c, X]).run P w = .ok (.slice A (k + n) c) w' := by
  obtain ⟨xt, u, x1, x2, hz⟩ := X1.z
  have hsz := size_eq hs hi
  subst hsz
  rcases hz with ⟨kk, m, v, rfl, rfl, hle, hv, hvs, rfl⟩ | ⟨hk, hlen, hcs⟩
  · have wn : IntKind.i64.wrap (n : Int) = n := wrap_small (by omega) (by omega)
    have hfin : ¬ (281474976710656 < (n : Int) * (i.bytes : Int)) := by
      have : ((n * i.bytes : Nat) : Int) ≤ 35184372088832 := by omega
      rw [Int.natCast_mul] at this
      omega
    have hneg : ¬ ((n : Int) < 0) := by omega
    by_cases hq : n * i.size = 0
    · have hz0 : Builtin.zeroCells v.cells n = #[] := by
        apply Array.eq_empty_of_size_eq_zero
        simp [Builtin.zeroCells, hvs, hq]
      rw [hz0] at hst
      cases A with
      | none =>
        have := hno rfl
        subst this
        simp [Builtin.append_, h0, x1, run_underlying hu, run_underlying x2, sizeOf, typeInfo, hi, asInt, asIntOf, wn, hfin, hneg, hc, hq]
      | some a =>
        have := hst a rfl
        have e1 : Result.ok () w = Result.ok () w' := this
        cases e1
        simp [Builtin.append_, h0, x1, run_underlying hu, run_underlying x2, sizeOf, typeInfo, hi, asInt, asIntOf, wn, hfin, hneg, hc, hq]
        rfl
    · cases A with
      | none =>
        have := hno rfl
        subst this
        simp [Builtin.append_, h0, x1, run_underlying hu, run_underlying x2, sizeOf, typeInfo, hi, asInt, asIntOf, wn, hfin, hneg, hc, hq, hv]
      | some a =>
        have := hst a rfl
        simp [Builtin.append_, h0, x1, run_underlying hu, run_underlying x2, sizeOf, typeInfo, hi, asInt, asIntOf, wn, hfin, hneg, hc, hq, hv, this]
  · have hm : (match u with | .int _ => true | _ => false) = false := by
      cases u <;> first | rfl | exact absurd rfl (hk _)
    cases A with
    | none =>
      have := hno rfl
      subst this
      simp [Builtin.append_, h0, x1, run_underlying hu, run_underlying x2, sizeOf, typeInfo, hi, hc, hlen, hcs]
    | some a =>
      have := hst a rfl
      simp [Builtin.append_, h0, x1, run_underlying hu, run_underlying x2, sizeOf, typeInfo, hi, hc, hlen, hcs, this]
theorem append_out {ts : Array TypeId} {t e ty : TypeId} {sz n k c : Nat} {A : Option Addr} {X v : Value} {vs vs0 old : List Value} {i : TypeInfo} (h0 : ts[0]? = some t) (hu : P.underlying t = some (.slice e)) (hs : sizeT P e = some sz) (hi : P.info? e = some i)
    (hv : (zeroValue e).run P w.drew = .ok v w.drew)
    (hn : k + n ≤ 35184372088832) (hb : (k + n) * i.bytes ≤ 35184372088832) (X0 : Appd P w ts e sz X n vs0) (X1 : Appd P w.drew ts e sz X n vs) (hc : ¬ k + n ≤ c) (hold : (Builtin.firstCells sz k (.slice A k c)).run P w.drew = .ok old.toArray w.drew) :
    (Builtin.append_ ts ty #[.slice A k c, X]).run P w = .ok (.slice (some ⟨w.heap.size, 0, none⟩) (k + n) (grownCap w (k + n) c e)) (w.drew.alloc (.cells (old.toArray ++ vs.toArray ++ Builtin.zeroCells v.cells (grownCap w (k + n) c e - (k + n))) e (0, 0))) := by
  obtain ⟨xt, u, x1, x2, hz⟩ := X0.z
  obtain ⟨xt', u', x1', x2', hz'⟩ := X1.z
  rw [x1] at x1'; cases x1'
  rw [x2] at x2'; cases x2'
  have hsz := size_eq hs hi
  subst hsz
  have hfit := growslice_fits (need := k + n) (old := c) (bytes := i.bytes) (by omega) (by omega)
  have h48 : ¬ (281474976710656 < Builtin.nextslicecap (k + n) c * i.bytes) := by omega
  have h63 : ¬ (9223372036854775807 < (k : Int) + (n : Int)) := by omega
  rcases hz' with ⟨kk, m, v', rfl, rfl, hle, hv', hvs, rfl⟩ | ⟨hk, _, hcs'⟩
  · have wn : IntKind.i64.wrap (n : Int) = n := wrap_small (by omega) (by omega)
    have hfin : ¬ (281474976710656 < (n : Int) * (i.bytes : Int)) := by
      have h1 : n * i.bytes ≤ (k + n) * i.bytes := Nat.mul_le_mul_right _ (by omega)
      have : ((n * i.bytes : Nat) : Int) ≤ 35184372088832 := by omega
      rw [Int.natCast_mul] at this
      omega
    have hneg : ¬ ((n : Int) < 0) := by omega
    rw [hv] at hv'
    cases hv'
    by_cases hq : n * i.size = 0
    · have hz0 : Builtin.zeroCells v.cells n = #[] := by
        apply Array.eq_empty_of_size_eq_zero
        simp [Builtin.zeroCells, hvs, hq]
      simp [Builtin.append_, h0, x1, run_underlying hu, run_underlying x2, sizeOf, typeInfo, hi, asInt, asIntOf, wn, hfin, hneg, hc, hq, hv, h48, h63, Question.forced, hold, newRow, grownCap, hz0]
    · simp [Builtin.append_, h0, x1, run_underlying hu, run_underlying x2, sizeOf, typeInfo, hi, asInt, asIntOf, wn, hfin, hneg, hc, hq, hv, h48, h63, Question.forced, hold, newRow, grownCap]
  · rcases hz with ⟨kk, m, v', rfl, _⟩ | ⟨_, hlen, _⟩
    · exact absurd rfl (hk kk)
    simp [Builtin.append_, h0, x1, run_underlying hu, run_underlying x2, sizeOf, typeInfo, hi, hc, hlen, hcs', hv, h48, h63, Question.forced, hold, newRow, grownCap]
    congr 2
    apply Array.ext'
    simp
theorem zeros_info {t : TypeId} {z : List DV} (e : zerosA P t h = some z) : ∃ i v, P.info? t = some i ∧ i.zero = some v ∧ z = v.cells.toList.map DV.v := by
  unfold zerosA at e
  split at e
  · rename_i y hy
    unfold zeroT at hy
    split at hy
    · rename_i i hi
      cases q : i.zero with
      | none => rw [q] at hy; cases hy
      | some v =>
        rw [q] at hy
        cases hy
        have vv : ∀ v : Value, (AV.v v).cells = v.cells.toList.map AV.v := fun v => by cases v <;> rfl
        change (match sealL h (AV.v v).cells with | some r => some r.1 | none => none) = some z at e
        rw [vv, seal_v] at e
        cases e
        exact ⟨i, v, hi, q, rfl⟩
    · cases hy
  · cases e
theorem zval_run {t : TypeId} {i : TypeInfo} {v : Value} (hi : P.info? t = some i) (hz : i.zero = some v) : (zeroValue t).run P w = .ok v w := by
  unfold zeroValue
  rw [bind_run _ _ _ _ _ (info_run hi), hz]
  rfl
/-- What a run that gives a value comes to. -/
def GoesV (P : Program) (w0 : Base) (σ : Sg) (T : Nat → Prop) (w : World) (s : Sem Value) (v : AV) (h' : H) : Prop :=
  ∃ (σ' : Sg) (T' : Nat → Prop) (w' : World) (y : Value), σ.le σ' ∧ (∀ b, T b → T' b) ∧ s.run P w = .ok y w' ∧ Hr w0 σ' T' h' w' ∧ AVr σ' v y
/-- A row that is made by an append. -/
theorem grown_row (r : Hr w0 σ T h w) (lim : h.n < w0.lim) (e : TypeId) (sz n cap : Nat) (els : List (List DV)) (vs : List Value) (v : Value) (hc : Cells T w.drew sz els vs) (hn : els.length = n) (hcap : n ≤ cap) (hv : v.cells.size = sz) :
    Hr w0 (σ.add h.n (⟨w.heap.size, 0, none⟩, cap)) T (h.new (.row sz els true)) (w.drew.alloc (.cells (vs.toArray ++ Builtin.zeroCells v.cells (cap - n)) e (0, 0))) := by
  have hsz : (Builtin.zeroCells v.cells (cap - n)).size = (cap - n) * sz := by simp [Builtin.zeroCells, hv]
  refine r.drew.row lim e sz cap els _ (by omega) hc.2.1 ?_ (fun i x j d h1 h2 => ?_)
  · rw [Array.size_append, List.size_toArray, hc.1, hn, hsz, ← Nat.add_mul]
    exact Nat.mul_le_mul_right _ (by omega)
  · obtain ⟨u, hu, hd⟩ := hc.pad (us := (Builtin.zeroCells v.cells (cap - n)).toList) h1 h2
    refine ⟨u, ?_, hd⟩
    rw [← Array.getElem?_toList, Array.toList_append]
    exact hu
theorem appd_ok {ts : Array TypeId} {t : TypeId} {es : Nat} {x : AV} {X v : Value} {new : List (List DV)} {i : TypeInfo} (e : newA P ts t es x h = some new) (gx : AVr σ x X) (r : Hr w0 σ T h w) (hi : P.info? t = some i) (hz : i.zero = some v) (hv : v.cells.size = es) :
    ∃ vs, Cells T w es new vs ∧ Appd P w ts t es X new.length vs := by
  unfold newA at e
  cases q1 : ts[1]? with
  | none => rw [q1] at e; cases e
  | some xt =>
    rw [q1] at e
    simp only [Option.bind_some] at e
    cases q2 : P.underlying xt with
    | none => rw [q2] at e; cases e
    | some u =>
      rw [q2] at e
      by_cases hk : ∃ k, u = .int k
      · obtain ⟨k, rfl⟩ := hk
        simp only at e
        split at e
        · rename_i n z hn hzz
          split at e
          · rename_i hle
            cases e
            obtain ⟨i', v', hi', hz', rfl⟩ := zeros_info hzz
            rw [hi] at hi'; cases hi'
            rw [hz] at hz'; cases hz'
            obtain ⟨m, rfl⟩ := intOf_rel gx hn
            refine ⟨_, Cells.zeros hv, ⟨xt, _, q1, q2, .inl ⟨k, m, v, rfl, ?_, ?_, zval_run hi hz, hv, ?_⟩⟩⟩
            · rw [List.length_replicate, Int.toNat_of_nonneg hle.1]
            · rw [List.length_replicate]; omega
            · rw [List.length_replicate]
          · cases e
        · cases e
      · have e' : elsAt h es x = some new := by
          cases u <;> first | exact e | exact absurd ⟨_, rfl⟩ hk
        obtain ⟨l1, l2⟩ := len_run (P := P) e' gx r
        obtain ⟨vs, f1, f2⟩ := l2 new.length (Nat.le_refl _)
        rw [List.take_length] at f2
        exact ⟨vs, f2, ⟨xt, u, q1, q2, .inr ⟨fun k q => hk ⟨k, q⟩, l1, f1⟩⟩⟩
theorem oneD_rel {d : DV} {v : Value} (h : oneD d = true) (g : DVr T w d v) : oneV v = true := by
  cases g with
  | v x => exact h
  | sl => rfl
  | ag => cases h
  | tu => cases h
theorem Cells.flat {sz : Nat} {els : List (List DV)} {vs : List Value} (h : Cells T w sz els vs) (hf : flatD els = true) : vs.all oneV = true := by
  rw [List.all_eq_true]
  intro v hv
  obtain ⟨k, hk⟩ := List.mem_iff_getElem?.1 hv
  have hk2 := (List.getElem?_eq_some_iff.1 hk).1
  rw [h.1] at hk2
  have hsz : 0 < sz := by
    refine Nat.pos_of_ne_zero (fun q => ?_)
    rw [q, Nat.mul_zero] at hk2; omega
  have hi : k / sz < els.length := Nat.div_lt_of_lt_mul (by rw [Nat.mul_comm]; exact hk2)
  have e1 : k = (k / sz) * sz + k % sz := by rw [Nat.mul_comm]; exact (Nat.div_add_mod k sz).symm
  have hm := h.2.1 _ (List.getElem_mem hi)
  have hj : k % sz < (els[k / sz]).length := by rw [hm]; exact Nat.mod_lt _ hsz
  obtain ⟨u, hu, hd⟩ := h.2.2 (k / sz) _ (k % sz) _ (List.getElem?_eq_getElem hi) (List.getElem?_eq_getElem hj)
  rw [← e1, hk] at hu
  cases hu
  unfold flatD at hf
  rw [List.all_eq_true] at hf
  have h1 := hf _ (List.getElem_mem hi)
  rw [List.all_eq_true] at h1
  exact oneD_rel (h1 _ (List.getElem_mem hj)) hd
/-- Elements are written into a row of one's own. -/
theorem row_write (r : Hr w0 σ T h w) {o sz off room : Nat} {els new els' : List (List DV)} {ad : Addr} {vs : List Value} (hg : h.get o = .row sz els true) (ho : σ o = some (ad, room)) (hc : Cells T w sz new vs) (hov : flatD new = true) (hfit : off + new.length ≤ room) (hpos : 0 < room)
    (he : ∀ i x, els'[i]? = some x → (off ≤ i ∧ i < off + new.length ∧ new[i - off]? = some x) ∨ (¬ (off ≤ i ∧ i < off + new.length) ∧ els[i]? = some x)) :
    ∃ W : World, (storeCells (ad.add (off * sz)) vs).run P w = .ok () W ∧ Kept w0 W ∧ W.heap.size = w.heap.size ∧ (∀ b, b ≠ ad.block → W.heap[b]? = w.heap[b]?) ∧ (∀ x ∈ els', x.length = sz) ∧
      ∃ us e, ad = ⟨ad.block, 0, none⟩ ∧ W.heap[ad.block]? = some (.cells us e (0, 0)) ∧ room * sz ≤ us.size ∧ ∀ i x j d, els'[i]? = some x → x[j]? = some d → ∃ v, us[i * sz + j]? = some v ∧ DVr T W d v := by
  have hO := r.obj o
  rw [hg] at hO
  obtain ⟨a2, room2, q1, q2, q3, q4⟩ := hO
  rw [ho] at q1
  cases q1
  obtain ⟨us, et, f0, f1, f2, f3⟩ := q4 hpos
  have hov := hc.flat hov
  have hown : Own σ o ad.block (h.get o) := by rw [hg]; exact ⟨ad, room, ho, rfl, hpos⟩
  have hb1 : (off + new.length) * sz ≤ room * sz := Nat.mul_le_mul_right _ hfit
  rw [Nat.add_mul] at hb1
  have hlv := hc.1
  have hw := storeCells_run (P := P) vs w us (off * sz) 0 f1 (by omega) hov
  rw [Nat.add_zero] at hw
  obtain ⟨W, hW⟩ : ∃ W, W = setBlk w ad.block (.cells (putCells us.toList (off * sz) vs).toArray et (0, 0)) := ⟨_, rfl⟩
  rw [← hW] at hw
  have hnT : ¬ T ad.block := (r.own o _ hown).2.2
  have hkeep : ∀ b, T b → W.heap[b]? = w.heap[b]? := fun b hb => by rw [hW]; exact setBlk_ne (fun q => hnT (q ▸ hb))
  have hul : us.toList.length = us.size := Array.length_toList ..
  have hlen : ∀ x ∈ els', x.length = sz := fun x hx => by
    obtain ⟨i, hi⟩ := List.mem_iff_getElem?.1 hx
    rcases he i x hi with ⟨_, _, q⟩ | ⟨_, q⟩
    · exact hc.2.1 x (List.mem_of_getElem? q)
    · exact q3 x (List.mem_of_getElem? q)
  refine ⟨W, by rw [f0, add_plain0]; exact hw, by rw [hW]; exact below_blk r.below (r.own o _ hown).1 _, by rw [hW]; exact setBlk_size .., fun b hb => by rw [hW]; exact setBlk_ne hb, hlen,
    _, et, f0, by rw [hW]; exact setBlk_at f1, by rw [List.size_toArray, put_len, hul]; exact f2, fun i x j d p1 p2 => ?_⟩
  have hj : j < sz := by
    have h1 := (List.getElem?_eq_some_iff.1 p2).1
    have h2 := hlen x (List.mem_of_getElem? p1)
    omega
  rw [List.getElem?_toArray, put_get _ _ _ _ (by omega)]
  rcases he i x p1 with ⟨g1, g2, q⟩ | ⟨g1, q⟩
  · obtain ⟨z, hz, hzd⟩ := hc.2.2 (i - off) x j d q p2
    have m1 : off * sz ≤ i * sz := Nat.mul_le_mul_right _ g1
    have m2 : (i + 1) * sz ≤ (off + new.length) * sz := Nat.mul_le_mul_right _ (by omega)
    rw [Nat.add_mul, Nat.add_mul] at m2
    refine ⟨z, ?_, hzd.up (fun _ q => q) hkeep⟩
    rw [if_pos (by omega), show i * sz + j - off * sz = (i - off) * sz + j by rw [Nat.sub_mul]; omega]
    exact hz
  · obtain ⟨z, hz, hzd⟩ := f3 i x j d q p2
    refine ⟨z, ?_, hzd.up (fun _ q => q) hkeep⟩
    have hne : ¬ (off * sz ≤ i * sz + j ∧ i * sz + j < off * sz + vs.length) := by
      intro q
      rcases Nat.lt_or_ge i off with ej | ej
      · have : (i + 1) * sz ≤ off * sz := Nat.mul_le_mul_right _ ej
        rw [Nat.add_mul] at this
        omega
      · have : (off + new.length) * sz ≤ i * sz := Nat.mul_le_mul_right _ (by omega)
        rw [Nat.add_mul] at this
        omega
    rw [if_neg hne, Array.getElem?_toList]
    exact hz
theorem cap_le (w : World) (n c : Nat) (e : TypeId) : n ≤ grownCap w n c e := Nat.le_add_right ..
/-- An append that makes a new row. -/
theorem out_ok {ts : Array TypeId} {t e ty : TypeId} {sz k c : Nat} {A : Option Addr} {x : AV} {X v : Value} {oldE new : List (List DV)} {old : List Value} {i : TypeInfo} {h2 : H} (lim : h2.n < w0.lim) (h0 : ts[0]? = some t) (hu : P.underlying t = some (.slice e)) (hs : sizeT P e = some sz) (hi : P.info? e = some i)
    (hz : i.zero = some v) (hv : v.cells.size = sz) (hx : newA P ts e sz x h = some new) (gx : AVr σ x X) (r : Hr w0 σ T h w) (r2 : Hr w0 σ T h2 w) (hr : roomA P e (k + new.length) = true)
    (hold : (Builtin.firstCells sz k (.slice A k c)).run P w.drew = .ok old.toArray w.drew) (ho : Cells T w.drew sz oldE old) (hk : oldE.length = k) (hc : ¬ k + new.length ≤ c) :
    GoesV P w0 σ T w (Builtin.append_ ts ty #[.slice A k c, X]) (.sl h2.n sz 0 (k + new.length) none) (h2.new (.row sz (oldE ++ new) true)) := by
  obtain ⟨vs0, _, X0⟩ := appd_ok (P := P) hx gx r hi hz hv
  obtain ⟨vs, C1, X1⟩ := appd_ok (P := P) hx gx r.drew hi hz hv
  obtain ⟨i', hi', b1, b2⟩ := room_spec hr
  rw [hi] at hi'; cases hi'
  have run := append_out (ty := ty) h0 hu hs hi (zval_run hi hz) b1 b2 X0 X1 hc hold
  have hl : (oldE ++ new).length = k + new.length := by rw [List.length_append, hk]
  have row := grown_row r2 lim e sz (k + new.length) (grownCap w (k + new.length) c e) (oldE ++ new) (old ++ vs) v (ho.app C1) hl (cap_le ..) hv
  rw [← List.append_toArray] at row
  exact ⟨_, T, _, _, r2.add_le lim _, fun _ q => q, run, row, new_sl r2.drew sz (k + new.length) _ _ (cap_le ..) (Nat.le_refl _)⟩
theorem elem_slice {t e : TypeId} (h : elemT P t = some e) : P.underlying t = some (.slice e) := by
  unfold elemT at h
  split at h
  · rename_i q
    cases h
    exact q
  · cases h
theorem add_zero' (a : Addr) : a.add 0 = a := by unfold Addr.add; rw [if_pos rfl]
/-- A row of one's own told for its beginning alone. -/
theorem Hr.cut (r : Hr w0 σ T h w) {o sz : Nat} {els : List (List DV)} (hg : h.get o = .row sz els true) (n : Nat) : Hr w0 σ T (h.set o (.row sz (els.take n) true)) w := by
  have hd : h.get o ≠ .dead := by rw [hg]; simp
  have own : ∀ x b, Own σ x b ((h.set o (.row sz (els.take n) true)).get x) → Own σ x b (h.get x) := fun x b q => by
    by_cases ex : o = x
    · subst ex
      rw [get_set_same _ hd] at q
      rw [hg]
      exact q
    · rwa [get_set_ne ex] at q
  refine ⟨r.below, r.stay, r.hold, r.low, r.dom, r.rest, top_set r o _ hd, fun x => ?_, fun x b q => r.own x b (own x b q), fun x x' b q q' => r.sep x x' b (own x b q) (own x' b q')⟩
  by_cases ex : o = x
  · subst ex
    rw [get_set_same _ hd]
    have := r.obj o
    rw [hg] at this
    obtain ⟨a, room, h1, h2, h3, h4⟩ := this
    refine ⟨a, room, h1, by rw [List.length_take]; omega, fun e he => h3 e (List.mem_of_mem_take he), fun hp => ?_⟩
    obtain ⟨vs, e, k1, k2, k3, k4⟩ := h4 hp
    refine ⟨vs, e, k1, k2, k3, fun i x j d hi hj => k4 i x j d ?_ hj⟩
    rw [List.getElem?_take] at hi
    split at hi
    · exact hi
    · cases hi
  · rw [get_set_ne ex]
    exact r.obj x
theorem appendA_ok {ts : Array TypeId} {ty : TypeId} {s x : AV} {S X : Value} {y : AV × H} (lim : y.2.n ≤ w0.lim) (e : appendA P ts s x h = some y) (gs : AVr σ s S) (gx : AVr σ x X) (r : Hr w0 σ T h w) : GoesV P w0 σ T w (Builtin.append_ ts ty #[S, X]) y.1 y.2 := by
  unfold appendA at e
  split at e
  · rename_i et es zs h1 h2 h3
    rw [h1] at h2 h3
    simp only [Option.bind_some] at h2 h3
    obtain ⟨i, v, hi, hz, rfl⟩ := zeros_info h3
    split at e
    · cases e
    rename_i hzl
    have hv : v.cells.size = es := by
      have := Classical.byContradiction hzl
      rw [List.length_map, Array.length_toList] at this
      exact this
    split at e
    · cases e
    rename_i new hnew
    have hu : ∃ t, ts[0]? = some t ∧ P.underlying t = some (.slice et) := by
      cases q : ts[0]? with
      | none =>
        exfalso
        have q0 : ts.size = 0 := by have := Array.getElem?_eq_none_iff.1 q; omega
        have q1 : ts[1]? = none := Array.getElem?_eq_none_iff.2 (by omega)
        unfold newA at hnew
        rw [q1] at hnew
        cases hnew
      | some t =>
        refine ⟨t, rfl, ?_⟩
        rw [Array.getD_eq_getD_getElem?, q] at h1
        exact elem_slice h1
    obtain ⟨t, h0, hu⟩ := hu
    split at e
    · cases e
    rename_i hfl
    have hfl : flatD new = true := by simpa using hfl
    split at e
    · cases gs
      split at e
      · rename_i hr
        obtain ⟨i', hi', b1, b2⟩ := room_spec hr
        rw [hi] at hi'; cases hi'
        split at e
        · cases e
          obtain ⟨vs, C1, X1⟩ := appd_ok (P := P) hnew gx r hi hz hv
          have run := append_in (ty := ty) (k := 0) (c := 0) (A := none) h0 hu h2 hi b2 X1 (by simp) (w' := w) (fun a q => by cases q) (fun _ => rfl)
          exact ⟨σ, T, w, _, σ.le_refl, fun _ q => q, run, r, .v _⟩
        · rename_i hne
          cases e
          have hpos : 0 < new.length := List.length_pos_iff.2 (fun q => hne q)
          have := out_ok lim (ty := ty) (k := 0) (c := 0) (A := none) (oldE := []) (old := []) h0 hu h2 hi hz hv hnew gx r r (by rw [Nat.zero_add]; exact hr) rfl ⟨by simp, fun x hx => by simp at hx, fun i e j d q => by simp at q⟩ rfl (by omega)
          rw [Nat.zero_add] at this
          exact this
      · cases e
    · rename_i o sz off n c
      split at e
      · rename_i sz' els own hg
        split at e
        · rename_i hc
          obtain ⟨rfl, rfl, hr⟩ := hc
          obtain ⟨i', hi', b1, b2⟩ := room_spec hr
          rw [hi] at hi'; cases hi'
          have b3 : new.length * i.bytes ≤ 35184372088832 := Nat.le_trans (Nat.mul_le_mul_right _ (by omega)) b2
          have hd : h.get o ≠ .dead := by rw [hg]; simp
          cases gs with
          | sl _ _ _ _ _ ad room A c' hσ hn hcc hA =>
            split at e
            · rename_i hc
              obtain ⟨ho, hle⟩ := hc
              cases e
              have hk : ∃ k, c = some k ∧ k < n + new.length := by
                cases c with
                | none => cases ho
                | some k => exact ⟨k, rfl, by simpa [overC] using ho⟩
              obtain ⟨k, rfl, hk⟩ := hk
              have hck := hcc k rfl
              obtain ⟨old, hv1, hv2⟩ := row_cells (w := w.drew) (row_facts r.drew hg hσ) (off := off) (n := n) hle
              have hl : ((els.drop off).take n).length = n := by rw [List.length_take, List.length_drop]; omega
              have hf : (Builtin.firstCells es n (.slice A n c')).run P w.drew = .ok old.toArray w.drew := by
                by_cases hc0 : 0 < c'
                · obtain ⟨p1, _⟩ := hA hc0
                  subst p1
                  show (loadCells (ad.add (off * es)) (n * es)).run P w.drew = _
                  rw [show n * es = old.length by rw [hv1.1, hl]]
                  exact loadCells_run _ _ hv2
                · obtain rfl : n = 0 := by omega
                  have hvs : old = [] := List.eq_nil_of_length_eq_zero (by rw [hv1.1]; simp)
                  subst hvs
                  cases A with
                  | none => rfl
                  | some a2 =>
                    show (loadCells a2 (0 * es)).run P w.drew = _
                    rw [Nat.zero_mul]
                    rfl
              exact out_ok lim (ty := ty) h0 hu h2 hi hz hv hnew gx r r hr hf hv1 hl (by omega)
            split at e
            · rename_i hc
              obtain ⟨rfl, rfl, hne⟩ := hc
              cases e
              obtain ⟨els1, hels1⟩ : ∃ l, l = els.take n := ⟨_, rfl⟩
              have hne1 : n = els1.length := by rw [hels1, List.length_take]; omega
              have r1 := r.cut hg n
              rw [← hels1] at r1 ⊢
              have hg1 : (h.set o (.row es els1 true)).get o = .row es els1 true := get_set_same _ hd
              clear hels1
              subst hne1
              have hO := r1.obj o
              rw [hg1] at hO
              obtain ⟨a2, room2, q1, q2, q3, q4⟩ := hO
              rw [hσ] at q1
              cases q1
              have r2 := r.kill o hd
              by_cases hfit : els1.length + new.length ≤ c'
              · obtain ⟨vs, C1, X1⟩ := appd_ok (P := P) hnew gx r hi hz hv
                by_cases hc0 : 0 < c'
                · obtain ⟨p1, hroom⟩ := hA hc0
                  rw [Nat.zero_mul, add_zero'] at p1
                  subst p1
                  have hpos : 0 < room := by omega
                  obtain ⟨W, w1, w2, w3, w4, w5, us, et2, w6, w7, w8, w9⟩ := row_write (P := P) (els' := els1 ++ new) r1 hg1 hσ C1 hfl (off := els1.length) (by omega) hpos (fun i x hx => by
                    by_cases hi : i < els1.length
                    · rw [List.getElem?_append_left hi] at hx
                      exact .inr ⟨by omega, hx⟩
                    · have hb := (List.getElem?_eq_some_iff.1 hx).1
                      rw [List.length_append] at hb
                      rw [List.getElem?_append_right (by omega)] at hx
                      exact .inl ⟨by omega, by omega, hx⟩)
                  have hnT : Own σ o ad.block (h.get o) := by rw [hg]; exact ⟨ad, room, hσ, rfl, hpos⟩
                  have run := append_in (ty := ty) (k := els1.length) (c := c') (A := some ad) h0 hu h2 hi b3 X1 hfit (w' := W) (fun a q => by cases q; exact w1) (fun q => by cases q)
                  have own : ∀ b, Own (σ.add h.n (ad, room)) h.n b (.row es (els1 ++ new) true) → b = ad.block := fun b q => by
                    obtain ⟨a3, rm3, e1, e2, e3⟩ := q
                    rw [Sg.add_same] at e1
                    cases e1
                    exact e2.symm
                  refine ⟨_, T, W, _, r2.add_le lim (ad, room), fun _ q => q, run, r2.adopt lim (ad, room) (.row es (els1 ++ new) true) w2 w3 (fun b hb => w4 b (fun q => hb ⟨ad, room, Sg.add_same .., q.symm, hpos⟩)) ⟨ad, room, Sg.add_same .., by rw [List.length_append]; omega, w5, fun _ => ⟨us, et2, w6, w7, w8, w9⟩⟩ (fun b hb => ?_), .sl _ _ _ _ _ ad room _ _ (Sg.add_same ..) hfit (fun k q => by cases q) (fun _ => ⟨by rw [Nat.zero_mul, add_zero'], hroom⟩)⟩
                  have := own b hb
                  subst this
                  obtain ⟨o1, o2, o3⟩ := r.own o _ hnT
                  refine ⟨o1, o2, o3, fun x hx => ?_⟩
                  by_cases ex : o = x
                  · subst ex; rw [get_set_same _ hd] at hx; exact hx
                  · rw [get_set_ne ex] at hx
                    exact ex (r.sep o x _ hnT hx)
                · have l1 : els1 = [] := List.eq_nil_of_length_eq_zero (by omega)
                  have l2 : new = [] := List.eq_nil_of_length_eq_zero (by omega)
                  subst l1 l2
                  have hvs : vs = [] := List.eq_nil_of_length_eq_zero (by rw [C1.1]; simp)
                  subst hvs
                  have run := append_in (ty := ty) (k := 0) (c := c') (A := A) h0 hu h2 hi b3 X1 hfit (w' := w) (fun a q => rfl) (fun _ => rfl)
                  have own : ∀ b, ¬ Own (σ.add h.n (ad, 0)) h.n b (.row es [] true) := fun b q => by
                    obtain ⟨a3, rm3, e1, e2, e3⟩ := q
                    rw [Sg.add_same] at e1
                    cases e1
                    omega
                  exact ⟨_, T, w, _, r2.add_le lim (ad, 0), fun _ q => q, run, r2.adopt lim (ad, 0) (.row es [] true) r.below rfl (fun b hb => rfl) ⟨ad, 0, Sg.add_same .., Nat.le_refl _, (fun x hx => by cases hx), fun q => by omega⟩ (fun b hb => (own b hb).elim), .sl _ _ _ _ _ ad 0 _ _ (Sg.add_same ..) hfit (fun k q => by cases q) (fun q => absurd q hc0)⟩
              · obtain ⟨old, hv1, hv2⟩ := row_cells (w := w.drew) (row_facts r1.drew hg1 hσ) (off := 0) (n := els1.length) (by omega)
                rw [List.drop_zero, List.take_length] at hv1
                have hf : (Builtin.firstCells es els1.length (.slice A els1.length c')).run P w.drew = .ok old.toArray w.drew := by
                  by_cases hc0 : 0 < c'
                  · obtain ⟨p1, _⟩ := hA hc0
                    subst p1
                    show (loadCells (ad.add (0 * es)) (els1.length * es)).run P w.drew = _
                    rw [← hv1.1]
                    exact loadCells_run _ _ hv2
                  · have l1 : els1 = [] := List.eq_nil_of_length_eq_zero (by omega)
                    subst l1
                    have hvs : old = [] := List.eq_nil_of_length_eq_zero (by rw [hv1.1]; simp)
                    subst hvs
                    cases A with
                    | none => rfl
                    | some a2 =>
                      show (loadCells a2 (0 * es)).run P w.drew = _
                      rw [Nat.zero_mul]
                      rfl
                have := out_ok lim (ty := ty) h0 hu h2 hi hz hv hnew gx r r2 hr hf hv1 rfl hfit
                exact this
            · split at e
              · rename_i hc
                obtain ⟨rfl, rfl⟩ := hc
                have hc0 := hcc 0 rfl
                subst hc0
                split at e
                · cases e
                  obtain ⟨vs, C1, X1⟩ := appd_ok (P := P) hnew gx r hi hz hv
                  have hvs : vs = [] := List.eq_nil_of_length_eq_zero (by rw [C1.1]; simp)
                  subst hvs
                  have run := append_in (ty := ty) (k := 0) (c := 0) (A := A) h0 hu h2 hi b3 X1 (by simp) (w' := w) (fun a q => rfl) (fun _ => rfl)
                  exact ⟨σ, T, w, _, σ.le_refl, fun _ q => q, run, r, .sl _ _ _ _ _ ad room A 0 hσ hn hcc hA⟩
                · rename_i hne
                  cases e
                  have hpos : 0 < new.length := List.length_pos_iff.2 (fun q => hne q)
                  have := out_ok lim (ty := ty) (k := 0) (c := 0) (A := A) (oldE := []) (old := []) h0 hu h2 hi hz hv hnew gx r r (by exact hr) (by
                    cases A with
                    | none => rfl
                    | some a2 =>
                      show (loadCells a2 (0 * es)).run P w.drew = _
                      rw [Nat.zero_mul]
                      rfl) ⟨by simp, fun x hx => by simp at hx, fun i e j d q => by simp at q⟩ rfl (by omega)
                  rw [Nat.zero_add] at this
                  exact this
              · cases e
        · cases e
      · cases e
    · cases e
  · cases e
end
end Go.Proofs.YtffopeihcebpjaaGreat.X
end
section
set_option linter.unusedVariables false
namespace Go.Proofs.YtffopeihcebpjaaGreat.X
open Go Go.RowKit
section
variable {P : Program} {w0 : Base} {σ : Sg} {T : Nat → Prop} {h : H} {w : World} {tm : List AV} {a : Act} {o : Oper}
theorem ty_some {ts : Array TypeId} {e : TypeId} (h : (ts[0]?).bind (elemT P) = some e) : ∃ t, ts[0]? = some t ∧ P.underlying t = some (.slice e) := by
  cases q : ts[0]? with
  | none => rw [q] at h; cases h
  | some t => rw [q] at h; exact ⟨t, rfl, elem_slice h⟩
theorem splice_get {α : Type} {els mid : List α} {off i : Nat} {x : α} (hl : off + mid.length ≤ els.length) (h : (els.take off ++ mid ++ els.drop (off + mid.length))[i]? = some x) :
    (off ≤ i ∧ i < off + mid.length ∧ mid[i - off]? = some x) ∨ (¬ (off ≤ i ∧ i < off + mid.length) ∧ els[i]? = some x) := by
  have l1 : (els.take off).length = off := by rw [List.length_take]; omega
  by_cases h1 : i < off
  · rw [List.append_assoc, List.getElem?_append_left (by omega), List.getElem?_take_of_lt h1] at h
    exact .inr ⟨by omega, h⟩
  · by_cases h2 : i < off + mid.length
    · rw [List.append_assoc, List.getElem?_append_right (by omega), l1, List.getElem?_append_left (by omega)] at h
      exact .inl ⟨by omega, h2, h⟩
    · rw [List.getElem?_append_right (by rw [List.length_append]; omega), List.length_append, l1, List.getElem?_drop, show off + mid.length + (i - (off + mid.length)) = i by omega] at h
      exact .inr ⟨by omega, h⟩
theorem splice_len {α : Type} {els mid : List α} {off : Nat} (hl : off + mid.length ≤ els.length) : (els.take off ++ mid ++ els.drop (off + mid.length)).length = els.length := by
  rw [List.length_append, List.length_append, List.length_take, List.length_drop]; omega
theorem row_put (r : Hr w0 σ T h w) {o sz off room c : Nat} {els mid : List (List DV)} {ad : Addr} {A : Option Addr} {vs : List Value} (hg : h.get o = .row sz els true) (ho : σ o = some (ad, room)) (hc : Cells T w sz mid vs) (hov : flatD mid = true)
    (hA : 0 < c → A = some (ad.add (off * sz)) ∧ off + c ≤ room) (hm : mid.length ≤ c) (hl : off + mid.length ≤ els.length) :
    ∃ W : World, (∀ a, A = some a → (storeCells a vs).run P w = .ok () W) ∧ (A = none → W = w) ∧ Hr w0 σ T (h.set o (.row sz (els.take off ++ mid ++ els.drop (off + mid.length)) true)) W := by
  have hd : h.get o ≠ .dead := by rw [hg]; simp
  have hO := r.obj o
  rw [hg] at hO
  obtain ⟨a2, room2, q1, q2, q3, q4⟩ := hO
  rw [ho] at q1
  cases q1
  by_cases hc0 : 0 < c
  · obtain ⟨rfl, hroom⟩ := hA hc0
    have hpos : 0 < room := by omega
    obtain ⟨W, w1, w2, w3, w4, w5, us, et2, w6, w7, w8, w9⟩ := row_write (P := P) r hg ho hc hov (off := off) (by omega) hpos (fun i x hx => splice_get hl hx)
    have hown : Own σ o ad.block (h.get o) := by rw [hg]; exact ⟨ad, room, ho, rfl, hpos⟩
    exact ⟨W, fun a q => by cases q; exact w1, fun q => (by cases q), r.put o _ hd w2 w3 (fun b hb => w4 b (fun q => hb (q ▸ hown))) ⟨ad, room, ho, by rw [splice_len hl]; exact q2, w5, fun _ => ⟨us, et2, w6, w7, w8, w9⟩⟩ (fun b hb => by rw [hg]; exact hb)⟩
  · have hm0 : mid = [] := List.eq_nil_of_length_eq_zero (by omega)
    subst hm0
    have hvs : vs = [] := List.eq_nil_of_length_eq_zero (by rw [hc.1]; simp)
    subst hvs
    refine ⟨w, fun a q => rfl, fun _ => rfl, r.put o _ hd r.below rfl (fun _ _ => rfl) ?_ (fun b hb => by rw [hg]; exact hb)⟩
    rw [List.append_nil, List.length_nil, Nat.add_zero, List.take_append_drop]
    exact ⟨ad, room, ho, q2, q3, q4⟩
theorem copyA_ok {ts : Array TypeId} {ty e : TypeId} {es : Nat} {d s : AV} {D S : Value} {new : List (List DV)} {y : AV × H} (h1 : (ts[0]?).bind (elemT P) = some e) (h2 : sizeT P e = some es) (h3 : elsAt h es s = some new) (h4 : copyA es d new h = some y)
    (gd : AVr σ d D) (gs : AVr σ s S) (r : Hr w0 σ T h w) : GoesV P w0 σ T w (Builtin.copy_ ts ty #[D, S]) y.1 y.2 := by
  obtain ⟨t, t0, hu⟩ := ty_some h1
  obtain ⟨l1, l2⟩ := len_run (P := P) h3 gs r
  unfold copyA at h4
  split at h4
  · rename_i o sz off n c
    split at h4
    · rename_i sz' els hg
      split at h4
      · rename_i hc
        obtain ⟨rfl, rfl, hl, hfl2⟩ := hc
        cases h4
        cases gd with
        | sl _ _ _ _ _ ad room A c' hσ hn hcc hA =>
          obtain ⟨vs, v1, v2⟩ := l2 (min new.length n) (by omega)
          have hO := r.obj o
          rw [hg] at hO
          obtain ⟨a2, room2, q1, q2, q3, q4⟩ := hO
          rw [hσ] at q1
          cases q1
          have hd : h.get o ≠ .dead := by rw [hg]; simp
          have hlt : (new.take (min new.length n)).length = min new.length n := by rw [List.length_take]; omega
          have run : ∀ W : World, (∀ a, A = some a → (storeCells a vs).run P w = .ok () W) → (A = none → W = w) → (Builtin.copy_ ts ty #[.slice A n c', S]).run P w = .ok (.int .i64 (min new.length n : Nat)) W := fun W g1 g2 => by
            cases A with
            | none =>
              have := g2 rfl
              subst this
              simp [Builtin.copy_, t0, run_underlying hu, l1, size_run h2, v1, goInt]
            | some a =>
              have := g1 a rfl
              simp [Builtin.copy_, t0, run_underlying hu, l1, size_run h2, v1, this, goInt]
          obtain ⟨W, g1, g2, g3⟩ := row_put (P := P) r hg hσ v2 hfl2 hA (by omega) (by omega)
          rw [hlt] at g3
          exact ⟨σ, T, W, _, σ.le_refl, fun _ q => q, run W g1 g2, g3, .v _⟩
      · cases h4
    · cases h4
  · cases h4
    cases gd
    obtain ⟨vs, v1, v2⟩ := l2 0 (by omega)
    have hvs : vs = [] := List.eq_nil_of_length_eq_zero (by rw [v2.1]; simp)
    subst hvs
    refine ⟨σ, T, w, _, σ.le_refl, fun _ q => q, ?_, r, .v _⟩
    simp [Builtin.copy_, t0, run_underlying hu, l1, size_run h2, v1, goInt]
  · cases h4
theorem clearA_ok {ts : Array TypeId} {ty : TypeId} {x : AV} {X : Value} {y : AV × H} (e : clearA P ts x h = some y) (g : AVr σ x X) (r : Hr w0 σ T h w) : GoesV P w0 σ T w (Builtin.clear_ ts ty #[X]) y.1 y.2 := by
  unfold clearA at e
  split at e
  · rename_i o sz off n c et h1
    obtain ⟨t, t0, hu⟩ := ty_some h1
    split at e
    · rename_i sz' els z hg hz
      split at e
      · rename_i hc
        obtain ⟨rfl, h2, hl, hzl, hf⟩ := hc
        cases e
        obtain ⟨i, v, hi, hzv, rfl⟩ := zeros_info hz
        have hv : v.cells.size = sz' := by rw [← hzl, List.length_map, Array.length_toList]
        cases g with
        | sl _ _ _ _ _ ad room A c' hσ hn hcc hA =>
          have hfl : flatD (List.replicate n (v.cells.toList.map DV.v)) = true := by
            unfold flatD
            rw [List.all_eq_true]
            intro x hx
            rw [(List.mem_replicate.1 hx).2]
            exact hf
          have hlr : (List.replicate n (v.cells.toList.map DV.v)).length = n := List.length_replicate
          obtain ⟨W, g1, g2, g3⟩ := row_put (P := P) r hg hσ (Cells.zeros (n := n) hv) hfl hA (by omega) (by omega)
          rw [hlr] at g3
          refine ⟨σ, T, W, .tuple #[], σ.le_refl, fun _ q => q, ?_, g3, .tu [] [] .nil⟩
          cases A with
          | none =>
            have := g2 rfl
            subst this
            simp [Builtin.clear_, t0, run_underlying hu]
          | some ad2 =>
            cases n with
            | zero =>
              have := g1 ad2 rfl
              have e0 : (Builtin.zeroCells v.cells 0).toList = [] := by simp [Builtin.zeroCells]
              rw [e0] at this
              have e1 : Result.ok () w = Result.ok () W := this
              cases e1
              simp [Builtin.clear_, t0, run_underlying hu]
            | succ n =>
              have := g1 ad2 rfl
              simp [Builtin.clear_, t0, run_underlying hu, zval_run hi hzv, this]
      · cases e
    · cases e
  · rename_i et h1
    obtain ⟨t, t0, hu⟩ := ty_some h1
    cases e
    cases g
    refine ⟨σ, T, w, .tuple #[], σ.le_refl, fun _ q => q, ?_, r, .tu [] [] .nil⟩
    simp [Builtin.clear_, t0, run_underlying hu]
  · cases e
theorem len_ok {ts : Array TypeId} {ty : TypeId} {x : AV} {X : Value} {v : AV} (e : lenB P ts x = some v) (g : AVr σ x X) (r : Hr w0 σ T h w) : GoesV P w0 σ T w (Builtin.len_ ts ty #[X]) v h := by
  have tyo : ∀ d, (ts[0]?).bind P.underlying = some d → ∃ t, ts[0]? = some t ∧ P.underlying t = some d := fun d q => by
    cases q1 : ts[0]? with
    | none => rw [q1] at q; cases q
    | some t => rw [q1] at q; exact ⟨t, rfl, q⟩
  unfold lenB at e
  split at e
  · rename_i n el hd
    obtain ⟨t, t0, hu⟩ := tyo _ hd
    cases e
    exact ⟨σ, T, w, _, σ.le_refl, fun _ q => q, by simp [Builtin.len_, t0, run_underlying hu, goInt], r, .v _⟩
  · rename_i el hd
    obtain ⟨t, t0, hu⟩ := tyo _ hd
    split at e
    · rename_i n el2 hd2
      cases e
      exact ⟨σ, T, w, _, σ.le_refl, fun _ q => q, by simp [Builtin.len_, t0, run_underlying hu, run_underlying hd2, goInt], r, .v _⟩
    · cases e
  · rename_i el o sz off n c hd
    obtain ⟨t, t0, hu⟩ := tyo _ hd
    cases e
    cases g
    exact ⟨σ, T, w, _, σ.le_refl, fun _ q => q, by simp [Builtin.len_, t0, run_underlying hu, goInt], r, .v _⟩
  · rename_i hd
    obtain ⟨t, t0, hu⟩ := tyo _ hd
    cases e
    cases g
    exact ⟨σ, T, w, _, σ.le_refl, fun _ q => q, by simp [Builtin.len_, t0, run_underlying hu, goInt], r, .v _⟩
  · rename_i hd
    obtain ⟨t, t0, hu⟩ := tyo _ hd
    cases e
    cases g
    exact ⟨σ, T, w, _, σ.le_refl, fun _ q => q, by simp [Builtin.len_, t0, run_underlying hu, goInt], r, .v _⟩
  · cases e
theorem cap_ok {ts : Array TypeId} {ty : TypeId} {x : AV} {X : Value} {v : AV} (e : capB P ts x = some v) (g : AVr σ x X) (r : Hr w0 σ T h w) : GoesV P w0 σ T w (Builtin.cap_ ts ty #[X]) v h := by
  have tyo : ∀ d, (ts[0]?).bind P.underlying = some d → ∃ t, ts[0]? = some t ∧ P.underlying t = some d := fun d q => by
    cases q1 : ts[0]? with
    | none => rw [q1] at q; cases q
    | some t => rw [q1] at q; exact ⟨t, rfl, q⟩
  unfold capB at e
  split at e
  · rename_i el o sz off n c hd
    obtain ⟨t, t0, hu⟩ := tyo _ hd
    cases e
    cases g with
    | sl _ _ _ _ _ ad room A c' hσ hn hcc hA =>
      have := hcc _ rfl
      subst this
      exact ⟨σ, T, w, _, σ.le_refl, fun _ q => q, by simp [Builtin.cap_, t0, run_underlying hu, goInt], r, .v _⟩
  · rename_i hd
    obtain ⟨t, t0, hu⟩ := tyo _ hd
    cases e
    cases g
    exact ⟨σ, T, w, _, σ.le_refl, fun _ q => q, by simp [Builtin.cap_, t0, run_underlying hu, goInt], r, .v _⟩
  · cases e
theorem plainV_ok {s : Sem Value} {x : AV} (e : plainV P s = some x) (r : Hr w0 σ T h w) : GoesV P w0 σ T w s x h := by
  unfold plainV at e
  cases q : plain P s with
  | none => rw [q] at e; cases e
  | some v =>
    rw [q] at e
    cases e
    exact ⟨σ, T, w, v, σ.le_refl, fun _ q => q, plain_run _ q w, r, .v v⟩
theorem builtinA_ok {b : Builtin} {ts : Array TypeId} {ty : TypeId} {cs : Array Bool} {xs : List AV} {Xs : List Value} {v : AV} {h' : H} {ws : List Nat} (lim : h'.n ≤ w0.lim) (e : builtinA P b ts ty xs h = some (v, h', ws)) (g : AVrs σ xs Xs) (r : Hr w0 σ T h w) :
    Goes P w0 σ T w (builtin b ts ty cs Xs.toArray) v h' := by
  have lift : ∀ {s : Sem Value}, GoesV P w0 σ T w s v h' → Goes P w0 σ T w (do pure (Next.value (← s))) v h' := fun q => by
    obtain ⟨σ', T', w', y, q1, q2, q3, q4, q5⟩ := q
    exact ⟨σ', T', w', _, y, q1, q2, val_run q3, .inl rfl, q4, q5⟩
  have e0 := e
  unfold builtinA at e
  split at e
  · split at e
    · rename_i y hy
      cases e
      cases g with
      | cons _ X _ _ g1 g =>
        cases g
        exact lift (len_ok hy g1 r)
    · cases e
  · split at e
    · rename_i y hy
      cases e
      cases g with
      | cons _ X _ _ g1 g =>
        cases g
        exact lift (cap_ok hy g1 r)
    · cases e
  · split at e
    · rename_i y hy
      cases e
      cases g with
      | cons _ X _ _ g1 g =>
        cases g with
        | cons _ Y _ _ g2 g =>
          cases g
          exact lift (appendA_ok lim hy g1 g2 r)
    · cases e
  · split at e
    · rename_i et h1
      split at e
      · rename_i es h2
        split at e
        · rename_i n h3
          split at e
          · rename_i y hy
            cases e
            cases g with
            | cons _ X _ _ g1 g =>
              cases g with
              | cons _ Y _ _ g2 g =>
                cases g
                exact lift (copyA_ok h1 h2 h3 hy g1 g2 r)
          · cases e
        · cases e
      · cases e
    · cases e
  · split at e
    · rename_i y hy
      cases e
      cases g with
      | cons _ X _ _ g1 g =>
        cases g
        exact lift (clearA_ok hy g1 r)
    · cases e
  · split at e
    · rename_i vs hvs
      split at e
      · rename_i x hx
        cases e
        rw [allV_rel g hvs]
        exact lift (plainV_ok hx r)
      · cases e
    · cases e
  · split at e
    · rename_i vs hvs
      split at e
      · rename_i x hx
        cases e
        rw [allV_rel g hvs]
        exact lift (plainV_ok hx r)
      · cases e
    · cases e
  · cases e
theorem bytes_rel : ∀ {els : List (List DV)} {l : List UInt8} {vs : List Value}, bytesA els = some l → Cells T w 1 els vs → ∃ ns : List Int, vs = ns.map (Value.int .u8) ∧ ns.map (fun n => UInt8.ofNat n.toNat) = l
  | [], l, vs, h, hc => by
    cases h
    have : vs = [] := List.eq_nil_of_length_eq_zero (by rw [hc.1]; simp)
    subst this
    exact ⟨[], rfl, rfl⟩
  | e :: els, l, vs, h, hc => by
    unfold bytesA at h
    split at h
    · rename_i h0; cases h0
    · rename_i n r hq
      cases hq
      cases q : bytesA els with
      | none => rw [q] at h; cases h
      | some l2 =>
        rw [q] at h
        cases h
        obtain ⟨c1, c2, c3⟩ := hc
        cases vs with
        | nil => simp at c1
        | cons v vs =>
          obtain ⟨ns, rfl, h2⟩ := bytes_rel q (vs := vs) ⟨by simpa using c1, fun x hx => c2 x (List.mem_cons_of_mem _ hx), fun i e j d p1 p2 => by
            obtain ⟨u, hu, hd⟩ := c3 (i + 1) e j d (by rw [List.getElem?_cons_succ]; exact p1) p2
            refine ⟨u, ?_, hd⟩
            rw [show (i + 1) * 1 + j = (i * 1 + j) + 1 by omega, List.getElem?_cons_succ] at hu
            exact hu⟩
          obtain ⟨u, hu, hd⟩ := c3 0 _ 0 _ rfl rfl
          cases hu
          cases hd
          exact ⟨n :: ns, rfl, by rw [List.map_cons, h2]⟩
    · cases h
theorem convA_ok {s d : TypeId} {x : AV} {X : Value} {y : AV × H} (e : convA P s d x h = some y) (g : AVr σ x X) (r : Hr w0 σ T h w) : GoesV P w0 σ T w (convert s d X) y.1 y.2 := by
  unfold convA at e
  split at e
  case h_2 => cases e
  rename_i a0 e0
  cases e
  unfold convB at e0
  split at e0
  · cases e0
  · cases e0
  · rename_i et hs hd hns
    split at e0
    · rename_i els hu hel
      split at e0
      · rename_i l hl
        cases e0
        obtain ⟨l1, l2⟩ := len_run (P := P) hel g r
        obtain ⟨vs, v1, v2⟩ := l2 els.length (Nat.le_refl _)
        rw [List.take_length] at v2
        obtain ⟨ns, rfl, hn⟩ := bytes_rel hl v2
        refine ⟨σ, T, w, .string ⟨l.toArray⟩, σ.le_refl, fun _ q => q, ?_, r, .v _⟩
        unfold elsAt at hel
        split at hel
        · rename_i A c
          cases g
          cases hel
          cases hl
          cases A with
          | none => exact run_convert_bytes_nil w s et hs hu _ _ d hd
          | some a =>
            have e2 : (loadCells a 0).run P w = .ok (([] : List Int).map (Value.int .u8)).toArray w := rfl
            rw [run_convert_bytes_string w s d et _ _ _ hs hu hd, run_bytesToString w a _ _ [] e2]
            rfl
        · exact absurd rfl (hns _)
        · cases g with
          | sl _ _ _ _ _ ad room A c' hσ hn2 hcc hA =>
            split at hel
            · split at hel
              · rename_i hc
                cases hel
                obtain ⟨q1, q2, q3⟩ := hc
                have hlen := v2.1
                rw [List.length_map, Nat.mul_one] at hlen
                cases A with
                | none =>
                  have h0 : ns = [] := by
                    refine List.eq_nil_of_length_eq_zero ?_
                    refine Classical.byContradiction fun q => ?_
                    have l0 := l1
                    by_cases hc0 : 0 < c'
                    · cases (hA hc0).1
                    · rw [hlen, List.length_take] at q
                      omega
                  subst h0
                  subst hn
                  exact run_convert_bytes_nil w s et hs hu _ _ d hd
                | some a =>
                  have e1 : (Builtin.lenOf (.slice (some a) _ c')).run P w = .ok ns.length w := l1.trans (by rw [hlen])
                  cases e1
                  have e2 : (loadCells a (_ * 1)).run P w = .ok (ns.map (Value.int .u8)).toArray w := v1
                  rw [hlen.symm, Nat.mul_one] at e2
                  rw [run_convert_bytes_string w s d et _ _ _ hs hu hd, run_bytesToString w a _ _ ns e2, foldl_push_bytes, hn, show ByteArray.empty.data = #[] from rfl, Array.empty_append]
              · cases hel
            · cases hel
        · cases hel
      · cases e0
    · cases e0
  · cases g
    exact plainV_ok e0 r
  · cases e0
abbrev kvs (ms : List MapEntry) : List (Value × Value) := ms.map fun m => (m.key, m.val)
abbrev ivs (es : List (Int × Int)) : List (Value × Value) := es.map fun e => (Value.int .i64 e.1, Value.int .i64 e.2)
theorem find_rel (k x : Int) : ∀ (ms : List MapEntry) (es : List (Int × Int)) (i : Nat), kvs ms = ivs es →
    (Instr.findNow (.int .i64) (.int .i64 k) ms i = some none ∧ findM k es = 0 ∧ updM k x es = es ++ [(k, x)]) ∨
      ∃ j m, ms[j]? = some m ∧ m.key = .int .i64 k ∧ Instr.findNow (.int .i64) (.int .i64 k) ms i = some (some (i + j, .int .i64 (findM k es))) ∧ kvs (ms.modify j fun e => { e with key := .int .i64 k, val := .int .i64 x }) = ivs (updM k x es)
  | [], [], i, h => .inl ⟨rfl, rfl, rfl⟩
  | [], _ :: _, i, h => by cases h
  | _ :: _, [], i, h => by cases h
  | m :: ms, e :: es, i, h => by
    rw [kvs, ivs, List.map_cons, List.map_cons] at h
    injection h with h1 h2
    injection h1 with h3 h4
    by_cases q : e.1 = k
    · refine .inr ⟨0, m, rfl, by rw [h3, q], ?_, ?_⟩
      · simp [Instr.findNow, h3, Instr.sameNow, q, findM, h4]
      · simp [updM, q, kvs, ivs]
        exact h2
    · have hb : (k == e.1) = false := by simp; exact fun q2 => q q2.symm
      rcases find_rel k x ms es (i + 1) h2 with ⟨f1, f2, f3⟩ | ⟨j, m', f0, fk, f1, f2⟩
      · refine .inl ⟨?_, ?_, ?_⟩
        · simp [Instr.findNow, h3, Instr.sameNow, hb, f1]
        · simp [findM, q, f2]
        · simp [updM, q, f3]
      · refine .inr ⟨j + 1, m', f0, fk, ?_, ?_⟩
        · simp [Instr.findNow, h3, Instr.sameNow, hb, f1, findM, q]
          omega
        · simp [updM, q, kvs, ivs] at f2 ⊢
          exact ⟨⟨h3, h4⟩, f2⟩
theorem lookup_ok {t kt et : TypeId} {m k : AV} {M K : Value} {oi : Nat} {ki : Int} {es : List (Int × Int)} (hm : P.underlying t = some (.map kt et)) (hk : P.underlying kt = some (.int .i64)) (hz : (P.info? et).bind (·.zero) = some (.int .i64 0))
    (hg : h.get oi = .map es) (gm : AVr σ (.mp oi) M) (r : Hr w0 σ T h w) : (Instr.lookup t M (.int .i64 ki) false).run P w = .ok (.int .i64 (findM ki es)) w := by
  cases gm with
  | mp _ ad room ho =>
    have hO := r.obj oi
    rw [hg] at hO
    obtain ⟨g, ms, ck, e1, e2, e3⟩ := hO
    rw [ho] at e1
    cases e1
    have hkey : ∀ b n, (Instr.checkKey b (n + 1) kt (.int .i64 ki)).run P w = .ok () w := fun b n => MapKept.run_checkKey (d := .int .i64) (k := .int .i64 ki) hk rfl b n
    rcases find_rel ki 0 ms.toList es 0 e3 with ⟨f1, f2, f3⟩ | ⟨j, m', f0, fk, f1, f2⟩
    · have hv : (zeroValue et).run P w = .ok (.int .i64 0) w := by
        cases q : P.info? et with
        | none => rw [q] at hz; cases hz
        | some i => rw [q] at hz; exact zval_run q hz
      simp [Instr.lookup, run_underlying hm, MapKept.run_getObj_map e2, hkey, MapKept.run_findKey hk f1, hv, f2]
    · simp [Instr.lookup, run_underlying hm, MapKept.run_getObj_map e2, hkey, MapKept.run_findKey hk f1]
theorem mapUpdate_ok {t kt et : TypeId} {M : Value} {oi : Nat} {ki xi : Int} {es : List (Int × Int)} (hm : P.underlying t = some (.map kt et)) (hk : P.underlying kt = some (.int .i64))
    (hg : h.get oi = .map es) (gm : AVr σ (.mp oi) M) (r : Hr w0 σ T h w) : ∃ w', (Instr.mapUpdate t M (.int .i64 ki) (.int .i64 xi)).run P w = .ok () w' ∧ Hr w0 σ T (h.set oi (.map (updM ki xi es))) w' := by
  cases gm with
  | mp _ ad room ho =>
    have hO := r.obj oi
    rw [hg] at hO
    obtain ⟨g, ms, ck, e1, e2, e3⟩ := hO
    rw [ho] at e1
    cases e1
    have hd : h.get oi ≠ .dead := by rw [hg]; simp
    have hown : Own σ oi g (h.get oi) := by rw [hg]; exact ⟨_, _, ho, rfl⟩
    have hkey : ∀ b n, (Instr.checkKey b (n + 1) kt (.int .i64 ki)).run P w = .ok () w := fun b n => MapKept.run_checkKey (d := .int .i64) (k := .int .i64 ki) hk rfl b n
    have put : ∀ ms' ck', kvs ms'.toList = ivs (updM ki xi es) → Hr w0 σ T (h.set oi (.map (updM ki xi es))) (setBlk w g (.map ms' ck')) := fun ms' ck' q =>
      r.put oi _ hd (below_blk r.below (r.own oi g hown).1 _) (setBlk_size ..) (fun b hb => setBlk_ne (fun q => hb (q ▸ hown))) ⟨g, ms', ck', ho, setBlk_at e2, q⟩ (fun b hb => by rw [hg]; exact hb)
    rcases find_rel ki xi ms.toList es 0 e3 with ⟨f1, f2, f3⟩ | ⟨j, m', f0, fk, f1, f2⟩
    · refine ⟨_, ?_, put (ms.push { key := .int .i64 ki, val := .int .i64 xi, born := ck }) (ck + 1) ?_⟩
      · simp [Instr.mapUpdate, run_underlying hm, MapKept.run_getObj_map e2, hkey, MapKept.run_findKey hk f1, MapKept.run_setObj_map _ e2]
        rfl
      · rw [f3, kvs, Array.toList_push, List.map_append, e3]
        rw [ivs, List.map_append]
        rfl
    · refine ⟨_, ?_, put (ms.modify j fun e => { e with key := .int .i64 ki, val := .int .i64 xi }) ck ?_⟩
      · rw [Array.getElem?_toList] at f0
        have hks := MapKept.run_keyThatStays (P := P) (w := w) (d := .int .i64) (k := .int .i64 ki) rfl
        simp [Instr.mapUpdate, run_underlying hm, MapKept.run_getObj_map e2, hkey, MapKept.run_findKey hk f1, MapKept.run_setObj_map _ e2, f0, fk, hks]
        rfl
      · rw [Array.toList_modify]
        exact f2
end
end Go.Proofs.YtffopeihcebpjaaGreat.X
end
section
set_option linter.unusedVariables false
namespace Go.Proofs.YtffopeihcebpjaaGreat.X
open Go Go.RowKit
section
variable {P : Program} {w0 : Base} {σ : Sg} {T : Nat → Prop} {h : H} {w : World} {tm : List AV} {a : Act} {o : Oper}
theorem GoesV.goes {s : Sem Value} {v : AV} {h' : H} (q : GoesV P w0 σ T w s v h') : Goes P w0 σ T w (do pure (Next.value (← s))) v h' := by
  obtain ⟨σ', T', w', y, q1, q2, q3, q4, q5⟩ := q
  exact ⟨σ', T', w', _, y, q1, q2, val_run q3, .inl rfl, q4, q5⟩
theorem opA_ok {v : AV} {h' : H} {ws : List Nat} (lim : h'.n ≤ w0.lim) (e : opA P tm h o = some (v, h', ws)) (g : AVrs σ tm a.tmps.toList) (r : Hr w0 σ T h w) : Goes P w0 σ T w (execOp a.eval o) v h' := by
  rw [opA_eq] at e
  unfold opA0 at e
  split at e
  · rename_i x ho; cases e; exact move_ok (.inl ho) g r
  · rename_i x ho; cases e; exact move_ok (.inr ho) g r
  · rename_i c x y ho
    split at e
    · rename_i b hb
      cases e
      exact pick_ok ho hb g r
    · cases e
  · rename_i t ho
    split at e
    · rename_i z hz
      cases e
      exact alloc_ok lim ho hz g r
    · cases e
  · rename_i t x ho
    split at e
    · rename_i cs hc
      cases e
      exact box_ok lim ho hc g r
    · cases e
  · rename_i t x ho
    split at e
    · rename_i y hy
      cases e
      exact load_ok lim ho hy g r
    · cases e
  · rename_i t x y ho
    split at e
    · rename_i cs hc
      split at e
      · rename_i hs
        split at e
        · rename_i h2 hh
          cases e
          exact store_ok ho hc hs hh g r
        · cases e
      · cases e
    · cases e
  · rename_i x ho
    split at e
    · rename_i q; cases e; rw [← q]; exact nilCheck_ok ho (.inl ⟨_, _, _, _, q⟩) g r
    · rename_i q; cases e; rw [← q]; exact nilCheck_ok ho (.inr ⟨_, _, q⟩) g r
    · cases e
  · rename_i op t x y t2 ho
    split at e
    · rename_i q; cases e; exact binA_ok ho q g r
    · cases e
  · rename_i op t x ho
    split at e
    · rename_i y hy
      split at e
      · rename_i q; cases e; exact unOp_ok ho hy q g r
      · cases e
    · cases e
  · rename_i s d x ho
    split at e
    · rename_i y hy
      cases e
      unfold execOp
      rw [ho]
      exact (convA_ok hy (evalA_ok g x) r).goes
    · cases e
  · rename_i t x f ho
    split at e
    · rename_i q1 q2
      split at e
      · rename_i q3; cases e; exact fieldAddr_ok ho q1 q2 q3 g r
      · cases e
    · cases e
  · rename_i t x f ho
    split at e
    · rename_i q1 q2
      split at e
      · rename_i q3; cases e; exact field_ok ho q1 (.inl q2) q3 g r
      · cases e
    · rename_i q1 q2
      split at e
      · rename_i q3; cases e; exact field_ok ho q1 (.inr ⟨_, q2, rfl⟩) q3 g r
      · cases e
    · cases e
  · rename_i t x i ho
    split at e
    · rename_i q1 q2 q3
      split at e
      · rename_i hc; cases e; exact indexSlice_ok ho q1 q2 q3 hc.1 hc.2.1 hc.2.2 g r
      · cases e
    · rename_i q1 q2 q3
      split at e
      · rename_i q4
        split at e
        · rename_i hc; cases e; exact indexArr_ok ho q1 q2 q3 hc.1 hc.2 q4 g r
        · cases e
      · cases e
    · cases e
  · rename_i t x i ho
    split at e
    · rename_i q1 q2 q3
      split at e
      · rename_i h0
        split at e
        · rename_i hb; cases e; exact index_ok ho q1 q2 q3 h0 hb g r
        · cases e
      · cases e
    · cases e
  · rename_i t x lo hi mx ho
    split at e
    · rename_i q; cases e; exact slice_ok ho q g r
    · cases e
  · rename_i t parts ho
    split at e
    · rename_i q1 q2
      split at e
      · rename_i q3
        split at e
        · rename_i q4; cases e; exact buildS_ok ho q1 q2 q3 q4 g r
        · cases e
      · cases e
    · rename_i q1 q2
      split at e
      · rename_i q3
        split at e
        · rename_i q4; cases e; exact buildA_ok ho q1 q2 q3 q4 g r
        · cases e
      · cases e
    · cases e
  · rename_i t len parts ho
    split at e
    · rename_i q1
      split at e
      · rename_i q2
        split at e
        · rename_i q3
          split at e
          · rename_i hc
            split at e
            · rename_i q4
              split at e
              · rename_i q5; cases e; exact buildSlice_ok lim ho (elem_slice q1) q2 q3 hc.1 hc.2 q4 q5 g r
              · cases e
            · cases e
          · cases e
        · cases e
      · cases e
    · cases e
  · rename_i t l c ho
    split at e
    · rename_i q1
      split at e
      · rename_i q2 q3 q4 q5
        split at e
        · rename_i hc; cases e; exact makeSlice_ok lim ho (elem_slice q1) q2 q3 q4 q5 hc.1 hc.2.1 hc.2.2.1 hc.2.2.2 g r
        · cases e
      · cases e
    · cases e
  · rename_i f fs cap ho
    split at e
    · rename_i q; cases e; exact makeFunc_ok ho (by simpa using q) g r
    · cases e
  · rename_i t ho; cases e; exact makeMap_ok lim ho r
  · rename_i t m k ok ho
    split at e
    · rename_i q1 q2 q3 q4
      split at e
      · rename_i p1 p2 p3
        cases e
        have gm := evalA_ok g m
        rw [q3] at gm
        have gk := evalA_ok g k
        rw [q4] at gk
        obtain ⟨K, hK⟩ : ∃ K, K = a.eval k := ⟨_, rfl⟩
        rw [← hK] at gk
        cases gk
        unfold execOp
        rw [ho]
        refine (?_ : GoesV P w0 σ T w (Instr.lookup t (a.eval m) (a.eval k) false) _ _).goes
        rw [← hK]
        exact ⟨σ, T, w, _, σ.le_refl, fun _ q => q, lookup_ok (m := .un) (k := .un) (K := undef) q2 p1 p2 p3 gm r, r, .v _⟩
      · cases e
    · cases e
  · rename_i t m k x ho
    split at e
    · rename_i q1 q2 q3 q4
      split at e
      · rename_i p1 p2
        cases e
        have gm := evalA_ok g m
        rw [q2] at gm
        have gk := evalA_ok g k
        rw [q3] at gk
        have gx := evalA_ok g x
        rw [q4] at gx
        obtain ⟨K, hK⟩ : ∃ K, K = a.eval k := ⟨_, rfl⟩
        rw [← hK] at gk
        cases gk
        obtain ⟨X, hX⟩ : ∃ X, X = a.eval x := ⟨_, rfl⟩
        rw [← hX] at gx
        cases gx
        obtain ⟨w', m1, m2⟩ := mapUpdate_ok (P := P) (ki := _) (xi := _) q1 p1 p2 gm r
        refine ⟨σ, T, w', .skip, undef, σ.le_refl, fun _ q => q, ?_, .inr ⟨rfl, rfl⟩, m2, .un _⟩
        unfold execOp
        rw [ho]
        refine unit_run ?_
        rw [← hK, ← hX]
        exact m1
      · cases e
    · cases e
  · rename_i x i ho
    split at e
    · rename_i q1
      split at e
      · rename_i q2; cases e; exact extract_ok ho q1 q2 g r
      · cases e
    · cases e
  · rename_i c ho
    split at e
    · rename_i b hb
      have gs := evals_ok g c.args.toList
      unfold execOp
      rw [ho]
      show Goes P w0 σ T w (do let d ← resolve a.eval c o.type; invoke d.target d.args) _ _
      obtain ⟨σ', T', w', nx, y, k1, k2, k3, k4, k5, k6⟩ := builtinA_ok lim (cs := c.args.map fun | .const _ => true | _ => false) e gs r
      refine ⟨σ', T', w', nx, y, k1, k2, ?_, k4, k5, k6⟩
      rw [← k3]
      unfold resolve
      rw [hb]
      have : (c.args.toList.map a.eval).toArray = c.args.map a.eval := by rw [← Array.toList_map]
      rw [this]
      rfl
    · cases e
  · cases e
end
end Go.Proofs.YtffopeihcebpjaaGreat.X
end
section
set_option linter.unusedVariables false
namespace Go.Proofs.YtffopeihcebpjaaGreat.X
open Go
def eqV : Value → Value → Bool
  | .bool a, .bool b => a == b
  | .int k a, .int l b => decide (k = l) && decide (a = b)
  | .slice none m n, .slice none m' n' => decide (m = m') && decide (n = n')
  | .string a, .string b => decide (a.data.toList = b.data.toList)
  | .pointer none, .pointer none => true
  | .map none, .map none => true
  | .nilFunc, .nilFunc => true
  | _, _ => false
theorem eqV_eq : ∀ {a b : Value}, eqV a b = true → a = b := by
  intro a b h
  unfold eqV at h
  split at h
  · rw [eq_of_beq h]
  · rw [Bool.and_eq_true] at h
    rw [of_decide_eq_true h.1, of_decide_eq_true h.2]
  · rw [Bool.and_eq_true] at h
    rw [of_decide_eq_true h.1, of_decide_eq_true h.2]
  · rename_i x y
    have := of_decide_eq_true h
    have h2 : x.data = y.data := Array.toList_inj.1 this
    cases x; cases y
    simp at h2
    rw [h2]
  · rfl
  · rfl
  · rfl
  · cases h
mutual
def eqD : DV → DV → Bool
  | .v a, .v b => eqV a b
  | .sl s e, .sl s' e' => decide (s = s') && eqE e e'
  | .ag a, .ag b => eqL a b
  | .tu a, .tu b => eqL a b
  | _, _ => false
def eqL : List DV → List DV → Bool
  | [], [] => true
  | a :: r, b :: s => eqD a b && eqL r s
  | _, _ => false
def eqE : List (List DV) → List (List DV) → Bool
  | [], [] => true
  | a :: r, b :: s => eqL a b && eqE r s
  | _, _ => false
end
mutual
theorem eqD_eq : ∀ {a b : DV}, eqD a b = true → a = b
  | .v a, .v b, h => by rw [eqV_eq h]
  | .sl s e, .sl s' e', h => by
    unfold eqD at h
    rw [Bool.and_eq_true] at h
    rw [of_decide_eq_true h.1, eqE_eq h.2]
  | .ag a, .ag b, h => by unfold eqD at h; rw [eqL_eq h]
  | .tu a, .tu b, h => by unfold eqD at h; rw [eqL_eq h]
  | .v _, .sl .., h => by cases h
  | .v _, .ag .., h => by cases h
  | .v _, .tu .., h => by cases h
  | .sl .., .v .., h => by cases h
  | .sl .., .ag .., h => by cases h
  | .sl .., .tu .., h => by cases h
  | .ag .., .v .., h => by cases h
  | .ag .., .sl .., h => by cases h
  | .ag .., .tu .., h => by cases h
  | .tu .., .v .., h => by cases h
  | .tu .., .sl .., h => by cases h
  | .tu .., .ag .., h => by cases h
theorem eqL_eq : ∀ {a b : List DV}, eqL a b = true → a = b
  | [], [], _ => rfl
  | a :: r, b :: s, h => by
    unfold eqL at h
    rw [Bool.and_eq_true] at h
    rw [eqD_eq h.1, eqL_eq h.2]
  | [], _ :: _, h => by cases h
  | _ :: _, [], h => by cases h
theorem eqE_eq : ∀ {a b : List (List DV)}, eqE a b = true → a = b
  | [], [], _ => rfl
  | a :: r, b :: s, h => by
    unfold eqE at h
    rw [Bool.and_eq_true] at h
    rw [eqL_eq h.1, eqE_eq h.2]
  | [], _ :: _, h => by cases h
  | _ :: _, [], h => by cases h
end
mutual
def eqA : AV → AV → Bool
  | .v a, .v b => eqV a b
  | .sl o s f n c, .sl o' s' f' n' c' => decide (o = o') && decide (s = s') && decide (f = f') && decide (n = n') && decide (c = c')
  | .pt o s i f, .pt o' s' i' f' => decide (o = o') && decide (s = s') && decide (i = i') && decide (f = f')
  | .ag a, .ag b => eqAL a b
  | .tu a, .tu b => eqAL a b
  | .fn f a, .fn g b => decide (f = g) && eqAL a b
  | .mp o, .mp o' => decide (o = o')
  | .un, .un => true
  | _, _ => false
def eqAL : List AV → List AV → Bool
  | [], [] => true
  | a :: r, b :: s => eqA a b && eqAL r s
  | _, _ => false
end
mutual
theorem eqA_eq : ∀ {a b : AV}, eqA a b = true → a = b := by
  intro a b h
  match a, b, h with
  | .v a, .v b, h => rw [eqV_eq h]
  | .sl o s f n c, .sl o' s' f' n' c', h =>
    unfold eqA at h
    simp only [Bool.and_eq_true, decide_eq_true_eq] at h
    obtain ⟨⟨⟨⟨rfl, rfl⟩, rfl⟩, rfl⟩, rfl⟩ := h
    rfl
  | .pt o s i f, .pt o' s' i' f', h =>
    unfold eqA at h
    simp only [Bool.and_eq_true, decide_eq_true_eq] at h
    obtain ⟨⟨⟨rfl, rfl⟩, rfl⟩, rfl⟩ := h
    rfl
  | .ag a, .ag b, h => unfold eqA at h; rw [eqAL_eq h]
  | .tu a, .tu b, h => unfold eqA at h; rw [eqAL_eq h]
  | .fn f a, .fn g b, h =>
    unfold eqA at h
    rw [Bool.and_eq_true] at h
    rw [of_decide_eq_true h.1, eqAL_eq h.2]
  | .mp o, .mp o', h => rw [of_decide_eq_true h]
  | .un, .un, _ => rfl
theorem eqAL_eq : ∀ {a b : List AV}, eqAL a b = true → a = b
  | [], [], _ => rfl
  | a :: r, b :: s, h => by
    unfold eqAL at h
    rw [Bool.and_eq_true] at h
    rw [eqA_eq h.1, eqAL_eq h.2]
  | [], _ :: _, h => by cases h
  | _ :: _, [], h => by cases h
end
def sameOb : Ob → Ob → Bool
  | .box a, .box b => eqAL a b
  | .row s e o, .row s' e' o' => decide (s = s') && (o == o') && eqE e e'
  | .map a, .map b => decide (a = b)
  | .dead, .dead => true
  | _, _ => false
theorem sameOb_eq : ∀ {a b : Ob}, sameOb a b = true → a = b := by
  intro a b h
  unfold sameOb at h
  split at h
  · rw [eqAL_eq h]
  · simp only [Bool.and_eq_true] at h
    rw [of_decide_eq_true h.1.1, eq_of_beq h.1.2, eqE_eq h.2]
  · rw [of_decide_eq_true h]
  · rfl
  · cases h
end Go.Proofs.YtffopeihcebpjaaGreat.X
end
section
set_option linter.unusedVariables false
namespace Go.Proofs.YtffopeihcebpjaaGreat.X
open Go
inductive Ex where | normal | exit (i : Nat) | ret | goto (l : Nat)
  deriving Inhabited
structure St where
  tm : List AV
  h : H
  deriving Inhabited
/-- What an operation reads besides its operands. -/
def readsA (tm : List AV) (o : Oper) : List Nat := match o.op with
  | .load _ a => objOf (evalA tm a)
  | .lookup _ m _ _ => objOf (evalA tm m)
  | .convert _ _ x => objOf (evalA tm x)
  | _ => []
/-- Operations that change nothing that is there. -/
def quietA (o : Oper) : Bool := match o.op with
  | .move _ => true
  | .assign _ => true
  | .pick .. => true
  | .alloc _ => true
  | .box .. => true
  | .load .. => true
  | .nilCheck _ => true
  | .binOp .. => true
  | .unOp .. => true
  | .convert .. => true
  | .fieldAddr .. => true
  | .field .. => true
  | .indexAddr .. => true
  | .index .. => true
  | .slice .. => true
  | .build .. => true
  | .makeSlice .. => true
  | .makeFunc .. => true
  | .makeMap .. => true
  | .lookup .. => true
  | .extract .. => true
  | .call c => match c.callee with
    | .builtin .len => true
    | .builtin .min => true
    | .builtin .max => true
    | _ => false
  | _ => false
/-- Is it the temporary that an operation gives? -/
def dstIs (t : Tmp) (o : Oper) : Bool := match o.dst with
  | some d => Nat.beq d t
  | none => false
/-- Whoever gives a temporary that is looked at has been waited for, or waits. -/
def lookOk (bits : Nat) (i : Nat) (t : Tmp) : Nat → List Oper → List Nat → Bool
  | _, [], _ => true
  | j, o :: r, bs => (!dstIs t o || bits.testBit j || (bs.headD 0).testBit i || Nat.beq i j) && lookOk bits i t (j + 1) r bs.tail
/-- Of an operation of a drawn region that was carried out: number, ids given, is it an effect, the heap before and behind, what it read. -/
structure Lg where
  i : Nat
  lo : Nat
  hi : Nat
  eff : Bool
  pre : H
  post : H
  reads : List Nat
/-- Whom each operation waits for, as bits. -/
def bitsOf (acc : List Nat) (n : Nat) (o : Oper) : Nat :=
  o.after.toList.foldl (fun m e => if Region.binds .any e then m ||| 2 ^ e.on ||| acc.getD (n - 1 - e.on) 0 else m) 0
def bitsL (acc : List Nat) (n : Nat) : List Oper → List Nat
  | [] => []
  | o :: r => bitsOf acc n o :: bitsL (bitsOf acc n o :: acc) (n + 1) r
/-- Is a drawn region as regions are: it waits for earlier operations alone; each gives a temporary of its own; what is looked at has been waited for. -/
def regOkL (ops : Array Oper) (all : List Oper) (abs : List Nat) : Nat → List Oper → List Nat → Bool
  | _, [], _ => true
  | i, o :: r, bs => o.after.toList.all (fun e => !Region.binds .any e || Nat.blt e.on i) && (o.looksAt ops).all (fun t => lookOk (bs.headD 0) i t 0 all abs) && (match o.dst with
    | some d => r.all fun q => !dstIs d q
    | none => true) && regOkL ops all abs (i + 1) r bs.tail
def regOk (ops : Array Oper) : Bool := regOkL ops ops.toList (bitsL [] 0 ops.toList) 0 ops.toList (bitsL [] 0 ops.toList)
/-- May the two have come in the other order? -/
def pairOk (bits : Nat) (g e : Lg) : Bool :=
  bits.testBit g.i || (!(g.eff && e.eff) && e.reads.all (fun x => !(Nat.ble g.lo x && Nat.blt x g.hi)) &&
    (!e.eff || g.reads.all fun x => sameOb (e.pre.get x) (e.post.get x)) && (!g.eff || e.reads.all fun x => sameOb (g.pre.get x) (g.post.get x)))
/-- The ids that an operation does not see: given by those it does not wait for. -/
def hidOf (bits : Nat) : List Lg → List Nat
  | [] => []
  | g :: r => if bits.testBit g.i then hidOf bits r else (List.range (g.hi - g.lo)).map (g.lo + ·) ++ hidOf bits r
def hideA (hid : List Nat) (h : H) : H := ⟨hid.map (fun o => (o, Ob.dead)) ++ h.l, h.n⟩
def backA (hid : List Nat) (h h' : H) : H := ⟨hid.map (fun o => (o, h.get o)) ++ h'.l, h'.n⟩
def resA (P : Program) (st : St) : List ResultVar → Option (List AV × H)
  | [] => some ([], st.h)
  | .tmp t :: r => match resA P st r with
    | some x => some (st.tm.getD t .un :: x.1, x.2)
    | none => none
  | .cell a t :: r => match loadA P t (st.tm.getD a .un) st.h with
    | some x => match resA P ⟨st.tm, x.2⟩ r with
      | some y => some (x.1 :: y.1, y.2)
      | none => none
    | none => none
def oneOf : List AV → AV
  | [a] => a
  | as => .tu as
/-- What is told of some functions as a whole. -/
abbrev Told := FuncId → List AV → H → Option (AV × H)
def stepA (P : Program) (call : Told) (tm : List AV) (h : H) (o : Oper) : Option (AV × H) :=
  match calleeA tm o with
  | some c => call c.1 c.2 h
  | none => match opA P tm h o with
    | some r => some (r.1, r.2.1)
    | none => none
def regionA (P : Program) (call : Told) (ops : Array Oper) : List Oper → List AV → H → Option St
  | [], tm, h => some ⟨tm, h⟩
  | o :: rest, tm, h => match wantA ops tm o with
    | none => none
    | some false => regionA P call ops rest (putA tm o.dst .un) h
    | some true => match stepA P call tm h o with
      | none => none
      | some r => regionA P call ops rest (putA tm o.dst r.1) r.2
def drawnA (P : Program) (call : Told) (ops : Array Oper) : List Oper → Nat → List Lg → List AV → H → List Nat → Option St
  | [], i, log, tm, h, _ => some ⟨tm, h⟩
  | o :: rest, i, log, tm, h, bits => match wantA ops tm o with
      | none => none
      | some false => drawnA P call ops rest (i + 1) log (putA tm o.dst .un) h bits.tail
      | some true =>
        if quietA o then match opA P tm h o with
          | none => none
          | some r => if log.all (pairOk (bits.headD 0) · ⟨i, h.n, r.2.1.n, false, h, r.2.1, readsA tm o⟩) then
              drawnA P call ops rest (i + 1) (⟨i, h.n, r.2.1.n, false, h, r.2.1, readsA tm o⟩ :: log) (putA tm o.dst r.1) r.2.1 bits.tail else none
        else match stepA P call tm (hideA (hidOf (bits.headD 0) log) h) o with
          | none => none
          | some r => if log.all (pairOk (bits.headD 0) · ⟨i, h.n, r.2.n, true, h, backA (hidOf (bits.headD 0) log) h r.2, []⟩) then
              drawnA P call ops rest (i + 1) (⟨i, h.n, r.2.n, true, h, backA (hidOf (bits.headD 0) log) h r.2, []⟩ :: log) (putA tm o.dst r.1) (backA (hidOf (bits.headD 0) log) h r.2) bits.tail else none
/-- Are all drawn regions of a code as regions are? -/
def codeOkB : Code → Bool
  | .region _ ops d => !d || regOk ops
  | .seq a b => codeOkB a && codeOkB b
  | .cond _ x y => codeOkB x && codeOkB y
  | .block _ b => codeOkB b
  | .loop b => codeOkB b
  | .scope b => codeOkB b
  | _ => true
/-- What is asked of a program: no function of it is the runtime's count of goroutines, and its drawn regions are as regions are. -/
def saneB (P : Program) : Bool := P.funcs.toList.all fun fn => !(fn.name == "runtime.NumGoroutine") && match fn.body with
  | some c => codeOkB c
  | none => true
/-- Operations that may read or make objects. -/
def memA (o : Oper) : Bool := match o.op with
  | .load .. => true
  | .lookup .. => true
  | .convert .. => true
  | .alloc _ => true
  | .box .. => true
  | .makeSlice .. => true
  | .makeMap .. => true
  | _ => false
/-- The same run; what neither reads nor makes objects is not kept in mind. -/
def drawnB (P : Program) (call : Told) (ops : Array Oper) : List Oper → Nat → List Lg → List AV → H → List Nat → Option St
  | [], i, log, tm, h, _ => some ⟨tm, h⟩
  | o :: rest, i, log, tm, h, bits => match wantA ops tm o with
      | none => none
      | some false => drawnB P call ops rest (i + 1) log (putA tm o.dst .un) h bits.tail
      | some true =>
        if quietA o then match opA P tm h o with
          | none => none
          | some r => if memA o then (if log.all (pairOk (bits.headD 0) · ⟨i, h.n, r.2.1.n, false, h, r.2.1, readsA tm o⟩) then
              drawnB P call ops rest (i + 1) (⟨i, h.n, r.2.1.n, false, h, r.2.1, readsA tm o⟩ :: log) (putA tm o.dst r.1) r.2.1 bits.tail else none)
            else drawnB P call ops rest (i + 1) log (putA tm o.dst r.1) r.2.1 bits.tail
        else match stepA P call tm (hideA (hidOf (bits.headD 0) log) h) o with
          | none => none
          | some r => if log.all (pairOk (bits.headD 0) · ⟨i, h.n, r.2.n, true, h, backA (hidOf (bits.headD 0) log) h r.2, []⟩) then
              drawnB P call ops rest (i + 1) (⟨i, h.n, r.2.n, true, h, backA (hidOf (bits.headD 0) log) h r.2, []⟩ :: log) (putA tm o.dst r.1) (backA (hidOf (bits.headD 0) log) h r.2) bits.tail else none
abbrev Run := St → Option (Ex × St)
def loopN (b : Run) : Nat → Run
  | 0, _ => none
  | n + 1, st => match b st with
    | some (.normal, st) => loopN b n st
    | r => r
def scopeN (low : Code → Run) (b : Code) : Nat → Code → Run
  | 0, _, _ => none
  | n + 1, c, st => match low c st with
    | some (.goto l, st) => match findLabel b l with
      | some b' => scopeN low b n b' st
      | none => some (.goto l, st)
    | r => r
def codeK (P : Program) (call : Told) (n : Nat) (low : Code → Run) : Code → Run
  | .skip, st => some (.normal, st)
  | .region _ ops d, st => match (if d then drawnB P call ops ops.toList 0 [] st.tm st.h (bitsL [] 0 ops.toList) else regionA P call ops ops.toList st.tm st.h) with
    | some r => some (.normal, r)
    | none => none
  | .seq a b, st => match codeK P call n low a st with
    | some (.normal, st) => codeK P call n low b st
    | r => r
  | .cond c x y, st => match evalA st.tm c with
    | .v (.bool true) => codeK P call n low x st
    | .v (.bool false) => codeK P call n low y st
    | _ => none
  | .block i b, st => match codeK P call n low b st with
    | some (.exit j, st) => if j = i then some (.normal, st) else some (.exit j, st)
    | r => r
  | .loop b, st => loopN (codeK P call n low b) n st
  | .exit i, st => some (.exit i, st)
  | .ret, st => some (.ret, st)
  | .label _, st => some (.normal, st)
  | .goto l, st => some (.goto l, st)
  | .scope b, st => scopeN low b n b st
  | _, _ => none
def codeA (P : Program) (call : Told) (n : Nat) : Nat → Code → Run
  | 0, _, _ => none
  | k + 1, c, st => codeK P call n (codeA P call n k) c st
def callB (P : Program) (n k : Nat) (call : Told) : Told := fun f args h =>
  match P.funcs[f]? with
  | none => none
  | some fn => match fn.body with
    | none => none
    | some b => match codeA P call n k b ⟨args ++ List.replicate (fn.ntmps - args.length) .un, h⟩ with
      | some (.normal, st) => match resA P st fn.results.toList with
        | none => none
        | some r => some (oneOf r.1, r.2)
      | some (.ret, st) => match resA P st fn.results.toList with
        | none => none
        | some r => some (oneOf r.1, r.2)
      | _ => none
def callN (P : Program) (G : Told) (n k : Nat) : Nat → Told
  | 0, f, args, h => none
  | d + 1, f, args, h => match G f args h with
    | some r => some r
    | none => callB P n k (callN P G n k d) f args h
end Go.Proofs.YtffopeihcebpjaaGreat.X
end
section
set_option linter.unusedVariables false
namespace Go.Proofs.YtffopeihcebpjaaGreat.X
open Go Go.RowKit
def H.ok (h : H) : Prop := ∀ p ∈ h.l, p.1 < h.n
theorem getL_mem : ∀ (l : List (Nat × Ob)) (o : Nat), getL l o ≠ .dead → ∃ b, (o, b) ∈ l
  | [], o, h => absurd rfl h
  | (k, b) :: r, o, h => by
    unfold getL at h
    split at h
    · rename_i q
      have := Nat.eq_of_beq_eq_true q
      subst this
      exact ⟨b, List.mem_cons_self ..⟩
    · obtain ⟨b', hb⟩ := getL_mem r o h
      exact ⟨b', List.mem_cons_of_mem _ hb⟩
theorem H.ok.lt {h : H} (q : h.ok) {o : Nat} (hd : h.get o ≠ .dead) : o < h.n := by
  obtain ⟨b, hb⟩ := getL_mem h.l o hd
  exact q _ hb
theorem setL_keys (o : Nat) (x : Ob) : ∀ (l : List (Nat × Ob)) p, p ∈ setL l o x → ∃ q ∈ l, q.1 = p.1
  | [], p, h => by cases h
  | (k, b) :: r, p, h => by
    unfold setL at h
    split at h
    · rcases List.mem_cons.1 h with rfl | h
      · exact ⟨(k, b), List.mem_cons_self .., rfl⟩
      · exact ⟨p, List.mem_cons_of_mem _ h, rfl⟩
    · rcases List.mem_cons.1 h with rfl | h
      · exact ⟨(k, b), List.mem_cons_self .., rfl⟩
      · obtain ⟨q, q1, q2⟩ := setL_keys o x r p h
        exact ⟨q, List.mem_cons_of_mem _ q1, q2⟩
def Grows (h h' : H) : Prop := h.n ≤ h'.n ∧ (h.ok → h'.ok)
theorem Grows.refl (h : H) : Grows h h := ⟨Nat.le_refl _, id⟩
theorem Grows.trans {a b c : H} (h : Grows a b) (g : Grows b c) : Grows a c := ⟨Nat.le_trans h.1 g.1, fun q => g.2 (h.2 q)⟩
theorem Grows.set (h : H) (o : Nat) (x : Ob) : Grows h (h.set o x) := ⟨Nat.le_refl _, fun q p hp => by
  obtain ⟨y, y1, y2⟩ := setL_keys o x h.l p hp
  rw [← y2]
  exact q y y1⟩
theorem Grows.new (h : H) (x : Ob) : Grows h (h.new x) := ⟨Nat.le_succ _, fun q p hp => by
  rcases List.mem_cons.1 hp with rfl | hp
  · exact Nat.lt_succ_self _
  · exact Nat.lt_succ_of_lt (q p hp)⟩
mutual
theorem openD_grows : ∀ (d : DV) (h : H), Grows h (openD h d).2
  | .v _, h => Grows.refl h
  | .sl _ _, h => Grows.new h _
  | .ag cs, h => openL_grows cs h
  | .tu cs, h => openL_grows cs h
theorem openL_grows : ∀ (ds : List DV) (h : H), Grows h (openL h ds).2
  | [], h => Grows.refl h
  | d :: ds, h => (openD_grows d h).trans (openL_grows ds (openD h d).2)
end
mutual
theorem sealD_grows : ∀ (a : AV) (h : H) (y : DV × H), sealD h a = some y → Grows h y.2
  | .v _, h, y, e => by cases e; exact Grows.refl h
  | .sl o sz off n c, h, y, e => by
    unfold sealD at e
    split at e
    · split at e
      · cases e
        dsimp only
        split
        · exact Grows.set h _ _
        · exact Grows.refl h
      · cases e
    · cases e
  | .ag cs, h, y, e => by
    unfold sealD at e
    split at e
    · rename_i z hz; cases e; exact sealL_grows cs h z hz
    · cases e
  | .tu cs, h, y, e => by
    unfold sealD at e
    split at e
    · rename_i z hz; cases e; exact sealL_grows cs h z hz
    · cases e
  | .pt .., h, y, e => by simp [sealD] at e
  | .fn .., h, y, e => by simp [sealD] at e
  | .mp .., h, y, e => by simp [sealD] at e
  | .un, h, y, e => by simp [sealD] at e
theorem sealL_grows : ∀ (as : List AV) (h : H) (y : List DV × H), sealL h as = some y → Grows h y.2
  | [], h, y, e => by cases e; exact Grows.refl h
  | a :: as, h, y, e => by
    unfold sealL at e
    split at e
    · cases e
    · rename_i z hz
      split at e
      · cases e
      · rename_i u hu
        cases e
        exact (sealD_grows a h z hz).trans (sealL_grows as z.2 u hu)
end
theorem loadA_grows {P : Program} {t : TypeId} {a : AV} {h : H} {y : AV × H} (e : loadA P t a h = some y) : Grows h y.2 := by
  unfold loadA at e
  repeat' (split at e)
  all_goals first
    | (cases e; done)
    | (cases e; first | exact Grows.refl _ | exact openL_grows _ _)
theorem storeA_grows {a : AV} {xs : List AV} {h h' : H} (e : storeA a xs h = some h') : Grows h h' := by
  unfold storeA at e
  split at e
  · cases e
  split at e
  · split at e
    · split at e
      · cases e; exact Grows.set _ _ _
      · cases e
    · split at e
      · rename_i r hr
        split at e
        · split at e
          · split at e
            · cases e; exact (sealL_grows _ _ _ hr).trans (Grows.set _ _ _)
            · cases e
          · cases e
        · cases e
      · cases e
    · cases e
  · cases e
theorem appendA_grows {P : Program} {ts : Array TypeId} {s x : AV} {h : H} {y : AV × H} (e : appendA P ts s x h = some y) : Grows h y.2 := by
  unfold appendA at e
  repeat' (split at e)
  all_goals first
    | (cases e; done)
    | (cases e; first | exact Grows.refl _ | exact Grows.new _ _ | exact (Grows.set _ _ _).trans (Grows.new _ _))
theorem copyA_grows {es : Nat} {d : AV} {new : List (List DV)} {h : H} {y : AV × H} (e : copyA es d new h = some y) : Grows h y.2 := by
  unfold copyA at e
  repeat' (split at e)
  all_goals first
    | (cases e; done)
    | (cases e; first | exact Grows.refl _ | exact Grows.set _ _ _)
theorem clearA_grows {P : Program} {ts : Array TypeId} {x : AV} {h : H} {y : AV × H} (e : clearA P ts x h = some y) : Grows h y.2 := by
  unfold clearA at e
  repeat' (split at e)
  all_goals first
    | (cases e; done)
    | (cases e; first | exact Grows.refl _ | exact Grows.set _ _ _)
theorem convA_grows {P : Program} {s d : TypeId} {x : AV} {h : H} {y : AV × H} (e : convA P s d x h = some y) : y.2 = h := by
  unfold convA at e
  repeat' (split at e)
  all_goals first
    | (cases e; done)
    | (cases e; rfl)
theorem builtinA_grows {P : Program} {b : Builtin} {ts : Array TypeId} {ty : TypeId} {xs : List AV} {h : H} {y : AV × H × List Nat} (e : builtinA P b ts ty xs h = some y) : Grows h y.2.1 := by
  unfold builtinA at e
  split at e
  · split at e <;> cases e
    exact Grows.refl _
  · split at e <;> cases e
    exact Grows.refl _
  · split at e
    · rename_i q; cases e; exact appendA_grows q
    · cases e
  · split at e
    · split at e
      · split at e
        · split at e
          · rename_i q; cases e; exact copyA_grows q
          · cases e
        · cases e
      · cases e
    · cases e
  · split at e
    · rename_i q; cases e; exact clearA_grows q
    · cases e
  · split at e
    · split at e <;> cases e
      exact Grows.refl _
    · cases e
  · split at e
    · split at e <;> cases e
      exact Grows.refl _
    · cases e
  · cases e
theorem opA_grows {P : Program} {tm : List AV} {h : H} {o : Oper} {y : AV × H × List Nat} (e : opA P tm h o = some y) : Grows h y.2.1 := by
  rw [opA_eq] at e
  unfold opA0 at e
  split at e
  all_goals first
    | (cases e; first | exact Grows.refl _ | exact Grows.new _ _)
    | (split at e <;> first | (cases e; done) | (cases e; first | exact Grows.refl _ | exact Grows.new _ _ | (rename_i q; exact loadA_grows q) | (rename_i q; rw [convA_grows q]; exact Grows.refl _)))
    | skip
  all_goals repeat' (split at e)
  all_goals first
    | (cases e; done)
    | (cases e; first
      | exact Grows.refl _
      | exact Grows.new _ _
      | exact Grows.set _ _ _
      | (rename_i q; exact storeA_grows q)
      | (rename_i q; exact (sealL_grows _ _ _ q).trans (Grows.new _ _)))
    | exact builtinA_grows e
theorem resA_grows {P : Program} {tm : List AV} : ∀ (rs : List ResultVar) (h : H) (y : List AV × H), resA P ⟨tm, h⟩ rs = some y → Grows h y.2
  | [], h, y, e => by cases e; exact Grows.refl _
  | .tmp t :: r, h, y, e => by
    unfold resA at e
    split at e
    · rename_i x hx; cases e; exact resA_grows r h x hx
    · cases e
  | .cell a t :: r, h, y, e => by
    unfold resA at e
    split at e
    · rename_i x hx
      split at e
      · rename_i z hz
        cases e
        exact (loadA_grows hx).trans (resA_grows r x.2 z hz)
      · cases e
    · cases e
theorem hideA_grows {hid : List Nat} {h h' : H} (hh : ∀ x ∈ hid, x < h.n) (g : Grows (hideA hid h) h') : Grows h (backA hid h h') := by
  refine ⟨g.1, fun q => ?_⟩
  have q1 : (hideA hid h).ok := fun p hp => by
    rcases List.mem_append.1 hp with hp | hp
    · obtain ⟨x, hx, rfl⟩ := List.mem_map.1 hp
      exact hh x hx
    · exact q p hp
  have q2 := g.2 q1
  intro p hp
  rcases List.mem_append.1 hp with hp | hp
  · obtain ⟨x, hx, rfl⟩ := List.mem_map.1 hp
    exact Nat.lt_of_lt_of_le (hh x hx) g.1
  · exact q2 p hp
theorem hidOf_lt {bits n : Nat} : ∀ {log : List Lg}, (∀ g ∈ log, g.hi ≤ n) → ∀ x ∈ hidOf bits log, x < n
  | [], _, x, hx => by cases hx
  | g :: r, hl, x, hx => by
    unfold hidOf at hx
    split at hx
    · exact hidOf_lt (fun g hg => hl g (List.mem_cons_of_mem _ hg)) x hx
    · rcases List.mem_append.1 hx with hx | hx
      · obtain ⟨k, hk, rfl⟩ := List.mem_map.1 hx
        have := List.mem_range.1 hk
        have := hl g (List.mem_cons_self ..)
        omega
      · exact hidOf_lt (fun g hg => hl g (List.mem_cons_of_mem _ hg)) x hx
/-- Contracts whose heaps grow. -/
def ToldGrows (G : Told) : Prop := ∀ f args h y, G f args h = some y → Grows h y.2
section
variable {P : Program} {C : Told}
theorem stepA_grows (hC : ToldGrows C) {tm : List AV} {h : H} {o : Oper} {y : AV × H} (e : stepA P C tm h o = some y) : Grows h y.2 := by
  unfold stepA at e
  split at e
  · exact hC _ _ _ _ e
  · split at e
    · rename_i r hr; cases e; exact opA_grows hr
    · cases e
theorem regionA_grows (hC : ToldGrows C) {ops : Array Oper} : ∀ (l : List Oper) (tm : List AV) (h : H) (y : St), regionA P C ops l tm h = some y → Grows h y.h
  | [], tm, h, y, e => by unfold regionA at e; cases e; exact Grows.refl _
  | o :: l, tm, h, y, e => by
    unfold regionA at e
    split at e
    · cases e
    · exact regionA_grows hC l _ _ _ e
    · split at e
      · cases e
      · rename_i r hr
        exact (stepA_grows hC hr).trans (regionA_grows hC l _ _ _ e)
theorem drawnA_grows (hC : ToldGrows C) {ops : Array Oper} : ∀ (l : List Oper) (i : Nat) (log : List Lg) (tm : List AV) (h : H) (bits : List Nat) (y : St), drawnA P C ops l i log tm h bits = some y → (∀ g ∈ log, g.hi ≤ h.n) → Grows h y.h
  | [], i, log, tm, h, bits, y, e, hl => by unfold drawnA at e; cases e; exact Grows.refl _
  | o :: l, i, log, tm, h, bits, y, e, hl => by
    unfold drawnA at e
    split at e
    · cases e
    · exact drawnA_grows hC l _ _ _ _ _ _ e hl
    · split at e
      · split at e
        · cases e
        · rename_i r hr
          have g1 := opA_grows hr
          split at e
          · refine g1.trans (drawnA_grows hC l _ _ _ _ _ _ e (fun g hg => ?_))
            rcases List.mem_cons.1 hg with rfl | hg
            · exact Nat.le_refl _
            · exact Nat.le_trans (hl g hg) g1.1
          · cases e
      · split at e
        · cases e
        · rename_i r hr
          have g1 := hideA_grows (hidOf_lt hl) (stepA_grows hC hr)
          split at e
          · refine g1.trans (drawnA_grows hC l _ _ _ _ _ _ e (fun g hg => ?_))
            rcases List.mem_cons.1 hg with rfl | hg
            · exact Nat.le_refl _
            · exact Nat.le_trans (hl g hg) g1.1
          · cases e
/-- A log, and the same log with entries that neither read nor make objects. -/
inductive Sub : List Lg → List Lg → Prop
  | nil : Sub [] []
  | keep (g : Lg) (a b : List Lg) (h : Sub a b) : Sub (g :: a) (g :: b)
  | more (g : Lg) (a b : List Lg) (h1 : g.lo = g.hi) (h2 : g.eff = false) (h3 : g.reads = []) (h : Sub a b) : Sub a (g :: b)
theorem Sub.hid {bits : Nat} : ∀ {a b : List Lg}, Sub a b → hidOf bits b = hidOf bits a
  | _, _, .nil => rfl
  | _, _, .keep g a b h => by
    unfold hidOf
    rw [h.hid]
  | _, _, .more g a b h1 h2 h3 h => by
    rw [← h.hid]
    show (if bits.testBit g.i then hidOf bits b else (List.range (g.hi - g.lo)).map (g.lo + ·) ++ hidOf bits b) = _
    split
    · rfl
    · rw [h1, Nat.sub_self]; rfl
theorem pair_triv {bits : Nat} {g e : Lg} (h1 : g.lo = g.hi) (h2 : g.eff = false) (h3 : g.reads = []) : pairOk bits g e = true := by
  unfold pairOk
  rw [h2, h3]
  simp only [Bool.false_and, Bool.not_false, Bool.true_or, Bool.and_true, Bool.true_and, List.all_nil, Bool.or_true, Bool.or_eq_true]
  refine .inr ?_
  rw [List.all_eq_true]
  intro x _
  rw [h1]
  cases q : Nat.ble g.hi x with
  | false => rfl
  | true =>
    have : g.hi ≤ x := Nat.ble_eq.mp q
    cases q2 : Nat.blt x g.hi with
    | false => rfl
    | true => have : x < g.hi := Nat.ble_eq.mp q2; omega
theorem pair_triv2 {bits : Nat} {g e : Lg} (h2 : e.eff = false) (h3 : e.reads = []) : pairOk bits g e = true := by
  unfold pairOk
  rw [h2, h3]
  cases g.eff <;> simp
theorem Sub.all {bits : Nat} {e : Lg} : ∀ {a b : List Lg}, Sub a b → b.all (pairOk bits · e) = a.all (pairOk bits · e)
  | _, _, .nil => rfl
  | _, _, .keep g a b h => by rw [List.all_cons, List.all_cons, h.all]
  | _, _, .more g a b h1 h2 h3 h => by rw [List.all_cons, pair_triv h1 h2 h3, Bool.true_and, h.all]
theorem opA_still {tm : List AV} {h : H} {o : Oper} {y : AV × H × List Nat} (hq : quietA o = true) (hm : memA o = false) (e : opA P tm h o = some y) : y.2.1 = h ∧ readsA tm o = [] := by
  rw [opA_eq] at e
  unfold opA0 at e
  unfold quietA at hq
  unfold memA at hm
  unfold readsA
  cases ho : o.op
  all_goals rw [ho] at e hq hm
  all_goals try (cases hq; done)
  all_goals try (cases hm; done)
  case call c =>
    simp only at e hq ⊢
    cases hc : c.callee with
    | builtin b =>
      rw [hc] at e hq
      simp only at e hq
      cases b
      all_goals try (cases hq; done)
      all_goals unfold builtinA at e
      all_goals repeat' split at e
      all_goals first | (cases e; done) | contradiction | (cases e; first | exact ⟨rfl, trivial⟩ | exact ⟨rfl, rfl⟩)
    | _ => rw [hc] at hq; cases hq
  all_goals simp only at e ⊢
  all_goals repeat' split at e
  all_goals first | (cases e; done) | contradiction | (cases e; first | exact ⟨rfl, trivial⟩ | exact ⟨rfl, rfl⟩)
theorem drawnB_A {ops : Array Oper} : ∀ (l : List Oper) (i : Nat) (log log' : List Lg) (tm : List AV) (h : H) (bits : List Nat) (y : St), Sub log log' → drawnB P C ops l i log tm h bits = some y → drawnA P C ops l i log' tm h bits = some y
  | [], i, log, log', tm, h, bits, y, s, e => e
  | o :: l, i, log, log', tm, h, bits, y, s, e => by
    unfold drawnB at e
    unfold drawnA
    split at e
    · cases e
    · exact drawnB_A l _ _ _ _ _ _ _ s e
    · split at e
      · rename_i hq
        rw [if_pos hq]
        split at e
        · cases e
        · rename_i r hr
          try rw [hr]
          try simp only
          split at e
          · split at e
            · rename_i hl
              rw [s.all, if_pos hl]
              exact drawnB_A l _ _ _ _ _ _ _ (.keep _ _ _ s) e
            · cases e
          · rename_i hm
            obtain ⟨k1, k2⟩ := opA_still hq (by simpa using hm) hr
            rw [if_pos (List.all_eq_true.2 fun g _ => pair_triv2 rfl k2)]
            exact drawnB_A l _ _ _ _ _ _ _ (.more _ _ _ (by rw [k1]) rfl k2 s) e
      · rename_i hq
        rw [if_neg hq, s.hid]
        split at e
        · cases e
        · rename_i r hr
          try rw [hr]
          try simp only
          split at e
          · rename_i hl
            rw [s.all, if_pos hl]
            exact drawnB_A l _ _ _ _ _ _ _ (.keep _ _ _ s) e
          · cases e
def RunGrows (b : Run) : Prop := ∀ st y, b st = some y → Grows st.h y.2.h
theorem loopN_grows {b : Run} (hb : RunGrows b) : ∀ n, RunGrows (loopN b n)
  | 0 => fun st y e => by cases e
  | n + 1 => fun st y e => by
    unfold loopN at e
    split at e
    · rename_i s hs; exact (hb _ _ hs).trans (loopN_grows hb n _ _ e)
    · exact hb _ _ e
theorem scopeN_grows {low : Code → Run} (hl : ∀ c, RunGrows (low c)) (b : Code) : ∀ n c, RunGrows (scopeN low b n c)
  | 0, c => fun st y e => by cases e
  | n + 1, c => fun st y e => by
    unfold scopeN at e
    split at e
    · rename_i l s hs
      split at e
      · exact (hl _ _ _ hs).trans (scopeN_grows hl b n _ _ _ e)
      · cases e; exact hl _ _ _ hs
    · exact hl _ _ _ e
theorem codeK_grows (hC : ToldGrows C) {n : Nat} {low : Code → Run} (hl : ∀ c, RunGrows (low c)) : ∀ c, RunGrows (codeK P C n low c) := by
  intro c
  induction c with
  | skip => intro st y e; unfold codeK at e; cases e; exact Grows.refl _
  | region id ops d =>
    intro st y e
    unfold codeK at e
    split at e
    · rename_i r hr
      cases e
      split at hr
      · exact drawnA_grows hC _ _ _ _ _ _ _ (drawnB_A _ _ _ _ _ _ _ _ Sub.nil hr) (fun g hg => by cases hg)
      · exact regionA_grows hC _ _ _ _ hr
    · cases e
  | seq a b ia ib =>
    intro st y e
    unfold codeK at e
    split at e
    · rename_i s hs; exact (ia _ _ hs).trans (ib _ _ e)
    · exact ia _ _ e
  | cond c x y ix iy =>
    intro st z e
    unfold codeK at e
    split at e
    · exact ix _ _ e
    · exact iy _ _ e
    · cases e
  | block i b ib =>
    intro st y e
    unfold codeK at e
    split at e
    · rename_i s hs
      have g1 := ib _ _ hs
      split at e <;> (cases e; exact g1)
    · exact ib _ _ e
  | loop b ib => intro st y e; unfold codeK at e; exact loopN_grows ib n _ _ e
  | exit i => intro st y e; unfold codeK at e; cases e; exact Grows.refl _
  | ret => intro st y e; unfold codeK at e; cases e; exact Grows.refl _
  | label l => intro st y e; unfold codeK at e; cases e; exact Grows.refl _
  | goto l => intro st y e; unfold codeK at e; cases e; exact Grows.refl _
  | scope b ib => intro st y e; unfold codeK at e; exact scopeN_grows hl b n b _ _ e
  | _ => intro st y e; cases e
theorem codeA_grows (hC : ToldGrows C) {n : Nat} : ∀ k c, RunGrows (codeA P C n k c)
  | 0, c => fun st y e => by cases e
  | k + 1, c => fun st y e => codeK_grows hC (codeA_grows hC k) c st y e
theorem callB_grows (hC : ToldGrows C) {n k : Nat} : ToldGrows (callB P n k C) := by
  intro f args h y e
  unfold callB at e
  split at e
  · cases e
  · split at e
    · cases e
    · split at e
      · rename_i s hs
        split at e
        · cases e
        · rename_i r hr; cases e; exact (codeA_grows hC k _ _ _ hs).trans (resA_grows _ _ _ hr)
      · rename_i s hs
        split at e
        · cases e
        · rename_i r hr; cases e; exact (codeA_grows hC k _ _ _ hs).trans (resA_grows _ _ _ hr)
      · cases e
theorem callN_grows {G : Told} (hG : ToldGrows G) {n k : Nat} : ∀ d, ToldGrows (callN P G n k d)
  | 0 => fun f args h y e => by cases e
  | d + 1 => fun f args h y e => by
    unfold callN at e
    split at e
    · rename_i r hr; cases e; exact hG _ _ _ _ hr
    · exact callB_grows (callN_grows hG d) _ _ _ _ e
end
end Go.Proofs.YtffopeihcebpjaaGreat.X
end
section
set_option linter.unusedVariables false
namespace Go.Proofs.YtffopeihcebpjaaGreat.X
open Go Go.RowKit
section
variable {P : Program} {w0 : Base} {σ σ' : Sg} {T T' : Nat → Prop} {h h' V V' : H} {w w' : World}
/-- The base of a part's run: all blocks that are not the part's are held. -/
def subB (w : World) (σ : Sg) (T : Nat → Prop) (V : H) (lim : Nat) : Base := ⟨w, fun b => b < w.heap.size ∧ ∀ o, ¬ Own σ o b (V.get o), T, V.n, lim, σ⟩
theorem Hr.part (r : Hr w0 σ T h w) {lim : Nat} (hV : ∀ x, V.get x ≠ .dead → V.get x = h.get x) (top : ∀ x, V.get x ≠ .dead → x < V.n) (free : ∀ x, V.n ≤ x → x < lim → σ x = none) : Hr (subB w σ T V lim) σ T V w where
  below := ⟨rfl, rfl, rfl, Nat.le_refl _, fun b q => ⟨q.1, rfl⟩⟩
  stay := r.stay
  hold b q _ := q
  low := Nat.le_refl _
  dom := free
  rest o _ := rfl
  top := top
  obj o := by
    by_cases q : V.get o = .dead
    · rw [q]; trivial
    · rw [hV o q]; exact r.obj o
  own o b q := by
    have q2 := q
    rw [hV o q.alive] at q2
    exact ⟨fun z => z.2 o q, (r.own o b q2).2⟩
  sep o o' b q q' := by
    have q2 := q
    have q3 := q'
    rw [hV o q.alive] at q2
    rw [hV o' q'.alive] at q3
    exact r.sep o o' b q2 q3
theorem Hr.lay (r : Hr w0 σ T h w) {lim : Nat} (hV : ∀ x, V.get x ≠ .dead → V.get x = h.get x) (r' : Hr (subB w σ T V lim) σ' T' V' w') (hs : σ.le σ') (hT : ∀ b, T b → T' b) (vis : Nat → Prop) [DecidablePred vis]
    (hv : ∀ x, V.get x ≠ .dead → vis x) (h1 : ∀ x, vis x → h'.get x = V'.get x) (h2 : ∀ x, ¬ vis x → h'.get x = h.get x)
    (hn : h.n ≤ h'.n) (hn2 : V'.n ≤ h'.n) (hlo : w0.lo ≤ V.n) (hl1 : lim ≤ h'.n) (hl2 : lim ≤ w0.lim) : Hr w0 σ' T' h' w' := by
  have outside : ∀ b, b < w.heap.size → (∀ o, Own σ o b (V.get o) → False) → w'.heap[b]? = w.heap[b]? := fun b hb q => (r'.below.block b ⟨hb, q⟩).2
  have mine : ∀ o b, Own σ o b (V.get o) → Own σ o b (h.get o) := fun o b q => by rw [← hV o q.alive]; exact q
  have keepT : ∀ b, T b → w'.heap[b]? = w.heap[b]? := fun b q => outside b (r.stay b q) (fun o z => (r.own o b (mine o b z)).2.2 q)
  have other : ∀ x b, ¬ vis x → Own σ x b (h.get x) → b < w.heap.size ∧ ∀ o, ¬ Own σ o b (V.get o) := fun x b hx q => ⟨(r.own x b q).2.1, fun o z => by
    have := r.sep o x b (mine o b z) q
    subst this
    exact hx (hv o z.alive)⟩
  have baseB : ∀ b, w0.B b → b < w.heap.size ∧ ∀ o, ¬ Own σ o b (V.get o) := fun b q => ⟨by have := (r.below.block b q).1; have := r.below.size; omega, fun o z => (r.own o b (mine o b z)).1 q⟩
  have size : w.heap.size ≤ w'.heap.size := r'.below.size
  refine ⟨⟨r'.below.os.trans r.below.os, r'.below.tape.trans r.below.tape, r'.below.output.trans r.below.output, Nat.le_trans r.below.size size, fun b q => ⟨(r.below.block b q).1, ?_⟩⟩, r'.stay, fun b q z => ?_, Nat.le_trans r.low hn, fun o a1 a2 => ?_, fun o a1 => ?_, fun o a1 => ?_, fun o => ?_, fun o b a1 => ?_, fun o o' b a1 a2 => ?_⟩
  · exact ((r'.below.block b (baseB b q)).2).trans (r.below.block b q).2
  · exact r.hold b (r'.hold b q (baseB b z)) z
  · rw [r'.rest o (.inr (Nat.le_trans hl1 a1))]
    exact r.dom o (Nat.le_trans hn a1) a2
  · rw [← r.rest o a1]
    refine r'.rest o ?_
    rcases a1 with a1 | a1
    · exact .inl (Nat.lt_of_lt_of_le a1 hlo)
    · exact .inr (Nat.le_trans hl2 a1)
  · by_cases q : vis o
    · rw [h1 o q] at a1
      exact Nat.lt_of_lt_of_le (r'.top o a1) hn2
    · rw [h2 o q] at a1
      exact Nat.lt_of_lt_of_le (r.top o a1) hn
  · by_cases q : vis o
    · rw [h1 o q]; exact r'.obj o
    · rw [h2 o q]
      exact (r.obj o).keep hs hT keepT (fun b z => (r'.below.block b (other o b q z)).2)
  · by_cases q : vis o
    · rw [h1 o q] at a1
      obtain ⟨p1, p2, p3⟩ := r'.own o b a1
      exact ⟨fun z => p1 (baseB b z), p2, p3⟩
    · rw [h2 o q] at a1
      have a2 := a1.down hs (r.is a1.alive)
      obtain ⟨p1, p2, p3⟩ := r.own o b a2
      exact ⟨p1, Nat.lt_of_lt_of_le p2 size, fun z => p3 (r'.hold b z (other o b q a2))⟩
  · by_cases q : vis o
    · rw [h1 o q] at a1
      by_cases q' : vis o'
      · rw [h1 o' q'] at a2
        exact r'.sep o o' b a1 a2
      · rw [h2 o' q'] at a2
        have a3 := a2.down hs (r.is a2.alive)
        exact absurd (other o' b q' a3) (r'.own o b a1).1
    · rw [h2 o q] at a1
      have a3 := a1.down hs (r.is a1.alive)
      by_cases q' : vis o'
      · rw [h1 o' q'] at a2
        exact absurd (other o b q a3) (r'.own o' b a2).1
      · rw [h2 o' q'] at a2
        exact r.sep o o' b a3 (a2.down hs (r.is a2.alive))
end
end Go.Proofs.YtffopeihcebpjaaGreat.X
end
section
set_option linter.unusedVariables false
namespace Go.Proofs.YtffopeihcebpjaaGreat.X
open Go Go.RowKit
section
variable {P : Program} {w0 : Base} {σ : Sg} {T : Nat → Prop} {h : H} {w : World} {tm : List AV} {a : Act} {o : Oper}
/-- What an operation does, whatever follows. -/
def Does (P : Program) (w0 : Base) (σ : Sg) (T : Nat → Prop) (w : World) (o : Oper) (a : Act) (v : AV) (h' : H) : Prop :=
  ∀ (K : Act → World → Prop) (Q : Exit → Act → World → Prop), (∀ y w' σ' T', σ.le σ' → (∀ b, T b → T' b) → Hr w0 σ' T' h' w' → AVr σ' v y → K (a.put o.dst y) w') → o.wp P a w K Q
/-- What a call does. -/
def CallOk (P : Program) (f : FuncId) (args : List AV) (h : H) (v : AV) (h' : H) : Prop :=
  ∀ (w0 : Base) (σ : Sg) (T : Nat → Prop) (w : World) (Args : List Value), h'.n ≤ w0.lim → AVrs σ args Args → Hr w0 σ T h w →
    Calls P f Args.toArray w fun e w' => ∃ y σ' T', e = .returned y ∧ σ.le σ' ∧ (∀ b, T b → T' b) ∧ Hr w0 σ' T' h' w' ∧ AVr σ' v y
/-- What a call of a function without a body does, at once. -/
def ExtOk (P : Program) (f : FuncId) (args : List AV) (h : H) (v : AV) (h' : H) : Prop :=
  h' = h ∧ ∀ (w0 : Base) (σ : Sg) (T : Nat → Prop) (w : World) (Args : List Value), AVrs σ args Args → Hr w0 σ T h w → ∃ y, (callFunc f Args.toArray).run P w = .ok (.value y) w ∧ AVr σ v y
def Named (P : Program) : Prop := ∀ (f : FuncId) (fn : Func), P.funcs[f]? = some fn → (fn.name == "runtime.NumGoroutine") = false
def HasBody (P : Program) (f : FuncId) : Prop := ∃ fn : Func, P.funcs[f]? = some fn ∧ fn.body.isSome = true
theorem Goes.does {v : AV} {h' : H} (g : Goes P w0 σ T w (execOp a.eval o) v h') : Does P w0 σ T w o a v h' := by
  obtain ⟨σ', T', w', nx, y, k1, k2, k3, k4, k5, k6⟩ := g
  intro K Q hK
  unfold Oper.wp
  rw [k3]
  rcases k4 with rfl | ⟨rfl, rfl⟩
  · exact hK y w' σ' T' k1 k2 k5 k6
  · exact hK undef w' σ' T' k1 k2 k5 k6
theorem callFunc_run (hN : Named P) {f : FuncId} (hb : HasBody P f) (args : Array Value) : (callFunc f args).run P w = .ok (.enter f args) w := by
  obtain ⟨fn, h1, h2⟩ := hb
  have h3 := hN f fn h1
  have h4 : fn.body.isNone = false := by
    cases q : fn.body with
    | none => rw [q] at h2; cases h2
    | some b => rfl
  unfold callFunc
  rw [bind_run _ _ _ w P rfl]
  simp only [h1, h3, h4]
  rfl
theorem call_does (hN : Named P) {f : FuncId} {args : List AV} {v : AV} {h' : H} (hc : calleeA tm o = some (f, args)) (hb : HasBody P f) (hk : CallOk P f args h v h') (lim : h'.n ≤ w0.lim) (g : AVrs σ tm a.tmps.toList) (r : Hr w0 σ T h w) :
    Does P w0 σ T w o a v h' := by
  unfold calleeA at hc
  split at hc
  · rename_i c ho
    split at hc
    · rename_i fo hfo
      split at hc
      · rename_i f' cap hf
        cases hc
        have gf := evalA_ok g fo
        rw [hf] at gf
        obtain ⟨F, hF⟩ : ∃ F, F = a.eval fo := ⟨_, rfl⟩
        rw [← hF] at gf
        cases gf with
        | fn _ _ vs gv =>
          have gs := (evals_ok g c.args.toList).append gv
          have run : (execOp a.eval o).run P w = .ok (.enter f (c.args.toList.map a.eval ++ vs).toArray) w := by
            unfold execOp
            rw [ho]
            show (do let d ← resolve a.eval c o.type; invoke d.target d.args : Sem Next).run P w = _
            have h1 : (resolve a.eval c o.type).run P w = .ok { target := .fn (.func f) vs.toArray, args := #[] ++ c.args.map a.eval } w := by
              unfold resolve
              rw [hfo]
              show (Deferred.ofValue (a.eval fo) (c.args.map a.eval)).run P w = _
              rw [← hF]
              rfl
            rw [bind_run _ _ _ _ _ h1]
            show (callFunc f ((#[] ++ c.args.map a.eval) ++ vs.toArray)).run P w = _
            rw [callFunc_run hN hb]
            congr 2
            apply Array.ext'
            simp
          intro K Q hK
          unfold Oper.wp
          rw [run]
          show Calls P f _ w _
          refine (hk w0 σ T w _ lim gs r).mono (fun e w' he => ?_)
          obtain ⟨y, σ', T', rfl, q1, q2, q3, q4⟩ := he
          exact hK y w' σ' T' q1 q2 q3 q4
      · cases hc
    · cases hc
  · cases hc
theorem ext_does {f : FuncId} {args : List AV} {v : AV} {h' : H} (hc : calleeA tm o = some (f, args)) (hk : ExtOk P f args h v h') (g : AVrs σ tm a.tmps.toList) (r : Hr w0 σ T h w) :
    Does P w0 σ T w o a v h' := by
  obtain ⟨rfl, hk⟩ := hk
  unfold calleeA at hc
  split at hc
  · rename_i c ho
    split at hc
    · rename_i fo hfo
      split at hc
      · rename_i f' cap hf
        cases hc
        have gf := evalA_ok g fo
        rw [hf] at gf
        obtain ⟨F, hF⟩ : ∃ F, F = a.eval fo := ⟨_, rfl⟩
        rw [← hF] at gf
        cases gf with
        | fn _ _ vs gv =>
          have gs := (evals_ok g c.args.toList).append gv
          obtain ⟨y, hy, gy⟩ := hk w0 σ T w _ gs r
          have run : (execOp a.eval o).run P w = .ok (.value y) w := by
            unfold execOp
            rw [ho]
            show (do let d ← resolve a.eval c o.type; invoke d.target d.args : Sem Next).run P w = _
            have h1 : (resolve a.eval c o.type).run P w = .ok { target := .fn (.func f) vs.toArray, args := #[] ++ c.args.map a.eval } w := by
              unfold resolve
              rw [hfo]
              show (Deferred.ofValue (a.eval fo) (c.args.map a.eval)).run P w = _
              rw [← hF]
              rfl
            rw [bind_run _ _ _ _ _ h1]
            show (callFunc f ((#[] ++ c.args.map a.eval) ++ vs.toArray)).run P w = _
            have e : ((#[] ++ c.args.map a.eval) ++ vs.toArray) = (c.args.toList.map a.eval ++ vs).toArray := by
              apply Array.ext'
              simp
            rw [e]
            exact hy
          intro K Q hK
          unfold Oper.wp
          rw [run]
          exact hK y w σ T (Sg.le_refl _) (fun _ q => q) r gy
      · cases hc
    · cases hc
  · cases hc
end
end Go.Proofs.YtffopeihcebpjaaGreat.X
end
section
set_option linter.unusedVariables false
namespace Go.Proofs.YtffopeihcebpjaaGreat.X
open Go Go.RowKit
section
variable {P : Program} {w0 : Base} {σ : Sg} {T : Nat → Prop} {h : H} {w : World} {tm : List AV} {a : Act} {o : Oper} {ops : Array Oper}
theorem want_ok {b : Bool} (e : wantA ops tm o = some b) (g : AVrs σ tm a.tmps.toList) : Region.wanted o (yielded ops a.tmps) = b := by
  unfold wantA at e
  unfold Region.wanted
  cases hg : o.guard with
  | none => rw [hg] at e; cases e; rfl
  | some q =>
    obtain ⟨j, wt⟩ := q
    rw [hg] at e
    simp only at e ⊢
    split at e
    · rename_i oj hj
      split at e
      · rename_i d hd
        split at e
        · rename_i b' hb
          cases e
          have ht : tm[d]? = some (.v (.bool b')) := by
            rw [List.getD_eq_getElem?_getD] at hb
            cases q : tm[d]? with
            | none => rw [q] at hb; cases hb
            | some x => rw [q] at hb; simp at hb; rw [hb]
          obtain ⟨y, hy, hr⟩ := g.get d _ ht
          cases hr
          have : yielded ops a.tmps j = some b' := by
            unfold yielded
            rw [hj]
            simp only [Option.bind_some, hd]
            rw [Array.getElem?_toList] at hy
            rw [hy]
          rw [this]
          cases b' <;> cases wt <;> rfl
        · cases e
      · cases e
    · cases e
theorem put_ok {v : AV} {y : Value} (g : AVrs σ tm a.tmps.toList) (gv : AVr σ v y) : AVrs σ (putA tm o.dst v) (a.put o.dst y).tmps.toList := by
  unfold putA Act.put
  cases o.dst with
  | none => exact g
  | some d =>
    show AVrs σ (tm.set d v) (a.tmps.setIfInBounds d y).toList
    rw [Array.toList_setIfInBounds]
    exact g.set gv d
theorem put_defers {x : Option Tmp} {y : Value} : (a.put x y).defers = a.defers := by
  cases x <;> rfl
/-- What a run of code ends in. -/
def Post (w0 : Base) (σ : Sg) (T : Nat → Prop) (ex : Exit) (st : St) : Exit → Act → World → Prop :=
  fun e a' w' => e = ex ∧ a'.defers = [] ∧ ∃ σ' T', σ.le σ' ∧ (∀ b, T b → T' b) ∧ AVrs σ' st.tm a'.tmps.toList ∧ Hr w0 σ' T' st.h w'
def exOf : Ex → Exit
  | .normal => .normal
  | .exit i => .exit i
  | .ret => .ret
  | .goto l => .goto l
/-- Calls, steps, code do what the executor tells. -/
def CallsOk (P : Program) (C : Told) : Prop := ∀ f args h y, C f args h = some y → h.ok → (CallOk P f args h y.1 y.2 ∧ HasBody P f) ∨ (ExtOk P f args h y.1 y.2 ∧ ¬ HasBody P f)
def CallsOkB (P : Program) (C : Told) : Prop := ∀ f args h y, C f args h = some y → h.ok → CallOk P f args h y.1 y.2 ∧ HasBody P f
def StepOk (P : Program) (C : Told) : Prop := ∀ (tm : List AV) (h : H) (o : Oper) (y : AV × H), stepA P C tm h o = some y → h.ok →
  ∀ (w0 : Base) (σ : Sg) (T : Nat → Prop) (w : World) (a : Act), y.2.n ≤ w0.lim → AVrs σ tm a.tmps.toList → Hr w0 σ T h w → Does P w0 σ T w o a y.1 y.2
def RunOk (P : Program) (c : Code) (b : Run) : Prop := ∀ (st : St) (y : Ex × St), b st = some y → st.h.ok →
  ∀ (w0 : Base) (σ : Sg) (T : Nat → Prop) (w : World) (a : Act), y.2.h.n ≤ w0.lim → a.defers = [] → AVrs σ st.tm a.tmps.toList → Hr w0 σ T st.h w → c.wp P (Post w0 σ T (exOf y.1) y.2) a w
theorem Post.up {σ' : Sg} {T' : Nat → Prop} {ex : Exit} {st : St} {e : Exit} {w' : World} (hs : σ.le σ') (hT : ∀ b, T b → T' b) (p : Post w0 σ' T' ex st e a w') : Post w0 σ T ex st e a w' := by
  obtain ⟨p1, p2, σ2, T2, p3, p4, p5, p6⟩ := p
  exact ⟨p1, p2, σ2, T2, Sg.le_trans hs p3, fun b q => p4 b (hT b q), p5, p6⟩
theorem drop_get {α : Type} {l : List α} {i : Nat} {x : α} {r : List α} (h : l.drop i = x :: r) : l[i]? = some x ∧ l.drop (i + 1) = r := by
  refine ⟨?_, ?_⟩
  · have := congrArg (fun q : List α => q[0]?) h
    simpa using this
  · rw [← List.drop_drop, h]; rfl
theorem region_ok {C : Told} (hC : ToldGrows C) (iS : StepOk P C) : ∀ (l : List Oper) (i : Nat) (tm : List AV) (h : H) (y : St), ops.toList.drop i = l → regionA P C ops l tm h = some y → h.ok →
    ∀ (w0 : Base) (σ : Sg) (T : Nat → Prop) (w : World) (a : Act) (Q : Exit → Act → World → Prop), y.h.n ≤ w0.lim → a.defers = [] → AVrs σ tm a.tmps.toList → Hr w0 σ T h w →
      (∀ a' w', Post w0 σ T .normal y .normal a' w' → Q .normal a' w') → wpOps P ops Q (List.range' i l.length) a w
  | [], i, tm, h, y, hl, e, hok, w0, σ, T, w, a, Q, lim, hd, g, r, hQ => by
    unfold regionA at e
    cases e
    exact hQ a w ⟨rfl, hd, σ, T, σ.le_refl, fun _ q => q, g, r⟩
  | o :: l, i, tm, h, y, hl, e, hok, w0, σ, T, w, a, Q, lim, hd, g, r, hQ => by
    obtain ⟨h1, h2⟩ := drop_get hl
    rw [Array.getElem?_toList] at h1
    unfold regionA at e
    rw [List.length_cons, List.range'_succ]
    unfold wpOps
    simp only [h1]
    split at e
    · cases e
    · rename_i hw
      rw [want_ok hw g]
      simp only [Bool.false_eq_true, if_false]
      exact region_ok hC iS l (i + 1) _ h y h2 e hok w0 σ T w _ Q lim (by rw [put_defers]; exact hd) (put_ok g (.un _)) r hQ
    · rename_i hw
      rw [want_ok hw g]
      simp only [if_true]
      split at e
      · cases e
      · rename_i z hz
        have gr := regionA_grows hC _ _ _ _ e
        refine .inl (iS tm h o z hz hok w0 σ T w a (Nat.le_trans gr.1 lim) g r _ _ (fun y1 w1 σ1 T1 s1 t1 r1 v1 => ?_))
        exact region_ok hC iS l (i + 1) _ z.2 y h2 e ((stepA_grows hC hz).2 hok) w0 σ1 T1 w1 _ Q lim (by rw [put_defers]; exact hd) (put_ok (g.up s1) v1) r1 (fun a' w' p => hQ a' w' (p.up s1 t1))
/-- The code and then what stands behind it in the list of items. -/
def wpBy (P : Program) (x : Item) (c : Code) (Q : Exit → Act → World → Prop) (a : Act) (w : World) : Prop :=
  ∀ (b : Frame) (k : List Item) (cs : List Frame), ∃ e a' w', Q e a' w' ∧ Arrives P (lone (b.at a (.code c :: x :: k)) cs w) b k cs e a' w'
theorem wp_loop_by {c : Code} {Q : Exit → Act → World → Prop} (h : wpBy P (.inLoop c) c Q a w) : (Code.loop c).wp P Q a w := by
  intro b k cs
  obtain ⟨e, a', w', hq, harr⟩ := h b k cs
  exact ⟨e, a', w', hq, .of_steps (.one step_loop) harr⟩
theorem loop_round {c : Code} {Q : Exit → Act → World → Prop} (h : c.wp P (Exit.then (wpBy P (.inLoop c) c Q) Q) a w) : wpBy P (.inLoop c) c Q a w := by
  intro b k cs
  obtain ⟨e, a₁, w₁, hq, harr⟩ := h b (.inLoop c :: k) cs
  cases e with
  | normal =>
    obtain ⟨e₂, a₂, w₂, hq₂, harr₂⟩ := hq b k cs
    exact ⟨e₂, a₂, w₂, hq₂, .of_steps (Steps.trans harr (.one step_inLoop)) harr₂⟩
  | exit id => exact ⟨_, a₁, w₁, hq, .pass (x := .inLoop c) rfl (fun _ _ => .inl (by simp)) harr⟩
  | goto l => exact ⟨_, a₁, w₁, hq, .pass (x := .inLoop c) rfl (fun _ _ => .inl (by simp)) harr⟩
  | ret => exact ⟨_, a₁, w₁, hq, .pass (x := .inLoop c) rfl (fun _ _ => .inl (by simp)) harr⟩
  | panic ch => exact ⟨_, a₁, w₁, hq, .pass (x := .inLoop c) rfl (fun _ _ => .inl (by simp)) harr⟩
  | outgrown => exact ⟨_, a₁, w₁, hq, .pass (x := .inLoop c) rfl (fun _ _ => .inl (by simp)) harr⟩
theorem wp_scope_by {c : Code} {Q : Exit → Act → World → Prop} (h : wpBy P (.inScope c) c Q a w) : (Code.scope c).wp P Q a w := by
  intro b k cs
  obtain ⟨e, a', w', hq, harr⟩ := h b k cs
  exact ⟨e, a', w', hq, .of_steps (.one step_scope) harr⟩
/-- As Q; a goto to a label of the scope goes on from there. -/
def inScopeQ (P : Program) (c : Code) (Q : Exit → Act → World → Prop) : Exit → Act → World → Prop
  | .goto l, a, w => match findLabel c l with
    | some r => wpBy P (.inScope c) r Q a w
    | none => Q (.goto l) a w
  | e, a, w => Q e a w
theorem inScope_some {c r : Code} {Q : Exit → Act → World → Prop} {l : Nat} (h : findLabel c l = some r) : inScopeQ P c Q (.goto l) a w = wpBy P (.inScope c) r Q a w := by
  show (match findLabel c l with
    | some r => wpBy P (.inScope c) r Q a w
    | none => Q (.goto l) a w) = _
  rw [h]
theorem inScope_none {c : Code} {Q : Exit → Act → World → Prop} {l : Nat} (h : findLabel c l = none) : inScopeQ P c Q (.goto l) a w = Q (.goto l) a w := by
  show (match findLabel c l with
    | some r => wpBy P (.inScope c) r Q a w
    | none => Q (.goto l) a w) = _
  rw [h]
theorem scope_round {c d : Code} {Q : Exit → Act → World → Prop} (h : d.wp P (inScopeQ P c Q) a w) : wpBy P (.inScope c) d Q a w := by
  intro b k cs
  obtain ⟨e, a₁, w₁, hq, harr⟩ := h b (.inScope c :: k) cs
  cases e with
  | normal => exact ⟨.normal, a₁, w₁, hq, Steps.trans harr (.one step_inScope)⟩
  | exit id => exact ⟨.exit id, a₁, w₁, hq, fun k' hk => harr k' (by simp [exitTo, hk])⟩
  | goto l =>
    cases hf : findLabel c l with
    | some r =>
      rw [inScope_some hf] at hq
      obtain ⟨e₂, a₂, w₂, hq₂, harr₂⟩ := hq b k cs
      exact ⟨e₂, a₂, w₂, hq₂, .of_steps (harr _ (by simp [gotoIn, hf])) harr₂⟩
    | none =>
      rw [inScope_none hf] at hq
      exact ⟨.goto l, a₁, w₁, hq, fun k' hk => harr k' (by simp [gotoIn, hf, hk])⟩
  | ret => exact ⟨_, a₁, w₁, hq, harr⟩
  | panic ch => exact ⟨_, a₁, w₁, hq, harr⟩
  | outgrown => exact ⟨_, a₁, w₁, hq, harr⟩
theorem loopN_ok {c : Code} {b : Run} (hb : RunGrows b) (iC : RunOk P c b) : ∀ (n : Nat) (st : St) (y : Ex × St), loopN b n st = some y → st.h.ok →
    ∀ (w0 : Base) (σ : Sg) (T : Nat → Prop) (w : World) (a : Act), y.2.h.n ≤ w0.lim → a.defers = [] → AVrs σ st.tm a.tmps.toList → Hr w0 σ T st.h w → wpBy P (.inLoop c) c (Post w0 σ T (exOf y.1) y.2) a w
  | 0, st, y, e, hok, w0, σ, T, w, a, lim, hd, g, r => by cases e
  | n + 1, st, y, e, hok, w0, σ, T, w, a, lim, hd, g, r => by
    unfold loopN at e
    refine loop_round ?_
    split at e
    · rename_i s hs
      have gr := loopN_grows hb n _ _ e
      refine wp_mono (iC st _ hs hok w0 σ T w a (Nat.le_trans gr.1 lim) hd g r) (fun e' a' w' p => ?_)
      obtain ⟨rfl, p2, σ1, T1, p3, p4, p5, p6⟩ := p
      show wpBy P (.inLoop c) c _ a' w'
      have := loopN_ok hb iC n s y e ((hb _ _ hs).2 hok) w0 σ1 T1 w' a' lim p2 p5 p6
      intro b k cs
      obtain ⟨e2, a2, w2, q1, q2⟩ := this b k cs
      exact ⟨e2, a2, w2, q1.up p3 p4, q2⟩
    · rename_i hne
      refine wp_mono (iC st _ e hok w0 σ T w a lim hd g r) (fun e' a' w' p => ?_)
      have he := p.1
      cases q : y.1 with
      | normal => exact absurd (by rw [e, ← q]) (hne y.2)
      | exit i => rw [q] at he p; subst he; exact p
      | ret => rw [q] at he p; subst he; exact p
      | goto l => rw [q] at he p; subst he; exact p
theorem label_ok {b : Code} : ∀ (c : Code) (l : Nat), codeOkB c = true → findLabel c l = some b → codeOkB b = true := by
  intro c
  induction c generalizing b with
  | seq x z ix iz =>
    intro l h e
    unfold codeOkB at h
    rw [Bool.and_eq_true] at h
    unfold findLabel at e
    split at e
    · rename_i r hr
      cases e
      unfold codeOkB
      rw [ix l h.1 hr, h.2]
      rfl
    · exact iz l h.2 e
  | label m =>
    intro l h e
    unfold findLabel at e
    split at e
    · cases e; rfl
    · cases e
  | _ => intro l h e; cases e
theorem scopeN_ok {low : Code → Run} (hl : ∀ c, RunGrows (low c)) (iC : ∀ c, codeOkB c = true → RunOk P c (low c)) {c : Code} (hc : codeOkB c = true) : ∀ (n : Nat) (d : Code) (hd : codeOkB d = true) (st : St) (y : Ex × St), scopeN low c n d st = some y → st.h.ok →
    ∀ (w0 : Base) (σ : Sg) (T : Nat → Prop) (w : World) (a : Act), y.2.h.n ≤ w0.lim → a.defers = [] → AVrs σ st.tm a.tmps.toList → Hr w0 σ T st.h w → wpBy P (.inScope c) d (Post w0 σ T (exOf y.1) y.2) a w
  | 0, d, hdo, st, y, e, hok, w0, σ, T, w, a, lim, hd, g, r => by cases e
  | n + 1, d, hdo, st, y, e, hok, w0, σ, T, w, a, lim, hd, g, r => by
    unfold scopeN at e
    refine scope_round ?_
    split at e
    · rename_i l s hs
      split at e
      · rename_i b' hb
        have gr := scopeN_grows hl c n _ _ _ e
        refine wp_mono (iC d hdo st _ hs hok w0 σ T w a (Nat.le_trans gr.1 lim) hd g r) (fun e' a' w' p => ?_)
        obtain ⟨rfl, p2, σ1, T1, p3, p4, p5, p6⟩ := p
        show inScopeQ P c _ (.goto l) a' w'
        rw [inScope_some hb]
        have := scopeN_ok hl iC hc n b' (label_ok c l hc hb) s y e ((hl _ _ _ hs).2 hok) w0 σ1 T1 w' a' lim p2 p5 p6
        intro b k cs
        obtain ⟨e2, a2, w2, q1, q2⟩ := this b k cs
        exact ⟨e2, a2, w2, q1.up p3 p4, q2⟩
      · rename_i hb
        cases e
        refine wp_mono (iC d hdo st _ hs hok w0 σ T w a lim hd g r) (fun e' a' w' p => ?_)
        have he := p.1
        subst he
        show inScopeQ P c _ (.goto l) a' w'
        rw [inScope_none hb]
        exact p
    · rename_i hne
      refine wp_mono (iC d hdo st _ e hok w0 σ T w a lim hd g r) (fun e' a' w' p => ?_)
      have he := p.1
      cases q : y.1 with
      | normal => rw [q] at he p; subst he; exact p
      | exit i => rw [q] at he p; subst he; exact p
      | ret => rw [q] at he p; subst he; exact p
      | goto l => exact absurd (by rw [e, ← q]) (hne l y.2)
/-- Drawn regions do what the executor tells, in each order. -/
def DrawnOk (P : Program) (C : Told) : Prop := ∀ (ops : Array Oper) (tm : List AV) (h : H) (y : St), drawnA P C ops ops.toList 0 [] tm h (bitsL [] 0 ops.toList) = some y → regOk ops = true → h.ok →
  ∀ (w0 : Base) (σ : Sg) (T : Nat → Prop) (w : World) (a : Act) (id : Nat), y.h.n ≤ w0.lim → a.defers = [] → AVrs σ tm a.tmps.toList → Hr w0 σ T h w → (Code.region id ops true).wp P (Post w0 σ T .normal y) a w
theorem cond_val {c : Operand} {b : Bool} (g : AVrs σ tm a.tmps.toList) (h : evalA tm c = .v (.bool b)) : a.eval c = .bool b := by
  have := evalA_ok g c
  rw [h] at this
  obtain ⟨X, hX⟩ : ∃ X, X = a.eval c := ⟨_, rfl⟩
  rw [← hX] at this ⊢
  cases this
  rfl
theorem codeK_ok {C : Told} (hC : ToldGrows C) (iS : StepOk P C) (iD : DrawnOk P C) {n : Nat} {low : Code → Run} (hl : ∀ c, RunGrows (low c)) (iC : ∀ c, codeOkB c = true → RunOk P c (low c)) : ∀ c, codeOkB c = true → RunOk P c (codeK P C n low c) := by
  have gr := codeK_grows (P := P) hC (n := n) hl
  have here : ∀ (ex : Exit) (st : St) (w0 : Base) (σ : Sg) (T : Nat → Prop) (w : World) (a : Act), a.defers = [] → AVrs σ st.tm a.tmps.toList → Hr w0 σ T st.h w → Post w0 σ T ex st ex a w := fun ex st w0 σ T w a hd g r => ⟨rfl, hd, σ, T, σ.le_refl, fun _ q => q, g, r⟩
  intro c hco
  induction c with
  | skip => intro st y e hok w0 σ T w a lim hd g r; unfold codeK at e; cases e; exact wp_skip (here _ _ _ _ _ _ _ hd g r)
  | region id ops d =>
    intro st y e hok w0 σ T w a lim hd g r
    unfold codeK at e
    split at e
    · rename_i z hz
      cases e
      cases d
      · simp only [Bool.false_eq_true, if_false] at hz
        refine wp_region ?_
        have := region_ok hC iS ops.toList 0 st.tm st.h z rfl hz hok w0 σ T w a (Post w0 σ T (exOf .normal) z) lim hd g r (fun a' w' p => p)
        rw [Array.length_toList] at this
        rw [List.range_eq_range']
        exact this
      · simp only [if_true] at hz
        exact iD ops st.tm st.h z (drawnB_A _ _ _ _ _ _ _ _ .nil hz) (by unfold codeOkB at hco; simpa using hco) hok w0 σ T w a id lim hd g r
    · cases e
  | seq x z ix iz =>
    unfold codeOkB at hco
    rw [Bool.and_eq_true] at hco
    have ix := ix hco.1
    have iz := iz hco.2
    intro st y e hok w0 σ T w a lim hd g r
    unfold codeK at e
    refine wp_seq ?_
    split at e
    · rename_i s hs
      refine wp_mono (ix st _ hs hok w0 σ T w a (Nat.le_trans (gr _ _ _ e).1 lim) hd g r) (fun e' a' w' p => ?_)
      obtain ⟨rfl, p2, σ1, T1, p3, p4, p5, p6⟩ := p
      show z.wp P _ a' w'
      exact wp_mono (iz s y e ((gr _ _ _ hs).2 hok) w0 σ1 T1 w' a' lim p2 p5 p6) (fun e2 a2 w2 q => q.up p3 p4)
    · rename_i hne
      refine wp_mono (ix st _ e hok w0 σ T w a lim hd g r) (fun e' a' w' p => ?_)
      have he := p.1
      cases q : y.1 with
      | normal => exact absurd (by rw [e, ← q]) (hne y.2)
      | exit i => rw [q] at he p; subst he; exact p
      | ret => rw [q] at he p; subst he; exact p
      | goto l => rw [q] at he p; subst he; exact p
  | cond c x z ix iz =>
    unfold codeOkB at hco
    rw [Bool.and_eq_true] at hco
    have ix := ix hco.1
    have iz := iz hco.2
    intro st y e hok w0 σ T w a lim hd g r
    unfold codeK at e
    split at e
    · rename_i hc
      exact wp_cond_true (cond_val g hc) (ix _ _ e hok w0 σ T w a lim hd g r)
    · rename_i hc
      exact wp_cond_false (cond_val g hc) (iz _ _ e hok w0 σ T w a lim hd g r)
    · cases e
  | block i x ix =>
    unfold codeOkB at hco
    have ix := ix hco
    intro st y e hok w0 σ T w a lim hd g r
    unfold codeK at e
    refine wp_block ?_
    split at e
    · rename_i j s hs
      split at e
      · rename_i hj
        cases e
        refine wp_mono (ix st _ hs hok w0 σ T w a lim hd g r) (fun e' a' w' p => ?_)
        obtain ⟨rfl, p⟩ := p
        show (if j = i then _ else _)
        rw [if_pos hj]
        exact ⟨rfl, p⟩
      · rename_i hj
        cases e
        refine wp_mono (ix st _ hs hok w0 σ T w a lim hd g r) (fun e' a' w' p => ?_)
        obtain ⟨rfl, p⟩ := p
        show (if j = i then _ else _)
        rw [if_neg hj]
        exact ⟨rfl, p⟩
    · rename_i hne
      refine wp_mono (ix st _ e hok w0 σ T w a lim hd g r) (fun e' a' w' p => ?_)
      have he := p.1
      cases q : y.1 with
      | normal => rw [q] at he p; subst he; exact p
      | exit j => exact absurd (by rw [e, ← q]) (hne j y.2)
      | ret => rw [q] at he p; subst he; exact p
      | goto l => rw [q] at he p; subst he; exact p
  | loop x ix =>
    unfold codeOkB at hco
    have ix := ix hco
    intro st y e hok w0 σ T w a lim hd g r
    unfold codeK at e
    exact wp_loop_by (loopN_ok (gr x) ix n _ _ e hok w0 σ T w a lim hd g r)
  | exit i => intro st y e hok w0 σ T w a lim hd g r; unfold codeK at e; cases e; exact wp_exit (here _ _ _ _ _ _ _ hd g r)
  | ret => intro st y e hok w0 σ T w a lim hd g r; unfold codeK at e; cases e; exact wp_ret (here _ _ _ _ _ _ _ hd g r)
  | label l => intro st y e hok w0 σ T w a lim hd g r; unfold codeK at e; cases e; exact wp_label (here _ _ _ _ _ _ _ hd g r)
  | goto l => intro st y e hok w0 σ T w a lim hd g r; unfold codeK at e; cases e; exact wp_goto (here _ _ _ _ _ _ _ hd g r)
  | scope x ix =>
    intro st y e hok w0 σ T w a lim hd g r
    unfold codeK at e
    unfold codeOkB at hco
    exact wp_scope_by (scopeN_ok hl iC hco n x hco _ _ e hok w0 σ T w a lim hd g r)
  | _ => intro st y e; cases e
theorem codeA_ok {C : Told} (hC : ToldGrows C) (iS : StepOk P C) (iD : DrawnOk P C) {n : Nat} : ∀ k c, codeOkB c = true → RunOk P c (codeA P C n k c)
  | 0, c => fun _ st y e => by cases e
  | k + 1, c => fun hco st y e => codeK_ok hC iS iD (codeA_grows hC k) (codeA_ok hC iS iD k) c hco st y e
end
end Go.Proofs.YtffopeihcebpjaaGreat.X
end
section
set_option linter.unusedVariables false
namespace Go.Proofs.YtffopeihcebpjaaGreat.X
open Go Go.RowKit
section
variable {P : Program} {w0 : Base} {σ : Sg} {T : Nat → Prop} {h : H} {w : World} {tm : List AV} {a : Act} {o : Oper} {ops : Array Oper}
def resOf (tmps : Array Value) : ResultVar → Sem Value
  | .tmp t => pure (tmps.getD t undef)
  | .cell a t => do loadVar t (← asAddr (tmps.getD a undef))
theorem load_at {t : TypeId} {a' v : AV} {x : Value} {h' : H} (lim : h'.n ≤ w0.lim) (e : loadA P t a' h = some (v, h')) (g : AVr σ a' x) (r : Hr w0 σ T h w) :
    ∃ σ' y, σ.le σ' ∧ (asAddr x >>= loadVar t).run P w = .ok y w ∧ Hr w0 σ' T h' w ∧ AVr σ' v y := by
  obtain ⟨σ', y, h1, h2, h3, h4⟩ := loadA_ok (P := P) lim e g r
  refine ⟨σ', y, h1, ?_, h3, h4⟩
  have hp : ∃ o sz i f, a' = .pt o sz i f := by
    unfold loadA at e
    split at e
    · exact ⟨_, _, _, _, rfl⟩
    · cases e
  obtain ⟨o, sz, i, f, rfl⟩ := hp
  cases g with
  | pt _ _ _ _ ad room ho => exact h2
theorem res_run : ∀ (rs : List ResultVar) {h : H} {σ : Sg} {y : List AV × H}, resA P ⟨tm, h⟩ rs = some y → y.2.n ≤ w0.lim → AVrs σ tm a.tmps.toList → Hr w0 σ T h w →
    ∃ σ' vs, σ.le σ' ∧ (rs.mapM (resOf a.tmps)).run P w = .ok vs w ∧ Hr w0 σ' T y.2 w ∧ AVrs σ' y.1 vs
  | [], h, σ, y, e, lim, g, r => by
    cases e
    exact ⟨σ, [], σ.le_refl, rfl, r, .nil⟩
  | .tmp t :: rs, h, σ, y, e, lim, g, r => by
    unfold resA at e
    split at e
    · rename_i x hx
      cases e
      obtain ⟨σ', vs, h1, h2, h3, h4⟩ := res_run rs hx lim g r
      refine ⟨σ', _, h1, ?_, h3, .cons _ _ _ _ ((evalA_ok g (.tmp t)).up h1) h4⟩
      rw [List.mapM_cons, bind_run _ _ _ w (a.tmps.getD t undef) rfl, bind_run _ _ _ _ _ h2]
      rfl
    · cases e
  | .cell c t :: rs, h, σ, y, e, lim, g, r => by
    unfold resA at e
    split at e
    · rename_i x hx
      split at e
      · rename_i z hz
        cases e
        have gr := resA_grows rs _ _ hz
        obtain ⟨σ1, v, k1, k2, k3, k4⟩ := load_at (w0 := w0) (h' := x.2) (v := x.1) (Nat.le_trans gr.1 lim) hx (evalA_ok g (.tmp c)) r
        obtain ⟨σ', vs, h1, h2, h3, h4⟩ := res_run rs hz lim (g.up k1) k3
        refine ⟨σ', _, Sg.le_trans k1 h1, ?_, h3, .cons _ _ _ _ (k4.up h1) h4⟩
        rw [List.mapM_cons, bind_run (resOf a.tmps (.cell c t)) _ _ w v k2, bind_run _ _ _ _ _ h2]
        rfl
      · cases e
    · cases e
theorem results_run {fn : Func} {y : List AV × H} (e : resA P ⟨tm, h⟩ fn.results.toList = some y) (lim : y.2.n ≤ w0.lim) (g : AVrs σ tm a.tmps.toList) (r : Hr w0 σ T h w) :
    ∃ σ' v, σ.le σ' ∧ (results fn a.tmps).run P w = .ok v w ∧ Hr w0 σ' T y.2 w ∧ AVr σ' (oneOf y.1) v := by
  obtain ⟨σ', vs, h1, h2, h3, h4⟩ := res_run _ e lim g r
  refine ⟨σ', if h : vs.toArray.size = 1 then vs.toArray[0] else .tuple vs.toArray, h1, ?_, h3, ?_⟩
  · have h5 : (fn.results.mapM (resOf a.tmps)).run P w = .ok vs.toArray w := by
      rw [Array.mapM_eq_mapM_toList]
      rw [← bind_pure_comp, bind_run _ _ _ _ _ h2]
      rfl
    show (do
      let vs ← fn.results.mapM (resOf a.tmps)
      pure (if h : vs.size = 1 then vs[0] else .tuple vs) : Sem Value).run P w = _
    rw [bind_run _ _ _ _ _ h5]
    rfl
  · obtain ⟨y1, y2⟩ := y
    cases h4 with
    | nil => exact .tu _ _ .nil
    | cons b x bs xs hb hbs =>
      cases hbs with
      | nil => exact hb
      | cons b2 x2 bs xs h6 h7 =>
        rw [dif_neg (by simp)]
        exact .tu _ _ (.cons _ _ _ _ hb (.cons _ _ _ _ h6 h7))
/-- What is told holds. -/
def ToldOk (P : Program) (G : Told) : Prop := ∀ f args h y, G f args h = some y → h.ok → (CallOk P f args h y.1 y.2 ∧ HasBody P f) ∨ (ExtOk P f args h y.1 y.2 ∧ ¬ HasBody P f)
def ToldOkB (P : Program) (G : Told) : Prop := ∀ f args h y, G f args h = some y → CallOk P f args h y.1 y.2 ∧ HasBody P f
theorem ToldOkB.any {P : Program} {G : Told} (h : ToldOkB P G) : ToldOk P G := fun f args q y e _ => .inl (h f args q y e)
theorem CallsOkB.any {P : Program} {G : Told} (h : CallsOkB P G) : CallsOk P G := fun f args q y e o => .inl (h f args q y e o)
/-- What is asked of a program, told of its functions. -/
structure Sane (P : Program) : Prop where
  named : Named P
  code : ∀ (f : FuncId) (fn : Func) (c : Code), P.funcs[f]? = some fn → fn.body = some c → codeOkB c = true
theorem sane_of (h : saneB P = true) : Sane P := by
  unfold saneB at h
  rw [List.all_eq_true] at h
  have get : ∀ (f : FuncId) (fn : Func), P.funcs[f]? = some fn → fn ∈ P.funcs.toList := fun f fn q => by
    rw [← Array.getElem?_toList] at q
    exact List.mem_of_getElem? q
  refine ⟨fun f fn q => ?_, fun f fn c q hb => ?_⟩
  · have := h fn (get f fn q)
    rw [Bool.and_eq_true] at this
    simpa using this.1
  · have := h fn (get f fn q)
    rw [Bool.and_eq_true, hb] at this
    exact this.2
theorem callB_ok {C : Told} (hC : ToldGrows C) {n k : Nat} (hS : Sane P) (iC : ∀ c, codeOkB c = true → RunOk P c (codeA P C n k c)) : CallsOkB P (callB P n k C) := by
  intro f args h y e hok
  unfold callB at e
  split at e
  · cases e
  · rename_i fn hf
    split at e
    · cases e
    · rename_i c hb
      have key : ∀ (ex : Ex) (st : St) (z : List AV × H), (exOf ex = .normal ∨ exOf ex = .ret) → codeA P C n k c ⟨args ++ List.replicate (fn.ntmps - args.length) .un, h⟩ = some (ex, st) → resA P st fn.results.toList = some z → CallOk P f args h (oneOf z.1) z.2 := by
        intro ex st z hex hc hz w0 σ T w Args lim g r
        have gr := resA_grows _ _ _ hz
        have hlen := g.len
        refine calls_of_wp hf hb ?_
        have g0 : AVrs σ (args ++ List.replicate (fn.ntmps - args.length) .un) (({ tmps := Args.toArray ++ Array.replicate (fn.ntmps - Args.toArray.size) undef, defers := [] } : Act).tmps.toList) := by
          have : (Args.toArray ++ Array.replicate (fn.ntmps - Args.toArray.size) undef).toList = Args ++ List.replicate (fn.ntmps - args.length) undef := by
            simp [hlen]
          rw [show ({ tmps := Args.toArray ++ Array.replicate (fn.ntmps - Args.toArray.size) undef, defers := [] } : Act).tmps.toList = _ from this]
          exact g.append (AVrs.un _ _)
        refine wp_mono (iC c (hS.code f fn c hf hb) _ _ hc hok w0 σ T w _ (Nat.le_trans gr.1 lim) rfl g0 r) (fun e' a' w' p => ?_)
        obtain ⟨he, p2, σ1, T1, p3, p4, p5, p6⟩ := p
        obtain ⟨σ2, v, q1, q2, q3, q4⟩ := results_run (fn := fn) hz lim p5 p6
        have fin : a'.defers = [] ∧ ∃ v, (results fn a'.tmps).run P w' = .ok v w' ∧ (fun e w' => ∃ y σ' T', e = Ending.returned y ∧ σ.le σ' ∧ (∀ b, T b → T' b) ∧ Hr w0 σ' T' z.2 w' ∧ AVr σ' (oneOf z.1) y) (.returned v) w' :=
          ⟨p2, v, q2, v, σ2, T1, rfl, Sg.le_trans p3 q1, p4, q3, q4⟩
        rcases hex with hex | hex
        · rw [hex] at he; subst he; exact fin
        · rw [hex] at he; subst he; exact fin
      have body : HasBody P f := ⟨fn, hf, by rw [hb]; rfl⟩
      split at e
      · rename_i st hc
        split at e
        · cases e
        · rename_i z hz; cases e; exact ⟨key .normal st z (.inl rfl) hc hz, body⟩
      · rename_i st hc
        split at e
        · cases e
        · rename_i z hz; cases e; exact ⟨key .ret st z (.inr rfl) hc hz, body⟩
      · cases e
theorem step_ok {C : Told} (hN : Named P) (iF : CallsOk P C) : StepOk P C := by
  intro tm h o y e hok w0 σ T w a lim g r
  unfold stepA at e
  split at e
  · rename_i c hc
    rcases iF _ _ _ _ e hok with ⟨k1, k2⟩ | ⟨k1, _⟩
    · exact call_does hN hc k2 k1 lim g r
    · exact ext_does hc k1 g r
  · split at e
    · rename_i z hz
      cases e
      exact (opA_ok lim hz g r).does
    · cases e
end
end Go.Proofs.YtffopeihcebpjaaGreat.X
end
