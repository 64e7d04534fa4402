/- Data that came in: read off the argument, kind by kind, as deep values, with the bounds of what was read. What comes in, of this program's types: configs, checkpoints, states, rows of numbers. -/
import Derived.SizedLaws
import Derived.ChangeSlices
import Derived.Deep.Slices
import Derived.Lib.SmallJoins
import Derived.ChangeOld
import Derived.Below
import Derived.Test.YtffopeihcebpjaaGreatMD
import Derived.Test.YtffopeihcebpjaaGreatMF
section
set_option linter.unusedVariables false
namespace Go.Proofs.YtffopeihcebpjaaGreat.X
open Go Go.ChangeShapes Go.WideShapes
/-- No row, no string inside a datum is larger than memory. -/
def Fine {H : Type} (P : Program) (t : TypeId) (d : DataW H) : Prop := ∀ n ∈ d.weights P t, n ≤ reachBytes
/-- A datum of type t, wherever it is read, is deep, and good. -/
structure Opn (P : Program) (t : TypeId) (sz : Nat) (S : List DV → Prop) : Prop where
  run : ∀ {H : Type} {enc : TypeId × Value → H} {w : World} {base : Nat} {spare : Nat → Bool} {held : Bool} {fuel : Nat} {cs : List Value} {x : DataW H × List MemPlace},
    DataW.trod enc P w base spare held fuel t cs = some x → Fine P t x.1 → ∃ ds, S ds ∧ ds.length = sz ∧ DVrs (fun b => b < w.heap.size) w ds cs
/-- The fields of a struct, one behind the other, from a place on. -/
structure OpnFs (P : Program) (off : Nat) (fs : List Field) (sz : Nat) (S : List DV → Prop) : Prop where
  run : ∀ {H : Type} {enc : TypeId × Value → H} {w : World} {base : Nat} {spare : Nat → Bool} {held : Bool} {n : Nat} {cs : List Value} {xs : List (DataW H × List MemPlace)},
    cs.length = off + sz → xs.length = fs.length → (∀ (i : Nat) (f : Field), fs[i]? = some f → DataW.trod enc P w base spare held n f.type ((cs.drop f.offset).take (P.cellsOf f.type)) = xs[i]?) →
    (∀ k ∈ DataW.weightsEach P (fs.map (·.type)) (xs.map (·.1)), k ≤ reachBytes) → ∃ ds, S ds ∧ ds.length = sz ∧ DVrs (fun b => b < w.heap.size) w ds (cs.drop off)
def oI (ds : List DV) : Prop := ∃ n, (Lit.int .i64 n).wf = true ∧ ds = [dn n]
def oB (ds : List DV) : Prop := ∃ b, ds = [db b]
def oT (ds : List DV) : Prop := ∃ s : ByteArray, s.size ≤ 140737488351232 ∧ ds = [.v (.string s)]
def oS (by_ sz : Nat) (S : List DV → Prop) (ds : List DV) : Prop := ∃ els, els.length ≤ maxLen ∧ els.length * by_ ≤ 140737488351232 ∧ (∀ e ∈ els, S e) ∧ ds = [.sl sz els]
def oP (S S' : List DV → Prop) (ds : List DV) : Prop := ∃ a b, S a ∧ S' b ∧ ds = a ++ b
theorem dvrs_app {T : Nat → Prop} {w : World} : ∀ {a b : List DV} {xs ys : List Value}, DVrs T w a xs → DVrs T w b ys → DVrs T w (a ++ b) (xs ++ ys)
  | _, _, _, _, .nil, h => h
  | _, _, _, _, .cons _ _ _ _ h hs, g => .cons _ _ _ _ h (dvrs_app hs g)
theorem dvrs_len {T : Nat → Prop} {w : World} : ∀ {a : List DV} {xs : List Value}, DVrs T w a xs → a.length = xs.length
  | _, _, .nil => rfl
  | _, _, .cons _ _ _ _ h hs => by rw [List.length_cons, List.length_cons, dvrs_len hs]
theorem dvrs_get {T : Nat → Prop} {w : World} : ∀ {a : List DV} {xs : List Value}, DVrs T w a xs → ∀ {i : Nat} {d : DV}, a[i]? = some d → ∃ x, xs[i]? = some x ∧ DVr T w d x
  | _, _, .nil, i, d, h => by simp at h
  | _, _, .cons _ x _ _ g _, 0, d, h => by cases h; exact ⟨x, rfl, g⟩
  | _, _, .cons _ _ _ _ _ gs, i + 1, d, h => by rw [List.getElem?_cons_succ] at h ⊢; exact dvrs_get gs h
section
variable {P : Program}
theorem opn_int {t : TypeId} (ht : P.underlying t = some (.int .i64)) : Opn P t 1 oI := by
  constructor
  intro H enc w base spare held fuel cs x h _
  obtain ⟨n, rfl, _, hw⟩ := DataW.trod_int ht h
  exact ⟨_, ⟨n, hw, rfl⟩, rfl, .cons _ _ _ _ (.v _) .nil⟩
theorem opn_bool {t : TypeId} (ht : P.underlying t = some .bool) : Opn P t 1 oB := by
  constructor
  intro H enc w base spare held fuel cs x h _
  obtain ⟨b, rfl, _⟩ := DataW.trod_bool ht h
  exact ⟨_, ⟨b, rfl⟩, rfl, .cons _ _ _ _ (.v _) .nil⟩
theorem opn_string {t : TypeId} (ht : P.underlying t = some .string) : Opn P t 1 oT := by
  constructor
  intro H enc w base spare held fuel cs x h hf
  obtain ⟨s, rfl, rfl, _⟩ := DataW.trod_string ht h
  refine ⟨_, ⟨s, ?_, rfl⟩, rfl, .cons _ _ _ _ (.v _) .nil⟩
  have := hf s.data.toList.length (by simp [DataW.weights])
  rw [Array.length_toList] at this
  exact this
theorem list_of {α : Type} {p : Nat → α → Prop} : ∀ (n : Nat), (∀ i, i < n → ∃ x, p i x) → ∃ l : List α, l.length = n ∧ ∀ i x, l[i]? = some x → p i x
  | 0, _ => ⟨[], rfl, fun i x h => by simp at h⟩
  | n + 1, h => by
    obtain ⟨l, hl, hp⟩ := list_of n (fun i hi => h i (by omega))
    obtain ⟨y, hy⟩ := h n (by omega)
    refine ⟨l ++ [y], by rw [List.length_append, hl]; rfl, fun i x hx => ?_⟩
    rcases Nat.lt_or_ge i l.length with hi | hi
    · rw [List.getElem?_append_left hi] at hx
      exact hp i x hx
    · rw [List.getElem?_append_right hi] at hx
      have h1 : i - l.length = 0 := by
        rcases Nat.eq_zero_or_pos (i - l.length) with h2 | h2
        · exact h2
        · rw [List.getElem?_eq_none (by show 1 ≤ _; omega)] at hx
          cases hx
      rw [h1] at hx
      have e : y = x := Option.some.inj hx
      obtain rfl : i = n := by omega
      exact e ▸ hy
theorem all_mem {H : Type} {e : TypeId} : ∀ {l : List (DataW H)} {d : DataW H}, d ∈ l → ∀ n ∈ d.weights P e, n ∈ DataW.weightsAll P e l
  | a :: r, d, hd, n, hn => by
    simp only [DataW.weightsAll, List.mem_append]
    rcases List.mem_cons.1 hd with rfl | hd
    · exact .inl hn
    · exact .inr (all_mem hd n hn)
theorem blk_of_cell {w : World} {a : Addr} {v : Value} (h : w.cell? a = some v) : a.block < w.heap.size := by
  unfold World.cell? at h
  rcases Nat.lt_or_ge a.block w.heap.size with q | q
  · exact q
  · rw [Array.getElem?_eq_none q] at h
    cases h
theorem opn_slice {sz : Nat} {S : List DV → Prop} {t e : TypeId} (ht : P.underlying t = some (.slice e)) (hsz : P.cellsOf e = sz) (ho : Opn P e sz S) : Opn P t 1 (oS (P.bytesOf e) sz S) := by
  constructor
  intro H enc w base spare held fuel cs x h hf
  rcases Deep.open_slice ht h with ⟨rfl, rfl⟩ | ⟨a, len, cap, m, n, D, Pl, rfl, hb, hl, hm, hmm, rfl, hx⟩
  · exact ⟨_, ⟨[], by simp, by simp, by simp, rfl⟩, rfl, .cons _ _ _ _ (.sl sz [] none 0 (fun _ _ => undef) (fun _ => rfl) (Nat.le_refl _) (fun _ h => by cases h) (fun i e j d h => by simp at h) (fun i e j d h => by simp at h)) .nil⟩
  · have hlm : len ≤ m := by rw [hmm]; split <;> omega
    have hW : ∀ i, i < len → Fine P e (D i) := fun i hi k hk => hf k (by
      simp only [DataW.weights, ht, List.mem_cons, List.mem_append]
      exact .inr (.inl (all_mem (List.mem_map.2 ⟨i, List.mem_range.2 hi, rfl⟩) k hk)))
    obtain ⟨l, hll, hp⟩ := list_of (p := fun i ds => S ds ∧ ds.length = sz ∧ ∃ c : List Value, c.length = sz ∧ DVrs (fun b => b < w.heap.size) w ds c ∧ ∀ j u, c[j]? = some u → w.cell? (a.add (i * sz + j)) = some u) len (fun i hi => by
      obtain ⟨cs', h1, h2⟩ := hx i (by omega)
      obtain ⟨ds, hS, hL, hD⟩ := ho.run h2 (hW i hi)
      obtain ⟨_, hlen, hcell⟩ := World.cells?_some h1
      refine ⟨ds, hS, hL, cs', by rw [hlen, hsz], hD, fun j u hj => ?_⟩
      have hj2 : j < P.cellsOf e := by
        rcases Nat.lt_or_ge j cs'.length with h3 | h3
        · omega
        · rw [List.getElem?_eq_none h3] at hj
          cases hj
      rw [← hj, ← hcell j hj2, Deep.add_add, hsz])
    have hz : l.length * P.bytesOf e ≤ 140737488351232 := by
      have z := hf _ (by
        simp only [DataW.weights, ht]
        exact List.mem_cons_self)
      rw [List.length_map, List.length_range, List.length_map, List.length_range] at z
      rw [hll]
      exact Nat.le_trans (Nat.mul_le_mul_right _ (by omega)) z
    refine ⟨_, ⟨l, by omega, hz, fun v hv => ?_, rfl⟩, rfl, ?_⟩
    · obtain ⟨i, hi⟩ := List.getElem?_of_mem hv
      exact (hp i v hi).1
    · have hd := DVr.sl (T := fun b => b < w.heap.size) (w := w) sz l (some a) cap (fun i j => (w.cell? (a.add (i * sz + j))).getD undef) (fun h => by cases h) (by omega) (fun v hv => by
        obtain ⟨i, hi⟩ := List.getElem?_of_mem hv
        exact (hp i v hi).2.1) (fun i e j d q1 q2 => by
        obtain ⟨_, _, c, hc, hD, hcell⟩ := hp i e q1
        obtain ⟨u, hu, hdu⟩ := dvrs_get hD q2
        have hcu := hcell j u hu
        have hb := blk_of_cell hcu
        rw [add_blk] at hb
        exact ⟨a, rfl, hb, by rw [hcu]; rfl⟩) (fun i e j d q1 q2 => by
        obtain ⟨_, _, c, hc, hD, hcell⟩ := hp i e q1
        obtain ⟨u, hu, hdu⟩ := dvrs_get hD q2
        rw [hcell j u hu]
        exact hdu)
      rw [hll] at hd
      exact .cons _ _ _ _ hd .nil
theorem opnFs_one {sz : Nat} {S : List DV → Prop} {f : Field} {off : Nat} (ho : Opn P f.type sz S) (hoff : f.offset = off) (hsz : P.cellsOf f.type = sz) : OpnFs P off [f] sz S := by
  constructor
  intro H enc w base spare held n cs xs hl hx h hf
  match xs, hx with
  | [y], _ =>
    have h0 := h 0 f rfl
    rw [hoff, List.take_of_length_le (by rw [List.length_drop, hl, hsz]; omega)] at h0
    exact ho.run (h0 : _ = some y) (fun k hk => hf k (by simpa [DataW.weightsEach] using hk))
theorem opnFs_cons {sz sz' : Nat} {S S' : List DV → Prop} {f : Field} {fs : List Field} {off : Nat} (ho : Opn P f.type sz S) (hr : OpnFs P (off + sz) fs sz' S') (hoff : f.offset = off) (hsz : P.cellsOf f.type = sz) :
    OpnFs P off (f :: fs) (sz + sz') (oP S S') := by
  constructor
  intro H enc w base spare held n cs xs hl hx h hf
  match xs, hx with
  | y :: ys, hx =>
    have h0 := h 0 f rfl
    rw [hoff, hsz] at h0
    obtain ⟨a, hS, hL, hD⟩ := ho.run (h0 : _ = some y) (fun k hk => hf k (by
      simp only [List.map_cons, DataW.weightsEach, List.mem_append]
      exact .inl hk))
    obtain ⟨b, hS', hL', hD'⟩ := hr.run (n := n) (cs := cs) (xs := ys) (by omega) (by simpa using hx) (fun i g hg => h (i + 1) g hg) (fun k hk => hf k (by
      simp only [List.map_cons, DataW.weightsEach, List.mem_append]
      exact .inr hk))
    refine ⟨a ++ b, ⟨a, b, hS, hS', rfl⟩, by rw [List.length_append, hL, hL'], ?_⟩
    have := dvrs_app hD hD'
    rw [← List.drop_drop] at this
    rw [List.take_append_drop sz (cs.drop off)] at this
    exact this
theorem opn_struct {sz : Nat} {S : List DV → Prop} {t : TypeId} {fs : Array Field} (ht : P.underlying t = some (.struct fs)) (hsz : P.cellsOf t = sz) (ho : OpnFs P 0 fs.toList sz S) : Opn P t sz S := by
  constructor
  intro H enc w base spare held fuel cs x h hf
  obtain ⟨xs, n, _, rfl, hl, hlen, hx⟩ := DataW.trod_struct ht h
  obtain ⟨ds, hS, hL, hD⟩ := ho.run (n := n) (cs := cs) (xs := xs) (by omega) (by rw [hlen]; exact (Array.length_toList).symm) (fun i q hq => hx i q (by rw [← Array.getElem?_toList]; exact hq)) (fun k hk => hf k (by
    simp only [DataW.weights, ht]
    exact hk))
  rw [List.drop_zero] at hD
  exact ⟨ds, hS, hL, hD⟩
theorem fine_of {H : Type} {ts : List TypeId} {ds : List (DataW H)} {j : Nat} {t : TypeId} {d : DataW H} (hsz : (DataW.weightsEach P ts ds).all (· ≤ reachBytes) = true) (ht : ts[j]? = some t) (hd : ds[j]? = some d) : Fine P t d := fun n hn => by
  have := List.all_eq_true.1 hsz n (DataW.weights_mem_each ht hd n hn)
  simpa using this
/-- A struct that is an argument. -/
theorem opn_agg {H : Type} {enc : TypeId × Value → H} {W : World} {base : Nat} {spare : Nat → Bool} {held : Bool} {t : TypeId} {cs : Array Value} {dd : DataW H} {ps : List MemPlace} {sz : Nat} {S : List DV → Prop} (ho : Opn P t sz S) (hf : Fine P t dd)
    (h : DataW.Trod enc P W base spare held t (.agg cs) dd ps) : ∃ ds, S ds ∧ DVr (fun b => b < W.heap.size) W (.ag ds) (.agg cs) := by
  obtain ⟨fuel, hx⟩ := h
  obtain ⟨ds, hS, hL, hD⟩ := ho.run hx hf
  refine ⟨ds, hS, ?_⟩
  have := DVr.ag _ _ hD
  exact this
/-- Another argument. -/
theorem opn_one {H : Type} {enc : TypeId × Value → H} {W : World} {base : Nat} {spare : Nat → Bool} {held : Bool} {t : TypeId} {v : Value} {dd : DataW H} {ps : List MemPlace} {S : List DV → Prop} (ho : Opn P t 1 S) (hf : Fine P t dd)
    (h : DataW.Trod enc P W base spare held t v dd ps) (hv : v.cells.toList = [v]) : ∃ d, S [d] ∧ DVr (fun b => b < W.heap.size) W d v := by
  obtain ⟨fuel, hx⟩ := h
  obtain ⟨ds, hS, hL, hD⟩ := ho.run hx hf
  rw [hv] at hD
  cases hD with
  | cons a x r xs h hs =>
    cases hs
    exact ⟨a, hS, h⟩
end
end Go.Proofs.YtffopeihcebpjaaGreat.X
end
section
set_option linter.unusedVariables false
set_option maxRecDepth 100000
namespace Go.Proofs.YtffopeihcebpjaaGreat.X
open Go Go.ChangeShapes Go.WideShapes
theorem list_en {α : Type} {en : α → List DV} : ∀ {els : List (List DV)}, (∀ e ∈ els, ∃ x, e = en x) → ∃ xs : List α, els = xs.map en
  | [], _ => ⟨[], rfl⟩
  | e :: r, h => by
    obtain ⟨x, hx⟩ := h e (List.mem_cons_self ..)
    obtain ⟨xs, hxs⟩ := list_en (els := r) (fun e he => h e (List.mem_cons_of_mem _ he))
    exact ⟨x :: xs, by rw [hx, hxs]; rfl⟩
def oInts : List DV → Prop := oS 8 1 oI
theorem ints_of {ds : List DV} (h : oInts ds) : ∃ xs : List Int, ds = [.sl 1 (elR xs)] := by
  obtain ⟨els, _, _, h3, rfl⟩ := h
  obtain ⟨xs, hx⟩ := list_en (en := fun x : Int => [dn x]) (fun e he => by
    obtain ⟨n, _, hn⟩ := h3 e he
    exact ⟨n, hn⟩)
  exact ⟨xs, by rw [hx]; rfl⟩
def oRow : List DV → Prop := oP oInts oI
theorem row_of {ds : List DV} (h : oRow ds) : ∃ w : Rw, ds = enW w := by
  obtain ⟨a, b, ha, ⟨n, _, rfl⟩, rfl⟩ := h
  obtain ⟨xs, rfl⟩ := ints_of ha
  exact ⟨(xs, n), rfl⟩
def oRows : List DV → Prop := oS 32 2 oRow
theorem rows_of {ds : List DV} (h : oRows ds) : ∃ ws : List Rw, ds = [.sl 2 (elW ws)] := by
  obtain ⟨els, _, _, h3, rfl⟩ := h
  obtain ⟨xs, hx⟩ := list_en (en := enW) (fun e he => row_of (h3 e he))
  exact ⟨xs, by rw [hx]; rfl⟩
def oCfg : List DV → Prop := oP oI (oP (oP oI oI) (oP oRows (oP oI (oP oI (oP oI (oP oI oB))))))
theorem cfg_of {ds : List DV} (h : oCfg ds) : ∃ c : Cfg, DV.ag ds = enG c := by
  obtain ⟨_, _, ⟨a, _, rfl⟩, ⟨_, _, ⟨_, _, ⟨b, _, rfl⟩, ⟨c, _, rfl⟩, rfl⟩, ⟨_, _, hr, ⟨_, _, ⟨d, _, rfl⟩, ⟨_, _, ⟨e, _, rfl⟩, ⟨_, _, ⟨f, _, rfl⟩, ⟨_, _, ⟨g, _, rfl⟩, ⟨p, rfl⟩, rfl⟩, rfl⟩, rfl⟩, rfl⟩, rfl⟩, rfl⟩, rfl⟩ := h
  obtain ⟨ws, rfl⟩ := rows_of hr
  exact ⟨⟨a, b, c, ws, d, e, f, g, p⟩, rfl⟩
def oChk : List DV → Prop := oP oInts (oP oInts (oP (oP oI oI) oI))
theorem chk_of {ds : List DV} (h : oChk ds) : ∃ c : Chk, DV.ag ds = enC c := by
  obtain ⟨_, _, h1, ⟨_, _, h2, ⟨_, _, ⟨_, _, ⟨r, _, rfl⟩, ⟨m, _, rfl⟩, rfl⟩, ⟨s, _, rfl⟩, rfl⟩, rfl⟩, rfl⟩ := h
  obtain ⟨ws, rfl⟩ := ints_of h1
  obtain ⟨vs, rfl⟩ := ints_of h2
  exact ⟨⟨ws, vs, r, m, s⟩, rfl⟩
theorem opnInts : Opn Tryz.prog 27 1 oInts := opn_slice Tryz.underlying27 (by kernel_rfl) (opn_int Tryz.underlying3)
theorem opnRow : Opn Tryz.prog 55 2 oRow := by
  refine opn_struct Tryz.underlying55 (by kernel_rfl) ?_
  refine opnFs_cons (sz := 1) (sz' := 1) opnInts ?_ rfl (by kernel_rfl)
  exact opnFs_one (opn_int Tryz.underlying3) rfl (by kernel_rfl)
theorem opnRows : Opn Tryz.prog 24 1 oRows := opn_slice Tryz.underlying24 (by kernel_rfl) opnRow
theorem opnShape : Opn Tryz.prog 23 2 (oP oI oI) := by
  refine opn_struct Tryz.underlying23 (by kernel_rfl) ?_
  refine opnFs_cons (sz := 1) (sz' := 1) (opn_int Tryz.underlying3) ?_ rfl (by kernel_rfl)
  exact opnFs_one (opn_int Tryz.underlying3) rfl (by kernel_rfl)
theorem opnHyper : Opn Tryz.prog 44 2 (oP oI oI) := by
  refine opn_struct Tryz.underlying44 (by kernel_rfl) ?_
  refine opnFs_cons (sz := 1) (sz' := 1) (opn_int Tryz.underlying3) ?_ rfl (by kernel_rfl)
  exact opnFs_one (opn_int Tryz.underlying3) rfl (by kernel_rfl)
theorem opnCfg : Opn Tryz.prog 26 9 oCfg := by
  refine opn_struct Tryz.underlying26 (by kernel_rfl) ?_
  refine opnFs_cons (sz := 1) (sz' := 8) (opn_int Tryz.underlying3) ?_ rfl (by kernel_rfl)
  refine opnFs_cons (sz := 2) (sz' := 6) opnShape ?_ rfl (by kernel_rfl)
  refine opnFs_cons (sz := 1) (sz' := 5) opnRows ?_ rfl (by kernel_rfl)
  refine opnFs_cons (sz := 1) (sz' := 4) (opn_int Tryz.underlying3) ?_ rfl (by kernel_rfl)
  refine opnFs_cons (sz := 1) (sz' := 3) (opn_int Tryz.underlying3) ?_ rfl (by kernel_rfl)
  refine opnFs_cons (sz := 1) (sz' := 2) (opn_int Tryz.underlying3) ?_ rfl (by kernel_rfl)
  refine opnFs_cons (sz := 1) (sz' := 1) (opn_int Tryz.underlying3) ?_ rfl (by kernel_rfl)
  exact opnFs_one (opn_bool Tryz.underlying4) rfl (by kernel_rfl)
theorem opnChk : Opn Tryz.prog 46 5 oChk := by
  refine opn_struct Tryz.underlying46 (by kernel_rfl) ?_
  refine opnFs_cons (sz := 1) (sz' := 4) opnInts ?_ rfl (by kernel_rfl)
  refine opnFs_cons (sz := 1) (sz' := 3) opnInts ?_ rfl (by kernel_rfl)
  refine opnFs_cons (sz := 2) (sz' := 1) opnHyper ?_ rfl (by kernel_rfl)
  exact opnFs_one (opn_int Tryz.underlying3) rfl (by kernel_rfl)
def oMem : List DV → Prop := oP oChk oI
theorem mem_of {ds : List DV} (h : oMem ds) : ∃ m : Mem, ds = enM m := by
  obtain ⟨_, _, ⟨_, _, h1, ⟨_, _, h2, ⟨_, _, ⟨_, _, ⟨r, _, rfl⟩, ⟨m, _, rfl⟩, rfl⟩, ⟨s, _, rfl⟩, rfl⟩, rfl⟩, rfl⟩, ⟨n, _, rfl⟩, rfl⟩ := h
  obtain ⟨ws, rfl⟩ := ints_of h1
  obtain ⟨vs, rfl⟩ := ints_of h2
  exact ⟨⟨⟨ws, vs, r, m, s⟩, n⟩, rfl⟩
def oEv : List DV → Prop := oP oI (oP oI (oP oI (oP oI (oP oI oI))))
theorem ev_of {ds : List DV} (h : oEv ds) : ∃ e : Ev, ds = enE e := by
  obtain ⟨_, _, ⟨a, _, rfl⟩, ⟨_, _, ⟨b, _, rfl⟩, ⟨_, _, ⟨c, _, rfl⟩, ⟨_, _, ⟨d, _, rfl⟩, ⟨_, _, ⟨e, _, rfl⟩, ⟨f, _, rfl⟩, rfl⟩, rfl⟩, rfl⟩, rfl⟩, rfl⟩ := h
  exact ⟨⟨a, b, c, d, e, f⟩, rfl⟩
def oEnt : List DV → Prop := oP oI (oP oT oI)
theorem ent_of {ds : List DV} (h : oEnt ds) : ∃ e : Ent, ds = enT e := by
  obtain ⟨_, _, ⟨a, _, rfl⟩, ⟨_, _, ⟨t, _, rfl⟩, ⟨c, _, rfl⟩, rfl⟩, rfl⟩ := h
  exact ⟨⟨a, t, c⟩, rfl⟩
theorem sl_of {α : Type} {en : α → List DV} {S : List DV → Prop} (hS : ∀ ds, S ds → ∃ x, ds = en x) {by_ sz : Nat} {ds : List DV} (h : oS by_ sz S ds) : ∃ xs : List α, ds = [.sl sz (el en xs)] := by
  obtain ⟨els, _, _, h3, rfl⟩ := h
  obtain ⟨xs, hx⟩ := list_en (en := en) (fun e he => hS e (h3 e he))
  exact ⟨xs, by rw [hx]; rfl⟩
def oSta : List DV → Prop := oP oCfg (oP (oS 80 6 oMem) (oP (oS 48 6 oEv) (oS 32 3 oEnt)))
theorem sta_of {ds : List DV} (h : oSta ds) : ∃ s : Sta, DV.ag ds = enS s := by
  obtain ⟨_, _, hc, ⟨_, _, hm, ⟨_, _, he, ht, rfl⟩, rfl⟩, rfl⟩ := h
  obtain ⟨c, hc⟩ := cfg_of hc
  obtain ⟨ms, rfl⟩ := sl_of (fun _ => mem_of) hm
  obtain ⟨es, rfl⟩ := sl_of (fun _ => ev_of) he
  obtain ⟨st, rfl⟩ := sl_of (fun _ => ent_of) ht
  unfold enG at hc
  cases hc
  exact ⟨⟨c, ms, es, st⟩, rfl⟩
theorem opnMem : Opn Tryz.prog 63 6 oMem := by
  refine opn_struct Tryz.underlying63 (by kernel_rfl) ?_
  refine opnFs_cons (sz := 5) (sz' := 1) opnChk ?_ rfl (by kernel_rfl)
  exact opnFs_one (opn_int Tryz.underlying3) rfl (by kernel_rfl)
theorem opnEv : Opn Tryz.prog 74 6 oEv := by
  refine opn_struct Tryz.underlying74 (by kernel_rfl) ?_
  refine opnFs_cons (sz := 1) (sz' := 5) (opn_int Tryz.underlying3) ?_ rfl (by kernel_rfl)
  refine opnFs_cons (sz := 1) (sz' := 4) (opn_int Tryz.underlying3) ?_ rfl (by kernel_rfl)
  refine opnFs_cons (sz := 1) (sz' := 3) (opn_int Tryz.underlying3) ?_ rfl (by kernel_rfl)
  refine opnFs_cons (sz := 1) (sz' := 2) (opn_int Tryz.underlying3) ?_ rfl (by kernel_rfl)
  exact opnFs_one opnHyper rfl (by kernel_rfl)
theorem opnEnt : Opn Tryz.prog 137 3 oEnt := by
  refine opn_struct Tryz.underlying137 (by kernel_rfl) ?_
  refine opnFs_cons (sz := 1) (sz' := 2) (opn_int Tryz.underlying3) ?_ rfl (by kernel_rfl)
  refine opnFs_cons (sz := 1) (sz' := 1) (opn_string Tryz.underlying9) ?_ rfl (by kernel_rfl)
  exact opnFs_one (opn_int Tryz.underlying3) rfl (by kernel_rfl)
theorem opnSta : Opn Tryz.prog 33 12 oSta := by
  refine opn_struct Tryz.underlying33 (by kernel_rfl) ?_
  refine opnFs_cons (sz := 9) (sz' := 3) opnCfg ?_ rfl (by kernel_rfl)
  refine opnFs_cons (sz := 1) (sz' := 2) (opn_slice Tryz.underlying29 (by kernel_rfl) opnMem) ?_ rfl (by kernel_rfl)
  refine opnFs_cons (sz := 1) (sz' := 1) (opn_slice Tryz.underlying30 (by kernel_rfl) opnEv) ?_ rfl (by kernel_rfl)
  exact opnFs_one (opn_slice Tryz.underlying31 (by kernel_rfl) opnEnt) rfl (by kernel_rfl)
end Go.Proofs.YtffopeihcebpjaaGreat.X
end
