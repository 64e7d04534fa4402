/- Data that came in, of any type: read off the argument, kind by kind, with the bounds of what was read. -/
import Derived.SizedLaws
import Derived.ChangeSlices
import Derived.Deep.Slices
import Derived.Lib.SmallJoins
import Derived.Test.YtbhkmgidokonkaaWWords
import Derived.Test.YtbhkmgidokonkaaWLast
import Derived.Test.YtbhkmgidokonkaaWMore
namespace Go.Proofs.Ytbhkmgidokonkaa.Op
open Go Go.ChangeShapes Go.WideShapes Go.Proofs.YtbhkmgidokonkaaW.PrintWords
/-- No row, no string inside a datum is larger than memory. -/
def Fine {H : Type} (P : Program) (t : TypeId) (d : DataW H) : Prop := ∀ n ∈ d.weights P t, n ≤ reachBytes
/-- A datum of type t, wherever it is read, is of kind d, and good. -/
structure Opens {α : Type} (P : Program) (t : TypeId) (d : Kd α) (G : α → Prop) : Prop where
  run : ∀ {H : Type} {enc : TypeId × Value → H} {w : World} {base : Nat} {spare : Nat → Bool} {held : Bool} {fuel : Nat} {cs : List Value} {x : DataW H × List MemPlace},
    DataW.trod enc P w base spare held fuel t cs = some x → Fine P t x.1 → ∃ v, d.K w v cs ∧ G v
/-- The fields of a struct, one behind the other, from a place on. -/
structure OpensFs {α : Type} (P : Program) (off : Nat) (fs : List Field) (d : Kd α) (G : α → Prop) : Prop where
  run : ∀ {H : Type} {enc : TypeId × Value → H} {w : World} {base : Nat} {spare : Nat → Bool} {held : Bool} {n : Nat} {cs : List Value} {xs : List (DataW H × List MemPlace)},
    cs.length = off + d.sz → xs.length = fs.length → (∀ (i : Nat) (f : Field), fs[i]? = some f → DataW.trod enc P w base spare held n f.type ((cs.drop f.offset).take (P.cellsOf f.type)) = xs[i]?) →
    (∀ k ∈ DataW.weightsEach P (fs.map (·.type)) (xs.map (·.1)), k ≤ reachBytes) → ∃ v, d.K w v (cs.drop off) ∧ G v
section
variable {P : Program}
theorem opens_int {t : TypeId} {k : IntKind} (ht : P.underlying t = some (.int k)) : Opens P t (Kd.int k) (fun v => (Lit.int k v).wf = true) := by
  constructor
  intro H enc w base spare held fuel cs x h _
  obtain ⟨n, rfl, _, hw⟩ := DataW.trod_int ht h
  exact ⟨n, rfl, hw⟩
theorem opens_bool {t : TypeId} (ht : P.underlying t = some .bool) : Opens P t Kd.bool (fun _ => True) := by
  constructor
  intro H enc w base spare held fuel cs x h _
  obtain ⟨b, rfl, _⟩ := DataW.trod_bool ht h
  exact ⟨b, rfl, trivial⟩
theorem opens_string {t : TypeId} (ht : P.underlying t = some .string) : Opens P t Kd.string (fun s => s.size ≤ 140737488351232) := by
  constructor
  intro H enc w base spare held fuel cs x h hf
  obtain ⟨s, rfl, rfl, _⟩ := DataW.trod_string ht h
  refine ⟨s, rfl, ?_⟩
  have := hf s.data.toList.length (by simp [DataW.weights])
  rw [Array.length_toList] at this
  exact this
theorem list_of {α : Type} {p : Nat → α → Prop} : ∀ (n : Nat), (∀ i, i < n → ∃ x, p i x) → ∃ l : List α, l.length = n ∧ ∀ i x, l[i]? = some x → p i x
  | 0, _ => ⟨[], rfl, fun i x h => by simp at h⟩
  | n + 1, h => by
    obtain ⟨l, hl, hp⟩ := list_of n (fun i hi => h i (by omega))
    obtain ⟨y, hy⟩ := h n (by omega)
    refine ⟨l ++ [y], by rw [List.length_append, hl]; rfl, fun i x hx => ?_⟩
    rcases Nat.lt_or_ge i l.length with hi | hi
    · rw [List.getElem?_append_left hi] at hx
      exact hp i x hx
    · rw [List.getElem?_append_right hi] at hx
      have h1 : i - l.length = 0 := by
        rcases Nat.eq_zero_or_pos (i - l.length) with h2 | h2
        · exact h2
        · rw [List.getElem?_eq_none (by show 1 ≤ _; omega)] at hx
          cases hx
      rw [h1] at hx
      have e : y = x := Option.some.inj hx
      obtain rfl : i = n := by omega
      exact e ▸ hy
theorem all_mem {H : Type} {e : TypeId} : ∀ {l : List (DataW H)} {d : DataW H}, d ∈ l → ∀ n ∈ d.weights P e, n ∈ DataW.weightsAll P e l
  | a :: r, d, hd, n, hn => by
    simp only [DataW.weightsAll, List.mem_append]
    rcases List.mem_cons.1 hd with rfl | hd
    · exact .inl hn
    · exact .inr (all_mem hd n hn)
theorem opens_slice {α : Type} {d : Kd α} {G : α → Prop} {t e : TypeId} (ht : P.underlying t = some (.slice e)) (hsz : P.cellsOf e = d.sz) (ho : Opens P e d G) :
    Opens P t (Kd.slice e d) (fun xs => xs.length ≤ maxLen ∧ xs.length * P.bytesOf e ≤ 140737488351232 ∧ ∀ x ∈ xs, G x) := by
  constructor
  intro H enc w base spare held fuel cs x h hf
  rcases Deep.open_slice ht h with ⟨rfl, rfl⟩ | ⟨a, len, cap, m, n, D, Pl, rfl, hb, hl, hm, hmm, rfl, hx⟩
  · exact ⟨[], ⟨none, 0, rfl, Nat.le_refl _, rfl, by simp, fun h => absurd h (Nat.lt_irrefl 0)⟩, by simp, by simp, by simp⟩
  · have hlm : len ≤ m := by rw [hmm]; split <;> omega
    have hW : ∀ i, i < len → Fine P e (D i) := fun i hi k hk => hf k (by
      simp only [DataW.weights, ht, List.mem_cons, List.mem_append]
      exact .inr (.inl (all_mem (List.mem_map.2 ⟨i, List.mem_range.2 hi, rfl⟩) k hk)))
    obtain ⟨l, hll, hp⟩ := list_of (p := fun i v => G v ∧ ∃ c, c.length = d.sz ∧ d.K w v c ∧ ∀ j u, c[j]? = some u → w.cell? (a.add (i * d.sz + j)) = some u) len (fun i hi => by
      obtain ⟨cs', h1, h2⟩ := hx i (by omega)
      obtain ⟨v, hK, hG⟩ := ho.run h2 (hW i hi)
      obtain ⟨_, hlen, hcell⟩ := World.cells?_some h1
      refine ⟨v, hG, cs', by rw [hlen, hsz], hK, fun j u hj => ?_⟩
      have hj2 : j < P.cellsOf e := by
        rcases Nat.lt_or_ge j cs'.length with h3 | h3
        · omega
        · rw [List.getElem?_eq_none h3] at hj
          cases hj
      rw [← hj, ← hcell j hj2, Deep.add_add, hsz])
    have hbig : len ≤ 9223372036854775807 := by have h9 : maxLen ≤ 9223372036854775807 := by decide
                                                omega
    refine ⟨l, ⟨some a, cap, by rw [hll], by omega, rfl, by omega, fun _ => ⟨a, rfl, fun j p hj => (hp j p hj).2⟩⟩, by omega, ?_, fun v hv => ?_⟩
    · have z := hf _ (by
        simp only [DataW.weights, ht]
        exact List.mem_cons_self)
      rw [List.length_map, List.length_range, List.length_map, List.length_range] at z
      rw [hll]
      exact Nat.le_trans (Nat.mul_le_mul_right _ (by omega)) z
    · obtain ⟨i, hi⟩ := List.getElem?_of_mem hv
      exact (hp i v hi).1
theorem opensFs_one {α : Type} {d : Kd α} {G : α → Prop} {f : Field} {off : Nat} (ho : Opens P f.type d G) (hoff : f.offset = off) (hsz : P.cellsOf f.type = d.sz) : OpensFs P off [f] d G := by
  constructor
  intro H enc w base spare held n cs xs hl hx h hf
  match xs, hx with
  | [y], _ =>
    have h0 := h 0 f rfl
    rw [hoff, List.take_of_length_le (by rw [List.length_drop, hl, hsz]; omega)] at h0
    exact ho.run (h0 : _ = some y) (fun k hk => hf k (by simpa [DataW.weightsEach] using hk))
theorem opensFs_cons {α β : Type} {d : Kd α} {d' : Kd β} {G : α → Prop} {G' : β → Prop} {f : Field} {fs : List Field} {off : Nat} (ho : Opens P f.type d G) (hr : OpensFs P (off + d.sz) fs d' G') (hoff : f.offset = off) (hsz : P.cellsOf f.type = d.sz) :
    OpensFs P off (f :: fs) (Kd.pair d d') (fun v => G v.1 ∧ G' v.2) := by
  constructor
  intro H enc w base spare held n cs xs hl hx h hf
  have hl2 : cs.length = off + (d.sz + d'.sz) := hl
  match xs, hx with
  | y :: ys, hx =>
    have h0 := h 0 f rfl
    rw [hoff, hsz] at h0
    obtain ⟨v, hK, hG⟩ := ho.run (h0 : _ = some y) (fun k hk => hf k (by
      simp only [List.map_cons, DataW.weightsEach, List.mem_append]
      exact .inl hk))
    obtain ⟨v', hK', hG'⟩ := hr.run (n := n) (cs := cs) (xs := ys) (by omega) (by simpa using hx) (fun i g hg => h (i + 1) g hg) (fun k hk => hf k (by
      simp only [List.map_cons, DataW.weightsEach, List.mem_append]
      exact .inr hk))
    refine ⟨(v, v'), ⟨_, _, ?_, hK, hK'⟩, hG, hG'⟩
    rw [← List.drop_drop]
    exact (List.take_append_drop d.sz (cs.drop off)).symm
theorem opens_struct {α β : Type} {d : Kd α} {G : α → Prop} {t : TypeId} {fs : Array Field} (ht : P.underlying t = some (.struct fs)) (hsz : P.cellsOf t = d.sz) (ho : OpensFs P 0 fs.toList d G) (f : β → α) (g : α → β) (hfg : ∀ x, f (g x) = x) : Opens P t (Kd.iso d f) (fun v => G (f v)) := by
  constructor
  intro H enc w base spare held fuel cs x h hf
  obtain ⟨xs, n, _, rfl, hl, hlen, hx⟩ := DataW.trod_struct ht h
  obtain ⟨v, hK, hG⟩ := ho.run (n := n) (cs := cs) (xs := xs) (by omega) (by rw [hlen]; exact (Array.length_toList).symm) (fun i q hq => hx i q (by rw [← Array.getElem?_toList]; exact hq)) (fun k hk => hf k (by
    simp only [DataW.weights, ht]
    exact hk))
  rw [List.drop_zero] at hK
  exact ⟨g v, by show d.K w (f (g v)) cs; rw [hfg]; exact hK, by show G (f (g v)); rw [hfg]; exact hG⟩
theorem opens_pairs {α : Type} {d : Kd α} {G : α → Prop} {t : TypeId} {fs : Array Field} (ht : P.underlying t = some (.struct fs)) (hsz : P.cellsOf t = d.sz) (ho : OpensFs P 0 fs.toList d G) : Opens P t d G := by
  constructor
  intro H enc w base spare held fuel cs x h hf
  obtain ⟨v, hK, hG⟩ := (opens_struct ht hsz ho (fun x => x) (fun x => x) (fun _ => rfl)).run h hf
  exact ⟨v, hK, hG⟩
theorem fine_of {H : Type} {ts : List TypeId} {ds : List (DataW H)} {j : Nat} {t : TypeId} {d : DataW H} (hsz : (DataW.weightsEach P ts ds).all (· ≤ reachBytes) = true) (ht : ts[j]? = some t) (hd : ds[j]? = some d) : Fine P t d := fun n hn => by
  have := List.all_eq_true.1 hsz n (DataW.weights_mem_each ht hd n hn)
  simpa using this
/-- A slice that is an argument. -/
theorem open_row {α H : Type} {enc : TypeId × Value → H} {W : World} {base : Nat} {spare : Nat → Bool} {held : Bool} {t e : TypeId} {a : Option Addr} {len cap : Nat} {dd : DataW H} {ps : List MemPlace} {d : Kd α} {G : List α → Prop} (ho : Opens P t (Kd.slice e d) G) (hf : Fine P t dd)
    (h : DataW.Trod enc P W base spare held t (.slice a len cap) dd ps) : ∃ l : List α, len = l.length ∧ l.length ≤ cap ∧ Kd.C d W a l.length l ∧ G l := by
  obtain ⟨fuel, hx⟩ := h
  obtain ⟨v, ⟨A, c, he, hl, hc⟩, hG⟩ := ho.run hx hf
  have he2 : (Value.slice a len cap) = .slice A v.length c := by simpa [Value.cells] using he
  injection he2 with h1 h2 h3
  subst h1; subst h2; subst h3
  exact ⟨v, rfl, hl, hc, hG⟩
/-- A struct that is an argument. -/
theorem open_str {α H : Type} {enc : TypeId × Value → H} {W : World} {base : Nat} {spare : Nat → Bool} {held : Bool} {t : TypeId} {cs : Array Value} {dd : DataW H} {ps : List MemPlace} {d : Kd α} {G : α → Prop} (ho : Opens P t d G) (hf : Fine P t dd)
    (h : DataW.Trod enc P W base spare held t (.agg cs) dd ps) : ∃ v : α, d.K W v cs.toList ∧ G v := by
  obtain ⟨fuel, hx⟩ := h
  exact ho.run hx hf
end
end Go.Proofs.Ytbhkmgidokonkaa.Op
