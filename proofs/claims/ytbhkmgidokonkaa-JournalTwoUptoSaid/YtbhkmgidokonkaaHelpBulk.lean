/- A slice of strings that came in: its texts, read off the argument. -/
import Derived.SizedLaws
import Derived.ChangeSlices
import Derived.Deep.Strs
import Derived.Test.YtbhkmgidokonkaaRows
import Derived.Test.YtbhkmgidokonkaaWWords
import Derived.Test.YtbhkmgidokonkaaWLast
import Derived.Test.YtbhkmgidokonkaaWMore
namespace Go.Proofs.Ytbhkmgidokonkaa.Str2
open Go.ChangeShapes Go.WideShapes Go.Proofs.YtbhkmgidokonkaaW.PrintWords
theorem strs_arg2 {H : Type} {enc : TypeId × Value → H} {P : Program} {W : World} {base : Nat} {spare : Nat → Bool} {held : Bool} {t e : TypeId} {a : Option Addr} {len cap : Nat} {d : DataW H} {ps : List MemPlace} {ts : List TypeId} {ds : List (DataW H)} {j : Nat}
    (hsz : (DataW.weightsEach P ts ds).all (· ≤ reachBytes) = true) (ht : ts[j]? = some t) (hd : ds[j]? = some d) (hu : P.underlying t = some (.slice e)) (he : P.underlying e = some .string) (hc : P.cellsOf e = 1) (hB : P.bytesOf e = 16)
    (h : DataW.Trod enc P W base spare held t (.slice a len cap) d ps) : ∃ l : List ByteArray, len = l.length ∧ l.length ≤ cap ∧ l.length * 16 ≤ 140737488351232 ∧ Kd.C Kd.string W a l.length l ∧ ((d = .nil ∧ l = []) ∨ ∃ elems spare_, d = .slice elems spare_ ∧ elems.length = l.length) := by
  obtain ⟨fuel, hf⟩ := h
  rcases Go.Deep.open_strs hu he hc hf with ⟨hcs, hx⟩ | ⟨x, l, c, m, Sx, hcs, _, hl, hm, hmm, hx, hcell⟩
  · simp [Value.cells] at hcs
    obtain ⟨rfl, rfl, rfl⟩ := hcs
    refine ⟨[], rfl, Nat.le_refl _, by decide, Kd.C_of_reads (d := ByteArray.empty) (h1 := fun _ => rfl) ⟨rfl, by simp, fun h => absurd h (Nat.lt_irrefl 0)⟩, .inl ⟨(Prod.mk.inj hx).1, rfl⟩⟩
  · simp [Value.cells] at hcs
    obtain ⟨rfl, rfl, rfl⟩ := hcs
    obtain ⟨hx, _⟩ := Prod.mk.inj hx
    subst hx
    have z := sized_slice hsz ht hd hu
    rw [hB, List.length_map, List.length_map, List.length_range, List.length_range] at z
    have z' : (len + (m - len)) * 16 ≤ 140737488351232 := z
    have hlm : len ≤ m := by rw [hmm]; split <;> omega
    have hlen : ((List.range len).map Sx).length = len := by rw [List.length_map, List.length_range]
    refine ⟨(List.range len).map Sx, hlen.symm, by rw [hlen]; exact hl, by rw [hlen]; omega, ?_, .inr ⟨_, _, rfl, by rw [List.length_map, List.length_map]⟩⟩
    refine Kd.C_of_reads (d := ByteArray.empty) (h1 := fun _ => rfl) ⟨rfl, by rw [hlen]; omega, fun hn => ⟨x, rfl, fun i hi => ?_⟩⟩
    rw [hlen] at hi
    rw [(hcell i (by omega)).1]
    simp [List.getD_eq_getElem?_getD, hi]
theorem bulk_one {H : Type} {d : DataW H} {l : List ByteArray} (h : (d = .nil ∧ l = []) ∨ ∃ elems spare_, d = .slice elems spare_ ∧ elems.length = l.length) : l.length ≤ Rows.uptoBulk d := by
  have one : ∀ x : DataW H, 1 ≤ Rows.uptoBulk x := by
    intro x
    cases x with
    | lit l => cases l <;> simp [Rows.uptoBulk]
    | nil => simp [Rows.uptoBulk]
    | ptr d => simp [Rows.uptoBulk]
    | slice elems spare => simp [Rows.uptoBulk]
    | agg parts => simp [Rows.uptoBulk]
    | iface t d => simp [Rows.uptoBulk]
    | map entries => simp [Rows.uptoBulk]
    | held h => simp [Rows.uptoBulk]
  have all : ∀ q : List (DataW H), q.length ≤ Rows.uptoBulkAll q := by
    intro q
    induction q with
    | nil => simp [Rows.uptoBulkAll]
    | cons x r ih => have := one x; simp only [Rows.uptoBulkAll, List.length_cons]; omega
  rcases h with ⟨rfl, rfl⟩ | ⟨elems, sp, rfl, he⟩
  · exact Nat.zero_le _
  · have := all elems
    simp only [Rows.uptoBulk]
    omega
theorem bulk_two {H : Type} {d0 d1 : DataW H} {l0 l1 : List ByteArray} (h0 : l0.length ≤ Rows.uptoBulk d0) (h1 : l1.length ≤ Rows.uptoBulk d1) (hk : Rows.uptoSmall H [d0, d1] = true) : l0.length + l1.length ≤ 1048576 := by
  have h : Rows.uptoBulkAll [d0, d1] ≤ 1048576 := of_decide_eq_true hk
  simp only [Rows.uptoBulkAll] at h
  omega
end Go.Proofs.Ytbhkmgidokonkaa.Str2
