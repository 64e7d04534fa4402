/- A slice of strings that came in: its texts, read off the argument. -/
import Derived.SizedLaws
import Derived.ChangeSlices
import Derived.Deep.Strs
import Derived.Test.YtbhkmgidokonkaaWWords
import Derived.Test.YtbhkmgidokonkaaWLast
import Derived.Test.YtbhkmgidokonkaaWMore
namespace Go.Proofs.Ytbhkmgidokonkaa.Str
open Go.ChangeShapes Go.WideShapes Go.Proofs.YtbhkmgidokonkaaW.PrintWords
theorem strs_arg {H : Type} {enc : TypeId × Value → H} {P : Program} {W : World} {base : Nat} {spare : Nat → Bool} {held : Bool} {t e : TypeId} {a : Option Addr} {len cap : Nat} {d : DataW H} {ps : List MemPlace} {ts : List TypeId} {ds : List (DataW H)} {j : Nat}
    (hsz : (DataW.weightsEach P ts ds).all (· ≤ reachBytes) = true) (ht : ts[j]? = some t) (hd : ds[j]? = some d) (hu : P.underlying t = some (.slice e)) (he : P.underlying e = some .string) (hc : P.cellsOf e = 1) (hB : P.bytesOf e = 16)
    (h : DataW.Trod enc P W base spare held t (.slice a len cap) d ps) : ∃ l : List ByteArray, len = l.length ∧ l.length ≤ cap ∧ l.length * 16 ≤ 140737488351232 ∧ Kd.C Kd.string W a l.length l := by
  obtain ⟨fuel, hf⟩ := h
  rcases Go.Deep.open_strs hu he hc hf with ⟨hcs, _⟩ | ⟨x, l, c, m, Sx, hcs, _, hl, hm, hmm, hx, hcell⟩
  · simp [Value.cells] at hcs
    obtain ⟨rfl, rfl, rfl⟩ := hcs
    refine ⟨[], rfl, Nat.le_refl _, by decide, Kd.C_of_reads (d := ByteArray.empty) (h1 := fun _ => rfl) ⟨rfl, by simp, fun h => absurd h (Nat.lt_irrefl 0)⟩⟩
  · simp [Value.cells] at hcs
    obtain ⟨rfl, rfl, rfl⟩ := hcs
    obtain ⟨hx, _⟩ := Prod.mk.inj hx
    subst hx
    have z := sized_slice hsz ht hd hu
    rw [hB, List.length_map, List.length_map, List.length_range, List.length_range] at z
    have z' : (len + (m - len)) * 16 ≤ 140737488351232 := z
    have hlm : len ≤ m := by rw [hmm]; split <;> omega
    have hlen : ((List.range len).map Sx).length = len := by rw [List.length_map, List.length_range]
    refine ⟨(List.range len).map Sx, hlen.symm, by rw [hlen]; exact hl, by rw [hlen]; omega, ?_⟩
    refine Kd.C_of_reads (d := ByteArray.empty) (h1 := fun _ => rfl) ⟨rfl, by rw [hlen]; omega, fun hn => ⟨x, rfl, fun i hi => ?_⟩⟩
    rw [hlen] at hi
    rw [(hcell i (by omega)).1]
    simp [List.getD_eq_getElem?_getD, hi]
theorem strs_arg2 {H : Type} {enc : TypeId × Value → H} {P : Program} {W : World} {base : Nat} {spare : Nat → Bool} {held : Bool} {t e : TypeId} {a : Option Addr} {len cap : Nat} {d : DataW H} {ps : List MemPlace} {ts : List TypeId} {ds : List (DataW H)} {j : Nat}
    (hsz : (DataW.weightsEach P ts ds).all (· ≤ reachBytes) = true) (ht : ts[j]? = some t) (hd : ds[j]? = some d) (hu : P.underlying t = some (.slice e)) (he : P.underlying e = some .string) (hc : P.cellsOf e = 1) (hB : P.bytesOf e = 16)
    (h : DataW.Trod enc P W base spare held t (.slice a len cap) d ps) : ∃ l : List ByteArray, len = l.length ∧ l.length ≤ cap ∧ l.length * 16 ≤ 140737488351232 ∧ Kd.C Kd.string W a l.length l ∧ ((d = .nil ∧ l = []) ∨ ∃ elems spare_, d = .slice elems spare_ ∧ elems.length = l.length) := by
  obtain ⟨fuel, hf⟩ := h
  rcases Go.Deep.open_strs hu he hc hf with ⟨hcs, hx⟩ | ⟨x, l, c, m, Sx, hcs, _, hl, hm, hmm, hx, hcell⟩
  · simp [Value.cells] at hcs
    obtain ⟨rfl, rfl, rfl⟩ := hcs
    refine ⟨[], rfl, Nat.le_refl _, by decide, Kd.C_of_reads (d := ByteArray.empty) (h1 := fun _ => rfl) ⟨rfl, by simp, fun h => absurd h (Nat.lt_irrefl 0)⟩, .inl ⟨(Prod.mk.inj hx).1, rfl⟩⟩
  · simp [Value.cells] at hcs
    obtain ⟨rfl, rfl, rfl⟩ := hcs
    obtain ⟨hx, _⟩ := Prod.mk.inj hx
    subst hx
    have z := sized_slice hsz ht hd hu
    rw [hB, List.length_map, List.length_map, List.length_range, List.length_range] at z
    have z' : (len + (m - len)) * 16 ≤ 140737488351232 := z
    have hlm : len ≤ m := by rw [hmm]; split <;> omega
    have hlen : ((List.range len).map Sx).length = len := by rw [List.length_map, List.length_range]
    refine ⟨(List.range len).map Sx, hlen.symm, by rw [hlen]; exact hl, by rw [hlen]; omega, ?_, .inr ⟨_, _, rfl, by rw [List.length_map, List.length_map]⟩⟩
    refine Kd.C_of_reads (d := ByteArray.empty) (h1 := fun _ => rfl) ⟨rfl, by rw [hlen]; omega, fun hn => ⟨x, rfl, fun i hi => ?_⟩⟩
    rw [hlen] at hi
    rw [(hcell i (by omega)).1]
    simp [List.getD_eq_getElem?_getD, hi]
end Go.Proofs.Ytbhkmgidokonkaa.Str
