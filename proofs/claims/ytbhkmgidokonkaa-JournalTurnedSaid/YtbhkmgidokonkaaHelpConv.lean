/- A row of bytes that a conversion of a string made: owned, with its mark behind the cells; read, written, told as a string again. -/
import Derived.Test.YtbhkmgidokonkaaWLast
import Derived.Test.YtbhkmgidokonkaaWMore
import Derived.Lib.ConvBytes
import Derived.Laws.BytesArg
namespace Go.Proofs.Ytbhkmgidokonkaa.Cv
open Go.RowKit Go.Proofs.YtbhkmgidokonkaaW.PrintWords Go.Proofs.YtbhkmgidokonkaaW.PrintLast
def RF (W : World) (base : Nat) (v : Value) (xs : List Int) : Prop :=
  ∃ (g cap : Nat) (cur : Array Value), v = .slice (some ⟨g, 0, none⟩) xs.length cap ∧ base ≤ g ∧ W.heap[g]? = some (.cells cur 5 (cur.size, cur.size + 1)) ∧ xs.length ≤ cur.size ∧ xs.length ≤ 9223372036854775807 ∧ ∀ j, j < xs.length → cur[j]? = some (.int .u8 (xs.getD j 0))
theorem rf_len {W : World} {base : Nat} {A : Option Addr} {n c : Nat} {xs : List Int} (h : RF W base (.slice A n c) xs) : n = xs.length := by
  obtain ⟨g, cap, cur, he, _⟩ := h
  injection he
theorem rf_C {W : World} {base : Nat} {A : Option Addr} {n c : Nat} {xs : List Int} (h : RF W base (.slice A n c) xs) : Kd.C (Kd.int .u8) W A xs.length xs := by
  obtain ⟨g, cap, cur, he, hb, hg, hl, hm, hc⟩ := h
  injection he with h1 h2 h3
  subst h1
  refine Kd.C_of_reads (d := (0 : Int)) (h1 := fun _ => rfl) ⟨rfl, hm, fun _ => ⟨_, rfl, fun j hj => ?_⟩⟩
  rw [add_plain]
  show (match W.heap[g]? with | some (.cells c _ _) => c[j]? | _ => none) = _
  simp only [hg]
  exact hc j hj
theorem rf_below {W W' : World} {base : Nat} {v : Value} {xs : List Int} (h : RF W base v xs) (hb : Below W.heap.size W W') : RF W' base v xs := by
  obtain ⟨g, cap, cur, he, hB, hg, hl, hm, hc⟩ := h
  exact ⟨g, cap, cur, he, hB, (hb.block g (Array.getElem?_eq_some_iff.1 hg).1).trans hg, hl, hm, hc⟩
theorem rf_drew {W : World} {base : Nat} {v : Value} {xs : List Int} (h : RF W base v xs) : RF W.drew base v xs := rf_below h (below_drew (Below.refl _ _))
theorem rf_drewN {W : World} {base : Nat} {v : Value} {xs : List Int} (h : RF W base v xs) (m : Nat) : RF (W.drewN m) base v xs := rf_below h (pw_below_drewN (Below.refl _ _) m)
theorem rf_alloc {W : World} {base : Nat} {v : Value} {xs : List Int} (h : RF W base v xs) (o : Obj) : RF (W.alloc o) base v xs := rf_below h (below_alloc (Below.refl _ _) o)
theorem rf_form {W : World} {base : Nat} {v : Value} {xs : List Int} (h : RF W base v xs) (_hp : 0 < xs.length) : ∃ g cap, v = .slice (some ⟨g, 0, none⟩) xs.length cap ∧ base ≤ g ∧ g < W.heap.size ∧ ∃ cells, W.heap[g]? = some (.cells cells 5 (cells.size, cells.size + 1)) := by
  obtain ⟨g, cap, cur, he, hB, hg, hl, hm, hc⟩ := h
  exact ⟨g, cap, he, hB, (Array.getElem?_eq_some_iff.1 hg).1, cur, hg⟩
theorem rf_celln {W : World} {base g n cap : Nat} {xs : List Int} (h : RF W base (.slice (some ⟨g, 0, none⟩) n cap) xs) (i : Int) (h0 : 0 ≤ i) (hi : i < n) : W.cell? ⟨g, i.toNat, none⟩ = some (.int .u8 (rdOf (0 : Int) xs i)) ∧ W.frozen? ⟨g, i.toNat, none⟩ = false := by
  obtain ⟨g', cap', cur, he, hB, hg, hl, hm, hc⟩ := h
  injection he with h1 h2 h3
  injection h1 with h1
  injection h1 with h1 _ _
  subst h1 h2
  refine ⟨?_, ?_⟩
  · show (match W.heap[g]? with | some (.cells c _ _) => c[i.toNat]? | _ => none) = _
    simp only [hg]
    exact hc _ (by omega)
  · unfold World.frozen?
    simp only [hg]
    have : ¬ (cur.size ≤ i.toNat) := by omega
    simp [this]
theorem rf_putn {W : World} {base g n cap : Nat} {xs : List Int} (h : RF W base (.slice (some ⟨g, 0, none⟩) n cap) xs) (i : Int) (x : Int) : RF (W.setCell ⟨g, i.toNat, none⟩ (.int .u8 x)) base (.slice (some ⟨g, 0, none⟩) n cap) (xs.set i.toNat x) := by
  obtain ⟨g', cap', cur, he, hB, hg, hl, hm, hc⟩ := h
  injection he with h1 h2 h3
  injection h1 with h1
  injection h1 with h1 _ _
  subst h1 h2 h3
  refine ⟨g, cap, cur.setIfInBounds i.toNat (.int .u8 x), by rw [List.length_set], hB, ?_, by rw [List.length_set, Array.size_setIfInBounds]; exact hl, by rw [List.length_set]; exact hm, ?_⟩
  · show (W.heap.modify g _)[g]? = _
    rw [Array.getElem?_modify, if_pos rfl, hg, Array.size_setIfInBounds]
    rfl
  · intro j hj
    rw [List.length_set] at hj
    rw [Array.getElem?_setIfInBounds]
    by_cases e : i.toNat = j
    · subst e
      rw [if_pos rfl, if_pos (by omega), List.getD_eq_getElem?_getD, List.getElem?_set_self (by omega)]
      rfl
    · rw [if_neg e, hc j hj, List.getD_eq_getElem?_getD, List.getD_eq_getElem?_getD, List.getElem?_set_ne e]
theorem rf_putg {W : World} {base g n cap : Nat} {xs : List Int} (h : RF W base (.slice (some ⟨g, 0, none⟩) n cap) xs) (i : Int) (x : Int) : RF (W.setCell ⟨g, i.toNat, none⟩ (.int .u8 x)) base (.slice (some ⟨g, 0, none⟩) n cap) (xs.set i.toNat x) ∧ True := ⟨rf_putn h i x, trivial⟩
theorem rf_string {P : Program} {W : World} {base : Nat} {v : Value} {xs : List Int} {src e dst : TypeId} (hs : P.underlying src = some (.slice e)) (he : P.underlying e = some (.int .u8)) (hd : P.underlying dst = some .string) (h : RF W base v xs) :
    (convert src dst v).run P W = .ok (.string (strOfNums xs)) W := by
  obtain ⟨g, cap, cur, rfl, hB, hg, hl, hm, hc⟩ := h
  refine run_convert_bytes_arg W src e hs he g 0 xs.length cap xs rfl (fun i hi => ?_) dst hd
  rw [Nat.zero_add]
  show (match W.heap[g]? with | some (.cells c _ _) => c[i]? | _ => none) = _
  simp only [hg]
  exact hc i hi
theorem rf_slice {W : World} {base : Nat} {v : Value} {xs : List Int} (h : RF W base v xs) : ∃ A c, v = .slice A xs.length c := by
  obtain ⟨g, cap, cur, he, _⟩ := h
  exact ⟨_, _, he⟩
theorem rf_made (w : World) (s : ByteArray) (hs : s.size ≤ 140737488355328) (base : Nat) (hb : base ≤ w.heap.size) : RF (Lib.bytesWorld w 5 s) base (.slice (some ⟨w.heap.size, 0, none⟩) s.size (grownCap w s.size 0 5)) (bytesOf s) := by
  have hl : (bytesOf s).length = s.size := by
    unfold bytesOf
    rw [List.length_map, data_length]
  have hcs : (bytesOf s).length ≤ (Lib.bytesCells w 5 s).size := by
    have := grownCap_ge w s.size 0 5
    rw [hl]
    unfold Lib.bytesCells
    rw [Array.size_append, Array.size_map]
    exact Nat.le_add_right _ _
  refine ⟨w.heap.size, grownCap w s.size 0 5, Lib.bytesCells w 5 s, by rw [hl], hb, Lib.bytesWorld_at_new w 5 s, hcs, by rw [hl]; omega, fun j hj => ?_⟩
  rw [hl] at hj
  have h1 := Lib.bytesWorld_cell w 5 s j hj
  have h2 : (Lib.bytesWorld w 5 s).cell? ⟨w.heap.size, j, none⟩ = (Lib.bytesCells w 5 s)[j]? := by
    show (match (Lib.bytesWorld w 5 s).heap[w.heap.size]? with | some (.cells c _ _) => c[j]? | _ => none) = _
    rw [Lib.bytesWorld_at_new]
  rw [← h2, h1]
  refine congrArg (fun z => some (Value.int .u8 z)) ?_
  unfold bytesOf
  have h3 : j < s.data.toList.length := by rw [data_length]; exact hj
  simp [List.getD_eq_getElem?_getD]
  cases s.data[j]? <;> rfl
end Go.Proofs.Ytbhkmgidokonkaa.Cv
