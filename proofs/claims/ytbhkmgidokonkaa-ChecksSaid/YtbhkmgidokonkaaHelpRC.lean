/- A row of whole numbers that is a cut of a row of the call's own, at that row's begin, whose room may end before the row's: owned, read and written as the row is. -/
import Derived.Test.YtbhkmgidokonkaaWLast
import Derived.Test.YtbhkmgidokonkaaWMore
namespace Go.Proofs.Ytbhkmgidokonkaa.RC
open Go.RowKit Go.Proofs.YtbhkmgidokonkaaW.PrintWords Go.Proofs.YtbhkmgidokonkaaW.PrintLast
def V {α : Type} (d : Kd α) (e : Nat) (W : World) (base : Nat) (ok : Nat → Prop) (v : Value) (xs : List α) : Prop :=
  (∀ k, v.ownBlock = some k → ok k) ∧ ∃ A c ys c', v = .slice A xs.length c ∧ xs.length ≤ c ∧ d.R e W base ok (.slice A (xs ++ ys).length c') (xs ++ ys)
section
variable {α : Type} {d : Kd α} {e : Nat} {W w1 W2 : World} {base base' : Nat} {ok ok' S : Nat → Prop} {u v : Value} {xs : List α} {A : Option Addr} {n c : Nat}
theorem own_cut (A : Option Addr) (n c n' c' : Nat) : (Value.slice A n c).ownBlock = (Value.slice A n' c').ownBlock := by cases A <;> rfl
theorem V_map (h : V d e W base ok v xs) (f : ∀ A n c (ys : List α), d.R e W base ok (.slice A n c) ys → d.R e w1 base' ok' (.slice A n c) ys) : V d e w1 base' ok' v xs := by
  obtain ⟨_, A, c, ys, c', rfl, hl, hr⟩ := h
  have h2 := f _ _ _ _ hr
  exact ⟨fun k hk => h2.1 k ((own_cut _ _ _ _ _).trans hk), A, c, ys, c', rfl, hl, h2⟩
theorem V_cut {n' : Nat} (h : d.R e W base ok (.slice A n' c) xs) (m : Nat) {c' : Nat} (hm : (xs.take m).length ≤ c') : V d e W base ok (.slice A (xs.take m).length c') (xs.take m) := by
  have hn := (Kd.R_reads' h).1
  subst hn
  refine ⟨fun k hk => h.1 k ((own_cut _ _ _ _ _).trans hk), A, c', xs.drop m, c, rfl, hm, ?_⟩
  rw [List.take_append_drop]
  exact h
theorem V_of_R (h : d.R e W base ok v xs) : V d e W base ok v xs := by
  obtain ⟨A, c, rfl⟩ := Kd.R_slice h
  refine ⟨h.1, A, c, [], c, rfl, (Kd.R_reads' h).2.1, ?_⟩
  rw [List.append_nil]
  exact h
theorem V_nil (d : Kd α) (e : Nat) (W : World) (base : Nat) (ok : Nat → Prop) : V d e W base ok (.slice none 0 0) [] := V_of_R (Kd.R_nil d e W base ok)
theorem toV (h : V d e W base ok v xs) : Kd.V d e W base' ok v xs := by
  obtain ⟨_, A, c, ys, c', rfl, hl, hr⟩ := h
  have hF := Kd.F_take (m := xs.length) (Kd.R_F hr) (by rw [List.length_append]; omega)
  rw [List.take_left] at hF
  exact Kd.V_mk hl hF
theorem toVs (h : V d e W base ok v xs) : Kd.V d e W base ok v xs := toV h
theorem V_mono (h : V d e W base ok v xs) (hok : ∀ k, ok k → ok' k) : V d e W base ok' v xs := V_map h (fun _ _ _ _ q => Kd.R_mono q hok)
theorem V_lower (h : V d e W base ok v xs) (hb : base' ≤ base) : V d e W base' ok v xs := V_map h (fun _ _ _ _ q => Kd.R_lower q hb)
theorem V_below (h : V d e W base ok v xs) (hb : Below W.heap.size W w1) : V d e w1 base ok v xs := V_map h (fun _ _ _ _ q => Kd.R_below q hb)
theorem V_alloc (h : V d e W base ok v xs) (o : Obj) : V d e (W.alloc o) base ok v xs := V_map h (fun _ _ _ _ q => Kd.R_alloc q o)
theorem V_drew (h : V d e W base ok v xs) : V d e W.drew base ok v xs := V_map h (fun _ _ _ _ q => Kd.R_drew q)
theorem V_drewN (h : V d e W base ok v xs) (m : Nat) : V d e (W.drewN m) base ok v xs := V_map h (fun _ _ _ _ q => Kd.R_drewN q m)
theorem V_elder' (h : V d e W base ok v xs) (hbase : ∀ k, u.ownBlock = some k → W.heap.size ≤ k) (hb : Below W.heap.size W w1) : V d e w1 base (fun k => ok k ∧ some k ≠ u.ownBlock) v xs := V_map h (fun _ _ _ _ q => Kd.R_elder' q hbase hb)
theorem V_elderB (h : V d e W base ok v xs) (a : Nat) (ha : W.heap.size ≤ a) : V d e W base (fun k => ok k ∧ k ≠ a) v xs := V_map h (fun _ _ _ _ q => Kd.R_mono (Kd.R_bound q) (fun k hk => ⟨hk.1, by have := hk.2.2.1; omega⟩))
theorem V_keptB (h : V d e W base ok v xs) (hk : Kept W w1 S) (hne : ∀ k, ok k → ¬ S k) : V d e w1 base (fun k => ok k ∧ (¬ S k ∧ k < W.heap.size)) v xs := V_map h (fun _ _ _ _ q => Kd.R_keptB q hk hne)
theorem V_types (h : V d e W base ok v xs) {g t : Nat} {cells : Array Value} (hb : W.heap[g]? = some (.cells cells t (0, 0))) (ht : ∀ q, q ∈ e :: d.E → q ≠ t) : V d e W base (fun k => ok k ∧ k ≠ g) v xs := V_map h (fun _ _ _ _ q => Kd.R_types q hb ht)
theorem V_far (h : V d e W base ok v xs) {p : Addr} (hok : ∀ k, ok k → k ≠ p.block) (x : Value) : V d e (W.setCell p x) base ok v xs := V_map h (fun _ _ _ _ q => Kd.R_far q hok x)
theorem V_old (h : V d e W base ok v xs) (hb : Below W.heap.size W w1) : V d e w1 base (fun k => ok k ∧ k < W.heap.size) v xs := V_map h (fun _ _ _ _ q => Kd.R_mono (Kd.R_below (Kd.R_bound q) hb) (fun _ hk => ⟨hk.1, hk.2.2.1⟩))
theorem V_told {N' : Nat} (h : V d e w1 base (fun k => ok k ∧ k < N') v xs) (hbase : ∀ k, u.ownBlock = some k → N' ≤ k) : V d e w1 base (fun k => (ok k ∧ some k ≠ u.ownBlock) ∧ k < N') v xs :=
  V_mono h (fun k hk => ⟨⟨hk.1, fun e_ => Nat.lt_irrefl _ (Nat.lt_of_lt_of_le hk.2 (hbase k e_.symm))⟩, hk.2⟩)
theorem V_apart_nil (h : V d e W base ok v xs) : V d e W base (fun k => ok k ∧ some k ≠ (Value.slice none 0 0).ownBlock) v xs := V_mono h (fun k hk => ⟨hk, by simp [Value.ownBlock]⟩)
theorem V_keep {g : Nat} (h : V d e W base ok v xs) (hk : KeepBut W w1 g none) (hok : ∀ k, ok k → k ≠ g) : V d e w1 base ok v xs := V_map h (fun _ _ _ _ q => Kd.R_keep q hk hok)
theorem V_grown (h : V d e W base ok v xs) {row : Option Nat} (hg : W.grownBy w1 row) (hok : ∀ k, ok k → some k ≠ row) : V d e w1 base ok v xs := V_map h (fun _ _ _ _ q => Kd.R_grown q hg hok)
theorem V_far5 {g : Nat} (h : V d e W base ok v xs) (hok : ∀ k, ok k → k ≠ g) (a b c x y : Value) : V d e (((((W.setCell ⟨g, 0, none⟩ a).setCell ⟨g, 1, none⟩ b).setCell ⟨g, 2, none⟩ c).setCell ⟨g, 3, none⟩ x).setCell ⟨g, 4, none⟩ y) base ok v xs := (V_far (p := ⟨g, 4, none⟩) (V_far (p := ⟨g, 3, none⟩) (V_far (p := ⟨g, 2, none⟩) (V_far (p := ⟨g, 1, none⟩) (V_far (p := ⟨g, 0, none⟩) h hok a) hok b) hok c) hok x) hok y)
theorem V_slice (h : V d e W base ok v xs) : ∃ A c, v = .slice A xs.length c := by
  obtain ⟨_, A, c, _, _, hv, _⟩ := h
  exact ⟨A, c, hv⟩
theorem V_tight (hE : d.E = []) (h : V d e W base ok v xs) : V d e W base (fun k => some k = v.ownBlock) v xs := by
  obtain ⟨_, A, c, ys, c', rfl, hl, hr⟩ := h
  exact ⟨fun k hk => hk.symm, A, c, ys, c', rfl, hl, Kd.R_mono (Kd.R_tight hE hr) (fun k hk => hk.trans (own_cut _ _ _ _ _))⟩
theorem V_reok (hE : d.E = []) {ok1 : Nat → Prop} (h : V d e W base ok1 v xs) (hok : ∀ k, v.ownBlock = some k → ok k) : V d e W base ok v xs := V_mono (V_tight hE h) (fun k hk => hok k hk.symm)
theorem V_ne (h : V d e W base ok v xs) {g t : Nat} {cells : Array Value} (hb : W.heap[g]? = some (.cells cells t (0, 0))) (ht : e ≠ t) : some g ≠ v.ownBlock := by
  obtain ⟨_, A, c, ys, c', rfl, hl, hr⟩ := h
  rw [own_cut A xs.length c (xs ++ ys).length c']
  exact Kd.R_ne hr hb ht
theorem V_lt (h : V d e W base ok v xs) : ∀ k, v.ownBlock = some k → k < W.heap.size := by
  obtain ⟨_, A, c, ys, c', rfl, hl, hr⟩ := h
  exact fun k hk => Kd.R_lt hr k ((own_cut _ _ _ _ _).trans hk)
theorem V_base (h : V d e W base ok v xs) : ∀ k, v.ownBlock = some k → base ≤ k := by
  obtain ⟨_, A, c, ys, c', rfl, hl, hr⟩ := h
  exact fun k hk => Kd.R_base hr k ((own_cut _ _ _ _ _).trans hk)
theorem V_reads' (h : V d e W base ok (.slice A n c) xs) : n = xs.length ∧ n ≤ c ∧ d.C W A xs.length xs := Kd.V_reads' (toV (base' := base) h)
theorem V_form (h : V d e W base ok v xs) (hp : 0 < xs.length) : ∃ g cap, v = .slice (some ⟨g, 0, none⟩) xs.length cap ∧ base ≤ g ∧ g < W.heap.size ∧ ∃ cells, W.heap[g]? = some (.cells cells e (0, 0)) := by
  obtain ⟨_, A, c, ys, c', rfl, hl, hr⟩ := h
  obtain ⟨g, cap, he, h1, h2, h3⟩ := Kd.R_form hr (by rw [List.length_append]; omega)
  injection he with ha _ _
  subst ha
  exact ⟨g, c, rfl, h1, h2, h3⟩
end
section
variable {α : Type} {enc : α → Value} {h1 : ∀ x, (enc x).oneCell' = true} {e : Nat} {W : World} {base g n cap : Nat} {ok : Nat → Prop} {xs : List α}
theorem V_celln (z : α) (h : V (Kd.scalar enc h1) e W base ok (.slice (some ⟨g, 0, none⟩) n cap) xs) (i : Int) (h0 : 0 ≤ i) (hi : i < n) : W.cell? ⟨g, i.toNat, none⟩ = some (enc (rdOf z xs i)) ∧ W.frozen? ⟨g, i.toNat, none⟩ = false := by
  obtain ⟨_, A, c, ys, c', he, hl, hr⟩ := h
  injection he with ha hn hc
  subst ha; subst hn
  have q := Kd.R_celln z hr i h0 (by rw [List.length_append]; omega)
  have e1 : rdOf z (xs ++ ys) i = rdOf z xs i := by
    unfold rdOf
    rw [List.getD_eq_getElem?_getD, List.getD_eq_getElem?_getD, List.getElem?_append_left (by omega)]
  rw [e1] at q
  exact q
theorem V_putg (h : V (Kd.scalar enc h1) e W base ok (.slice (some ⟨g, 0, none⟩) n cap) xs) (i : Int) (x : α) : V (Kd.scalar enc h1) e (W.setCell ⟨g, i.toNat, none⟩ (enc x)) base ok (.slice (some ⟨g, 0, none⟩) n cap) (xs.set i.toNat x) ∧ W.grownBy (W.setCell ⟨g, i.toNat, none⟩ (enc x)) (some g) := by
  obtain ⟨hk, A, c, ys, c', he, hl, hr⟩ := h
  injection he with ha hn hc
  subst ha; subst hn; subst hc
  obtain ⟨q1, q2⟩ := Kd.R_putg hr i x
  refine ⟨⟨hk, some ⟨g, 0, none⟩, cap, if i.toNat < xs.length then ys else ys.set (i.toNat - xs.length) x, c', by rw [List.length_set], by rw [List.length_set]; exact hl, ?_⟩, q2⟩
  have e1 : xs.set i.toNat x ++ (if i.toNat < xs.length then ys else ys.set (i.toNat - xs.length) x) = (xs ++ ys).set i.toNat x := by
    by_cases hi : i.toNat < xs.length
    · rw [if_pos hi, List.set_append_left _ _ hi]
    · rw [if_neg hi, List.set_append_right _ _ (by omega), List.set_eq_of_length_le (by omega)]
  rw [e1]
  have e2 : ((xs ++ ys).set i.toNat x).length = (xs ++ ys).length := List.length_set
  rw [e2]
  exact q1
end
end Go.Proofs.Ytbhkmgidokonkaa.RC
