/- P17.1, R4: for every row of texts and every text: Text and Load of package journal answer what the document's reference answers, what was put comes back, and what was lent stays. No condition. -/
import Derived.Test.YtbhkmgidokonkaaPJournalsx4
import Derived.Test.YtbhkmgidokonkaaHelp
namespace Go.Proofs.Ytbhkmgidokonkaa.Pure
open Go.RowKit Go.Proofs.Ytbhkmgidokonkaa Go.Proofs.Ytbhkmgidokonkaa.PJournals Go.Proofs.YtbhkmgidokonkaaW.PrintWords Go.Proofs.YtbhkmgidokonkaaW.PrintLast Go.Proofs.YtbhkmgidokonkaaW.PrintMore
set_option linter.unusedVariables false
set_option linter.unusedSimpArgs false

def tI (x : Nat) : Nat := if x % 2 = 1 then (x / 2) ^^^ 3988292384 else x / 2
theorem tI_lt {x : Nat} (h : x < 4294967296) : tI x < 4294967296 := by
  unfold tI
  split
  · exact Nat.xor_lt_two_pow (n := 32) (show x / 2 < 2 ^ 32 by omega) (by decide)
  · omega
theorem tI_xor (x y : Nat) : tI (x ^^^ y) = tI x ^^^ tI y := by
  have h2 : (x ^^^ y) / 2 = x / 2 ^^^ y / 2 := by
    have := @Nat.shiftRight_xor_distrib 1 x y
    simpa [Nat.shiftRight_eq_div_pow] using this
  have hm : (x ^^^ y) % 2 = 1 ↔ ¬ (x % 2 = 1 ↔ y % 2 = 1) := by
    rw [Nat.xor_mod_two_eq_one]
  unfold tI
  rw [h2]
  by_cases hx : x % 2 = 1 <;> by_cases hy : y % 2 = 1 <;> simp [hm, hx, hy]
  · rw [Nat.xor_assoc, ← Nat.xor_assoc (3988292384) (y/2), Nat.xor_comm 3988292384 (y/2), Nat.xor_assoc (y/2), Nat.xor_self, Nat.xor_zero]
  · rw [Nat.xor_assoc, Nat.xor_assoc, Nat.xor_comm 3988292384]
  · rw [Nat.xor_assoc]
theorem xor_eq_zero {x y : Nat} (h : x ^^^ y = 0) : x = y := by
  have : (x ^^^ y) ^^^ y = y := by rw [h, Nat.zero_xor]
  rwa [Nat.xor_assoc, Nat.xor_self, Nat.xor_zero] at this
theorem tI_zero {x : Nat} (h : x < 4294967296) (h0 : tI x = 0) : x = 0 := by
  unfold tI at h0
  split at h0
  · have := xor_eq_zero h0
    omega
  · omega
def t8 (x : Nat) : Nat := tI (tI (tI (tI (tI (tI (tI (tI x)))))))
theorem t8_lt {x : Nat} (h : x < 4294967296) : t8 x < 4294967296 := tI_lt (tI_lt (tI_lt (tI_lt (tI_lt (tI_lt (tI_lt (tI_lt h)))))))
theorem t8_xor (x y : Nat) : t8 (x ^^^ y) = t8 x ^^^ t8 y := by unfold t8; simp only [tI_xor]
theorem t8_zero {x : Nat} (h : x < 4294967296) (h0 : t8 x = 0) : x = 0 := by
  have h1 := tI_lt h
  have h2 := tI_lt h1
  have h3 := tI_lt h2
  have h4 := tI_lt h3
  have h5 := tI_lt h4
  have h6 := tI_lt h5
  have h7 := tI_lt h6
  exact tI_zero h (tI_zero h1 (tI_zero h2 (tI_zero h3 (tI_zero h4 (tI_zero h5 (tI_zero h6 (tI_zero h7 h0)))))))
theorem xor_lt32 {x y : Nat} (h : x < 4294967296) (h' : y < 4294967296) : x ^^^ y < 4294967296 := Nat.xor_lt_two_pow (n := 32) h h'
theorem t8_inj {x y : Nat} (h : x < 4294967296) (h' : y < 4294967296) (e : t8 x = t8 y) : x = y := by
  refine xor_eq_zero (t8_zero (xor_lt32 h h') ?_)
  rw [t8_xor, e, Nat.xor_self]
theorem tI_even (m : Nat) : tI (2 * m) = m := by
  unfold tI
  rw [if_neg (by omega)]
  omega
theorem t8_up (m : Nat) : t8 (256 * m) = m := by
  unfold t8
  rw [show 256 * m = 2 * (128 * m) by omega, tI_even, show 128 * m = 2 * (64 * m) by omega, tI_even, show 64 * m = 2 * (32 * m) by omega, tI_even, show 32 * m = 2 * (16 * m) by omega, tI_even, show 16 * m = 2 * (8 * m) by omega, tI_even, show 8 * m = 2 * (4 * m) by omega, tI_even, show 4 * m = 2 * (2 * m) by omega, tI_even, tI_even]
def crcF (x : Nat) : List Nat → Nat
  | [] => x
  | b :: bs => crcF (t8 (x ^^^ b)) bs
theorem crcF_append (x : Nat) (a b : List Nat) : crcF x (a ++ b) = crcF (crcF x a) b := by
  induction a generalizing x with
  | nil => rfl
  | cons h t ih => exact ih _
theorem crcF_lt {x : Nat} (h : x < 4294967296) (l : List Nat) (hl : ∀ b ∈ l, b < 256) : crcF x l < 4294967296 := by
  induction l generalizing x with
  | nil => exact h
  | cons b t ih =>
    have := hl b (List.mem_cons_self ..)
    exact ih (t8_lt (xor_lt32 h (by omega))) fun c hc => hl c (List.mem_cons_of_mem _ hc)
theorem crcF_xor (x z : Nat) (a b : List Nat) (h : a.length = b.length) : crcF (x ^^^ z) (List.zipWith (· ^^^ ·) a b) = crcF x a ^^^ crcF z b := by
  induction a generalizing x z b with
  | nil => cases b with
    | nil => rfl
    | cons c u => simp at h
  | cons c u ih => cases b with
    | nil => simp at h
    | cons d v =>
      show crcF (t8 ((x ^^^ z) ^^^ (c ^^^ d))) _ = crcF (t8 (x ^^^ c)) u ^^^ crcF (t8 (z ^^^ d)) v
      rw [← ih _ _ _ (by simpa using h), ← t8_xor]
      congr 2
      rw [Nat.xor_assoc, Nat.xor_assoc, ← Nat.xor_assoc z, Nat.xor_comm z c, Nat.xor_assoc c]
theorem crcF_zeros {z : Nat} (n : Nat) (h : z < 4294967296) (h0 : crcF z (List.replicate n 0) = 0) : z = 0 := by
  induction n generalizing z with
  | zero => exact h0
  | succ n ih =>
    have := ih (z := t8 (z ^^^ 0)) (t8_lt (by rw [Nat.xor_zero]; exact h)) (by rw [List.replicate_succ] at h0; exact h0)
    rw [Nat.xor_zero] at this
    exact t8_zero h this
theorem t8_0 : t8 0 = 0 := by decide
theorem crcF_zeros0 (n : Nat) : crcF 0 (List.replicate n 0) = 0 := by
  induction n with
  | zero => rfl
  | succ n ih =>
    rw [List.replicate_succ]
    unfold crcF
    rw [Nat.xor_zero, t8_0]
    exact ih
theorem xor_low (r : Nat) : r ^^^ (r % 256) = 256 * (r / 256) := by
  refine Nat.eq_of_testBit_eq fun i => ?_
  rw [Nat.testBit_xor, show (256 : Nat) = 2 ^ 8 from rfl, Nat.testBit_mod_two_pow, Nat.testBit_two_pow_mul, Nat.testBit_div_two_pow]
  by_cases h : i < 8
  · simp [h, show ¬ 8 ≤ i by omega]
  · simp [h, show 8 ≤ i by omega, show i - 8 + 8 = i by omega]
theorem xor_add (m b : Nat) (hb : b < 256) : (256 * m) ^^^ b = 256 * m + b := by
  refine Nat.eq_of_testBit_eq fun i => ?_
  rw [Nat.testBit_xor, show 256 * m + b = 2 ^ 8 * m + b from rfl, Nat.testBit_two_pow_mul_add m (i := 8) hb i, show (256 : Nat) = 2 ^ 8 from rfl, Nat.testBit_two_pow_mul]
  by_cases h : i < 8
  · simp [h, show ¬ 8 ≤ i by omega]
  · have : b.testBit i = false := Nat.testBit_lt_two_pow (Nat.lt_of_lt_of_le hb (show (2:Nat) ^ 8 ≤ 2 ^ i from Nat.pow_le_pow_right (by decide) (show 8 ≤ i by omega)))
    simp [h, show 8 ≤ i by omega, this]
theorem crcF_self (r : Nat) (h : r < 4294967296) : crcF r [r % 256, r / 256 % 256, r / 65536 % 256, r / 16777216 % 256] = 0 := by
  show t8 (t8 (t8 (t8 (r ^^^ r % 256) ^^^ r / 256 % 256) ^^^ r / 65536 % 256) ^^^ r / 16777216 % 256) = 0
  rw [xor_low, t8_up, xor_low, t8_up, show r / 65536 = r / 256 / 256 by omega, xor_low, t8_up, show r / 16777216 = r / 256 / 256 / 256 by omega, xor_low, t8_up]
  omega
theorem xor_back {x m b : Nat} (h : x ^^^ b = 256 * m) (hb : b < 256) : x = 256 * m + b := by
  rw [← xor_add m b hb, ← h, Nat.xor_assoc, Nat.xor_self, Nat.xor_zero]
theorem crcF_four (e0 e1 e2 e3 : Nat) (h0 : e0 < 256) (h1 : e1 < 256) (h2 : e2 < 256) (h3 : e3 < 256) (h : crcF 0 [e0, e1, e2, e3] = 0) : e0 = 0 ∧ e1 = 0 ∧ e2 = 0 ∧ e3 = 0 := by
  have h : t8 (t8 (t8 (t8 (0 ^^^ e0) ^^^ e1) ^^^ e2) ^^^ e3) = 0 := h
  rw [Nat.zero_xor] at h
  have b0 : t8 e0 < 4294967296 := t8_lt (by omega)
  have b1 := t8_lt (xor_lt32 b0 (show e1 < 4294967296 by omega))
  have b2 := t8_lt (xor_lt32 b1 (show e2 < 4294967296 by omega))
  have a3 := xor_eq_zero (t8_zero (xor_lt32 b2 (by omega)) h)
  have a2 := t8_inj (y := 256 * e3) (xor_lt32 b1 (by omega)) (by omega) (a3.trans (t8_up e3).symm)
  have a2' := xor_back a2 h2
  have a1 := t8_inj (y := 256 * (256 * e3 + e2)) (xor_lt32 b0 (by omega)) (by omega) (a2'.trans (t8_up _).symm)
  have a1' := xor_back a1 h1
  have a0 := t8_inj (x := e0) (y := 256 * (256 * (256 * e3 + e2) + e1)) (by omega) (by omega) (a1'.trans (t8_up _).symm)
  omega
def fourN (r : Nat) : List Nat := [r % 256, r / 256 % 256, r / 65536 % 256, r / 16777216 % 256]
theorem fourN_xor (a b : Nat) : fourN (a ^^^ b) = List.zipWith (· ^^^ ·) (fourN a) (fourN b) := by
  have hm : ∀ x y : Nat, (x ^^^ y) % 256 = (x % 256) ^^^ (y % 256) := fun x y => Nat.xor_mod_two_pow (n := 8)
  have h8 : (a ^^^ b) / 256 = (a / 256) ^^^ (b / 256) := by simpa [Nat.shiftRight_eq_div_pow] using @Nat.shiftRight_xor_distrib 8 a b
  have h16 : (a ^^^ b) / 65536 = (a / 65536) ^^^ (b / 65536) := by simpa [Nat.shiftRight_eq_div_pow] using @Nat.shiftRight_xor_distrib 16 a b
  have h24 : (a ^^^ b) / 16777216 = (a / 16777216) ^^^ (b / 16777216) := by simpa [Nat.shiftRight_eq_div_pow] using @Nat.shiftRight_xor_distrib 24 a b
  simp only [fourN, h8, h16, h24, hm, List.zipWith_cons_cons, List.zipWith_nil_left]
def sumN (m : List Nat) : Nat := crcF 4294967295 m ^^^ 4294967295
theorem crcF_self' (r : Nat) (h : r < 4294967296) : crcF r (fourN r) = 0 := by
  unfold fourN
  exact crcF_self r h
theorem rest_of (R Z : Nat) (hlt : R < 4294967296) : crcF R (fourN (R ^^^ Z)) = crcF 0 (fourN Z) := by
  have h := crcF_xor R 0 (fourN R) (fourN Z) (by simp only [fourN, List.length_cons, List.length_nil])
  rw [fourN_xor]
  rw [Nat.xor_zero, crcF_self' R hlt, Nat.zero_xor] at h
  exact h
theorem sum_rest (m : List Nat) (hm : ∀ b ∈ m, b < 256) : crcF 4294967295 (m ++ fourN (sumN m)) = crcF 0 (fourN 4294967295) := by
  have hlt := crcF_lt (x := 4294967295) (by decide) m hm
  unfold sumN
  rw [crcF_append]
  generalize crcF 4294967295 m = R at hlt
  exact rest_of R _ hlt
theorem crcF_stretch (p q : Nat) (es : List Nat) (he : ∀ b ∈ es, b < 256) (h : crcF 0 (List.replicate p 0 ++ es ++ List.replicate q 0) = 0) : crcF 0 es = 0 := by
  rw [crcF_append, crcF_append, crcF_zeros0] at h
  exact crcF_zeros q (crcF_lt (by decide) es he) h
theorem sum_turned (m m' : List Nat) (hm : ∀ b ∈ m, b < 256) (hm' : ∀ b ∈ m', b < 256) (p q : Nat) (es : List Nat) (he : ∀ b ∈ es, b < 256)
    (hl : (m ++ fourN (sumN m)).length = (List.replicate p 0 ++ es ++ List.replicate q 0).length)
    (h : m' ++ fourN (sumN m') = List.zipWith (· ^^^ ·) (m ++ fourN (sumN m)) (List.replicate p 0 ++ es ++ List.replicate q 0)) : crcF 0 es = 0 := by
  refine crcF_stretch p q es he ?_
  have h1 := sum_rest m hm
  have h2 := sum_rest m' hm'
  have h3 := crcF_xor 4294967295 0 _ _ hl
  rw [← h, Nat.xor_zero, h1, h2] at h3
  have h4 : crcF 0 (fourN 4294967295) ^^^ crcF 0 (fourN 4294967295) = 0 := Nat.xor_self _
  rw [h3, ← Nat.xor_assoc] at h4
  have h5 : ∀ a b : Nat, (a ^^^ b) ^^^ a = b := fun a b => by rw [Nat.xor_comm a b, Nat.xor_assoc, Nat.xor_self, Nat.xor_zero]
  rw [← h3] at h4
  have h6 := h5 (crcF 0 (fourN 4294967295)) (crcF 0 (List.replicate p 0 ++ es ++ List.replicate q 0))
  rw [← h3, Nat.xor_self] at h6
  exact h6.symm
theorem crcF_one (e : Nat) (h : e < 256) (h0 : crcF 0 [e] = 0) : e = 0 := by
  have h0 : t8 (0 ^^^ e) = 0 := h0
  rw [Nat.zero_xor] at h0
  exact t8_zero (by omega) h0

theorem toNat_ofInt32 (x : Nat) (h : x < 4294967296) : (BitVec.ofInt 32 (x : Int)).toNat = x := by
  rw [BitVec.toNat_ofInt]
  show ((x : Int) % 4294967296).toNat = x
  omega
theorem wrap_u32 (n : Int) : IntKind.u32.wrap n = n % 4294967296 := by simp [IntKind.wrap, IntKind.signed, IntKind.bits]
theorem u32_xor (x y : Nat) (hx : x < 4294967296) (hy : y < 4294967296) : Go.bits .xor .u32 (x : Int) (y : Int) = ((x ^^^ y : Nat) : Int) := by
  show IntKind.u32.wrap (((BitVec.ofInt 32 (x : Int) ^^^ BitVec.ofInt 32 (y : Int)).toNat : Nat) : Int) = _
  rw [BitVec.toNat_xor, toNat_ofInt32 x hx, toNat_ofInt32 y hy, wrap_u32]
  have := xor_lt32 hx hy
  omega
theorem u32_and (x y : Nat) (hx : x < 4294967296) (hy : y < 4294967296) : Go.bits .and .u32 (x : Int) (y : Int) = ((x &&& y : Nat) : Int) := by
  show IntKind.u32.wrap (((BitVec.ofInt 32 (x : Int) &&& BitVec.ofInt 32 (y : Int)).toNat : Nat) : Int) = _
  rw [BitVec.toNat_and, toNat_ofInt32 x hx, toNat_ofInt32 y hy, wrap_u32]
  have : x &&& y ≤ x := Nat.and_le_left
  omega
theorem and_1 (x : Nat) (h : x < 4294967296) : Go.bits .and .u32 (x : Int) 1 = ((x % 2 : Nat) : Int) := by
  rw [show (1 : Int) = ((1 : Nat) : Int) from rfl, u32_and x 1 h (by decide), Nat.and_one_is_mod]
theorem stepA (x : Nat) (h : x < 4294967296) : Go.bits .xor .u32 ((x : Int) / 2) (Go.bits .and .u32 3988292384 ((-(Go.bits .and .u32 (x : Int) 1)) % 4294967296)) = ((tI x : Nat) : Int) := by
  rw [and_1 x h, show (3988292384 : Int) = ((3988292384 : Nat) : Int) from rfl, show ((x : Int) / 2) = ((x / 2 : Nat) : Int) by omega]
  unfold tI
  by_cases hx : x % 2 = 1
  · rw [if_pos hx, hx, show (-((1 : Nat) : Int)) % 4294967296 = ((4294967295 : Nat) : Int) by decide, u32_and _ _ (by decide) (by decide), show (3988292384 &&& 4294967295 : Nat) = 3988292384 by decide, u32_xor _ _ (by omega) (by decide)]
  · rw [if_neg hx, show x % 2 = 0 by omega, show (-((0 : Nat) : Int)) % 4294967296 = ((0 : Nat) : Int) by decide, u32_and _ _ (by decide) (by decide), Nat.and_zero, u32_xor _ _ (by omega) (by decide), Nat.xor_zero]
theorem w1 (j : Nat) (h : j < 4611686018427387904) : wrap64 ((j : Int) + 1) = ((j + 1 : Nat) : Int) := by unfold wrap64; omega
def bl (s : ByteArray) : List Nat := s.data.toList.map UInt8.toNat
theorem bl_length (s : ByteArray) : (bl s).length = s.size := by unfold bl; rw [List.length_map]; exact data_length s
theorem bl_lt (s : ByteArray) : ∀ b ∈ bl s, b < 256 := by
  intro b hb
  obtain ⟨u, _, rfl⟩ := List.mem_map.1 hb
  exact u.toNat_lt
theorem bl_append (s t : ByteArray) : bl (s ++ t) = bl s ++ bl t := by
  unfold bl
  rw [ByteArray.data_append, Array.toList_append, List.map_append]
theorem bt_bl (s : ByteArray) (i : Nat) (h : i < s.size) : bt s (i : Int) = (((bl s)[i]'(by rw [bl_length]; exact h) : Nat) : Int) := by
  rw [← bt_at s (i : Int) (by rw [Int.toNat_natCast]; exact h)]
  unfold bl
  simp only [Int.toNat_natCast, List.getElem_map, Array.getElem_toList]
  rfl
theorem sl1_step (k x : Nat) (s : ByteArray) (z i : Int) (j : Nat) (hj : j < 8) (hx : x < 4294967296) : frame_sum.l1 (k + 1) (x : Int) s z i (j : Int) = frame_sum.l1 k ((tI x : Nat) : Int) s z i ((j + 1 : Nat) : Int) := by
  rw [frame_sum.l1, if_pos (by omega), stepA x hx, w1 j (by omega)]
theorem sl1_all (k x : Nat) (s : ByteArray) (z i : Int) (hx : x < 4294967296) : frame_sum.l1 (k + 9) (x : Int) s z i 0 = frame_sum.l0 k ((t8 x : Nat) : Int) s z (wrap64 (i + 1)) := by
  have h1 := tI_lt hx
  have h2 := tI_lt h1
  have h3 := tI_lt h2
  have h4 := tI_lt h3
  have h5 := tI_lt h4
  have h6 := tI_lt h5
  have h7 := tI_lt h6
  have e := sl1_step (k + 8) x s z i 0 (by decide) hx
  rw [show ((0 : Nat) : Int) = 0 from rfl] at e
  rw [e, sl1_step (k + 7) _ s z i 1 (by decide) h1, sl1_step (k + 6) _ s z i 2 (by decide) h2, sl1_step (k + 5) _ s z i 3 (by decide) h3, sl1_step (k + 4) _ s z i 4 (by decide) h4, sl1_step (k + 3) _ s z i 5 (by decide) h5, sl1_step (k + 2) _ s z i 6 (by decide) h6, sl1_step (k + 1) _ s z i 7 (by decide) h7]
  rw [frame_sum.l1, if_neg (by decide)]
  rfl
theorem xor_ff (x : Nat) (hx : x < 4294967296) : Go.bits .xor .u32 4294967295 (x : Int) = ((x ^^^ 4294967295 : Nat) : Int) := by
  rw [show (4294967295 : Int) = ((4294967295 : Nat) : Int) from rfl, u32_xor _ _ (by decide) hx, Nat.xor_comm]
theorem byte_in (s : ByteArray) (i x : Nat) (h : i < s.size) (hx : x < 4294967296) : Go.bits .xor .u32 (x : Int) ((bt s (i : Int)) % 4294967296) = ((x ^^^ (bl s)[i]'(by rw [bl_length]; exact h) : Nat) : Int) := by
  have hb := bl_lt s _ (List.getElem_mem (show i < (bl s).length by rw [bl_length]; exact h))
  rw [bt_bl s i h, show (((bl s)[i]'(by rw [bl_length]; exact h) : Nat) : Int) % 4294967296 = (((bl s)[i]'(by rw [bl_length]; exact h) : Nat) : Int) by omega, u32_xor _ _ hx (by omega)]
theorem sl0_all (s : ByteArray) (hs : s.size ≤ 1152921504606846976) : ∀ (d i x k : Nat), i + d = s.size → 10 * d < k → x < 4294967296 → frame_sum.l0 k (x : Int) s (s.size : Int) (i : Int) = some ((crcF x ((bl s).drop i) ^^^ 4294967295 : Nat) : Int) := by
  intro d
  induction d with
  | zero =>
    intro i x k hi hk hx
    obtain ⟨k, rfl⟩ : ∃ m, k = m + 1 := ⟨k - 1, by omega⟩
    rw [frame_sum.l0, if_neg (by omega), xor_ff x hx, List.drop_eq_nil_of_le (by rw [bl_length]; omega)]
    rfl
  | succ d ih =>
    intro i x k hi hk hx
    obtain ⟨k, rfl⟩ : ∃ m, k = m + 10 := ⟨k - 10, by omega⟩
    have hlt : i < (bl s).length := by rw [bl_length]; omega
    have hb := bl_lt s _ (List.getElem_mem hlt)
    have hx2 : x ^^^ (bl s)[i] < 4294967296 := xor_lt32 hx (by omega)
    rw [frame_sum.l0, if_pos (by omega), if_pos (by omega), if_pos (by omega), byte_in s i x (by omega) hx, sl1_all k _ s _ _ hx2, w1 i (by omega), ih (i + 1) _ k (by omega) (by omega) (t8_lt hx2), List.drop_eq_getElem_cons hlt]
    rfl
theorem sum_eq (s : ByteArray) (hs : s.size ≤ 1152921504606846976) : frame_sum.f s = some ((sumN (bl s) : Nat) : Int) := by
  have := sl0_all s hs s.size 0 4294967295 (10 * s.size + 20) (by omega) (by omega) (by decide)
  unfold frame_sum.f sumN
  exact this
def low2 (n : Nat) : ByteArray := ⟨#[UInt8.ofNat (n % 256), UInt8.ofNat (n / 256 % 256)]⟩
def low4 (n : Nat) : ByteArray := ⟨#[UInt8.ofNat (n % 256), UInt8.ofNat (n / 256 % 256), UInt8.ofNat (n / 65536 % 256), UInt8.ofNat (n / 16777216 % 256)]⟩
theorem shr_i (n i : Nat) (hi : i < 8) : shr .i64 (n : Int) (wrap64 (8 * (i : Int))) % 256 = ((n / 256 ^ i % 256 : Nat) : Int) := by
  have h1 : wrap64 (8 * (i : Int)) = ((8 * i : Nat) : Int) := by unfold wrap64; omega
  have h2 : min (8 * i) (IntKind.i64.bits) = 8 * i := Nat.min_eq_left (by show 8 * i ≤ 64; omega)
  unfold shr
  rw [h1, Int.toNat_natCast, h2, show (256 : Nat) ^ i = 2 ^ (8 * i) by rw [Nat.pow_mul]]
  rw [Int.natCast_emod, Int.natCast_ediv, Int.natCast_pow]
  rfl
theorem take_set (xs : List Int) (i : Nat) (v : Int) (h : i < xs.length) : (xs.set i v).take (i + 1) = xs.take i ++ [v] := by
  rw [List.take_add_one, List.take_set_of_le (by omega), List.getElem?_set_self h]
  rfl
theorem low_l0 (n m : Nat) (hm : m ≤ 8) : ∀ (d i k : Nat) (xs : List Int), xs.length = m → i + d = m → d < k →
    frame_low.l0 k (n : Int) xs (m : Int) (i : Int) = some (strOfNums (xs.take i ++ (List.range' i d).map fun j => ((n / 256 ^ j % 256 : Nat) : Int))) := by
  intro d
  induction d with
  | zero =>
    intro i k xs hl hi hk
    obtain ⟨k, rfl⟩ : ∃ m, k = m + 1 := ⟨k - 1, by omega⟩
    rw [frame_low.l0, if_neg (by omega), List.take_of_length_le (by omega)]
    simp [List.range']
  | succ d ih =>
    intro i k xs hl hi hk
    obtain ⟨k, rfl⟩ : ∃ m, k = m + 1 := ⟨k - 1, by omega⟩
    rw [frame_low.l0, if_pos (by omega), if_pos (by unfold wrap64; omega), if_pos (by omega), if_pos (by omega), shr_i n i (by omega), w1 i (by omega), Int.toNat_natCast, ih (i + 1) k _ (by rw [List.length_set]; exact hl) (by omega) (by omega), take_set xs i _ (by omega), List.range'_succ, List.map_cons, List.append_assoc]
    rfl
theorem strOf2 (n : Nat) : strOfNums ((List.range' 0 2).map fun j => ((n / 256 ^ j % 256 : Nat) : Int)) = low2 n := by
  unfold strOfNums low2
  simp only [List.range', List.map_cons, List.map_nil, Int.toNat_natCast, Nat.pow_zero, Nat.div_one]
theorem strOf4 (n : Nat) : strOfNums ((List.range' 0 4).map fun j => ((n / 256 ^ j % 256 : Nat) : Int)) = low4 n := by
  unfold strOfNums low4
  simp only [List.range', List.map_cons, List.map_nil, Int.toNat_natCast, Nat.pow_zero, Nat.div_one]
theorem low_2 (k n : Nat) (hk : 10 ≤ k) : frame_low.f k (n : Int) 2 = some (low2 n) := by
  unfold frame_low.f
  rw [if_pos (by decide), if_pos (by decide)]
  have := low_l0 n 2 (by decide) 2 0 k [0, 0] rfl rfl (by omega)
  rw [List.take_zero, List.nil_append, strOf2] at this
  exact this
theorem low_4 (k n : Nat) (hk : 10 ≤ k) : frame_low.f k (n : Int) 4 = some (low4 n) := by
  unfold frame_low.f
  rw [if_pos (by decide), if_pos (by decide)]
  have := low_l0 n 4 (by decide) 4 0 k [0, 0, 0, 0] rfl rfl (by omega)
  rw [List.take_zero, List.nil_append, strOf4] at this
  exact this
theorem low2_size (n : Nat) : (low2 n).size = 2 := rfl
theorem low4_size (n : Nat) : (low4 n).size = 4 := rfl
theorem bl_low4 (n : Nat) : bl (low4 n) = fourN n := by
  simp [bl, low4, fourN]
theorem bl_low2 (n : Nat) : bl (low2 n) = [n % 256, n / 256 % 256] := by
  simp [bl, low2]
def frm (s : ByteArray) : ByteArray := (low2 s.size ++ s) ++ low4 (sumN (bl (low2 s.size ++ s)))
theorem frm_size (s : ByteArray) : (frm s).size = 6 + s.size := by
  unfold frm
  rw [ByteArray.size_append, ByteArray.size_append, low2_size, low4_size]
  omega
theorem sumN_lt (m : List Nat) (hm : ∀ b ∈ m, b < 256) : sumN m < 4294967296 := xor_lt32 (crcF_lt (by decide) m hm) (by decide)
theorem put_ok (k : Nat) (s : ByteArray) (hk : 10 ≤ k) (h : s.size ≤ 1024) : frame_Put.f k s = some (frm s, 0) := by
  have hlt := sumN_lt (bl (low2 s.size ++ s)) (bl_lt _)
  unfold frame_Put.f
  rw [if_neg (by omega), low_2 k s.size hk]
  simp only [Option.bind_some]
  rw [if_pos (by rw [low2_size]; omega), sum_eq _ (by rw [ByteArray.size_append, low2_size]; omega)]
  simp only [Option.bind_some]
  rw [wrap_id _ (by omega) (by omega), low_4 k _ hk]
  simp only [Option.bind_some]
  rw [if_pos (by rw [ByteArray.size_append, low2_size, low4_size]; omega)]
  rfl
theorem put_bad (k : Nat) (s : ByteArray) (h : 1024 < s.size) : frame_Put.f k s = some ((⟨#[]⟩ : ByteArray), 1600) := by
  unfold frame_Put.f
  rw [if_pos (by omega)]

theorem bytes_eq {a b : ByteArray} (h : a.toList = b.toList) : a = b := by
  rw [ByteArray.toList_eq, ByteArray.toList_eq] at h
  cases a; cases b
  congr 1
  exact Array.toList_inj.1 h
theorem bl_inj {a b : ByteArray} (h : bl a = bl b) : a = b := by
  cases a; cases b
  congr 1
  refine Array.toList_inj.1 ?_
  unfold bl at h
  exact List.map_inj_right (fun x y e => UInt8.toNat_inj.1 e) |>.1 h
def hdN (t : ByteArray) (i : Nat) : Nat := (bl t).getD i 0 + 256 * (bl t).getD (i + 1) 0
def okAt (t : ByteArray) (i : Nat) : Prop := i + 6 ≤ t.size ∧ hdN t i ≤ 1024 ∧ i + 6 + hdN t i ≤ t.size ∧ t.extract i (i + 6 + hdN t i) = frm (t.extract (i + 2) (i + 2 + hdN t i))
theorem getD_lt (t : ByteArray) (i : Nat) : (bl t).getD i 0 < 256 := by
  rw [List.getD_eq_getElem?_getD]
  cases h : (bl t)[i]? with
  | none => decide
  | some v => exact bl_lt t v (List.mem_of_getElem? h)
theorem bl_extract (t : ByteArray) (i j : Nat) : bl (t.extract i j) = ((bl t).drop i).take (j - i) := by
  unfold bl
  rw [ByteArray.data_extract, Array.toList_extract, List.extract_eq_take_drop, List.map_take, List.map_drop]
theorem bt_at2 (t : ByteArray) (i j m : Nat) (h : i + j < m) (hm : m ≤ t.size) : bt (t.extract i m) (j : Int) = (((bl t).getD (i + j) 0 : Nat) : Int) := by
  have hs : j < (t.extract i m).size := by rw [ByteArray.size_extract]; omega
  rw [bt_bl _ j hs]
  congr 1
  have h2 : (bl (t.extract i m))[j]? = (bl t)[i + j]? := by
    rw [bl_extract, List.getElem?_take_of_lt (by omega), List.getElem?_drop]
  rw [List.getElem?_eq_getElem (by rw [bl_length]; exact hs)] at h2
  rw [List.getD_eq_getElem?_getD, ← h2]
  rfl
theorem or_nat (b0 b1 : Nat) (h0 : b0 < 256) : b0 ||| 256 * b1 = b0 + 256 * b1 := by
  have := Nat.two_pow_add_eq_or_of_lt (i := 8) (b := b0) h0 b1
  rw [show (2 : Nat) ^ 8 = 256 from rfl] at this
  rw [Nat.or_comm, ← this, Nat.add_comm]
theorem or_i (x y : Nat) (hx : x < 65536) (hy : y < 65536) : Go.bits .or .i64 (x : Int) (y : Int) = ((x ||| y : Nat) : Int) := by
  rw [i64_or, show ((x : Int) % 18446744073709551616).toNat = x by omega, show ((y : Int) % 18446744073709551616).toNat = y by omega]
  have : x ||| y < 65536 := Nat.or_lt_two_pow (n := 16) hx hy
  exact wrap_id _ (by omega) (by omega)
theorem hd_le (t : ByteArray) (i : Nat) : hdN t i < 65536 := by
  have h0 := getD_lt t i
  have h1 := getD_lt t (i + 1)
  unfold hdN
  omega
theorem hd_get (t : ByteArray) (i m : Nat) (h : i + 1 < m) (hm : m ≤ t.size) : Go.bits .or .i64 (wrap64 (bt (t.extract i m) 0)) (wrap64 ((wrap64 (bt (t.extract i m) 1)) * 256)) = ((hdN t i : Nat) : Int) := by
  have h0 := getD_lt t i
  have h1 := getD_lt t (i + 1)
  have e0 : bt (t.extract i m) 0 = (((bl t).getD i 0 : Nat) : Int) := bt_at2 t i 0 m (by omega) hm
  have e1 : bt (t.extract i m) 1 = (((bl t).getD (i + 1) 0 : Nat) : Int) := bt_at2 t i 1 m (by omega) hm
  rw [e0, e1, wrap_id (((bl t).getD i 0 : Nat) : Int) (by omega) (by omega), wrap_id (((bl t).getD (i + 1) 0 : Nat) : Int) (by omega) (by omega), wrap_id _ (by omega) (by omega),
    show ((((bl t).getD (i + 1) 0 : Nat) : Int) * 256) = ((256 * (bl t).getD (i + 1) 0 : Nat) : Int) by omega, or_i _ _ (by omega) (by omega), or_nat _ _ h0]
  rfl
theorem w_end (i M : Nat) (h : i + M ≤ 4611686018427387904) : wrap64 (wrap64 (wrap64 ((i : Int) + 2) + (M : Int)) + 4) = ((i + 6 + M : Nat) : Int) := by
  have h1 : wrap64 ((i : Int) + 2) = (i : Int) + 2 := wrap_id _ (by omega) (by omega)
  rw [h1]
  clear h1
  have h2 : wrap64 ((i : Int) + 2 + (M : Int)) = (i : Int) + 2 + (M : Int) := wrap_id _ (by omega) (by omega)
  rw [h2]
  clear h2
  rw [wrap_id _ (by omega) (by omega)]
  omega
theorem w_two (M : Nat) (h : M ≤ 4611686018427387904) : wrap64 (2 + (M : Int)) = ((2 + M : Nat) : Int) := by
  rw [wrap_id _ (by omega) (by omega)]
  omega
theorem w_left (n : Nat) (h : n ≤ 4611686018427387904) : wrap64 (wrap64 ((n : Int) - 2) - 4) = (n : Int) - 6 := by
  have h1 : wrap64 ((n : Int) - 2) = (n : Int) - 2 := wrap_id _ (by omega) (by omega)
  rw [h1]
  clear h1
  rw [wrap_id _ (by omega) (by omega)]
  omega
set_option maxHeartbeats 1000000 in
theorem get_form (k : Nat) (t : ByteArray) (i : Nat) (hk : 30 ≤ k) (ht : t.size ≤ 1152921504606846976) (hi : i + 6 ≤ t.size) :
    frame_Get.f k t (i : Int) = if hdN t i ≤ 1024 ∧ i + 6 + hdN t i ≤ t.size ∧ (frm (t.extract (i + 2) (i + 2 + hdN t i))).toList = (t.extract i (i + 6 + hdN t i)).toList then some (t.extract (i + 2) (i + 2 + hdN t i), ((i + 6 + hdN t i : Nat) : Int), 0) else some ((⟨#[]⟩ : ByteArray), 0, 1600) := by
  obtain ⟨k, rfl⟩ : ∃ m, k = m + 1 := ⟨k - 1, by omega⟩
  have hM := hd_le t i
  unfold frame_Get.f
  rw [if_neg (by omega), if_neg (by omega), wrap_id _ (by omega) (by omega), decide_eq_false (show ¬ ((t.size : Int) - (i : Int) < 6) by omega)]
  have hr : (t.extract i t.size).size = t.size - i := by rw [ByteArray.size_extract]; omega
  rw [frame_Get.j0, if_neg (by decide), if_pos (by omega), if_pos (by omega)]
  simp only [Int.toNat_natCast]
  rw [if_pos (by omega), if_pos (by omega), hd_get t i t.size (by omega) (by omega), hr]
  rw [w_left _ (by omega), w_two _ (by omega)]
  by_cases h1 : i + 6 + hdN t i ≤ t.size
  · rw [if_neg (by omega), if_pos (by omega), if_pos (by omega), Int.toNat_natCast, ByteArray.extract_extract, show min (i + (2 + hdN t i)) t.size = i + 2 + hdN t i by omega]
    have hs : (t.extract (i + 2) (i + 2 + hdN t i)).size = hdN t i := by rw [ByteArray.size_extract]; omega
    by_cases h2 : hdN t i ≤ 1024
    · rw [put_ok k _ (by omega) (by rw [hs]; exact h2)]
      simp only [Option.bind_some]
      rw [if_pos trivial, frm_size, hs, if_pos (by omega), if_pos (by omega), ByteArray.extract_extract, show min (i + (6 + hdN t i)) t.size = i + 6 + hdN t i by omega, show i + 0 = i from rfl]
      by_cases h3 : (frm (t.extract (i + 2) (i + 2 + hdN t i))).toList = (t.extract i (i + 6 + hdN t i)).toList
      · rw [if_pos h3, if_pos ⟨h2, h1, h3⟩]
        rw [w_end _ _ (by omega)]
      · rw [if_neg h3, if_neg (fun h => h3 h.2.2)]
    · rw [put_bad k _ (by rw [hs]; omega)]
      simp only [Option.bind_some]
      rw [if_neg (by decide), if_neg (fun h => h2 h.1)]
  · rw [if_pos (by omega), if_neg (fun h => h1 h.2.1)]
theorem get_yes (k : Nat) (t : ByteArray) (i : Nat) (hk : 30 ≤ k) (ht : t.size ≤ 1152921504606846976) (h : okAt t i) : frame_Get.f k t (i : Int) = some (t.extract (i + 2) (i + 2 + hdN t i), ((i + 6 + hdN t i : Nat) : Int), 0) := by
  rw [get_form k t i hk ht h.1, if_pos ⟨h.2.1, h.2.2.1, by rw [h.2.2.2]⟩]
theorem get_no (k : Nat) (t : ByteArray) (a : Int) (hk : 30 ≤ k) (ht : t.size ≤ 1152921504606846976) (h : ∀ i : Nat, a = (i : Int) → ¬ okAt t i) : frame_Get.f k t a = some ((⟨#[]⟩ : ByteArray), 0, 1600) := by
  by_cases h0 : a < 0
  · obtain ⟨k, rfl⟩ : ∃ m, k = m + 1 := ⟨k - 1, by omega⟩
    unfold frame_Get.f
    rw [if_pos h0, frame_Get.j0, if_pos rfl]
  · obtain ⟨i, rfl⟩ : ∃ i : Nat, a = (i : Int) := ⟨a.toNat, by omega⟩
    have h := h i rfl
    by_cases h6 : i + 6 ≤ t.size
    · rw [get_form k t i hk ht h6, if_neg (fun q => h ⟨h6, q.1, q.2.1, (bytes_eq q.2.2).symm⟩)]
    · obtain ⟨k, rfl⟩ : ∃ m, k = m + 1 := ⟨k - 1, by omega⟩
      unfold frame_Get.f
      rw [if_neg (by omega)]
      by_cases h7 : (i : Int) > (t.size : Int)
      · rw [if_pos h7, frame_Get.j0, if_pos rfl]
      · rw [if_neg h7, wrap_id _ (by omega) (by omega), decide_eq_true (by omega), frame_Get.j0, if_pos rfl]
-- a frame wherever it stands
theorem ext_mid (a s b : ByteArray) (i j : Nat) (hi : i = a.size) (hj : j = a.size + s.size) : ((a ++ s) ++ b).extract i j = s := by
  apply bl_inj
  rw [bl_extract, bl_append, bl_append, List.append_assoc, List.drop_left' (by rw [bl_length, hi]), List.take_left' (by rw [bl_length, hi, hj]; omega)]
theorem hd_frm (s b : ByteArray) (a : ByteArray) (h : s.size < 65536) : hdN ((a ++ frm s) ++ b) a.size = s.size := by
  have hb : bl ((a ++ frm s) ++ b) = bl a ++ (s.size % 256 :: s.size / 256 % 256 :: (bl s ++ bl (low4 (sumN (bl (low2 s.size ++ s)))) ++ bl b)) := by
    rw [bl_append, bl_append]
    unfold frm
    rw [bl_append, bl_append, bl_low2]
    simp
  unfold hdN
  rw [hb, List.getD_eq_getElem?_getD, List.getD_eq_getElem?_getD, List.getElem?_append_right (by rw [bl_length]; omega), List.getElem?_append_right (by rw [bl_length]; omega), bl_length,
    show a.size - a.size = 0 by omega, show a.size + 1 - a.size = 1 by omega]
  simp only [List.getElem?_cons_zero, List.getElem?_cons_succ, Option.getD_some]
  omega
theorem ok_frm (a s b : ByteArray) (h : s.size ≤ 1024) : okAt ((a ++ frm s) ++ b) a.size := by
  have hs := frm_size s
  have hh := hd_frm s b a (by omega)
  have hsz : ((a ++ frm s) ++ b).size = a.size + (6 + s.size) + b.size := by rw [ByteArray.size_append, ByteArray.size_append, hs]
  have e2 : ((a ++ frm s) ++ b).extract (a.size + 2) (a.size + 2 + s.size) = s := by
    have : (a ++ frm s) ++ b = (a ++ low2 s.size) ++ (s ++ (low4 (sumN (bl (low2 s.size ++ s))) ++ b)) := by
      unfold frm; simp only [ByteArray.append_assoc]
    rw [this, ← ByteArray.append_assoc]
    exact ext_mid _ _ _ _ _ (by rw [ByteArray.size_append, low2_size]) (by rw [ByteArray.size_append, low2_size])
  have e3 : ((a ++ frm s) ++ b).extract a.size (a.size + 6 + s.size) = frm s := ext_mid _ _ _ _ _ rfl (by rw [hs]; omega)
  refine ⟨by omega, by rw [hh]; exact h, by rw [hh]; omega, ?_⟩
  rw [hh, e2, e3]
theorem get_frm (k : Nat) (a s b : ByteArray) (hk : 30 ≤ k) (ht : ((a ++ frm s) ++ b).size ≤ 1152921504606846976) (h : s.size ≤ 1024) : frame_Get.f k ((a ++ frm s) ++ b) (a.size : Int) = some (s, ((a.size + 6 + s.size : Nat) : Int), 0) := by
  have ho := ok_frm a s b h
  have hh := hd_frm s b a (by omega)
  rw [get_yes k _ _ hk ht ho, hh]
  have e2 : ((a ++ frm s) ++ b).extract (a.size + 2) (a.size + 2 + s.size) = s := by
    have : (a ++ frm s) ++ b = (a ++ low2 s.size) ++ (s ++ (low4 (sumN (bl (low2 s.size ++ s))) ++ b)) := by
      unfold frm; simp only [ByteArray.append_assoc]
    rw [this, ← ByteArray.append_assoc]
    exact ext_mid _ _ _ _ _ (by rw [ByteArray.size_append, low2_size]) (by rw [ByteArray.size_append, low2_size])
  rw [e2]
theorem nil_app (a : ByteArray) : (⟨#[]⟩ : ByteArray) ++ a = a := ByteArray.empty_append
theorem app_nil (a : ByteArray) : a ++ (⟨#[]⟩ : ByteArray) = a := ByteArray.append_empty
theorem get_frm0 (k : Nat) (s : ByteArray) (hk : 30 ≤ k) (h : s.size ≤ 1024) : frame_Get.f k (frm s) 0 = some (s, ((6 + s.size : Nat) : Int), 0) := by
  have := get_frm k ⟨#[]⟩ s ⟨#[]⟩ hk (by rw [nil_app, app_nil, frm_size]; omega) h
  rw [nil_app, app_nil] at this
  rw [show ((⟨#[]⟩ : ByteArray).size) = 0 from rfl, show 0 + 6 + s.size = 6 + s.size by omega] at this
  exact this

def jnl : List ByteArray → ByteArray
  | [] => ⟨#[]⟩
  | s :: r => frm s ++ jnl r
def jsz : List ByteArray → Nat
  | [] => 0
  | s :: r => 6 + s.size + jsz r
theorem jnl_size : ∀ l, (jnl l).size = jsz l
  | [] => rfl
  | s :: r => by
    show (frm s ++ jnl r).size = 6 + s.size + jsz r
    rw [ByteArray.size_append, frm_size, jnl_size r]
theorem jnl_append : ∀ a b, jnl (a ++ b) = jnl a ++ jnl b
  | [], b => (nil_app (jnl b)).symm
  | s :: r, b => by
    show frm s ++ jnl (r ++ b) = (frm s ++ jnl r) ++ jnl b
    rw [jnl_append r b, ByteArray.append_assoc]
theorem jsz_append : ∀ a b, jsz (a ++ b) = jsz a + jsz b
  | [], b => (Nat.zero_add _).symm
  | s :: r, b => by
    show 6 + s.size + jsz (r ++ b) = 6 + s.size + jsz r + jsz b
    rw [jsz_append r b]; omega
theorem jsz_len : ∀ l, l.length ≤ jsz l
  | [] => Nat.le_refl _
  | s :: r => by
    have := jsz_len r
    show r.length + 1 ≤ 6 + s.size + jsz r
    omega
def fits (l : List ByteArray) : Prop := ∀ s ∈ l, s.size ≤ 1024
theorem go_ok (k : Nat) (hk : 10 ≤ k) : ∀ (l : List ByteArray) (acc : ByteArray), fits l → acc.size + jsz l ≤ 65536 → journal_Text.go k l acc = some (acc ++ jnl l, 0)
  | [], acc, hf, hs => by
    show some (acc, (0 : Int)) = some (acc ++ (⟨#[]⟩ : ByteArray), 0)
    rw [app_nil]
  | s :: r, acc, hf, hs => by
    have h1 : s.size ≤ 1024 := hf s (List.mem_cons_self ..)
    have h2 : acc.size + (6 + s.size + jsz r) ≤ 65536 := hs
    simp only [journal_Text.go]
    rw [put_ok k s hk h1, Option.bind_some]
    dsimp only
    rw [frm_size, if_pos (by omega), if_pos rfl, if_pos (by omega), go_ok k hk r (acc ++ frm s) (fun x hx => hf x (List.mem_cons_of_mem _ hx)) (by rw [ByteArray.size_append, frm_size]; omega), ByteArray.append_assoc]
    rfl
theorem go_bad (k : Nat) (hk : 10 ≤ k) : ∀ (l : List ByteArray) (acc : ByteArray), acc.size ≤ 65536 → ¬ (fits l ∧ acc.size + jsz l ≤ 65536) → journal_Text.go k l acc = some ((⟨#[]⟩ : ByteArray), 1700)
  | [], acc, ha, hn => absurd ⟨fun x hx => absurd hx (List.not_mem_nil), by show acc.size + 0 ≤ 65536; omega⟩ hn
  | s :: r, acc, ha, hn => by
    simp only [journal_Text.go]
    by_cases h1 : s.size ≤ 1024
    · rw [put_ok k s hk h1, Option.bind_some]
      dsimp only
      rw [frm_size, if_pos (by omega), if_pos rfl]
      by_cases h2 : acc.size + (6 + s.size) ≤ 65536
      · rw [if_pos h2]
        refine go_bad k hk r (acc ++ frm s) (by rw [ByteArray.size_append, frm_size]; exact h2) ?_
        rintro ⟨q1, q2⟩
        rw [ByteArray.size_append, frm_size] at q2
        refine hn ⟨fun x hx => ?_, ?_⟩
        · rcases List.mem_cons.1 hx with rfl | hx
          · exact h1
          · exact q1 x hx
        · show acc.size + (6 + s.size + jsz r) ≤ 65536
          omega
      · rw [if_neg h2]
    · rw [put_bad k s (by omega), Option.bind_some]
      dsimp only
      rw [show ((⟨#[]⟩ : ByteArray).size) = 0 from rfl, if_pos (by omega), if_neg (by decide)]
theorem text_ok (k : Nat) (hk : 10 ≤ k) (l : List ByteArray) (hl : l.length ≤ 4611686018427387904) (hf : fits l) (hs : jsz l ≤ 65536) : journal_Text.f k l = some (jnl l, 0) := by
  unfold journal_Text.f
  rw [if_pos hl, go_ok k hk l ⟨#[]⟩ hf (by show 0 + jsz l ≤ 65536; omega), nil_app]
theorem text_bad (k : Nat) (hk : 10 ≤ k) (l : List ByteArray) (hl : l.length ≤ 4611686018427387904) (hn : ¬ (fits l ∧ jsz l ≤ 65536)) : journal_Text.f k l = some ((⟨#[]⟩ : ByteArray), 1700) := by
  unfold journal_Text.f
  rw [if_pos hl]
  refine go_bad k hk l ⟨#[]⟩ (by decide) ?_
  rintro ⟨h1, h2⟩
  exact hn ⟨h1, by have h3 : 0 + jsz l ≤ 65536 := h2; omega⟩
theorem load_run : ∀ (l : List ByteArray) (k : Nat) (t A B : ByteArray) (out : List ByteArray), t = (A ++ jnl l) ++ B → t.size ≤ 65536 → fits l → out.length + l.length < 8796093022208 → ¬ okAt t (A.size + jsz l) → l.length + 40 ≤ k →
    journal_Load.l0 k t out (A.size : Int) = some (out ++ l, ((A.size + jsz l : Nat) : Int))
  | [], k, t, A, B, out, ht, hs, hf, hl, hn, hk => by
    obtain ⟨k, rfl⟩ : ∃ m, k = m + 1 := ⟨k - 1, by have h : 0 + 40 ≤ k := hk; omega⟩
    rw [journal_Load.l0, get_no k t (A.size : Int) (by have h : 0 + 40 ≤ k + 1 := hk; omega) (by omega) (fun i hi => by
      have : i = A.size := by omega
      subst this
      exact hn), Option.bind_some, if_neg (by decide), List.append_nil]
    rfl
  | s :: r, k, t, A, B, out, ht, hs, hf, hl, hn, hk => by
    have hk' : r.length + 1 + 40 ≤ k := hk
    have hl' : out.length + (r.length + 1) < 8796093022208 := hl
    obtain ⟨k, rfl⟩ : ∃ m, k = m + 1 := ⟨k - 1, by omega⟩
    have e1 : t = (A ++ frm s) ++ (jnl r ++ B) := by
      rw [ht]
      show (A ++ (frm s ++ jnl r)) ++ B = _
      simp only [ByteArray.append_assoc]
    have h1 : s.size ≤ 1024 := hf s (List.mem_cons_self ..)
    have g := get_frm k A s (jnl r ++ B) (by omega) (by rw [← e1]; omega) h1
    rw [← e1] at g
    have hA : (A ++ frm s).size = A.size + 6 + s.size := by rw [ByteArray.size_append, frm_size]; omega
    have ih := load_run r k t (A ++ frm s) B (out ++ [s]) (by rw [e1]; simp only [ByteArray.append_assoc]) hs (fun x hx => hf x (List.mem_cons_of_mem _ hx)) (by rw [List.length_append]; show out.length + 1 + r.length < _; omega) (by
      rw [hA]
      have h : ¬ okAt t (A.size + (6 + s.size + jsz r)) := hn
      rwa [show A.size + (6 + s.size + jsz r) = A.size + 6 + s.size + jsz r by omega] at h) (by omega)
    rw [hA] at ih
    rw [journal_Load.l0, g, Option.bind_some, if_pos rfl, if_pos (by omega), ih, List.append_assoc]
    show some (out ++ s :: r, _) = some (out ++ s :: r, ((A.size + (6 + s.size + jsz r) : Nat) : Int))
    rw [show A.size + 6 + s.size + jsz r = A.size + (6 + s.size + jsz r) by omega]
theorem load_ok (k : Nat) (l : List ByteArray) (B : ByteArray) (hf : fits l) (hs : (jnl l ++ B).size ≤ 65536) (hn : ¬ okAt (jnl l ++ B) (jsz l)) (hk : 70000 ≤ k) : journal_Load.f k (jnl l ++ B) = some (l, ((jsz l : Nat) : Int)) := by
  have hl : l.length ≤ 65536 := by
    have h1 := jsz_len l
    have h2 := hs
    rw [ByteArray.size_append, jnl_size] at h2
    omega
  have e := load_run l k (jnl l ++ B) ⟨#[]⟩ B [] (by rw [nil_app]) hs hf (by show 0 + l.length < _; omega) (by
    rw [show ((⟨#[]⟩ : ByteArray).size) = 0 from rfl, Nat.zero_add]; exact hn) (by omega)
  rw [show ((⟨#[]⟩ : ByteArray).size) = 0 from rfl, Nat.zero_add, List.nil_append] at e
  unfold journal_Load.f
  have hm : mn (((jnl l ++ B).size : Nat) : Int) 65536 = (((jnl l ++ B).size : Nat) : Int) := by
    obtain ⟨n, hn'⟩ : ∃ n, n = (jnl l ++ B).size := ⟨_, rfl⟩
    rw [← hn'] at hs ⊢
    unfold mn
    split <;> omega
  rw [hm, if_pos (Int.natCast_nonneg _), if_pos (Int.le_refl _), Int.toNat_natCast, ByteArray.extract_zero_size]
  exact e
theorem same_all (l : List ByteArray) (hb : l.length ≤ 4611686018427387904) : ∀ (d i k : Nat), i + d = l.length → d < k → grafterlaw0_SameTexts.l0 k l l (i : Int) = some true := by
  intro d
  induction d with
  | zero =>
    intro i k hi hk
    obtain ⟨k, rfl⟩ : ∃ m, k = m + 1 := ⟨k - 1, by omega⟩
    rw [grafterlaw0_SameTexts.l0, if_neg (by omega)]
  | succ d ih =>
    intro i k hi hk
    obtain ⟨k, rfl⟩ : ∃ m, k = m + 1 := ⟨k - 1, by omega⟩
    rw [grafterlaw0_SameTexts.l0, if_pos (by omega), if_pos (by omega), if_pos (by omega), if_pos rfl, w1 i (by omega), ih (i + 1) k (by omega) (by omega)]
theorem same_texts (k : Nat) (l : List ByteArray) (hb : l.length ≤ 65536) (hk : 70000 ≤ k) : grafterlaw0_SameTexts.f k l l = some true := by
  unfold grafterlaw0_SameTexts.f
  rw [if_pos rfl]
  exact same_all l (by omega) l.length 0 k (by omega) (by omega)
theorem not_ok_end (t : ByteArray) (i : Nat) (h : t.size < i + 6) : ¬ okAt t i := fun ho => by
  have := ho.1
  omega
theorem num_eq (a : Int) : grafterlaw0_Num.f a = some a := rfl
theorem toList_nil : (⟨#[]⟩ : ByteArray).toList = ([] : List UInt8) := by rw [ByteArray.toList_eq]
def abL : List ByteArray := [⟨#[97]⟩, ⟨#[]⟩, ⟨#[98, 99]⟩]
theorem fits_ab : fits abL := by
  intro s hs
  simp only [abL, List.mem_cons, List.not_mem_nil, or_false] at hs
  rcases hs with rfl | rfl | rfl <;> decide
def cutL : List ByteArray := [⟨#[97]⟩, ⟨#[]⟩]
theorem fits_cut : fits cutL := by
  intro s hs
  simp only [cutL, List.mem_cons, List.not_mem_nil, or_false] at hs
  rcases hs with rfl | rfl <;> decide
theorem ab_cut : (jnl abL).extract 0 20 = jnl cutL ++ (frm ⟨#[98, 99]⟩).extract 0 7 := by
  apply bl_inj
  rw [bl_extract, bl_append, bl_extract, List.drop_zero, List.drop_zero]
  rw [show jnl abL = jnl cutL ++ (frm ⟨#[98, 99]⟩ ++ (⟨#[]⟩ : ByteArray)) from jnl_append cutL [⟨#[98, 99]⟩], app_nil, bl_append, List.take_append, bl_length, jnl_size]
  rw [List.take_of_length_le (by rw [bl_length, jnl_size]; decide)]
  rfl
theorem cut_no : ¬ okAt (jnl cutL ++ (frm ⟨#[98, 99]⟩).extract 0 7) (jsz cutL) := by
  intro ho
  have h2 := ho.2.2.1
  have hb : bl (jnl cutL ++ (frm ⟨#[98, 99]⟩).extract 0 7) = bl (jnl cutL) ++ (2 :: 0 :: ((bl (frm ⟨#[98, 99]⟩)).drop 2).take 5) := by
    rw [bl_append, bl_extract]
    unfold frm
    rw [bl_append (low2 _ ++ _), bl_append, bl_low2]
    rfl
  have hh : hdN (jnl cutL ++ (frm ⟨#[98, 99]⟩).extract 0 7) (jsz cutL) = 2 := by
    unfold hdN
    rw [hb, List.getD_eq_getElem?_getD, List.getD_eq_getElem?_getD, List.getElem?_append_right (by rw [bl_length, jnl_size]; omega), List.getElem?_append_right (by rw [bl_length, jnl_size]; omega), bl_length, jnl_size]
    rfl
  rw [hh, ByteArray.size_append, jnl_size, ByteArray.size_extract, frm_size] at h2
  exact absurd h2 (by decide)
theorem awake_ok (k : Nat) (hk : 70000 ≤ k) : grafterlaw17_awake.f k = some true := by
  have e1 : journal_Text.f k [(⟨#[97]⟩ : ByteArray), (⟨#[]⟩ : ByteArray), (⟨#[98, 99]⟩ : ByteArray)] = some (jnl abL, 0) := text_ok k (by omega) abL (by decide) fits_ab (by decide)
  have hs : (jnl abL).size = 21 := jnl_size abL
  have e2 : journal_Load.f k (jnl abL) = some (abL, 21) := by
    have := load_ok k abL ⟨#[]⟩ fits_ab (by rw [app_nil, hs]; decide) (by rw [app_nil]; exact not_ok_end _ _ (by rw [hs]; decide)) hk
    rw [app_nil] at this
    exact this
  have e3 : journal_Load.f k (jnl abL ++ (⟨#[120]⟩ : ByteArray)) = some (abL, 21) :=
    load_ok k abL ⟨#[120]⟩ fits_ab (by rw [ByteArray.size_append, hs]; decide) (not_ok_end _ _ (by rw [ByteArray.size_append, hs]; decide)) hk
  have e4 : journal_Load.f k ((jnl abL).extract 0 20) = some (cutL, 13) := by
    rw [ab_cut]
    exact load_ok k cutL _ fits_cut (by rw [ByteArray.size_append, jnl_size, ByteArray.size_extract, frm_size]; decide) cut_no hk
  have e5 : journal_Text.f k [strOfNums (List.replicate 1025 0)] = some ((⟨#[]⟩ : ByteArray), 1700) := by
    refine text_bad k (by omega) _ (by decide) ?_
    rintro ⟨h, _⟩
    have := h _ (List.mem_cons_self ..)
    rw [strOfNums_size, List.length_replicate] at this
    omega
  unfold grafterlaw17_awake.f
  rw [e1, Option.bind_some]
  dsimp only
  rw [e2, Option.bind_some, hs, if_pos (by decide), e3, Option.bind_some, if_neg (by decide), show wrap64 (((21 : Nat) : Int) - 1) = 20 by decide +kernel, if_pos (by decide), if_pos (by decide), show ((20 : Int)).toNat = 20 from rfl, e4, Option.bind_some, if_pos (by decide), e5, Option.bind_some, if_pos (by decide), num_eq, Option.bind_some, if_pos rfl]
  dsimp only
  rw [show ([(⟨#[97]⟩ : ByteArray), (⟨#[]⟩ : ByteArray), (⟨#[98, 99]⟩ : ByteArray)] : List ByteArray) = abL from rfl, same_texts k abL (by decide) hk, Option.bind_some, if_pos rfl, if_pos rfl, Option.bind_some, if_pos rfl, if_pos rfl,
    show ([(⟨#[97]⟩ : ByteArray), (⟨#[]⟩ : ByteArray)] : List ByteArray) = cutL from rfl, same_texts k cutL (by decide) hk, Option.bind_some, if_pos rfl, if_pos rfl, num_eq, Option.bind_some]
  rfl

theorem rstep (x : Nat) (h : x < 4294967296) (h1 : x % 2 = 1) : Go.bits .xor .u32 ((x : Int) / 2) 3988292384 = ((tI x : Nat) : Int) := by
  rw [show ((x : Int) / 2) = ((x / 2 : Nat) : Int) by omega, show (3988292384 : Int) = ((3988292384 : Nat) : Int) from rfl, u32_xor _ _ (by omega) (by decide)]
  unfold tI
  rw [if_pos h1]
theorem rl1_step (k x : Nat) (s : ByteArray) (i : Int) (j : Nat) (hj : j < 8) (hx : x < 4294967296) : grafterref12_Sum.l1 (k + 1) s (x : Int) i (j : Int) = grafterref12_Sum.l1 k s ((tI x : Nat) : Int) i ((j + 1 : Nat) : Int) := by
  rw [grafterref12_Sum.l1, if_pos (by omega), and_1 x hx, w1 j (by omega)]
  by_cases h : x % 2 = 1
  · rw [if_pos (by omega), rstep x hx h]
  · rw [if_neg (by omega), show ((x : Int) / 2) = ((x / 2 : Nat) : Int) by omega, show tI x = x / 2 by unfold tI; rw [if_neg h]]
theorem rl1_all (k x : Nat) (s : ByteArray) (i : Int) (hx : x < 4294967296) : grafterref12_Sum.l1 (k + 9) s (x : Int) i 0 = grafterref12_Sum.l0 k s ((t8 x : Nat) : Int) (wrap64 (i + 1)) := by
  have h1 := tI_lt hx
  have h2 := tI_lt h1
  have h3 := tI_lt h2
  have h4 := tI_lt h3
  have h5 := tI_lt h4
  have h6 := tI_lt h5
  have h7 := tI_lt h6
  have e := rl1_step (k + 8) x s i 0 (by decide) hx
  rw [show ((0 : Nat) : Int) = 0 from rfl] at e
  rw [e, rl1_step (k + 7) _ s i 1 (by decide) h1, rl1_step (k + 6) _ s i 2 (by decide) h2, rl1_step (k + 5) _ s i 3 (by decide) h3, rl1_step (k + 4) _ s i 4 (by decide) h4, rl1_step (k + 3) _ s i 5 (by decide) h5, rl1_step (k + 2) _ s i 6 (by decide) h6, rl1_step (k + 1) _ s i 7 (by decide) h7]
  rw [grafterref12_Sum.l1, if_neg (by decide)]
  rfl
theorem rl0_all (s : ByteArray) (hs : s.size ≤ 1152921504606846976) : ∀ (d i x k : Nat), i + d = s.size → 10 * d < k → x < 4294967296 → grafterref12_Sum.l0 k s (x : Int) (i : Int) = some ((crcF x ((bl s).drop i) ^^^ 4294967295 : Nat) : Int) := by
  intro d
  induction d with
  | zero =>
    intro i x k hi hk hx
    obtain ⟨k, rfl⟩ : ∃ m, k = m + 1 := ⟨k - 1, by omega⟩
    have := xor_lt32 hx (show 4294967295 < 4294967296 by decide)
    rw [grafterref12_Sum.l0, if_neg (by omega), xor_ff x hx, wrap_id _ (by omega) (by omega), List.drop_eq_nil_of_le (by rw [bl_length]; omega)]
    rfl
  | succ d ih =>
    intro i x k hi hk hx
    obtain ⟨k, rfl⟩ : ∃ m, k = m + 10 := ⟨k - 10, by omega⟩
    have hlt : i < (bl s).length := by rw [bl_length]; omega
    have hb := bl_lt s _ (List.getElem_mem hlt)
    have hx2 : x ^^^ (bl s)[i] < 4294967296 := xor_lt32 hx (by omega)
    rw [grafterref12_Sum.l0, if_pos (by omega), if_pos (by omega), byte_in s i x (by omega) hx, rl1_all k _ s _ hx2, w1 i (by omega), ih (i + 1) _ k (by omega) (by omega) (t8_lt hx2), List.drop_eq_getElem_cons hlt]
    rfl
theorem rsum_eq (k : Nat) (s : ByteArray) (hk : 10 * s.size < k) (hs : s.size ≤ 1152921504606846976) : grafterref12_Sum.f k s = some ((sumN (bl s) : Nat) : Int) := by
  have := rl0_all s hs s.size 0 4294967295 k (by omega) hk (by decide)
  unfold grafterref12_Sum.f sumN
  exact this

theorem rlow_l0 (n m : Nat) (hm : m ≤ 8) : ∀ (d i k : Nat) (xs : List Int), xs.length = m → i + d = m → d < k →
    grafterref12_low.l0 k (n : Int) (m : Int) xs (i : Int) = some (strOfNums (xs.take i ++ (List.range' i d).map fun j => ((n / 256 ^ j % 256 : Nat) : Int))) := by
  intro d
  induction d with
  | zero =>
    intro i k xs hl hi hk
    obtain ⟨k, rfl⟩ : ∃ m, k = m + 1 := ⟨k - 1, by omega⟩
    rw [grafterref12_low.l0, if_neg (by omega), List.take_of_length_le (by omega)]
    simp [List.range']
  | succ d ih =>
    intro i k xs hl hi hk
    obtain ⟨k, rfl⟩ : ∃ m, k = m + 1 := ⟨k - 1, by omega⟩
    rw [grafterref12_low.l0, if_pos (by omega), if_pos (by unfold wrap64; omega), if_pos (by omega), if_pos (by omega), shr_i n i (by omega), w1 i (by omega), Int.toNat_natCast, ih (i + 1) k _ (by rw [List.length_set]; exact hl) (by omega) (by omega), take_set xs i _ (by omega), List.range'_succ, List.map_cons, List.append_assoc]
    rfl
theorem rlow_2 (k n : Nat) (hk : 10 ≤ k) : grafterref12_low.f k (n : Int) 2 = some (low2 n) := by
  unfold grafterref12_low.f
  rw [if_pos (by decide), if_pos (by decide)]
  have := rlow_l0 n 2 (by decide) 2 0 k [0, 0] rfl rfl (by omega)
  rw [List.take_zero, List.nil_append, strOf2] at this
  exact this
theorem rlow_4 (k n : Nat) (hk : 10 ≤ k) : grafterref12_low.f k (n : Int) 4 = some (low4 n) := by
  unfold grafterref12_low.f
  rw [if_pos (by decide), if_pos (by decide)]
  have := rlow_l0 n 4 (by decide) 4 0 k [0, 0, 0, 0] rfl rfl (by omega)
  rw [List.take_zero, List.nil_append, strOf4] at this
  exact this
theorem rput_ok (k : Nat) (s : ByteArray) (hk : 11000 ≤ k) (h : s.size ≤ 1024) : grafterref12_PutFrame.f k s = some (frm s, 0) := by
  unfold grafterref12_PutFrame.f
  rw [if_neg (by omega), rlow_2 k s.size (by omega)]
  simp only [Option.bind_some]
  rw [if_pos (by rw [low2_size]; omega), rsum_eq k _ (by rw [ByteArray.size_append, low2_size]; omega) (by rw [ByteArray.size_append, low2_size]; omega)]
  simp only [Option.bind_some]
  rw [rlow_4 k _ (by omega)]
  simp only [Option.bind_some]
  rw [if_pos (by rw [ByteArray.size_append, low2_size, low4_size]; omega)]
  rfl
theorem rput_bad (k : Nat) (s : ByteArray) (h : 1024 < s.size) : grafterref12_PutFrame.f k s = some ((⟨#[]⟩ : ByteArray), 1600) := by
  unfold grafterref12_PutFrame.f
  rw [if_pos (by omega)]

theorem rnum_2 (k : Nat) (t : ByteArray) (i : Nat) (hk : 10 ≤ k) (h : i + 2 ≤ t.size) : grafterref12_num.f k (t.extract i (i + 2)) = some ((hdN t i : Nat) : Int) := by
  obtain ⟨k, rfl⟩ : ∃ m, k = m + 3 := ⟨k - 3, by omega⟩
  have hs : (t.extract i (i + 2)).size = 2 := by rw [ByteArray.size_extract]; omega
  have h0 := getD_lt t i
  have h1 := getD_lt t (i + 1)
  have e0 : bt (t.extract i (i + 2)) 0 = (((bl t).getD i 0 : Nat) : Int) := bt_at2 t i 0 (i + 2) (by omega) h
  have e1 : bt (t.extract i (i + 2)) 1 = (((bl t).getD (i + 1) 0 : Nat) : Int) := bt_at2 t i 1 (i + 2) (by omega) h
  unfold grafterref12_num.f
  rw [hs, show wrap64 (((2 : Nat) : Int) - 1) = 1 by decide +kernel]
  rw [grafterref12_num.l0, if_pos (by decide), if_pos (by decide), hs, if_pos (by decide), e1, show wrap64 ((0 : Int) * 256) = ((0 : Nat) : Int) by decide +kernel, wrap_id (((bl t).getD (i + 1) 0 : Nat) : Int) (by omega) (by omega), or_i _ _ (by decide) (by omega), Nat.zero_or, show wrap64 ((1 : Int) - 1) = 0 by decide +kernel]
  rw [grafterref12_num.l0, if_pos (by decide), if_pos (by decide), hs, if_pos (by decide), e0, wrap_id _ (by omega) (by omega), wrap_id (((bl t).getD i 0 : Nat) : Int) (by omega) (by omega),
    show ((((bl t).getD (i + 1) 0 : Nat) : Int) * 256) = ((256 * (bl t).getD (i + 1) 0 : Nat) : Int) by omega, or_i _ _ (by omega) (by omega), Nat.or_comm, or_nat _ _ h0, show wrap64 ((0 : Int) - 1) = -1 by decide +kernel]
  rw [grafterref12_num.l0, if_neg (by decide)]
  rfl
theorem w_six (M : Nat) (h : M ≤ 4611686018427387904) : wrap64 (6 + (M : Int)) = ((6 + M : Nat) : Int) := by
  rw [wrap_id _ (by omega) (by omega)]
  omega
theorem w_i2 (i : Nat) (h : i ≤ 4611686018427387904) : wrap64 ((i : Int) + 2) = ((i + 2 : Nat) : Int) := by
  rw [wrap_id _ (by omega) (by omega)]
  omega
theorem w_i6 (i : Nat) (h : i ≤ 4611686018427387904) : wrap64 ((i : Int) + 6) = ((i + 6 : Nat) : Int) := by
  rw [wrap_id _ (by omega) (by omega)]
  omega
theorem w_add (a b : Nat) (h : a + b ≤ 4611686018427387904) : wrap64 ((a : Int) + (b : Int)) = ((a + b : Nat) : Int) := by
  rw [wrap_id _ (by omega) (by omega)]
  omega
theorem w_sub (a b : Nat) (h : b ≤ a) (ha : a ≤ 4611686018427387904) : wrap64 ((a : Int) - (b : Int)) = ((a - b : Nat) : Int) := by
  rw [wrap_id _ (by omega) (by omega)]
  omega
set_option maxHeartbeats 1000000 in
theorem rget_form (k : Nat) (t : ByteArray) (i : Nat) (hk : 11010 ≤ k) (ht : t.size ≤ 1152921504606846976) (hi : i + 6 ≤ t.size) :
    grafterref12_GetFrame.f k t (i : Int) = if hdN t i ≤ 1024 ∧ i + 6 + hdN t i ≤ t.size ∧ (frm (t.extract (i + 2) (i + 2 + hdN t i))).toList = (t.extract i (i + 6 + hdN t i)).toList then some (t.extract (i + 2) (i + 2 + hdN t i), ((i + 6 + hdN t i : Nat) : Int), 0) else some ((⟨#[]⟩ : ByteArray), 0, 1600) := by
  obtain ⟨k, rfl⟩ : ∃ m, k = m + 2 := ⟨k - 2, by omega⟩
  have hM := hd_le t i
  unfold grafterref12_GetFrame.f
  rw [if_neg (by omega), if_neg (by omega), w_sub _ _ (by omega) (by omega), decide_eq_false (show ¬ (((t.size - i : Nat) : Int) < 6) by omega)]
  rw [grafterref12_GetFrame.j0, if_neg (by decide), if_pos (by omega), w_i2 i (by omega), if_pos (by omega), if_pos (by omega), Int.toNat_natCast, Int.toNat_natCast, rnum_2 (k + 1) t i (by omega) (by omega), Option.bind_some]
  by_cases h2 : hdN t i ≤ 1024
  · rw [if_neg (by omega), w_sub _ _ (by omega) (by omega), w_six _ (by omega)]
    by_cases h1 : i + 6 + hdN t i ≤ t.size
    · rw [decide_eq_false (show ¬ (((t.size - i : Nat) : Int) < ((6 + hdN t i : Nat) : Int)) by omega)]
      rw [grafterref12_GetFrame.j1, if_neg (by decide), w_i2 i (by omega), w_i6 i (by omega), w_add _ _ (by omega), w_add _ _ (by omega), if_pos (by omega), if_pos (by omega), if_pos (by omega)]
      simp only [Int.toNat_natCast]
      rw [rput_ok k _ (by omega) (by rw [ByteArray.size_extract]; omega), Option.bind_some, if_pos (by omega), if_pos (by omega), if_pos (by omega)]
      by_cases h3 : (frm (t.extract (i + 2) (i + 2 + hdN t i))).toList = (t.extract i (i + 6 + hdN t i)).toList
      · rw [if_pos h3, if_pos ⟨h2, h1, h3⟩]
      · rw [if_neg h3, if_neg (fun h => h3 h.2.2)]
    · rw [decide_eq_true (show (((t.size - i : Nat) : Int) < ((6 + hdN t i : Nat) : Int)) by omega), grafterref12_GetFrame.j1, if_pos rfl, if_neg (fun h => h1 h.2.1)]
  · rw [if_pos (by omega), grafterref12_GetFrame.j1, if_pos rfl, if_neg (fun h => h2 h.1)]
theorem rget_bad (k : Nat) (t : ByteArray) (a : Int) (hk : 5 ≤ k) (ht : t.size ≤ 1152921504606846976) (h : ∀ i : Nat, a = (i : Int) → ¬ (i + 6 ≤ t.size)) : grafterref12_GetFrame.f k t a = some ((⟨#[]⟩ : ByteArray), 0, 1600) := by
  obtain ⟨k, rfl⟩ : ∃ m, k = m + 1 := ⟨k - 1, by omega⟩
  unfold grafterref12_GetFrame.f
  by_cases h0 : a < 0
  · rw [if_pos h0, grafterref12_GetFrame.j0, if_pos rfl]
  · obtain ⟨i, rfl⟩ : ∃ i : Nat, a = (i : Int) := ⟨a.toNat, by omega⟩
    have h := h i rfl
    rw [if_neg h0]
    by_cases h7 : (i : Int) > (t.size : Int)
    · rw [if_pos h7, grafterref12_GetFrame.j0, if_pos rfl]
    · rw [if_neg h7, w_sub _ _ (by omega) (by omega), decide_eq_true (by omega), grafterref12_GetFrame.j0, if_pos rfl]
theorem gets_same (k : Nat) (t : ByteArray) (a : Int) (hk : 11010 ≤ k) (ht : t.size ≤ 1152921504606846976) : ∃ r, frame_Get.f k t a = some r ∧ grafterref12_GetFrame.f k t a = some r := by
  by_cases h : ∃ i : Nat, a = (i : Int) ∧ i + 6 ≤ t.size
  · obtain ⟨i, rfl, hi⟩ := h
    by_cases c : hdN t i ≤ 1024 ∧ i + 6 + hdN t i ≤ t.size ∧ (frm (t.extract (i + 2) (i + 2 + hdN t i))).toList = (t.extract i (i + 6 + hdN t i)).toList
    · exact ⟨_, (get_form k t i (by omega) ht hi).trans (if_pos c), (rget_form k t i hk ht hi).trans (if_pos c)⟩
    · exact ⟨_, (get_form k t i (by omega) ht hi).trans (if_neg c), (rget_form k t i hk ht hi).trans (if_neg c)⟩
  · refine ⟨_, get_no k t a (by omega) ht (fun i hi ho => h ⟨i, hi, ho.1⟩), rget_bad k t a (by omega) ht (fun i hi h6 => h ⟨i, hi, h6⟩)⟩

theorem rd_at (l : List ByteArray) (i : Nat) (h : i < l.length) : rdOf ByteArray.empty l (i : Int) = l[i] := by
  unfold rdOf
  rw [Int.toNat_natCast, List.getD_eq_getElem?_getD, List.getElem?_eq_getElem h]
  rfl
theorem w_szs (a b : Nat) (h : a + b ≤ 4611686018427387904) : wrap64 ((a : Int) + (b : Int)) = ((a + b : Nat) : Int) := by
  rw [wrap_id _ (by omega) (by omega)]; omega
theorem rtext_go (l : List ByteArray) (hb : l.length ≤ 4611686018427387904) : ∀ (d i k : Nat) (acc : ByteArray), i + d = l.length → acc.size ≤ 65536 → 11100 + d ≤ k → grafterref12_JournalText.l0 k l acc (i : Int) = journal_Text.go 100 (l.drop i) acc := by
  intro d
  induction d with
  | zero =>
    intro i k acc hi ha hk
    obtain ⟨k, rfl⟩ : ∃ m, k = m + 1 := ⟨k - 1, by omega⟩
    rw [grafterref12_JournalText.l0, if_neg (by omega), List.drop_eq_nil_of_le (by omega)]
    rfl
  | succ d ih =>
    intro i k acc hi ha hk
    obtain ⟨k, rfl⟩ : ∃ m, k = m + 1 := ⟨k - 1, by omega⟩
    have hlt : i < l.length := by omega
    rw [grafterref12_JournalText.l0, if_pos (by omega), if_pos (by omega), rd_at l i hlt, List.drop_eq_getElem_cons hlt]
    simp only [journal_Text.go]
    obtain ⟨s, hs⟩ : ∃ s, s = l[i] := ⟨_, rfl⟩
    rw [← hs]
    clear hs
    by_cases h1 : s.size ≤ 1024
    · rw [rput_ok k s (by omega) h1, put_ok 100 s (by decide) h1, Option.bind_some, Option.bind_some]
      dsimp only
      rw [frm_size, if_pos rfl, w_szs _ _ (by omega), if_pos (show acc.size + (6 + s.size) ≤ 140737488355328 by omega), if_pos rfl]
      by_cases h2 : acc.size + (6 + s.size) ≤ 65536
      · rw [if_neg (by omega), if_pos (by omega), if_pos h2, w1 i (by omega), ih (i + 1) k _ (by omega) (by rw [ByteArray.size_append, frm_size]; exact h2) (by omega)]
      · rw [if_pos (by omega), if_neg h2]
    · rw [rput_bad k s (by omega), put_bad 100 s (by omega), Option.bind_some, Option.bind_some]
      dsimp only
      rw [if_neg (by decide), show ((⟨#[]⟩ : ByteArray).size) = 0 from rfl, if_pos (by omega), if_neg (by decide)]
theorem rtext_eq (k : Nat) (l : List ByteArray) (hb : l.length ≤ 4611686018427387904) (hk : 11100 + l.length ≤ k) : grafterref12_JournalText.f k l = journal_Text.f 100 l := by
  unfold grafterref12_JournalText.f journal_Text.f
  rw [if_pos hb]
  have := rtext_go l hb l.length 0 k ⟨#[]⟩ (by omega) (by decide) hk
  rwa [List.drop_zero] at this

theorem loads_same (t : ByteArray) (ht : t.size ≤ 65536) : ∀ (d i k : Nat) (out : List ByteArray), t.size < i + d → out.length + d ≤ 70000 → 11010 + d < k → (∀ s ∈ out, s.size ≤ 65536) →
    ∃ r m, journal_Load.l0 k t out (i : Int) = some (r, m) ∧ grafterref12_LoadJournal.l0 k t out (i : Int) = some (r, m) ∧ r.length ≤ 70000 ∧ ∀ s ∈ r, s.size ≤ 65536 := by
  intro d
  have stop : ∀ (i k : Nat) (out : List ByteArray) (e : ByteArray) (z c : Int), c ≠ 0 → 1 ≤ k → out.length ≤ 70000 → (∀ s ∈ out, s.size ≤ 65536) → (∀ k', k = k' + 1 → frame_Get.f k' t (i : Int) = some (e, z, c) ∧ grafterref12_GetFrame.f k' t (i : Int) = some (e, z, c)) →
      ∃ r m, journal_Load.l0 k t out (i : Int) = some (r, m) ∧ grafterref12_LoadJournal.l0 k t out (i : Int) = some (r, m) ∧ r.length ≤ 70000 ∧ ∀ s ∈ r, s.size ≤ 65536 := by
    intro i k out e z c hc hk ho hs h
    obtain ⟨k, rfl⟩ : ∃ m, k = m + 1 := ⟨k - 1, by omega⟩
    obtain ⟨g1, g2⟩ := h k rfl
    refine ⟨out, (i : Int), ?_, ?_, ho, hs⟩
    · rw [journal_Load.l0, g1, Option.bind_some, if_neg hc]
    · rw [grafterref12_LoadJournal.l0, g2, Option.bind_some, if_neg hc]
  have short : ∀ (i k : Nat) (out : List ByteArray), ¬ (i + 6 ≤ t.size) → out.length ≤ 70000 → 11010 < k → (∀ s ∈ out, s.size ≤ 65536) →
      ∃ r m, journal_Load.l0 k t out (i : Int) = some (r, m) ∧ grafterref12_LoadJournal.l0 k t out (i : Int) = some (r, m) ∧ r.length ≤ 70000 ∧ ∀ s ∈ r, s.size ≤ 65536 := by
    intro i k out hn ho hk hs
    refine stop i k out (⟨#[]⟩ : ByteArray) 0 1600 (by decide) (by omega) ho hs (fun k' hk' => ⟨?_, ?_⟩)
    · refine get_no k' t (i : Int) (by omega) (by omega) (fun j hj hok => ?_)
      have h1 := hok.1
      omega
    · exact rget_bad k' t (i : Int) (by omega) (by omega) (fun j hj hok => by omega)
  induction d with
  | zero =>
    intro i k out hi ho hk hs
    exact short i k out (by omega) (by omega) (by omega) hs
  | succ d ih =>
    intro i k out hi ho hk hs
    by_cases h6 : i + 6 ≤ t.size
    · by_cases c : hdN t i ≤ 1024 ∧ i + 6 + hdN t i ≤ t.size ∧ (frm (t.extract (i + 2) (i + 2 + hdN t i))).toList = (t.extract i (i + 6 + hdN t i)).toList
      · obtain ⟨k, rfl⟩ : ∃ m, k = m + 1 := ⟨k - 1, by omega⟩
        have g1 := (get_form k t i (by omega) (by omega) h6).trans (if_pos c)
        have g2 := (rget_form k t i (by omega) (by omega) h6).trans (if_pos c)
        have hz : (t.extract (i + 2) (i + 2 + hdN t i)).size ≤ 65536 := by rw [ByteArray.size_extract]; omega
        obtain ⟨r, m, a1, a2, a3, a4⟩ := ih (i + 6 + hdN t i) k (out ++ [t.extract (i + 2) (i + 2 + hdN t i)]) (by omega) (by rw [List.length_append]; show out.length + 1 + d ≤ 70000; omega) (by omega) (fun s hx => by
          rcases List.mem_append.1 hx with hx | hx
          · exact hs s hx
          · rw [List.mem_singleton.1 hx]; exact hz)
        refine ⟨r, m, ?_, ?_, a3, a4⟩
        · rw [journal_Load.l0, g1, Option.bind_some, if_pos rfl, if_pos (by omega)]; exact a1
        · rw [grafterref12_LoadJournal.l0, g2, Option.bind_some, if_pos rfl, if_pos (by omega)]; exact a2
      · exact stop i k out (⟨#[]⟩ : ByteArray) 0 1600 (by decide) (by omega) (by omega) hs (fun k' hk' => ⟨(get_form k' t i (by omega) (by omega) h6).trans (if_neg c), (rget_form k' t i (by omega) (by omega) h6).trans (if_neg c)⟩)
    · exact short i k out h6 (by omega) (by omega) hs
theorem loads (t : ByteArray) (k : Nat) (hk : 90000 ≤ k) : ∃ r m, journal_Load.f k t = some (r, m) ∧ grafterref12_LoadJournal.f k t = some (r, m) ∧ r.length ≤ 70000 ∧ ∀ s ∈ r, s.size ≤ 65536 := by
  obtain ⟨n, hn⟩ : ∃ n, n = t.size := ⟨_, rfl⟩
  have h1 : 0 ≤ mn (n : Int) 65536 := by unfold mn; split <;> omega
  have h2 : mn (n : Int) 65536 ≤ (n : Int) := by unfold mn; split <;> omega
  have h3 : (mn (n : Int) 65536).toNat ≤ 65536 := by unfold mn; split <;> omega
  have hs : (t.extract 0 (mn (n : Int) 65536).toNat).size ≤ 65536 := by rw [ByteArray.size_extract]; omega
  obtain ⟨r, m, a1, a2, a3, a4⟩ := loads_same (t.extract 0 (mn (n : Int) 65536).toNat) hs 65537 0 k [] (by omega) (by show 0 + 65537 ≤ 70000; omega) (by omega) (fun s hx => absurd hx List.not_mem_nil)
  refine ⟨r, m, ?_, ?_, a3, a4⟩
  · unfold journal_Load.f
    rw [← hn, if_pos h1, if_pos h2]; exact a1
  · unfold grafterref12_LoadJournal.f
    rw [← hn, if_pos h1, if_pos h2]; exact a2
theorem spoil_texts : ∀ (d i k : Nat) (l : List ByteArray), l.length ≤ 70000 → i + d = l.length → d < k → (∀ s ∈ l.drop i, s.size ≤ 65536) → ∃ r, grafterlaw0_SpoilTexts.l0 k l (i : Int) = some r := by
  intro d
  induction d with
  | zero =>
    intro k' k l hb hi hk hs
    obtain ⟨k, rfl⟩ : ∃ j, k = j + 1 := ⟨k - 1, by omega⟩
    exact ⟨l, by rw [grafterlaw0_SpoilTexts.l0, if_neg (by omega)]⟩
  | succ d ih =>
    intro i k l hb hi hk hs
    obtain ⟨k, rfl⟩ : ∃ j, k = j + 1 := ⟨k - 1, by omega⟩
    have hlt : i < l.length := by omega
    rw [List.drop_eq_getElem_cons hlt] at hs
    have h1 : (l[i]'hlt).size ≤ 65536 := hs _ List.mem_cons_self
    rw [grafterlaw0_SpoilTexts.l0, if_pos (by omega), if_pos (by omega), rd_at l i hlt, if_pos (by omega), Int.toNat_natCast, wrap_id ((i : Int) + 1) (by omega) (by omega), show ((i : Int) + 1) = ((i + 1 : Nat) : Int) by omega]
    exact ih (i + 1) k _ (by rw [List.length_set]; exact hb) (by rw [List.length_set]; omega) (by omega) (fun s hx => hs s (List.mem_cons_of_mem _ (by
      rw [List.drop_set_of_lt (by omega)] at hx; exact hx)))
theorem tlend_eq (l : List ByteArray) (h : l.length * 16 ≤ 140737488351232) : grafterlaw0_LendTexts.f l = some (l ++ [(⟨#[126, 114, 111, 111, 109]⟩ : ByteArray), (⟨#[126, 98, 101, 104, 105, 110, 100]⟩ : ByteArray)]) := by
  unfold grafterlaw0_LendTexts.f grafterlaw0_CopyTexts.f
  rw [Option.bind_some, if_pos (by rw [List.length_nil]; omega), Option.bind_some, List.nil_append, Option.bind_some, if_pos (by rw [List.length_cons, List.length_cons, List.length_nil]; omega)]
theorem tspare_take (l : List ByteArray) (a b : ByteArray) : (l ++ [a, b]).take ((l ++ [a, b]).length - 2) = l := by
  rw [List.length_append, show ([a, b] : List ByteArray).length = 2 from rfl, Nat.add_sub_cancel]; exact List.take_left
theorem same_any (k : Nat) (l : List ByteArray) (hb : l.length ≤ 4611686018427387904) (hk : l.length < k) : grafterlaw0_SameTexts.f k l l = some true := by
  unfold grafterlaw0_SameTexts.f
  rw [if_pos rfl]
  exact same_all l hb l.length 0 k (by omega) hk
theorem tkept_eq (k : Nat) (l : List ByteArray) (hb : l.length ≤ 4611686018427387904) (hk : l.length < k) : grafterlaw0_KeptTexts.f k (l ++ [(⟨#[126, 114, 111, 111, 109]⟩ : ByteArray), (⟨#[126, 98, 101, 104, 105, 110, 100]⟩ : ByteArray)]) l = some true := by
  unfold grafterlaw0_KeptTexts.f
  obtain ⟨A, hA⟩ : ∃ A, A = (⟨#[126, 114, 111, 111, 109]⟩ : ByteArray) := ⟨_, rfl⟩
  obtain ⟨B, hB⟩ : ∃ B, B = (⟨#[126, 98, 101, 104, 105, 110, 100]⟩ : ByteArray) := ⟨_, rfl⟩
  rw [← hA, ← hB]
  have hl : (l ++ [A, B]).length = l.length + 2 := by rw [List.length_append]; rfl
  have g1 : (l ++ [A, B])[l.length]? = some A := by rw [List.getElem?_append_right (Nat.le_refl _), Nat.sub_self]; rfl
  have g2 : (l ++ [A, B])[l.length + 1]? = some B := by rw [List.getElem?_append_right (by omega), Nat.add_sub_cancel_left]; rfl
  have r1 : rdOf ByteArray.empty (l ++ [A, B]) (l.length : Int) = A := by unfold rdOf; rw [Int.toNat_natCast, List.getD_eq_getElem?_getD, g1]; rfl
  have r2 : rdOf ByteArray.empty (l ++ [A, B]) ((l.length : Int) + 1) = B := by unfold rdOf; rw [show ((l.length : Int) + 1).toNat = l.length + 1 by omega, List.getD_eq_getElem?_getD, g2]; rfl
  rw [if_pos (by omega), tspare_take, same_any k l hb hk, Option.bind_some, r1, r2, beq_self_eq_true, beq_self_eq_true]
  rfl
theorem jend (k : Nat) (l c : List ByteArray) (hk : 90000 + l.length < k) (hl : l.length * 16 ≤ 140737488351232) (hc : c.length ≤ 70000) (hs : ∀ s ∈ c, s.size ≤ 65536) : grafterlaw17_Journals.j0 k l (l ++ [(⟨#[126, 114, 111, 111, 109]⟩ : ByteArray), (⟨#[126, 98, 101, 104, 105, 110, 100]⟩ : ByteArray)]) c false = some true := by
  obtain ⟨k, rfl⟩ : ∃ j, k = j + 1 := ⟨k - 1, by omega⟩
  obtain ⟨s, h⟩ := spoil_texts c.length 0 k c hc (by omega) (by omega) (by rw [List.drop_zero]; exact hs)
  have h' : grafterlaw0_SpoilTexts.f k c = some s := h
  rw [grafterlaw17_Journals.j0, if_neg (by decide), h', Option.bind_some, tkept_eq k l (by omega) (by omega), Option.bind_some, if_pos rfl, awake_ok k (by omega)]
  rfl
theorem Journals : grafterlaw17_Journals.Pure := by
  intro l t hl ht
  obtain ⟨k, hk⟩ : ∃ k, k = 90001 + l.length := ⟨_, rfl⟩
  obtain ⟨c, m, c1, c2, c3, c4⟩ := loads t k (by omega)
  refine ⟨k, ?_⟩
  unfold grafterlaw17_Journals.f journal_Text_lent.f
  rw [tlend_eq l hl, Option.bind_some, tspare_take, rtext_eq k l (by omega) (by omega), c1, c2]
  by_cases hall : fits l ∧ jsz l ≤ 65536
  · obtain ⟨hf, hz⟩ := hall
    rw [text_ok k (by omega) l (by omega) hf hz, text_ok 100 (by omega) l (by omega) hf hz]
    have e := load_ok k l ⟨#[]⟩ hf (by rw [app_nil, jnl_size]; exact hz) (by rw [app_nil]; exact not_ok_end _ _ (by rw [jnl_size]; omega)) (by omega)
    rw [app_nil] at e
    simp only [Option.bind_some]
    rw [e]
    simp only [Option.bind_some]
    rw [if_pos trivial, num_eq, Option.bind_some, if_pos rfl, same_any k c (by omega) (by omega), Option.bind_some, if_pos rfl, if_pos trivial, Option.bind_some, if_pos rfl, same_any k l (by omega) (by omega), Option.bind_some, if_pos rfl, jnl_size, bne_self_eq_false]
    exact jend k l c (by omega) hl c3 c4
  · rw [text_bad k (by omega) l (by omega) hall, text_bad 100 (by omega) l (by omega) hall]
    obtain ⟨x, y, x1, _⟩ := loads (⟨#[]⟩ : ByteArray) k (by omega)
    simp only [Option.bind_some]
    rw [x1]
    simp only [Option.bind_some]
    rw [if_pos trivial, num_eq, Option.bind_some, if_pos rfl, same_any k c (by omega) (by omega), Option.bind_some, if_pos rfl, if_pos trivial, Option.bind_some, if_neg (by decide)]
    exact jend k l c (by omega) hl c3 c4

end Go.Proofs.Ytbhkmgidokonkaa.Pure
