-- Written by a program of this session (pprint.py) out of the translation, with hand-proved walks pasted in.
import Derived.Test.YtbhkmgidokonkaaPFrameTurnedx0
namespace Go.Proofs.Ytbhkmgidokonkaa.PFrameTurned
open Go.RowKit Go.Proofs.YtbhkmgidokonkaaW.PrintWords Go.Proofs.YtbhkmgidokonkaaW.PrintLast Go.Proofs.YtbhkmgidokonkaaW.PrintMore
attribute [local go_sem] max2_int min2_int max_two min_two max_three min_three max_four min_four   -- for this text's walks alone
set_option linter.unusedVariables false
set_option linter.unusedSimpArgs false

/-! ### frame_low: function 67 -/
def frame_low.l0 : Nat → Int → List Int → Int → Int → Option (ByteArray)
  | 0, _, _, _, _ => none
  | k + 1, x0, x5, x10, x11 => if x11 < x10 then (if 0 ≤ (wrap64 (8 * x11)) then (if 0 ≤ x11 then (if x11 < (x5.length : Int) then (frame_low.l0 k x0 (x5.set (x11 : Int).toNat ((shr .i64 x0 (wrap64 (8 * x11))) % 256)) x10 (wrap64 (x11 + 1))) else (none)) else (none)) else (none)) else (some (strOfNums x5))
def frame_low.f (k : Nat) (a0 : Int) (a1 : Int) : Option (ByteArray) := if 0 ≤ a1 then (if (a1 : Int).toNat ≤ 281474976710656 then ((some (List.replicate (a1 : Int).toNat 0 : List Int)).bind fun y101 => (frame_low.l0 k a0 y101 (y101.length : Int) 0)) else (none)) else (none)
theorem frame_low.mono_l : ∀ k, (∀ y0 y1 y2 y3, LeO (frame_low.l0 k y0 y1 y2 y3) (frame_low.l0 (k + 1) y0 y1 y2 y3))
  | 0 => fun _ _ _ _ r h => by simp [frame_low.l0] at h
  | k + 1 => by
    have ih0 := frame_low.mono_l k
    · intro y0 y1 y2 y3
      unfold frame_low.l0
      repeat' first
      | (with_reducible exact ih0 _ _ _ _)
      | (with_reducible exact LeO.refl _)
      | (with_reducible exact LeO.none _)
      | (with_reducible refine LeO.ite ?_ ?_)
      | (with_reducible refine LeO.bind ?_ (fun _ => ?_))
      | exact ih0 _ _ _ _
      | exact LeO.none _
      | refine LeO.ite ?_ ?_
      | refine LeO.bind ?_ (fun _ => ?_)
theorem frame_low.mono : ∀ a0 a1 k, LeO (frame_low.f k a0 a1) (frame_low.f (k + 1) a0 a1) := by
  intro a0 a1 k
  have ih0 := frame_low.mono_l k
  unfold frame_low.f
  repeat' first
      | (with_reducible exact ih0 _ _ _ _)
      | (with_reducible exact LeO.refl _)
      | (with_reducible exact LeO.none _)
      | (with_reducible refine LeO.ite ?_ ?_)
      | (with_reducible refine LeO.bind ?_ (fun _ => ?_))
      | exact ih0 _ _ _ _
      | exact LeO.none _
      | refine LeO.ite ?_ ?_
      | refine LeO.bind ?_ (fun _ => ?_)
set_option maxHeartbeats 8000000 in
set_option maxRecDepth 100000 in
theorem frame_low.calls (k : Nat) (a0 : Int) (a1 : Int) (r : ByteArray) (w : World) (h : frame_low.f k a0 a1 = some r) :
    Calls Try.prog 67 #[.int .i64 a0, .int .i64 a1] w fun e w' => e = .returned (.string r) ∧ Below w.heap.size w w' := by
  have HB := Aside0.mk (Below.refl w.heap.size w)
  have H : (if 0 ≤ a1 then (if (a1 : Int).toNat ≤ 281474976710656 then ((some (List.replicate (a1 : Int).toNat 0 : List Int)).bind fun y101 => (frame_low.l0 k a0 y101 (y101.length : Int) 0)) else (none)) else (none)) = some r := h
  clear h
  by_cases c3 : 0 ≤ a1
  · rw [if_pos c3] at H
    have c3b0 := eq_true c3
    have c3b1 : decide (0 ≤ a1) = true := decide_eq_true c3
    clear c3
    by_cases c4 : (a1 : Int).toNat ≤ 281474976710656
    · rw [if_pos c4] at H
      have c4b0 := eq_true c4
      have c4b1 : decide ((a1 : Int).toNat ≤ 281474976710656) = true := decide_eq_true c4
      clear c4
      obtain ⟨y101, hy101⟩ : ∃ y_ : List Int, y_ = (List.replicate (a1 : Int).toNat 0) := ⟨_, rfl⟩
      replace H : (frame_low.l0 k a0 y101 (y101.length : Int) 0) = some r := by first | (rw [hy101]; with_reducible exact H) | (have H2_ := (Option.bind_some _ _).symm.trans H; rw [hy101]; with_reducible exact H2_) | (have H2_ := (Option.bind_some _ _).symm.trans H; with_reducible exact H2_) | with_reducible exact H | (rw [hy101]; exact H) | exact H
      have Ny101 := Aside0.mk hy101
      clear hy101
      have H' := Aside0.mk H
      clear H
      go_enter Try.func67, Try.ntmps67
      go_wp2_with (first | ((with_reducible refine gate_dst (N := 8) rfl ?_); refine Kd.R_make (Kd.int .u8) _ 5 rfl (N := 8) rfl 34 _ _ rfl a1 rfl rfl Try.underlying34 (.int .u8 0) 1 info5 rfl (by decide) (by omega) 0 (ok := fun _ => True) (okp := fun _ => True) rfl (fun _ hk => hk) trivial (of_decide_eq_true (by first | (with_reducible assumption) | assumption)) (Nat.le_trans (Nat.mul_le_mul_right _ (of_decide_eq_true (by first | (with_reducible assumption) | assumption) : a1.toNat ≤ 281474976710656)) (by omega)) (Below.refl _ _) (Nat.le_refl _) ?_; intro v102 w5 ho6 hb hg_ hnew_; clear hg_ hnew_; (first | rw [← Ny101.out] at ho6 | (simp only [Int.reduceToNat] at ho6; rw [← Ny101.out] at ho6)); have n0_ := Aside0.mk (Kd.R_lower ho6 (below_size (by repeat (first | (with_reducible first | exact HB.out | apply below_alloc | apply pw_below_drewN | apply below_drew1) | exact HB.out)))); have n1_ := Aside0.mk (below_step (by repeat (first | (with_reducible first | exact HB.out | apply below_alloc | apply pw_below_drewN | apply below_drew1) | exact HB.out)) hb); clear HB; have HO103 := n0_; have HB := n1_; clear n0_ n1_; clear hb ho6; obtain ⟨Ao7, co7, eo7⟩ := Kd.R_slice HO103.out; subst eo7))
      go_loopg [11] k (fun kq v11 w' => ∃ (x5_1 : List Int) (x11_1 : Int), v11 = .int .i64 x11_1 ∧ Aside0 (frame_low.l0 kq a0 x5_1 (y101.length : Int) x11_1 = some r) ∧ Aside0 (kq ≤ k) ∧ Aside0 (Kd.R (Kd.int .u8) 5 w' w.heap.size (fun _ => True) (.slice Ao7 y101.length co7) x5_1) ∧ Aside0 (Below w.heap.size w w'))
      case atStart => exact ⟨(y101), (0), (by first | rfl | (simp; done) | (simp [*]; done)), H', ⟨Nat.le_refl _⟩, ⟨by (with_reducible repeat (first | apply Kd.R_alloc | apply Kd.R_drewN | apply Kd.R_drew)); exact HO103.out⟩, ⟨by repeat (first | (with_reducible first | exact HB.out | apply below_alloc | apply pw_below_drewN | apply below_drew1) | exact HB.out)⟩⟩
      case round =>
        clear H'
        try clear p2
        try clear c3
        try clear c3b0
        try clear c3b1
        try clear c4
        try clear c4b0
        try clear c4b1
        try clear c6
        obtain ⟨x5_1, x11_1, rfl, HA, HK1, HO_5, HB⟩ := hrel
        have hl5_1 := (Kd.R_reads' HO_5.out).1
        rw [hl5_1] at HO_5
        (try simp only [hl5_1])
        cases gk with
        | zero => exact absurd HA.out (by simp [frame_low.l0])
        | succ k1 =>
          have H := HA.out
          clear HA
          simp only [frame_low.l0] at H
          by_cases c8 : x11_1 < (y101.length : Int)
          · rw [if_pos c8] at H
            have c8b0 : decide (x11_1 < (y101.length : Int)) = true := decide_eq_true c8
            clear c8
            obtain ⟨ji9, hji9⟩ : ∃ j_ : Int, (wrap64 (8 * x11_1)) = j_ := ⟨_, rfl⟩
            replace H : (if 0 ≤ (ji9) then (if 0 ≤ x11_1 then (if x11_1 < (x5_1.length : Int) then (frame_low.l0 k1 a0 (x5_1.set (x11_1 : Int).toNat ((shr .i64 a0 (ji9)) % 256)) (y101.length : Int) (wrap64 (x11_1 + 1))) else (none)) else (none)) else (none)) = some r := by first | (rw [hji9] at H; exact H) | (simp only [hji9] at H ⊢; exact H)
            have hji9w : (IntKind.i64.wrap (8 * x11_1)) = ji9 := (i64_w _).trans hji9
            by_cases c10 : 0 ≤ (ji9)
            · rw [if_pos c10] at H
              have c10b0 := eq_true c10
              have c10b1 : decide (0 ≤ (ji9)) = true := decide_eq_true c10
              clear c10
              obtain ⟨ji11, hji11⟩ : ∃ j_ : Int, (shr .i64 a0 (ji9)) = j_ := ⟨_, rfl⟩
              replace H : (if 0 ≤ x11_1 then (if x11_1 < (x5_1.length : Int) then (frame_low.l0 k1 a0 (x5_1.set (x11_1 : Int).toNat ((ji11) % 256)) (y101.length : Int) (wrap64 (x11_1 + 1))) else (none)) else (none)) = some r := by first | (rw [hji11] at H; exact H) | (simp only [hji11] at H ⊢; exact H)
              have hji11_ : (a0 / 2 ^ min (ji9).toNat 64) = ji11 := hji11
              have hji11z : (ji9) ≤ 64 → (a0 / 2 ^ (ji9).toNat) = ji11 := shr_small hji11
              by_cases c12 : 0 ≤ x11_1
              · rw [if_pos c12] at H
                have c12b0 : decide (0 ≤ x11_1) = true := decide_eq_true c12
                clear c12
                by_cases c13 : x11_1 < (x5_1.length : Int)
                · rw [if_pos c13] at H
                  have c13b0 : decide (x11_1 < (x5_1.length : Int)) = true := decide_eq_true c13
                  clear c13
                  obtain ⟨y104, hy104⟩ : ∃ y_ : List Int, y_ = (x5_1.set (x11_1 : Int).toNat ((ji11) % 256)) := ⟨_, rfl⟩
                  replace H : (frame_low.l0 k1 a0 y104 (y101.length : Int) (wrap64 (x11_1 + 1))) = some r := by first | (rw [hy104]; with_reducible exact H) | (have H2_ := (Option.bind_some _ _).symm.trans H; rw [hy104]; with_reducible exact H2_) | (have H2_ := (Option.bind_some _ _).symm.trans H; with_reducible exact H2_) | with_reducible exact H | (rw [hy104]; exact H) | exact H
                  have Ny104 := Aside0.mk hy104
                  clear hy104
                  have H' := Aside0.mk H
                  clear H
                  have p14 : 0 ≤ (x11_1 : Int) := of_decide_eq_true (by first | (with_reducible assumption) | assumption)
                  have q14 : (x11_1 : Int) < ((x5_1.length : Int) : Int) := of_decide_eq_true (by first | (with_reducible assumption) | assumption)
                  obtain ⟨go14, co14, eo14, gb14, gl14, cl14, HG14⟩ := Kd.R_form HO_5.out (by omega)
                  (first | cases eo14 | (injection eo14 with ea_ en_ ec_; (first | subst ea_ | (injection ea_ with ea_; subst ea_)); subst ec_; clear en_))
                  have GB14 := Aside0.mk gb14
                  have GG14 := Aside0.mk HG14
                  clear gb14 gl14 HG14
                  obtain ⟨hx14_0, hf14_0⟩ := Kd.R_celln 0 HO_5.out (x11_1 : Int) p14 q14
                  replace p14 := eq_true p14
                  replace q14 := eq_true q14
                  have HP15 := Kd.R_putg HO_5.out (x11_1 : Int) ((ji11) % 256)
                  go_wp2_with (first | ((with_reducible refine gate_store (t := 5) (p := 21) rfl ?_); refine store_event (t := 5) (p := 21) (v := ?vo_w16) (w1 := (wr.setCell ⟨go14, (x11_1 : Int).toNat, none⟩ (.int .u8 ((ji11) % 256)))) ?hg ?ho ?hn ?hr ?_; (case ho => rfl); (case hg => rfl); (case hn => rfl); (case hr => first | (go_simp; done) | (go_simp; rfl)); intro w16 hw; have hg : wr.grownBy w16 (some go14) := (by rw [hw]; exact HP15.2); have hp_ : Kd.R (Kd.int .u8) 5 w16 w.heap.size (fun _ => True) (.slice (some ⟨go14, 0, none⟩) x5_1.length co7) y104 := (by rw [hw, Ny104.out]; exact HP15.1); clear HP15; have n0_ := Aside0.mk (hp_); have n1_ := Aside0.mk ((by rw [hw]; exact below_set (HB.out) GB14.out : Below w.heap.size w w16)); clear HO_5; clear HB; have HO_5 := n0_; have HB := n1_; clear n0_ n1_; clear hg hw hp_))
                  (try simp only [← hl5_1])
                  go_roundg k1
                  case measure => have := HK1.out; omega
                  case rel => exact ⟨(y104), (wrap64 (x11_1 + 1)), (by first | rfl | (simp; done) | (simp [*]; done)), H', ⟨by have := HK1.out; omega⟩, ⟨by (try simp only [hl5_1]); (with_reducible repeat (first | apply Kd.R_alloc | apply Kd.R_drewN | apply Kd.R_drew)); exact HO_5.out⟩, ⟨by repeat (first | (with_reducible first | exact HB.out | apply below_alloc | apply pw_below_drewN | apply below_drew1) | exact HB.out)⟩⟩
                · rw [if_neg c13] at H
                  exact absurd H (by simp)
              · rw [if_neg c12] at H
                exact absurd H (by simp)
            · rw [if_neg c10] at H
              exact absurd H (by simp)
          · rw [if_neg c8] at H
            have c8b0 : decide (x11_1 < (y101.length : Int)) = false := decide_eq_false c8
            (try simp only [hl5_1] at c8b0)
            clear c8
            obtain rfl := Option.some.inj H
            have hcv17 := own_string (P := Try.prog) Try.underlying34 Try.underlying5 Try.underlying9 (Kd.own_of_R HO_5.out)
            go_wp2
            go_ret
            exact ⟨by first | rfl | (simp [errW_none, errW_some] <;> rfl) | (simp [*, errW_none, errW_some] <;> rfl), by repeat (first | (with_reducible first | exact HB.out | apply below_alloc | apply pw_below_drewN | apply below_drew1) | exact HB.out)⟩
    · rw [if_neg c4] at H
      exact absurd H (by simp)
  · rw [if_neg c3] at H
    exact absurd H (by simp)

/-! ### frame_sum: function 68 -/
mutual
def frame_sum.l0 : Nat → Int → ByteArray → Int → Int → Option (Int)
  | 0, _, _, _, _ => none
  | k + 1, x3, x7, x8, x9 => if x9 < x8 then (if 0 ≤ x9 then (if x9 < (x7.size : Int) then (frame_sum.l1 k (Go.bits .xor .u32 x3 ((bt x7 x9) % 4294967296)) x7 x8 x9 0) else (none)) else (none)) else (some (Go.bits .xor .u32 4294967295 x3))
def frame_sum.l1 : Nat → Int → ByteArray → Int → Int → Int → Option (Int)
  | 0, _, _, _, _, _ => none
  | k + 1, x3, x7, x8, x9, x17 => if x17 < 8 then (frame_sum.l1 k (Go.bits .xor .u32 (x3 / 2) (Go.bits .and .u32 3988292384 ((-(Go.bits .and .u32 x3 1)) % 4294967296))) x7 x8 x9 (wrap64 (x17 + 1))) else (frame_sum.l0 k x3 x7 x8 (wrap64 (x9 + 1)))
end
def frame_sum.f (a0 : ByteArray) : Option (Int) := frame_sum.l0 (10 * a0.size + 20) 4294967295 a0 (a0.size : Int) 0
theorem bt_list (s : ByteArray) (x : Int) (h : x.toNat < s.size) : (((s.data.toList.getD x.toNat 0).toNat : Nat) : Int) = bt s x := by
  rw [← bt_at s x h]
  have h2 : x.toNat < s.data.toList.length := by simpa using h
  rw [List.getD_eq_getElem?_getD, List.getElem?_eq_getElem h2]
  simp only [Option.getD_some, Array.getElem_toList]
  rfl
theorem below_bytesWorld (w : World) (e : TypeId) (s : ByteArray) : Below w.heap.size w (Lib.bytesWorld w e s) :=
  ⟨rfl, rfl, rfl, by rw [Lib.bytesWorld_size]; omega, fun j hj => Lib.bytesWorld_at_old w e s j hj⟩
theorem below_trans_ {B : Nat} {w W1 w' : World} (h : Below B w W1) (h2 : Drawn0 W1 w') : Below B w w' := by
  obtain ⟨n, rfl⟩ := h2
  exact pw_below_drewN h n
set_option maxHeartbeats 8000000 in
set_option maxRecDepth 100000 in
theorem frame_sum.walk (k : Nat) (a0 : ByteArray) (r : Int) (w : World) (h : frame_sum.l0 k 4294967295 a0 (a0.size : Int) 0 = some r) :
    Calls Try.prog 68 #[.string a0] w fun e w' => e = .returned (.int .u32 r) ∧ Below w.heap.size w w' := by
  have H' := Aside0.mk h
  clear h
  obtain ⟨W1, hW1⟩ : ∃ W1, W1 = Lib.bytesWorld w 5 a0 := ⟨_, rfl⟩
  obtain ⟨cp, hcp⟩ : ∃ cp, cp = grownCap w a0.size 0 5 := ⟨_, rfl⟩
  have kc : (convert 9 34 (.string a0)).run Try.prog w = .ok (.slice (some ⟨w.heap.size, 0, none⟩) a0.size cp) W1 := by
    rw [hW1, hcp]
    exact Lib.run_convert_string_bytes w 9 34 5 a0 Try.underlying9 Try.underlying34 Try.underlying5
  have HB := Aside0.mk (show Below w.heap.size w W1 by rw [hW1]; exact below_bytesWorld w 5 a0)
  have HX := Aside0.mk (show ∀ x : Int, 0 ≤ x → x < (a0.size : Int) → W1.cell? ⟨w.heap.size, x.toNat, none⟩ = some (.int .u8 (bt a0 x)) by
    intro x h0 h1
    rw [hW1, Lib.bytesWorld_cell w 5 a0 x.toNat (by omega)]
    exact congrArg (fun z => some (Value.int .u8 z)) (bt_list a0 x (by omega)))
  clear hW1 hcp
  go_enter Try.func68, Try.ntmps68
  go_wp2
  go_loopg [3, 9] k (fun kq v3 v9 w' => ∃ (x3_1 : Int) (x9_1 : Int), v3 = .int .u32 x3_1 ∧ v9 = .int .i64 x9_1 ∧ Aside0 (frame_sum.l0 kq x3_1 a0 (a0.size : Int) x9_1 = some r) ∧ Aside0 (kq ≤ k) ∧ Drawn0 W1 w')
  case atStart => exact ⟨(4294967295), (0), (by first | rfl | (simp; done) | (simp [*]; done)), (by first | rfl | (simp; done) | (simp [*]; done)), H', ⟨Nat.le_refl _⟩, by repeat (first | exact Drawn0.refl _ | apply Drawn0.step)⟩
  case round =>
    clear H'
    obtain ⟨x3_1, x9_1, rfl, rfl, HA, HK1, ⟨m1, rfl⟩⟩ := hrel
    cases gk with
    | zero => exact absurd HA.out (by simp [frame_sum.l0])
    | succ k1 =>
      have H := HA.out
      clear HA
      simp only [frame_sum.l0] at H
      by_cases c2 : x9_1 < (a0.size : Int)
      · rw [if_pos c2] at H
        have c2b0 : decide (x9_1 < (a0.size : Int)) = true := decide_eq_true c2
        clear c2
        by_cases c3 : 0 ≤ x9_1
        · rw [if_pos c3] at H
          have c3b0 : decide (0 ≤ x9_1) = true := decide_eq_true c3
          clear c3
          by_cases c4 : x9_1 < (a0.size : Int)
          · rw [if_pos c4] at H
            have c4b0 : decide (x9_1 < (a0.size : Int)) = true := decide_eq_true c4
            clear c4
            have H' := Aside0.mk H
            clear H
            have p5 : 0 ≤ (x9_1 : Int) := of_decide_eq_true (by first | (with_reducible assumption) | assumption)
            have q5 : x9_1 < (a0.size : Int) := of_decide_eq_true (by first | (with_reducible assumption) | assumption)
            have hx5 : W1.cell? ⟨w.heap.size, x9_1.toNat, none⟩ = some (.int .u8 (bt a0 x9_1)) := HX.out x9_1 p5 q5
            replace p5 := eq_true p5
            replace q5 := eq_true q5
            go_wp2
            go_loopg [3, 17] k1 (fun kq v3 v17 w' => ∃ (x3_2 : Int) (x17_2 : Int), v3 = .int .u32 x3_2 ∧ v17 = .int .i64 x17_2 ∧ Aside0 (frame_sum.l1 kq x3_2 a0 (a0.size : Int) x9_1 x17_2 = some r) ∧ Aside0 (kq ≤ k1) ∧ Drawn0 W1 w')
            case atStart => exact ⟨(Go.bits .xor .u32 x3_1 ((bt a0 x9_1) % 4294967296)), (0), (by first | rfl | (simp; done) | (simp [*]; done)), (by first | rfl | (simp; done) | (simp [*]; done)), H', ⟨Nat.le_refl _⟩, by repeat (first | exact Drawn0.refl _ | apply Drawn0.step)⟩
            case round =>
              clear H'
              try clear c2
              try clear c2b0
              try clear p2
              try clear c3
              try clear c3b0
              try clear c4
              try clear c4b0
              try clear p5
              try clear q5
              try clear hx5
              try clear p5
              try clear q5
              obtain ⟨x3_2, x17_2, rfl, rfl, HA, HK2, ⟨m2, rfl⟩⟩ := hrel
              cases gk with
              | zero => exact absurd HA.out (by simp [frame_sum.l1])
              | succ k2 =>
                have H := HA.out
                clear HA
                simp only [frame_sum.l1] at H
                by_cases c6 : x17_2 < 8
                · rw [if_pos c6] at H
                  have c6b0 : decide (x17_2 < 8) = true := decide_eq_true c6
                  clear c6
                  have H' := Aside0.mk H
                  clear H
                  go_wp2
                  go_roundg k2
                  case measure => have := HK1.out; have := HK2.out; omega
                  case rel => exact ⟨(Go.bits .xor .u32 (x3_2 / 2) (Go.bits .and .u32 3988292384 ((-(Go.bits .and .u32 x3_2 1)) % 4294967296))), (wrap64 (x17_2 + 1)), (by first | rfl | (simp; done) | (simp [*]; done)), (by first | rfl | (simp; done) | (simp [*]; done)), H', ⟨by have := HK1.out; have := HK2.out; omega⟩, by repeat (first | exact Drawn0.refl _ | apply Drawn0.step)⟩
                · rw [if_neg c6] at H
                  have c6b0 : decide (x17_2 < 8) = false := decide_eq_false c6
                  clear c6
                  have H' := Aside0.mk H
                  clear H
                  go_wp2
                  go_roundg k2
                  case measure => have := HK1.out; have := HK2.out; omega
                  case rel => exact ⟨(x3_2), (wrap64 (x9_1 + 1)), (by first | rfl | (simp; done) | (simp [*]; done)), (by first | rfl | (simp; done) | (simp [*]; done)), H', ⟨by have := HK1.out; have := HK2.out; omega⟩, by repeat (first | exact Drawn0.refl _ | apply Drawn0.step)⟩
          · rw [if_neg c4] at H
            exact absurd H (by simp)
        · rw [if_neg c3] at H
          exact absurd H (by simp)
      · rw [if_neg c2] at H
        have c2b0 : decide (x9_1 < (a0.size : Int)) = false := decide_eq_false c2
        clear c2
        obtain rfl := Option.some.inj H
        go_wp2
        go_ret
        exact ⟨by first | rfl | (simp; done) | (simp [*]; done), below_trans_ HB.out (by repeat (first | exact Drawn0.refl _ | apply Drawn0.step))⟩
theorem frame_sum.calls (a0 : ByteArray) (r : Int) (w : World) (h : frame_sum.f a0 = some r) :
    Calls Try.prog 68 #[.string a0] w fun e w' => e = .returned (.int .u32 r) ∧ Below w.heap.size w w' := frame_sum.walk _ a0 r w h

/-! ### frame_Put: function 22 -/
def frame_Put.f (k : Nat) (a0 : ByteArray) : Option (ByteArray × Int) := if (a0.size : Int) > 1024 then (some ((⟨#[]⟩ : ByteArray), 1600)) else ((frame_low.f k (a0.size : Int) 2).bind fun t108 => (if t108.size + a0.size ≤ 9223372036854775807 then ((frame_sum.f (t108 ++ a0)).bind fun t109 => ((frame_low.f k (wrap64 (t109)) 4).bind fun t110 => (if (t108 ++ a0).size + t110.size ≤ 9223372036854775807 then (some ((t108 ++ a0) ++ t110, 0)) else (none)))) else (none)))
theorem frame_Put.mono : ∀ a0 k, LeO (frame_Put.f k a0) (frame_Put.f (k + 1) a0) := by
  intro a0 k
  unfold frame_Put.f
  repeat' first
      | (with_reducible exact frame_low.mono _ _ _)
      | (with_reducible exact LeO.refl _)
      | (with_reducible exact LeO.none _)
      | (with_reducible refine LeO.ite ?_ ?_)
      | (with_reducible refine LeO.bind ?_ (fun _ => ?_))
      | exact frame_low.mono _ _ _
      | exact LeO.none _
      | refine LeO.ite ?_ ?_
      | refine LeO.bind ?_ (fun _ => ?_)
set_option maxHeartbeats 8000000 in
set_option maxRecDepth 100000 in
theorem frame_Put.calls (k : Nat) (a0 : ByteArray) (r1 : ByteArray) (r2 : Int) (w : World) (h : frame_Put.f k a0 = some (r1, r2)) :
    Calls Try.prog 22 #[.string a0] w fun e w' => e = .returned (.tuple #[.string r1, .int .i64 r2]) ∧ Below w.heap.size w w' := by
  have HB := Aside0.mk (Below.refl w.heap.size w)
  have H : (if (a0.size : Int) > 1024 then (some ((⟨#[]⟩ : ByteArray), 1600)) else ((frame_low.f k (a0.size : Int) 2).bind fun t108 => (if t108.size + a0.size ≤ 9223372036854775807 then ((frame_sum.f (t108 ++ a0)).bind fun t109 => ((frame_low.f k (wrap64 (t109)) 4).bind fun t110 => (if (t108 ++ a0).size + t110.size ≤ 9223372036854775807 then (some ((t108 ++ a0) ++ t110, 0)) else (none)))) else (none)))) = some (r1, r2) := h
  clear h
  by_cases c2 : (a0.size : Int) > 1024
  · rw [if_pos c2] at H
    have c2b0 : decide (1024 < (a0.size : Int)) = true := decide_eq_true c2
    have c2b1 : decide (1024 < a0.size) = true := decide_eq_true (by omega)
    clear c2
    simp only [Option.some.injEq, Prod.mk.injEq] at H
    obtain ⟨rfl, rfl⟩ := H
    go_enter Try.func22, Try.ntmps22
    go_wp2
    go_ret2
    exact ⟨by first | rfl | (simp [errW_none, errW_some] <;> rfl) | (simp [*, errW_none, errW_some] <;> rfl), by repeat (first | (with_reducible first | exact HB.out | apply below_alloc | apply pw_below_drewN | apply below_drew1) | exact HB.out)⟩
  · rw [if_neg c2] at H
    have c2b0 : decide (1024 < (a0.size : Int)) = false := decide_eq_false c2
    have c2b1 : decide (1024 < a0.size) = false := decide_eq_false (by omega)
    clear c2
    replace H := Option.bind_eq_some_iff.mp H
    obtain ⟨t108, A30, H⟩ := H
    replace H : (if t108.size + a0.size ≤ 9223372036854775807 then ((frame_sum.f (t108 ++ a0)).bind fun t109 => ((frame_low.f k (wrap64 (t109)) 4).bind fun t110 => (if (t108 ++ a0).size + t110.size ≤ 9223372036854775807 then (some ((t108 ++ a0) ++ t110, 0)) else (none)))) else (none)) = some (r1, r2) := H
    have A3 := Aside0.mk A30
    clear A30
    by_cases c4 : t108.size + a0.size ≤ 9223372036854775807
    · rw [if_pos c4] at H
      have c4b0 := eq_true c4
      have c4b1 : decide (t108.size + a0.size ≤ 9223372036854775807) = true := decide_eq_true c4
      try have c4b2 : (9223372036854775807 < t108.size + a0.size) = False := eq_false (Nat.not_lt.2 c4)
      try simp only [ByteArray.size_append] at c4b2
      replace H := Option.bind_eq_some_iff.mp H
      obtain ⟨t109, A50, H⟩ := H
      replace H : ((frame_low.f k (wrap64 (t109)) 4).bind fun t110 => (if (t108 ++ a0).size + t110.size ≤ 9223372036854775807 then (some ((t108 ++ a0) ++ t110, 0)) else (none))) = some (r1, r2) := H
      have A5 := Aside0.mk A50
      clear A50
      replace H := Option.bind_eq_some_iff.mp H
      obtain ⟨t110, A60, H⟩ := H
      replace H : (if (t108 ++ a0).size + t110.size ≤ 9223372036854775807 then (some ((t108 ++ a0) ++ t110, 0)) else (none)) = some (r1, r2) := H
      have A6 := Aside0.mk A60
      clear A60
      by_cases c7 : (t108 ++ a0).size + t110.size ≤ 9223372036854775807
      · rw [if_pos c7] at H
        have c7b0 := eq_true c7
        have c7b1 : decide ((t108 ++ a0).size + t110.size ≤ 9223372036854775807) = true := decide_eq_true c7
        try have c7b2 : (9223372036854775807 < (t108 ++ a0).size + t110.size) = False := eq_false (Nat.not_lt.2 c7)
        try simp only [ByteArray.size_append] at c7b2
        simp only [Option.some.injEq, Prod.mk.injEq] at H
        obtain ⟨rfl, rfl⟩ := H
        go_enter Try.func22, Try.ntmps22
        go_wp2_with (first | ((with_reducible refine gate_callee (f := 67) rfl ?_); refine goesL_ (some 10) rfl rfl Try.func67 (by kernel_rfl) rfl #[.int .i64 (a0.size : Int), .int .i64 2] rfl (by (try simp only [List.map_toArray, List.map_cons, List.map_nil]); first | done | rfl | (simp only [List.length_drop, List.length_take]; rfl)) ?_; (with_reducible refine (frame_low.calls k (a0.size : Int) 2 t108 _ A3.out).mono ?_); rintro e w8 ⟨rfl, hb⟩; refine ⟨_, rfl, ?_⟩; have n0_ := Aside0.mk (below_step (by repeat (first | (with_reducible first | exact HB.out | apply below_alloc | apply pw_below_drewN | apply below_drew1) | exact HB.out)) hb); clear HB; have HB := n0_; clear n0_; (try clear hb); (try clear hb2); (try clear hk); (try clear hi); (try clear A3)) | ((with_reducible refine gate_callee (f := 68) rfl ?_); refine goesL_ (some 15) rfl rfl Try.func68 (by kernel_rfl) rfl #[.string (t108 ++ a0)] rfl (by (try simp only [List.map_toArray, List.map_cons, List.map_nil]); first | done | rfl | (simp only [List.length_drop, List.length_take]; rfl)) ?_; (with_reducible refine (frame_sum.calls (t108 ++ a0) t109 _ A5.out).mono ?_); rintro e w9 ⟨rfl, hb⟩; refine ⟨_, rfl, ?_⟩; have n0_ := Aside0.mk (below_step (by repeat (first | (with_reducible first | exact HB.out | apply below_alloc | apply pw_below_drewN | apply below_drew1) | exact HB.out)) hb); clear HB; have HB := n0_; clear n0_; (try clear hb); (try clear hb2); (try clear hk); (try clear hi)) | ((with_reducible refine gate_callee (f := 67) rfl ?_); refine goesL_ (some 17) rfl rfl Try.func67 (by kernel_rfl) rfl #[.int .i64 (wrap64 (t109)), .int .i64 4] rfl (by (try simp only [List.map_toArray, List.map_cons, List.map_nil]); first | done | rfl | (simp only [List.length_drop, List.length_take]; rfl)) ?_; (with_reducible refine (frame_low.calls k (wrap64 (t109)) 4 t110 _ A6.out).mono ?_); rintro e w10 ⟨rfl, hb⟩; refine ⟨_, rfl, ?_⟩; have n0_ := Aside0.mk (below_step (by repeat (first | (with_reducible first | exact HB.out | apply below_alloc | apply pw_below_drewN | apply below_drew1) | exact HB.out)) hb); clear HB; have HB := n0_; clear n0_; (try clear hb); (try clear hb2); (try clear hk); (try clear hi); (try clear A6)))
        go_ret2
        exact ⟨by first | rfl | (simp [errW_none, errW_some] <;> rfl) | (simp [*, errW_none, errW_some] <;> rfl), by repeat (first | (with_reducible first | exact HB.out | apply below_alloc | apply pw_below_drewN | apply below_drew1) | exact HB.out)⟩
      · rw [if_neg c7] at H
        exact absurd H (by simp)
    · rw [if_neg c4] at H
      exact absurd H (by simp)

/-! ### frame_Get: function 24 -/
def frame_Get.j0 : Nat → ByteArray → Int → Bool → Option (ByteArray × Int × Int)
  | 0, _, _, _ => none
  | k + 1, x0, x1, x26 => if x26 = true then (some ((⟨#[]⟩ : ByteArray), 0, 1600)) else (if 0 ≤ x1 then (if x1 ≤ (x0.size : Int) then (if 0 < ((x0.extract (x1 : Int).toNat x0.size).size : Int) then (if 1 < ((x0.extract (x1 : Int).toNat x0.size).size : Int) then (if (Go.bits .or .i64 (wrap64 (bt (x0.extract (x1 : Int).toNat x0.size) 0)) (wrap64 ((wrap64 (bt (x0.extract (x1 : Int).toNat x0.size) 1)) * 256))) > (wrap64 ((wrap64 (((x0.extract (x1 : Int).toNat x0.size).size : Int) - 2)) - 4)) then (some ((⟨#[]⟩ : ByteArray), 0, 1600)) else (if 2 ≤ (wrap64 (2 + (Go.bits .or .i64 (wrap64 (bt (x0.extract (x1 : Int).toNat x0.size) 0)) (wrap64 ((wrap64 (bt (x0.extract (x1 : Int).toNat x0.size) 1)) * 256))))) then (if (wrap64 (2 + (Go.bits .or .i64 (wrap64 (bt (x0.extract (x1 : Int).toNat x0.size) 0)) (wrap64 ((wrap64 (bt (x0.extract (x1 : Int).toNat x0.size) 1)) * 256))))) ≤ ((x0.extract (x1 : Int).toNat x0.size).size : Int) then ((frame_Put.f k ((x0.extract (x1 : Int).toNat x0.size).extract 2 ((wrap64 (2 + (Go.bits .or .i64 (wrap64 (bt (x0.extract (x1 : Int).toNat x0.size) 0)) (wrap64 ((wrap64 (bt (x0.extract (x1 : Int).toNat x0.size) 1)) * 256))))) : Int).toNat)).bind fun bt111 => (if bt111.2 = 0 then (if 0 ≤ (bt111.1.size : Int) then (if (bt111.1.size : Int) ≤ ((x0.extract (x1 : Int).toNat x0.size).size : Int) then (if bt111.1.toList = ((x0.extract (x1 : Int).toNat x0.size).extract 0 ((bt111.1.size : Int) : Int).toNat).toList then (some ((x0.extract (x1 : Int).toNat x0.size).extract 2 ((wrap64 (2 + (Go.bits .or .i64 (wrap64 (bt (x0.extract (x1 : Int).toNat x0.size) 0)) (wrap64 ((wrap64 (bt (x0.extract (x1 : Int).toNat x0.size) 1)) * 256))))) : Int).toNat, wrap64 ((wrap64 ((wrap64 (x1 + 2)) + (Go.bits .or .i64 (wrap64 (bt (x0.extract (x1 : Int).toNat x0.size) 0)) (wrap64 ((wrap64 (bt (x0.extract (x1 : Int).toNat x0.size) 1)) * 256))))) + 4), 0)) else (some ((⟨#[]⟩ : ByteArray), 0, 1600))) else (none)) else (none)) else (some ((⟨#[]⟩ : ByteArray), 0, 1600)))) else (none)) else (none))) else (none)) else (none)) else (none)) else (none))
def frame_Get.f (k : Nat) (a0 : ByteArray) (a1 : Int) : Option (ByteArray × Int × Int) := if a1 < 0 then (frame_Get.j0 k a0 a1 true) else (if a1 > (a0.size : Int) then (frame_Get.j0 k a0 a1 true) else (frame_Get.j0 k a0 a1 (decide ((wrap64 ((a0.size : Int) - a1)) < 6))))
theorem frame_Get.mono_l : ∀ k, (∀ y0 y1 y2, LeO (frame_Get.j0 k y0 y1 y2) (frame_Get.j0 (k + 1) y0 y1 y2))
  | 0 => fun _ _ _ r h => by simp [frame_Get.j0] at h
  | k + 1 => by
    have ih0 := frame_Get.mono_l k
    · intro y0 y1 y2
      unfold frame_Get.j0
      repeat' first
      | (with_reducible exact ih0 _ _ _)
      | (with_reducible exact frame_Put.mono _ _)
      | (with_reducible exact LeO.refl _)
      | (with_reducible exact LeO.none _)
      | (with_reducible refine LeO.ite ?_ ?_)
      | (with_reducible refine LeO.bind ?_ (fun _ => ?_))
      | exact ih0 _ _ _
      | exact frame_Put.mono _ _
      | exact LeO.none _
      | refine LeO.ite ?_ ?_
      | refine LeO.bind ?_ (fun _ => ?_)
theorem frame_Get.mono : ∀ a0 a1 k, LeO (frame_Get.f k a0 a1) (frame_Get.f (k + 1) a0 a1) := by
  intro a0 a1 k
  have ih0 := frame_Get.mono_l k
  unfold frame_Get.f
  repeat' first
      | (with_reducible exact ih0 _ _ _)
      | (with_reducible exact frame_Put.mono _ _)
      | (with_reducible exact LeO.refl _)
      | (with_reducible exact LeO.none _)
      | (with_reducible refine LeO.ite ?_ ?_)
      | (with_reducible refine LeO.bind ?_ (fun _ => ?_))
      | exact ih0 _ _ _
      | exact frame_Put.mono _ _
      | exact LeO.none _
      | refine LeO.ite ?_ ?_
      | refine LeO.bind ?_ (fun _ => ?_)
set_option maxHeartbeats 8000000 in
set_option maxRecDepth 100000 in
theorem frame_Get.calls (k : Nat) (a0 : ByteArray) (a1 : Int) (r1 : ByteArray) (r2 : Int) (r3 : Int) (w : World) (h : frame_Get.f k a0 a1 = some (r1, r2, r3)) :
    Calls Try.prog 24 #[.string a0, .int .i64 a1] w fun e w' => e = .returned (.tuple #[.string r1, .int .i64 r2, .int .i64 r3]) ∧ Below w.heap.size w w' := by
  have HB := Aside0.mk (Below.refl w.heap.size w)
  have H : (if a1 < 0 then (frame_Get.j0 k a0 a1 true) else (if a1 > (a0.size : Int) then (frame_Get.j0 k a0 a1 true) else (frame_Get.j0 k a0 a1 (decide ((wrap64 ((a0.size : Int) - a1)) < 6))))) = some (r1, r2, r3) := h
  clear h
  have HC3 := Aside0.mk H
  clear H
  go_enter Try.func24, Try.ntmps24
  go_upto_region 1 with (fail)
  repeat (go_quiet (fail); go_upto_region 1 with (fail))
  go_cut [26] (fun v26 wc => ∃ (kq : Nat) (x26_2 : Bool), v26 = .bool x26_2 ∧ Aside0 (frame_Get.j0 kq a0 a1 x26_2 = some (r1, r2, r3)) ∧ Aside0 (kq ≤ k) ∧ Aside0 (Below w.heap.size w wc))
  case first =>
    have H := HC3.out
    clear HC3
    by_cases c4 : a1 < 0
    · rw [if_pos c4] at H
      have c4b0 : decide (a1 < 0) = true := decide_eq_true c4
      clear c4
      (first | rw [c4b0] | (simp only [i64_w, i32_w]; rw [c4b0]) | skip)
      have H' := Aside0.mk H
      clear H
      go_wp2
      repeat (go_quiet (fail); try go_wp2)
      go_meet
      case rel => exact ⟨_, (true), (by first | rfl | (simp; done) | (simp [*]; done)), H', ⟨by first | omega | exact Nat.le_refl _⟩, ⟨by repeat (first | (with_reducible first | exact HB.out | apply below_alloc | apply pw_below_drewN | apply below_drew1) | exact HB.out)⟩⟩
    · rw [if_neg c4] at H
      have c4b0 : decide (a1 < 0) = false := decide_eq_false c4
      clear c4
      (first | rw [c4b0] | (simp only [i64_w, i32_w]; rw [c4b0]) | skip)
      by_cases c5 : a1 > (a0.size : Int)
      · rw [if_pos c5] at H
        have c5b0 : decide ((a0.size : Int) < a1) = true := decide_eq_true c5
        clear c5
        have H' := Aside0.mk H
        clear H
        go_wp2
        repeat (go_quiet (fail); try go_wp2)
        go_meet
        case rel => exact ⟨_, (true), (by first | rfl | (simp; done) | (simp [*]; done)), H', ⟨by first | omega | exact Nat.le_refl _⟩, ⟨by repeat (first | (with_reducible first | exact HB.out | apply below_alloc | apply pw_below_drewN | apply below_drew1) | exact HB.out)⟩⟩
      · rw [if_neg c5] at H
        have c5b0 : decide ((a0.size : Int) < a1) = false := decide_eq_false c5
        clear c5
        have H' := Aside0.mk H
        clear H
        go_wp2
        repeat (go_quiet (fail); try go_wp2)
        go_meet
        case rel => exact ⟨_, (decide ((wrap64 ((a0.size : Int) - a1)) < 6)), (by first | rfl | (simp; done) | (simp [*]; done)), H', ⟨by first | omega | exact Nat.le_refl _⟩, ⟨by repeat (first | (with_reducible first | exact HB.out | apply below_alloc | apply pw_below_drewN | apply below_drew1) | exact HB.out)⟩⟩
  case rest =>
    clear HC3
    try clear c2
    try clear p2
    try clear c4
    try clear c4b0
    try clear c5
    try clear c5b0
    obtain ⟨kq, x26_2, rfl, HA, HJ2, HB⟩ := hcut
    cases kq with
    | zero => exact absurd HA.out (by simp [frame_Get.j0])
    | succ kj2 =>
      have H := HA.out
      clear HA
      simp only [frame_Get.j0] at H
      by_cases c6 : x26_2 = true
      · subst c6
        have H1 : (some ((⟨#[]⟩ : ByteArray), 0, 1600)) = some (r1, r2, r3) := by rw [if_pos rfl] at H; exact H
        clear H
        have H := H1
        clear H1
        simp only [Option.some.injEq, Prod.mk.injEq] at H
        obtain ⟨rfl, rfl, rfl⟩ := H
        go_wp2
        repeat (go_quiet (fail); try go_wp2)
        go_ret3
        exact ⟨by first | rfl | (simp [errW_none, errW_some] <;> rfl) | (simp [*, errW_none, errW_some] <;> rfl), by repeat (first | (with_reducible first | exact HB.out | apply below_alloc | apply pw_below_drewN | apply below_drew1) | exact HB.out)⟩
      · replace c6 := Bool.eq_false_iff.mpr c6
        subst c6
        have H1 : (if 0 ≤ a1 then (if a1 ≤ (a0.size : Int) then (if 0 < ((a0.extract (a1 : Int).toNat a0.size).size : Int) then (if 1 < ((a0.extract (a1 : Int).toNat a0.size).size : Int) then (if (Go.bits .or .i64 (wrap64 (bt (a0.extract (a1 : Int).toNat a0.size) 0)) (wrap64 ((wrap64 (bt (a0.extract (a1 : Int).toNat a0.size) 1)) * 256))) > (wrap64 ((wrap64 (((a0.extract (a1 : Int).toNat a0.size).size : Int) - 2)) - 4)) then (some ((⟨#[]⟩ : ByteArray), 0, 1600)) else (if 2 ≤ (wrap64 (2 + (Go.bits .or .i64 (wrap64 (bt (a0.extract (a1 : Int).toNat a0.size) 0)) (wrap64 ((wrap64 (bt (a0.extract (a1 : Int).toNat a0.size) 1)) * 256))))) then (if (wrap64 (2 + (Go.bits .or .i64 (wrap64 (bt (a0.extract (a1 : Int).toNat a0.size) 0)) (wrap64 ((wrap64 (bt (a0.extract (a1 : Int).toNat a0.size) 1)) * 256))))) ≤ ((a0.extract (a1 : Int).toNat a0.size).size : Int) then ((frame_Put.f kj2 ((a0.extract (a1 : Int).toNat a0.size).extract 2 ((wrap64 (2 + (Go.bits .or .i64 (wrap64 (bt (a0.extract (a1 : Int).toNat a0.size) 0)) (wrap64 ((wrap64 (bt (a0.extract (a1 : Int).toNat a0.size) 1)) * 256))))) : Int).toNat)).bind fun bt111 => (if bt111.2 = 0 then (if 0 ≤ (bt111.1.size : Int) then (if (bt111.1.size : Int) ≤ ((a0.extract (a1 : Int).toNat a0.size).size : Int) then (if bt111.1.toList = ((a0.extract (a1 : Int).toNat a0.size).extract 0 ((bt111.1.size : Int) : Int).toNat).toList then (some ((a0.extract (a1 : Int).toNat a0.size).extract 2 ((wrap64 (2 + (Go.bits .or .i64 (wrap64 (bt (a0.extract (a1 : Int).toNat a0.size) 0)) (wrap64 ((wrap64 (bt (a0.extract (a1 : Int).toNat a0.size) 1)) * 256))))) : Int).toNat, wrap64 ((wrap64 ((wrap64 (a1 + 2)) + (Go.bits .or .i64 (wrap64 (bt (a0.extract (a1 : Int).toNat a0.size) 0)) (wrap64 ((wrap64 (bt (a0.extract (a1 : Int).toNat a0.size) 1)) * 256))))) + 4), 0)) else (some ((⟨#[]⟩ : ByteArray), 0, 1600))) else (none)) else (none)) else (some ((⟨#[]⟩ : ByteArray), 0, 1600)))) else (none)) else (none))) else (none)) else (none)) else (none)) else (none)) = some (r1, r2, r3) := by rw [if_neg (show ¬ (false = true) by decide)] at H; exact H
        clear H
        have H := H1
        clear H1
        by_cases c7 : 0 ≤ a1
        · rw [if_pos c7] at H
          have c7b0 := eq_true c7
          have c7b1 : decide (0 ≤ a1) = true := decide_eq_true c7
          clear c7
          by_cases c8 : a1 ≤ (a0.size : Int)
          · rw [if_pos c8] at H
            have c8b0 := eq_true c8
            have c8b1 : decide (a1 ≤ (a0.size : Int)) = true := decide_eq_true c8
            clear c8
            obtain ⟨rst, hrst⟩ : ∃ z, a0.extract (a1 : Int).toNat a0.size = z := ⟨_, rfl⟩
            simp only [hrst] at H
            by_cases c9 : 0 < (rst.size : Int)
            · rw [if_pos c9] at H
              have c9b0 : decide (0 < (rst.size : Int)) = true := decide_eq_true c9
              have c9b1 : decide (0 < rst.size) = true := decide_eq_true (by omega)
              clear c9
              by_cases c11 : 1 < (rst.size : Int)
              · rw [if_pos c11] at H
                have c11b0 : decide (1 < (rst.size : Int)) = true := decide_eq_true c11
                have c11b1 : decide (1 < rst.size) = true := decide_eq_true (by omega)
                clear c11
                by_cases c13 : (Go.bits .or .i64 (wrap64 (bt rst 0)) (wrap64 ((wrap64 (bt rst 1)) * 256))) > (wrap64 ((wrap64 ((rst.size : Int) - 2)) - 4))
                · rw [if_pos c13] at H
                  have c13b0 : decide ((wrap64 ((wrap64 ((rst.size : Int) - 2)) - 4)) < (Go.bits .or .i64 (wrap64 (bt rst 0)) (wrap64 ((wrap64 (bt rst 1)) * 256)))) = true := decide_eq_true c13
                  clear c13
                  simp only [Option.some.injEq, Prod.mk.injEq] at H
                  obtain ⟨rfl, rfl, rfl⟩ := H
                  have p10 : 0 ≤ (0 : Int) := (by omega)
                  have q10 : 0 < rst.size := (by have : (0 : Int) < (rst.size : Int) := of_decide_eq_true (by first | (with_reducible assumption) | assumption); omega)
                  have hx10 : ∀ h : 0 < rst.size, ((rst[0]'h).toNat : Int) = bt rst 0 := bt_at rst 0
                  clear p10
                  have qi10 : (0 < (rst.size : Int)) = True := eq_true (of_decide_eq_true (by first | (with_reducible assumption) | assumption))
                  replace q10 := eq_true q10
                  have p12 : 0 ≤ (1 : Int) := (by omega)
                  have q12 : 1 < rst.size := (by have : (1 : Int) < (rst.size : Int) := of_decide_eq_true (by first | (with_reducible assumption) | assumption); omega)
                  have hx12 : ∀ h : 1 < rst.size, ((rst[1]'h).toNat : Int) = bt rst 1 := bt_at rst 1
                  clear p12
                  have qi12 : (1 < (rst.size : Int)) = True := eq_true (of_decide_eq_true (by first | (with_reducible assumption) | assumption))
                  replace q12 := eq_true q12
                  go_wp2
                  repeat (go_quiet (fail); try go_wp2)
                  go_ret3
                  exact ⟨by first | rfl | (simp [errW_none, errW_some] <;> rfl) | (simp [*, errW_none, errW_some] <;> rfl), by repeat (first | (with_reducible first | exact HB.out | apply below_alloc | apply pw_below_drewN | apply below_drew1) | exact HB.out)⟩
                · rw [if_neg c13] at H
                  have c13b0 : decide ((wrap64 ((wrap64 ((rst.size : Int) - 2)) - 4)) < (Go.bits .or .i64 (wrap64 (bt rst 0)) (wrap64 ((wrap64 (bt rst 1)) * 256)))) = false := decide_eq_false c13
                  clear c13
                  by_cases c14 : 2 ≤ (wrap64 (2 + (Go.bits .or .i64 (wrap64 (bt rst 0)) (wrap64 ((wrap64 (bt rst 1)) * 256)))))
                  · rw [if_pos c14] at H
                    have c14b0 := eq_true c14
                    have c14b1 : decide (2 ≤ (wrap64 (2 + (Go.bits .or .i64 (wrap64 (bt rst 0)) (wrap64 ((wrap64 (bt rst 1)) * 256)))))) = true := decide_eq_true c14
                    by_cases c15 : (wrap64 (2 + (Go.bits .or .i64 (wrap64 (bt rst 0)) (wrap64 ((wrap64 (bt rst 1)) * 256))))) ≤ (rst.size : Int)
                    · rw [if_pos c15] at H
                      have c15b0 := eq_true c15
                      have c15b1 : decide ((wrap64 (2 + (Go.bits .or .i64 (wrap64 (bt rst 0)) (wrap64 ((wrap64 (bt rst 1)) * 256))))) ≤ (rst.size : Int)) = true := decide_eq_true c15
                      replace H := Option.bind_eq_some_iff.mp H
                      obtain ⟨⟨t111, t112⟩, A160, H⟩ := H
                      replace H : (if t112 = 0 then (if 0 ≤ (t111.size : Int) then (if (t111.size : Int) ≤ (rst.size : Int) then (if t111.toList = (rst.extract 0 ((t111.size : Int) : Int).toNat).toList then (some (rst.extract 2 ((wrap64 (2 + (Go.bits .or .i64 (wrap64 (bt rst 0)) (wrap64 ((wrap64 (bt rst 1)) * 256))))) : Int).toNat, wrap64 ((wrap64 ((wrap64 (a1 + 2)) + (Go.bits .or .i64 (wrap64 (bt rst 0)) (wrap64 ((wrap64 (bt rst 1)) * 256))))) + 4), 0)) else (some ((⟨#[]⟩ : ByteArray), 0, 1600))) else (none)) else (none)) else (some ((⟨#[]⟩ : ByteArray), 0, 1600))) = some (r1, r2, r3) := H
                      have A16 := Aside0.mk A160
                      clear A160
                      by_cases c17 : t112 = 0
                      · rw [if_pos c17] at H
                        have c17b0 : (t112 == 0) = true := beq_iff_eq.mpr c17
                        have c17b1 : (t112 != 0) = false := bne_eq_false_iff_eq.mpr c17
                        clear c17
                        by_cases c18 : 0 ≤ (t111.size : Int)
                        · rw [if_pos c18] at H
                          have c18b0 := eq_true c18
                          have c18b1 : decide (0 ≤ (t111.size : Int)) = true := decide_eq_true c18
                          clear c18
                          by_cases c19 : (t111.size : Int) ≤ (rst.size : Int)
                          · rw [if_pos c19] at H
                            have c19b0 := eq_true c19
                            have c19b1 : decide ((t111.size : Int) ≤ (rst.size : Int)) = true := decide_eq_true c19
                            clear c19
                            by_cases c20 : t111.toList = (rst.extract 0 ((t111.size : Int) : Int).toNat).toList
                            · rw [if_pos c20] at H
                              have c20b0 : (t111.toList == (rst.extract 0 ((t111.size : Int) : Int).toNat).toList) = true := beq_iff_eq.mpr c20
                              (try simp only [Int.toNat_natCast] at c20b0)
                              have c20b1 : (t111.toList != (rst.extract 0 ((t111.size : Int) : Int).toNat).toList) = false := bne_eq_false_iff_eq.mpr c20
                              (try simp only [Int.toNat_natCast] at c20b1)
                              clear c20
                              simp only [Option.some.injEq, Prod.mk.injEq] at H
                              obtain ⟨rfl, rfl, rfl⟩ := H
                              have p10 : 0 ≤ (0 : Int) := (by omega)
                              have q10 : 0 < rst.size := (by have : (0 : Int) < (rst.size : Int) := of_decide_eq_true (by first | (with_reducible assumption) | assumption); omega)
                              have hx10 : ∀ h : 0 < rst.size, ((rst[0]'h).toNat : Int) = bt rst 0 := bt_at rst 0
                              clear p10
                              have qi10 : (0 < (rst.size : Int)) = True := eq_true (of_decide_eq_true (by first | (with_reducible assumption) | assumption))
                              replace q10 := eq_true q10
                              have p12 : 0 ≤ (1 : Int) := (by omega)
                              have q12 : 1 < rst.size := (by have : (1 : Int) < (rst.size : Int) := of_decide_eq_true (by first | (with_reducible assumption) | assumption); omega)
                              have hx12 : ∀ h : 1 < rst.size, ((rst[1]'h).toNat : Int) = bt rst 1 := bt_at rst 1
                              clear p12
                              have qi12 : (1 < (rst.size : Int)) = True := eq_true (of_decide_eq_true (by first | (with_reducible assumption) | assumption))
                              replace q12 := eq_true q12
                              go_wp2_with (first | (go_at_call 22; (with_reducible refine (frame_Put.calls kj2 (rst.extract 2 ((wrap64 (2 + (Go.bits .or .i64 (wrap64 (bt rst 0)) (wrap64 ((wrap64 (bt rst 1)) * 256))))) : Int).toNat) t111 t112 _ A16.out).mono ?_); rintro e w21 ⟨rfl, hb⟩; have n0_ := Aside0.mk (below_step (by repeat (first | (with_reducible first | exact HB.out | apply below_alloc | apply pw_below_drewN | apply below_drew1) | exact HB.out)) hb); clear HB; have HB := n0_; clear n0_; (try clear hb); (try clear hb2); (try clear hk); (try clear hi)))
                              repeat (go_quiet (first | (go_at_call 22; (with_reducible refine (frame_Put.calls kj2 (rst.extract 2 ((wrap64 (2 + (Go.bits .or .i64 (wrap64 (bt rst 0)) (wrap64 ((wrap64 (bt rst 1)) * 256))))) : Int).toNat) t111 t112 _ A16.out).mono ?_); rintro e w21 ⟨rfl, hb⟩; have n0_ := Aside0.mk (below_step (by repeat (first | (with_reducible first | exact HB.out | apply below_alloc | apply pw_below_drewN | apply below_drew1) | exact HB.out)) hb); clear HB; have HB := n0_; clear n0_; (try clear hb); (try clear hb2); (try clear hk); (try clear hi))); try go_wp2_with (first | (go_at_call 22; (with_reducible refine (frame_Put.calls kj2 (rst.extract 2 ((wrap64 (2 + (Go.bits .or .i64 (wrap64 (bt rst 0)) (wrap64 ((wrap64 (bt rst 1)) * 256))))) : Int).toNat) t111 t112 _ A16.out).mono ?_); rintro e w21 ⟨rfl, hb⟩; have n0_ := Aside0.mk (below_step (by repeat (first | (with_reducible first | exact HB.out | apply below_alloc | apply pw_below_drewN | apply below_drew1) | exact HB.out)) hb); clear HB; have HB := n0_; clear n0_; (try clear hb); (try clear hb2); (try clear hk); (try clear hi))))
                              go_ret3
                              exact ⟨by first | rfl | (simp [errW_none, errW_some] <;> rfl) | (simp [*, errW_none, errW_some] <;> rfl), by repeat (first | (with_reducible first | exact HB.out | apply below_alloc | apply pw_below_drewN | apply below_drew1) | exact HB.out)⟩
                            · rw [if_neg c20] at H
                              have c20b0 : (t111.toList == (rst.extract 0 ((t111.size : Int) : Int).toNat).toList) = false := beq_eq_false_iff_ne.mpr c20
                              (try simp only [Int.toNat_natCast] at c20b0)
                              have c20b1 : (t111.toList != (rst.extract 0 ((t111.size : Int) : Int).toNat).toList) = true := bne_iff_ne.mpr c20
                              (try simp only [Int.toNat_natCast] at c20b1)
                              simp only [Option.some.injEq, Prod.mk.injEq] at H
                              obtain ⟨rfl, rfl, rfl⟩ := H
                              have p10 : 0 ≤ (0 : Int) := (by omega)
                              have q10 : 0 < rst.size := (by have : (0 : Int) < (rst.size : Int) := of_decide_eq_true (by first | (with_reducible assumption) | assumption); omega)
                              have hx10 : ∀ h : 0 < rst.size, ((rst[0]'h).toNat : Int) = bt rst 0 := bt_at rst 0
                              clear p10
                              have qi10 : (0 < (rst.size : Int)) = True := eq_true (of_decide_eq_true (by first | (with_reducible assumption) | assumption))
                              replace q10 := eq_true q10
                              have p12 : 0 ≤ (1 : Int) := (by omega)
                              have q12 : 1 < rst.size := (by have : (1 : Int) < (rst.size : Int) := of_decide_eq_true (by first | (with_reducible assumption) | assumption); omega)
                              have hx12 : ∀ h : 1 < rst.size, ((rst[1]'h).toNat : Int) = bt rst 1 := bt_at rst 1
                              clear p12
                              have qi12 : (1 < (rst.size : Int)) = True := eq_true (of_decide_eq_true (by first | (with_reducible assumption) | assumption))
                              replace q12 := eq_true q12
                              go_wp2_with (first | (go_at_call 22; (with_reducible refine (frame_Put.calls kj2 (rst.extract 2 ((wrap64 (2 + (Go.bits .or .i64 (wrap64 (bt rst 0)) (wrap64 ((wrap64 (bt rst 1)) * 256))))) : Int).toNat) t111 t112 _ A16.out).mono ?_); rintro e w22 ⟨rfl, hb⟩; have n0_ := Aside0.mk (below_step (by repeat (first | (with_reducible first | exact HB.out | apply below_alloc | apply pw_below_drewN | apply below_drew1) | exact HB.out)) hb); clear HB; have HB := n0_; clear n0_; (try clear hb); (try clear hb2); (try clear hk); (try clear hi)))
                              repeat (go_quiet (first | (go_at_call 22; (with_reducible refine (frame_Put.calls kj2 (rst.extract 2 ((wrap64 (2 + (Go.bits .or .i64 (wrap64 (bt rst 0)) (wrap64 ((wrap64 (bt rst 1)) * 256))))) : Int).toNat) t111 t112 _ A16.out).mono ?_); rintro e w22 ⟨rfl, hb⟩; have n0_ := Aside0.mk (below_step (by repeat (first | (with_reducible first | exact HB.out | apply below_alloc | apply pw_below_drewN | apply below_drew1) | exact HB.out)) hb); clear HB; have HB := n0_; clear n0_; (try clear hb); (try clear hb2); (try clear hk); (try clear hi))); try go_wp2_with (first | (go_at_call 22; (with_reducible refine (frame_Put.calls kj2 (rst.extract 2 ((wrap64 (2 + (Go.bits .or .i64 (wrap64 (bt rst 0)) (wrap64 ((wrap64 (bt rst 1)) * 256))))) : Int).toNat) t111 t112 _ A16.out).mono ?_); rintro e w22 ⟨rfl, hb⟩; have n0_ := Aside0.mk (below_step (by repeat (first | (with_reducible first | exact HB.out | apply below_alloc | apply pw_below_drewN | apply below_drew1) | exact HB.out)) hb); clear HB; have HB := n0_; clear n0_; (try clear hb); (try clear hb2); (try clear hk); (try clear hi))))
                              go_ret3
                              exact ⟨by first | rfl | (simp [errW_none, errW_some] <;> rfl) | (simp [*, errW_none, errW_some] <;> rfl), by repeat (first | (with_reducible first | exact HB.out | apply below_alloc | apply pw_below_drewN | apply below_drew1) | exact HB.out)⟩
                          · rw [if_neg c19] at H
                            exact absurd H (by simp)
                        · rw [if_neg c18] at H
                          exact absurd H (by simp)
                      · rw [if_neg c17] at H
                        have c17b0 : (t112 == 0) = false := beq_eq_false_iff_ne.mpr c17
                        have c17b1 : (t112 != 0) = true := bne_iff_ne.mpr c17
                        simp only [Option.some.injEq, Prod.mk.injEq] at H
                        obtain ⟨rfl, rfl, rfl⟩ := H
                        have p10 : 0 ≤ (0 : Int) := (by omega)
                        have q10 : 0 < rst.size := (by have : (0 : Int) < (rst.size : Int) := of_decide_eq_true (by first | (with_reducible assumption) | assumption); omega)
                        have hx10 : ∀ h : 0 < rst.size, ((rst[0]'h).toNat : Int) = bt rst 0 := bt_at rst 0
                        clear p10
                        have qi10 : (0 < (rst.size : Int)) = True := eq_true (of_decide_eq_true (by first | (with_reducible assumption) | assumption))
                        replace q10 := eq_true q10
                        have p12 : 0 ≤ (1 : Int) := (by omega)
                        have q12 : 1 < rst.size := (by have : (1 : Int) < (rst.size : Int) := of_decide_eq_true (by first | (with_reducible assumption) | assumption); omega)
                        have hx12 : ∀ h : 1 < rst.size, ((rst[1]'h).toNat : Int) = bt rst 1 := bt_at rst 1
                        clear p12
                        have qi12 : (1 < (rst.size : Int)) = True := eq_true (of_decide_eq_true (by first | (with_reducible assumption) | assumption))
                        replace q12 := eq_true q12
                        go_wp2_with (first | (go_at_call 22; (with_reducible refine (frame_Put.calls kj2 (rst.extract 2 ((wrap64 (2 + (Go.bits .or .i64 (wrap64 (bt rst 0)) (wrap64 ((wrap64 (bt rst 1)) * 256))))) : Int).toNat) t111 t112 _ A16.out).mono ?_); rintro e w23 ⟨rfl, hb⟩; have n0_ := Aside0.mk (below_step (by repeat (first | (with_reducible first | exact HB.out | apply below_alloc | apply pw_below_drewN | apply below_drew1) | exact HB.out)) hb); clear HB; have HB := n0_; clear n0_; (try clear hb); (try clear hb2); (try clear hk); (try clear hi)))
                        repeat (go_quiet (first | (go_at_call 22; (with_reducible refine (frame_Put.calls kj2 (rst.extract 2 ((wrap64 (2 + (Go.bits .or .i64 (wrap64 (bt rst 0)) (wrap64 ((wrap64 (bt rst 1)) * 256))))) : Int).toNat) t111 t112 _ A16.out).mono ?_); rintro e w23 ⟨rfl, hb⟩; have n0_ := Aside0.mk (below_step (by repeat (first | (with_reducible first | exact HB.out | apply below_alloc | apply pw_below_drewN | apply below_drew1) | exact HB.out)) hb); clear HB; have HB := n0_; clear n0_; (try clear hb); (try clear hb2); (try clear hk); (try clear hi))); try go_wp2_with (first | (go_at_call 22; (with_reducible refine (frame_Put.calls kj2 (rst.extract 2 ((wrap64 (2 + (Go.bits .or .i64 (wrap64 (bt rst 0)) (wrap64 ((wrap64 (bt rst 1)) * 256))))) : Int).toNat) t111 t112 _ A16.out).mono ?_); rintro e w23 ⟨rfl, hb⟩; have n0_ := Aside0.mk (below_step (by repeat (first | (with_reducible first | exact HB.out | apply below_alloc | apply pw_below_drewN | apply below_drew1) | exact HB.out)) hb); clear HB; have HB := n0_; clear n0_; (try clear hb); (try clear hb2); (try clear hk); (try clear hi))))
                        go_ret3
                        exact ⟨by first | rfl | (simp [errW_none, errW_some] <;> rfl) | (simp [*, errW_none, errW_some] <;> rfl), by repeat (first | (with_reducible first | exact HB.out | apply below_alloc | apply pw_below_drewN | apply below_drew1) | exact HB.out)⟩
                    · rw [if_neg c15] at H
                      exact absurd H (by simp)
                  · rw [if_neg c14] at H
                    exact absurd H (by simp)
              · rw [if_neg c11] at H
                exact absurd H (by simp)
            · rw [if_neg c9] at H
              exact absurd H (by simp)
          · rw [if_neg c8] at H
            exact absurd H (by simp)
        · rw [if_neg c7] at H
          exact absurd H (by simp)

/-! ### grafterlaw0_Num: function 26 -/
def grafterlaw0_Num.f (a0 : Int) : Option (Int) := some a0
set_option maxHeartbeats 8000000 in
set_option maxRecDepth 100000 in
theorem grafterlaw0_Num.calls (a0 : Int) (r : Int) (w : World) (h : grafterlaw0_Num.f a0 = some r) :
    Calls Try.prog 26 #[.int .i64 a0] w fun e w' => e = .returned (.int .i64 r) ∧ Drawn0 w w' := by
  have H : (some a0) = some r := h
  clear h
  obtain rfl := Option.some.inj H
  go_enter Try.func26, Try.ntmps26
  go_wp2
  go_ret
  exact ⟨by first | rfl | (simp; done) | (simp [*]; done), by repeat (first | exact Drawn0.refl _ | apply Drawn0.step)⟩

/-! ### grafterlaw16_awake: function 27 -/
def grafterlaw16_awake.f (k : Nat)  : Option (Bool) := (frame_Put.f k (⟨#[49]⟩ : ByteArray)).bind fun bt113 => (if 1 + bt113.1.size ≤ 9223372036854775807 then (if ((⟨#[63]⟩ : ByteArray) ++ bt113.1).size + 1 ≤ 9223372036854775807 then ((frame_Get.f k (((⟨#[63]⟩ : ByteArray) ++ bt113.1) ++ (⟨#[63]⟩ : ByteArray)) 1).bind fun bt115 => ((frame_Get.f k bt113.1 1).bind fun bt118 => ((frame_Get.f k bt113.1 (-1)).bind fun bt121 => (if (bt113.1.size : Int) = 7 then ((grafterlaw0_Num.f bt113.2).bind fun t124 => (if t124 = 0 then (if bt115.1.toList = ([49] : List UInt8) then (if bt115.2.1 = 8 then ((grafterlaw0_Num.f bt115.2.2).bind fun t125 => (if t125 = 0 then ((grafterlaw0_Num.f bt118.2.2).bind fun t126 => (if t126 = 1600 then ((grafterlaw0_Num.f bt121.2.2).bind fun t127 => (some (t127 == 1600))) else (some false))) else (some false))) else (some false)) else (some false)) else (some false))) else (some false))))) else (none)) else (none))
theorem grafterlaw16_awake.mono : ∀ k, LeO (grafterlaw16_awake.f k ) (grafterlaw16_awake.f (k + 1) ) := by
  intro  k
  unfold grafterlaw16_awake.f
  repeat' first
      | (with_reducible exact frame_Get.mono _ _ _)
      | (with_reducible exact frame_Put.mono _ _)
      | (with_reducible exact LeO.refl _)
      | (with_reducible exact LeO.none _)
      | (with_reducible refine LeO.ite ?_ ?_)
      | (with_reducible refine LeO.bind ?_ (fun _ => ?_))
      | exact frame_Get.mono _ _ _
      | exact frame_Put.mono _ _
      | exact LeO.none _
      | refine LeO.ite ?_ ?_
      | refine LeO.bind ?_ (fun _ => ?_)
set_option maxHeartbeats 8000000 in
set_option maxRecDepth 100000 in
theorem grafterlaw16_awake.calls (k : Nat)  (r : Bool) (w : World) (hrt : r = true) (h : grafterlaw16_awake.f k  = some r) :
    Calls Try.prog 27 #[] w fun e w' => e = .returned (.bool r) ∧ Below w.heap.size w w' := by
  have HRT := Aside0.mk hrt
  clear hrt
  have HB := Aside0.mk (Below.refl w.heap.size w)
  have H : ((frame_Put.f k (⟨#[49]⟩ : ByteArray)).bind fun bt113 => (if 1 + bt113.1.size ≤ 9223372036854775807 then (if ((⟨#[63]⟩ : ByteArray) ++ bt113.1).size + 1 ≤ 9223372036854775807 then ((frame_Get.f k (((⟨#[63]⟩ : ByteArray) ++ bt113.1) ++ (⟨#[63]⟩ : ByteArray)) 1).bind fun bt115 => ((frame_Get.f k bt113.1 1).bind fun bt118 => ((frame_Get.f k bt113.1 (-1)).bind fun bt121 => (if (bt113.1.size : Int) = 7 then ((grafterlaw0_Num.f bt113.2).bind fun t124 => (if t124 = 0 then (if bt115.1.toList = ([49] : List UInt8) then (if bt115.2.1 = 8 then ((grafterlaw0_Num.f bt115.2.2).bind fun t125 => (if t125 = 0 then ((grafterlaw0_Num.f bt118.2.2).bind fun t126 => (if t126 = 1600 then ((grafterlaw0_Num.f bt121.2.2).bind fun t127 => (some (t127 == 1600))) else (some false))) else (some false))) else (some false)) else (some false)) else (some false))) else (some false))))) else (none)) else (none))) = some r := h
  clear h
  replace H := Option.bind_eq_some_iff.mp H
  obtain ⟨⟨t113, t114⟩, A10, H⟩ := H
  replace H : (if 1 + t113.size ≤ 9223372036854775807 then (if ((⟨#[63]⟩ : ByteArray) ++ t113).size + 1 ≤ 9223372036854775807 then ((frame_Get.f k (((⟨#[63]⟩ : ByteArray) ++ t113) ++ (⟨#[63]⟩ : ByteArray)) 1).bind fun bt115 => ((frame_Get.f k t113 1).bind fun bt118 => ((frame_Get.f k t113 (-1)).bind fun bt121 => (if (t113.size : Int) = 7 then ((grafterlaw0_Num.f t114).bind fun t124 => (if t124 = 0 then (if bt115.1.toList = ([49] : List UInt8) then (if bt115.2.1 = 8 then ((grafterlaw0_Num.f bt115.2.2).bind fun t125 => (if t125 = 0 then ((grafterlaw0_Num.f bt118.2.2).bind fun t126 => (if t126 = 1600 then ((grafterlaw0_Num.f bt121.2.2).bind fun t127 => (some (t127 == 1600))) else (some false))) else (some false))) else (some false)) else (some false)) else (some false))) else (some false))))) else (none)) else (none)) = some r := H
  have A1 := Aside0.mk A10
  clear A10
  by_cases c2 : 1 + t113.size ≤ 9223372036854775807
  · rw [if_pos c2] at H
    have c2b0 := eq_true c2
    have c2b1 : decide (1 + t113.size ≤ 9223372036854775807) = true := decide_eq_true c2
    try have c2b2 : (9223372036854775807 < 1 + t113.size) = False := eq_false (Nat.not_lt.2 c2)
    try simp only [ByteArray.size_append] at c2b2
    by_cases c3 : ((⟨#[63]⟩ : ByteArray) ++ t113).size + 1 ≤ 9223372036854775807
    · rw [if_pos c3] at H
      have c3b0 := eq_true c3
      have c3b1 : decide (((⟨#[63]⟩ : ByteArray) ++ t113).size + 1 ≤ 9223372036854775807) = true := decide_eq_true c3
      try have c3b2 : (9223372036854775807 < ((⟨#[63]⟩ : ByteArray) ++ t113).size + 1) = False := eq_false (Nat.not_lt.2 c3)
      try simp only [ByteArray.size_append] at c3b2
      try have c3b3 : (9223372036854775807 < 1 + t113.size + 1) = False := c3b2
      replace H := Option.bind_eq_some_iff.mp H
      obtain ⟨⟨t115, t116, t117⟩, A40, H⟩ := H
      replace H : ((frame_Get.f k t113 1).bind fun bt118 => ((frame_Get.f k t113 (-1)).bind fun bt121 => (if (t113.size : Int) = 7 then ((grafterlaw0_Num.f t114).bind fun t124 => (if t124 = 0 then (if t115.toList = ([49] : List UInt8) then (if t116 = 8 then ((grafterlaw0_Num.f t117).bind fun t125 => (if t125 = 0 then ((grafterlaw0_Num.f bt118.2.2).bind fun t126 => (if t126 = 1600 then ((grafterlaw0_Num.f bt121.2.2).bind fun t127 => (some (t127 == 1600))) else (some false))) else (some false))) else (some false)) else (some false)) else (some false))) else (some false)))) = some r := H
      have A4 := Aside0.mk A40
      clear A40
      replace H := Option.bind_eq_some_iff.mp H
      obtain ⟨⟨t118, t119, t120⟩, A50, H⟩ := H
      replace H : ((frame_Get.f k t113 (-1)).bind fun bt121 => (if (t113.size : Int) = 7 then ((grafterlaw0_Num.f t114).bind fun t124 => (if t124 = 0 then (if t115.toList = ([49] : List UInt8) then (if t116 = 8 then ((grafterlaw0_Num.f t117).bind fun t125 => (if t125 = 0 then ((grafterlaw0_Num.f t120).bind fun t126 => (if t126 = 1600 then ((grafterlaw0_Num.f bt121.2.2).bind fun t127 => (some (t127 == 1600))) else (some false))) else (some false))) else (some false)) else (some false)) else (some false))) else (some false))) = some r := H
      have A5 := Aside0.mk A50
      clear A50
      replace H := Option.bind_eq_some_iff.mp H
      obtain ⟨⟨t121, t122, t123⟩, A60, H⟩ := H
      replace H : (if (t113.size : Int) = 7 then ((grafterlaw0_Num.f t114).bind fun t124 => (if t124 = 0 then (if t115.toList = ([49] : List UInt8) then (if t116 = 8 then ((grafterlaw0_Num.f t117).bind fun t125 => (if t125 = 0 then ((grafterlaw0_Num.f t120).bind fun t126 => (if t126 = 1600 then ((grafterlaw0_Num.f t123).bind fun t127 => (some (t127 == 1600))) else (some false))) else (some false))) else (some false)) else (some false)) else (some false))) else (some false)) = some r := H
      have A6 := Aside0.mk A60
      clear A60
      by_cases c7 : (t113.size : Int) = 7
      · rw [if_pos c7] at H
        have c7b0 : ((t113.size : Int) == 7) = true := beq_iff_eq.mpr c7
        have c7b1 : ((t113.size : Int) != 7) = false := bne_eq_false_iff_eq.mpr c7
        clear c7
        replace H := Option.bind_eq_some_iff.mp H
        obtain ⟨t124, A80, H⟩ := H
        replace H : (if t124 = 0 then (if t115.toList = ([49] : List UInt8) then (if t116 = 8 then ((grafterlaw0_Num.f t117).bind fun t125 => (if t125 = 0 then ((grafterlaw0_Num.f t120).bind fun t126 => (if t126 = 1600 then ((grafterlaw0_Num.f t123).bind fun t127 => (some (t127 == 1600))) else (some false))) else (some false))) else (some false)) else (some false)) else (some false)) = some r := H
        have A8 := Aside0.mk A80
        clear A80
        by_cases c9 : t124 = 0
        · rw [if_pos c9] at H
          have c9b0 : (t124 == 0) = true := beq_iff_eq.mpr c9
          have c9b1 : (t124 != 0) = false := bne_eq_false_iff_eq.mpr c9
          clear c9
          by_cases c10 : t115.toList = ([49] : List UInt8)
          · rw [if_pos c10] at H
            have c10b0 : (t115.toList == ([49] : List UInt8)) = true := beq_iff_eq.mpr c10
            have c10b1 : (t115.toList != ([49] : List UInt8)) = false := bne_eq_false_iff_eq.mpr c10
            clear c10
            by_cases c11 : t116 = 8
            · rw [if_pos c11] at H
              have c11b0 : (t116 == 8) = true := beq_iff_eq.mpr c11
              have c11b1 : (t116 != 8) = false := bne_eq_false_iff_eq.mpr c11
              clear c11
              replace H := Option.bind_eq_some_iff.mp H
              obtain ⟨t125, A120, H⟩ := H
              replace H : (if t125 = 0 then ((grafterlaw0_Num.f t120).bind fun t126 => (if t126 = 1600 then ((grafterlaw0_Num.f t123).bind fun t127 => (some (t127 == 1600))) else (some false))) else (some false)) = some r := H
              have A12 := Aside0.mk A120
              clear A120
              by_cases c13 : t125 = 0
              · rw [if_pos c13] at H
                have c13b0 : (t125 == 0) = true := beq_iff_eq.mpr c13
                have c13b1 : (t125 != 0) = false := bne_eq_false_iff_eq.mpr c13
                clear c13
                replace H := Option.bind_eq_some_iff.mp H
                obtain ⟨t126, A140, H⟩ := H
                replace H : (if t126 = 1600 then ((grafterlaw0_Num.f t123).bind fun t127 => (some (t127 == 1600))) else (some false)) = some r := H
                have A14 := Aside0.mk A140
                clear A140
                by_cases c15 : t126 = 1600
                · rw [if_pos c15] at H
                  have c15b0 : (t126 == 1600) = true := beq_iff_eq.mpr c15
                  have c15b1 : (t126 != 1600) = false := bne_eq_false_iff_eq.mpr c15
                  clear c15
                  replace H := Option.bind_eq_some_iff.mp H
                  obtain ⟨t127, A160, H⟩ := H
                  replace H : (some (t127 == 1600)) = some r := H
                  have A16 := Aside0.mk A160
                  clear A160
                  obtain rfl := Option.some.inj H
                  go_enter Try.func27, Try.ntmps27
                  go_wp2_with (first | ((with_reducible refine gate_callee (f := 22) rfl ?_); refine goesL_ (some 13) rfl rfl Try.func22 (by kernel_rfl) rfl #[.string (⟨#[49]⟩ : ByteArray)] rfl (by (try simp only [List.map_toArray, List.map_cons, List.map_nil]); first | done | rfl | (simp only [List.length_drop, List.length_take]; rfl)) ?_; (with_reducible refine (frame_Put.calls k (⟨#[49]⟩ : ByteArray) t113 t114 _ A1.out).mono ?_); rintro e w17 ⟨rfl, hb⟩; refine ⟨_, rfl, ?_⟩; have n0_ := Aside0.mk (below_step (by repeat (first | (with_reducible first | exact HB.out | apply below_alloc | apply pw_below_drewN | apply below_drew1) | exact HB.out)) hb); clear HB; have HB := n0_; clear n0_; (try clear hb); (try clear hb2); (try clear hk); (try clear hi)) | ((with_reducible refine gate_callee (f := 24) rfl ?_); refine goesL_ (some 20) rfl rfl Try.func24 (by kernel_rfl) rfl #[.string (((⟨#[63]⟩ : ByteArray) ++ t113) ++ (⟨#[63]⟩ : ByteArray)), .int .i64 1] rfl (by (try simp only [List.map_toArray, List.map_cons, List.map_nil]); first | done | rfl | (simp only [List.length_drop, List.length_take]; rfl)) ?_; (with_reducible refine (frame_Get.calls k (((⟨#[63]⟩ : ByteArray) ++ t113) ++ (⟨#[63]⟩ : ByteArray)) 1 t115 t116 t117 _ A4.out).mono ?_); rintro e w18 ⟨rfl, hb⟩; refine ⟨_, rfl, ?_⟩; have n0_ := Aside0.mk (below_step (by repeat (first | (with_reducible first | exact HB.out | apply below_alloc | apply pw_below_drewN | apply below_drew1) | exact HB.out)) hb); clear HB; have HB := n0_; clear n0_; (try clear hb); (try clear hb2); (try clear hk); (try clear hi); (try clear A4)) | ((with_reducible refine gate_callee (f := 24) rfl ?_); refine goesL_ (some 26) rfl rfl Try.func24 (by kernel_rfl) rfl #[.string t113, .int .i64 1] rfl (by (try simp only [List.map_toArray, List.map_cons, List.map_nil]); first | done | rfl | (simp only [List.length_drop, List.length_take]; rfl)) ?_; (with_reducible refine (frame_Get.calls k t113 1 t118 t119 t120 _ A5.out).mono ?_); rintro e w19 ⟨rfl, hb⟩; refine ⟨_, rfl, ?_⟩; have n0_ := Aside0.mk (below_step (by repeat (first | (with_reducible first | exact HB.out | apply below_alloc | apply pw_below_drewN | apply below_drew1) | exact HB.out)) hb); clear HB; have HB := n0_; clear n0_; (try clear hb); (try clear hb2); (try clear hk); (try clear hi); (try clear A5)) | ((with_reducible refine gate_callee (f := 24) rfl ?_); refine goesL_ (some 32) rfl rfl Try.func24 (by kernel_rfl) rfl #[.string t113, .int .i64 (-1)] rfl (by (try simp only [List.map_toArray, List.map_cons, List.map_nil]); first | done | rfl | (simp only [List.length_drop, List.length_take]; rfl)) ?_; (with_reducible refine (frame_Get.calls k t113 (-1) t121 t122 t123 _ A6.out).mono ?_); rintro e w20 ⟨rfl, hb⟩; refine ⟨_, rfl, ?_⟩; have n0_ := Aside0.mk (below_step (by repeat (first | (with_reducible first | exact HB.out | apply below_alloc | apply pw_below_drewN | apply below_drew1) | exact HB.out)) hb); clear HB; have HB := n0_; clear n0_; (try clear hb); (try clear hb2); (try clear hk); (try clear hi); (try clear A6)) | (go_at_call 26; (with_reducible refine (grafterlaw0_Num.calls t114 t124 _ A8.out).mono ?_); rintro e w' ⟨rfl, ⟨nd, rfl⟩⟩; (try clear A8)) | (go_at_call 26; (with_reducible refine (grafterlaw0_Num.calls t117 t125 _ A12.out).mono ?_); rintro e w' ⟨rfl, ⟨nd, rfl⟩⟩; (try clear A12)) | (go_at_call 26; (with_reducible refine (grafterlaw0_Num.calls t120 t126 _ A14.out).mono ?_); rintro e w' ⟨rfl, ⟨nd, rfl⟩⟩; (try clear A14)) | (go_at_call 26; (with_reducible refine (grafterlaw0_Num.calls t123 t127 _ A16.out).mono ?_); rintro e w' ⟨rfl, ⟨nd, rfl⟩⟩; (try clear A16)))
                  go_ret
                  exact ⟨by first | rfl | (simp [errW_none, errW_some] <;> rfl) | (simp [*, errW_none, errW_some] <;> rfl), by repeat (first | (with_reducible first | exact HB.out | apply below_alloc | apply pw_below_drewN | apply below_drew1) | exact HB.out)⟩
                · rw [if_neg c15] at H
                  have c15b0 : (t126 == 1600) = false := beq_eq_false_iff_ne.mpr c15
                  have c15b1 : (t126 != 1600) = true := bne_iff_ne.mpr c15
                  exact absurd ((Option.some.inj H).trans HRT.out) Bool.false_ne_true
              · rw [if_neg c13] at H
                have c13b0 : (t125 == 0) = false := beq_eq_false_iff_ne.mpr c13
                have c13b1 : (t125 != 0) = true := bne_iff_ne.mpr c13
                exact absurd ((Option.some.inj H).trans HRT.out) Bool.false_ne_true
            · rw [if_neg c11] at H
              have c11b0 : (t116 == 8) = false := beq_eq_false_iff_ne.mpr c11
              have c11b1 : (t116 != 8) = true := bne_iff_ne.mpr c11
              exact absurd ((Option.some.inj H).trans HRT.out) Bool.false_ne_true
          · rw [if_neg c10] at H
            have c10b0 : (t115.toList == ([49] : List UInt8)) = false := beq_eq_false_iff_ne.mpr c10
            have c10b1 : (t115.toList != ([49] : List UInt8)) = true := bne_iff_ne.mpr c10
            exact absurd ((Option.some.inj H).trans HRT.out) Bool.false_ne_true
        · rw [if_neg c9] at H
          have c9b0 : (t124 == 0) = false := beq_eq_false_iff_ne.mpr c9
          have c9b1 : (t124 != 0) = true := bne_iff_ne.mpr c9
          exact absurd ((Option.some.inj H).trans HRT.out) Bool.false_ne_true
      · rw [if_neg c7] at H
        have c7b0 : ((t113.size : Int) == 7) = false := beq_eq_false_iff_ne.mpr c7
        have c7b1 : ((t113.size : Int) != 7) = true := bne_iff_ne.mpr c7
        exact absurd ((Option.some.inj H).trans HRT.out) Bool.false_ne_true
    · rw [if_neg c3] at H
      exact absurd H (by simp)
  · rw [if_neg c2] at H
    exact absurd H (by simp)

end Go.Proofs.Ytbhkmgidokonkaa.PFrameTurned
