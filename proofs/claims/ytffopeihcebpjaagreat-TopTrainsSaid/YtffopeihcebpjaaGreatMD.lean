/- The executor, opened step by step over this program. Facts of this program's types. Told at once: library functions that ask for a room, for nilness or for places: slices.Clone, slices.overlaps. slices.Clone, told at once, of five types. slices.overlaps, told at once. slices.Insert, told at once, of one entry. What is told at once: slices.Clone, slices.Insert. Contracts: functions told of deep values, by number. Contracts: numbers, activation, draws, bounds. Contracts: draws below a number, rows of numbers, shapes, hypers. Contracts: rows of numbers. Checkpoints, rows, configs as deep values. -/
import Derived.Test.YtffopeihcebpjaaGreatMC
import Derived.Test.YtffopeihcebpjaaGreatProg
import Derived.Lib.Overlaps
import Derived.Laws.Externs
section
set_option linter.unusedVariables false
set_option linter.unusedSimpArgs false
namespace Go.Proofs.YtffopeihcebpjaaGreat.X
open Go
abbrev dn (n : Int) : DV := .v (.int .i64 n)
abbrev db (b : Bool) : DV := .v (.bool b)
abbrev I (n : Int) : AV := .v (.int .i64 n)
abbrev B (b : Bool) : AV := .v (.bool b)
abbrev w64 (n : Int) : Int := IntKind.i64.wrap n
def pMax (a b : Int) : Int := if b > a then b else a
def pMin (a b : Int) : Int := if b < a then b else a
def pAnd (a b : Int) : Int := w64 (BitVec.ofInt 64 a &&& BitVec.ofInt 64 b).toNat
def pXor (a b : Int) : Int := w64 (BitVec.ofInt 64 a ^^^ BitVec.ofInt 64 b).toNat
section
variable (x y : Operand) (a b : Int)
@[simp] theorem b_add : binA Tryz.prog .add 3 x y (I a) (I b) = some (I (w64 (a + b))) := by kernel_rfl
@[simp] theorem b_sub : binA Tryz.prog .sub 3 x y (I a) (I b) = some (I (w64 (a - b))) := by kernel_rfl
@[simp] theorem b_mul : binA Tryz.prog .mul 3 x y (I a) (I b) = some (I (w64 (a * b))) := by kernel_rfl
@[simp] theorem b_eql : binA Tryz.prog .eql 3 x y (I a) (I b) = some (B (decide (a = b))) := by kernel_rfl
@[simp] theorem b_neq : binA Tryz.prog .neq 3 x y (I a) (I b) = some (B (!decide (a = b))) := by kernel_rfl
@[simp] theorem b_lss : binA Tryz.prog .lss 3 x y (I a) (I b) = some (B (decide (a < b))) := by kernel_rfl
@[simp] theorem b_leq : binA Tryz.prog .leq 3 x y (I a) (I b) = some (B (decide (a ≤ b))) := by kernel_rfl
@[simp] theorem b_gtr : binA Tryz.prog .gtr 3 x y (I a) (I b) = some (B (decide (b < a))) := by kernel_rfl
@[simp] theorem b_geq : binA Tryz.prog .geq 3 x y (I a) (I b) = some (B (decide (b ≤ a))) := by kernel_rfl
@[simp] theorem b_eql37 : binA Tryz.prog .eql 37 x y (I a) (I b) = some (B (decide (a = b))) := by kernel_rfl
@[simp] theorem b_neq37 : binA Tryz.prog .neq 37 x y (I a) (I b) = some (B (!decide (a = b))) := by kernel_rfl
@[simp] theorem b_shr16 : binA Tryz.prog .shr 3 x y (I a) (.v (.int .u64 16)) = some (I (a.fdiv 65536)) := by kernel_rfl
@[simp] theorem b_shr15 : binA Tryz.prog .shr 3 x y (I a) (.v (.int .u64 15)) = some (I (a.fdiv 32768)) := by kernel_rfl
@[simp] theorem b_shr8 : binA Tryz.prog .shr 3 x y (I a) (.v (.int .u64 8)) = some (I (a.fdiv 256)) := by kernel_rfl
@[simp] theorem b_rem : binA Tryz.prog .rem 3 x y (I a) (I 65536) = some (I (a.tmod 65536)) := by kernel_rfl
@[simp] theorem b_quo : binA Tryz.prog .quo 3 x y (I a) (I 65536) = some (I (w64 (a.tdiv 65536))) := by kernel_rfl
@[simp] theorem b_and : binA Tryz.prog .and 3 x y (I a) (I b) = some (I (pAnd a b)) := by kernel_rfl
@[simp] theorem b_xor : binA Tryz.prog .xor 3 x y (I a) (I b) = some (I (pXor a b)) := by kernel_rfl
@[simp] theorem n_max (ty : TypeId) (ts : Array TypeId) (h : H) : builtinA Tryz.prog .max ts ty [I a, I b] h = some (I (pMax a b), h, []) := by kernel_rfl
@[simp] theorem n_min (ty : TypeId) (ts : Array TypeId) (h : H) : builtinA Tryz.prog .min ts ty [I a, I b] h = some (I (pMin a b), h, []) := by kernel_rfl
@[simp] theorem u_not (c : Bool) : unA Tryz.prog .not (B c) = some (B (!c)) := by kernel_rfl
@[simp] theorem u_neg : unA Tryz.prog .neg (I a) = some (I (w64 (0 - a))) := by kernel_rfl
end
@[simp] theorem w64_id {n : Int} (h1 : -9223372036854775808 ≤ n) (h2 : n < 9223372036854775808) : w64 n = n := by
  unfold w64 IntKind.wrap
  simp [IntKind.bits, IntKind.signed]
  omega
/-! Temporaries. -/
def tget (l : List AV) (t : Nat) : AV := l.getD t .un
@[simp] theorem tget_0 (a : AV) (l : List AV) : tget (a :: l) 0 = a := rfl
@[simp] theorem tget_s (a : AV) (l : List AV) (n : Nat) : tget (a :: l) (n + 1) = tget l n := rfl
/-! The same in tens: a step of ten costs as much as a step of one. -/
@[simp high] theorem tget_t (a0 a1 a2 a3 a4 a5 a6 a7 a8 a9 : AV) (l : List AV) (n : Nat) : tget (a0 :: a1 :: a2 :: a3 :: a4 :: a5 :: a6 :: a7 :: a8 :: a9 :: l) (n + 10) = tget l n := rfl
@[simp high] theorem set_t (a0 a1 a2 a3 a4 a5 a6 a7 a8 a9 : AV) (l : List AV) (n : Nat) (v : AV) : (a0 :: a1 :: a2 :: a3 :: a4 :: a5 :: a6 :: a7 :: a8 :: a9 :: l).set (n + 10) v = a0 :: a1 :: a2 :: a3 :: a4 :: a5 :: a6 :: a7 :: a8 :: a9 :: l.set n v := rfl
@[simp] theorem tget_set (l : List AV) (i j : Nat) (v : AV) : tget (l.set i v) j = if i = j ∧ i < l.length then v else tget l j := by
  unfold tget
  simp only [List.getD_eq_getElem?_getD, List.getElem?_set]
  by_cases h : i = j
  · subst h
    by_cases q : i < l.length
    · simp [q]
    · simp [q]
  · simp [h]
@[simp] theorem ev_tmp (tm : List AV) (t : Tmp) : evalA tm (.tmp t) = tget tm t := rfl
@[simp] theorem ev_const (tm : List AV) (v : Value) : evalA tm (.const v) = .v v := rfl
@[simp] theorem ev_func (tm : List AV) (f : FuncId) : evalA tm (.func f) = .fn f [] := rfl
@[simp] theorem put_some (tm : List AV) (d : Tmp) (v : AV) : putA tm (some d) v = tm.set d v := rfl
@[simp] theorem put_none (tm : List AV) (v : AV) : putA tm none v = tm := rfl
/-! The heap. -/
@[simp] theorem getL_nil (o : Nat) : getL [] o = .dead := rfl
@[simp] theorem getL_cons (k o : Nat) (b : Ob) (r : List (Nat × Ob)) : getL ((k, b) :: r) o = if k = o then b else getL r o := by
  show (if Nat.beq k o = true then b else getL r o) = _
  simp only [Nat.beq_eq]
@[simp] theorem setL_cons (k o : Nat) (b x : Ob) (r : List (Nat × Ob)) : setL ((k, b) :: r) o x = if k = o then (k, x) :: r else (k, b) :: setL r o x := by
  show (if Nat.beq k o = true then (k, x) :: r else (k, b) :: setL r o x) = _
  simp only [Nat.beq_eq]
@[simp] theorem h_get (l : List (Nat × Ob)) (n o : Nat) : (H.mk l n).get o = getL l o := rfl
@[simp] theorem h_set (l : List (Nat × Ob)) (n o : Nat) (x : Ob) : (H.mk l n).set o x = ⟨setL l o x, n⟩ := rfl
@[simp] theorem h_new (l : List (Nat × Ob)) (n : Nat) (x : Ob) : (H.mk l n).new x = ⟨(n, x) :: l, n + 1⟩ := rfl
@[simp] theorem hide_mk (hid : List Nat) (l : List (Nat × Ob)) (n : Nat) : hideA hid ⟨l, n⟩ = ⟨hid.map (fun o => (o, Ob.dead)) ++ l, n⟩ := rfl
@[simp] theorem back_mk (hid : List Nat) (h : H) (l : List (Nat × Ob)) (n : Nat) : backA hid h ⟨l, n⟩ = ⟨hid.map (fun o => (o, h.get o)) ++ l, n⟩ := rfl
@[simp] theorem ble_d (a b : Nat) : Nat.ble a b = decide (a ≤ b) := by
  cases h : Nat.ble a b with
  | true => exact (decide_eq_true (Nat.le_of_ble_eq_true h)).symm
  | false => exact (decide_eq_false (fun q => by rw [Nat.ble_eq_true_of_le q] at h; cases h)).symm
@[simp] theorem blt_d (a b : Nat) : Nat.blt a b = decide (a < b) := ble_d (a + 1) b
@[simp] theorem hide_nil (h : H) : hideA [] h = h := rfl
@[simp] theorem back_nil (h h' : H) : backA [] h h' = h' := rfl
/-! Ways that are opened one behind the other: what follows is left alone until what it waits for is known. -/
def kb (x : Option (Ex × St)) (f : St → Option (Ex × St)) : Option (Ex × St) := match x with
  | some (.normal, st) => f st
  | r => r
def kc {α : Type} (x : AV) (f g : Unit → Option α) : Option α := match x with
  | .v (.bool true) => f ()
  | .v (.bool false) => g ()
  | _ => none
def ob {α β : Type} (x : Option α) (f : α → Option β) : Option β := match x with
  | some a => f a
  | none => none
def pk {α : Type} (b : Bool) (f g : Unit → α) : α := match b with
  | true => f ()
  | false => g ()
def tl {α : Type} (x : Option α) (f : Unit → Option α) : Option α := match x with
  | some a => some a
  | none => f ()
@[congr] theorem kb_congr {x y : Option (Ex × St)} {f : St → Option (Ex × St)} (h : x = y) : kb x f = kb y f := by rw [h]
@[congr] theorem kc_congr {α : Type} {x y : AV} {f g : Unit → Option α} (h : x = y) : kc x f g = kc y f g := by rw [h]
@[congr] theorem ob_congr {α β : Type} {x y : Option α} {f : α → Option β} (h : x = y) : ob x f = ob y f := by rw [h]
@[congr] theorem pk_congr {α : Type} {b c : Bool} {f g : Unit → α} (h : b = c) : pk b f g = pk c f g := by rw [h]
@[congr] theorem tl_congr {α : Type} {x y : Option α} {f : Unit → Option α} (h : x = y) : tl x f = tl y f := by rw [h]
theorem ob_eq {α β : Type} (x : Option α) (f : α → Option β) : ob x f = match x with
    | some a => f a
    | none => none := by cases x <;> rfl
theorem ob_eq2 {α β : Type} (x : Option α) (f : α → Option β) : ob x f = match x with
    | none => none
    | some a => f a := by cases x <;> rfl
theorem tl_eq {α : Type} (x : Option α) (f : Unit → Option α) : tl x f = match x with
    | some a => some a
    | none => f () := by cases x <;> rfl
@[simp ↓] theorem kb_n (st : St) (f : St → Option (Ex × St)) : kb (some (.normal, st)) f = f st := rfl
@[simp ↓] theorem kb_e (i : Nat) (st : St) (f : St → Option (Ex × St)) : kb (some (.exit i, st)) f = some (.exit i, st) := rfl
@[simp ↓] theorem kb_r (st : St) (f : St → Option (Ex × St)) : kb (some (.ret, st)) f = some (.ret, st) := rfl
@[simp ↓] theorem kb_g (l : Nat) (st : St) (f : St → Option (Ex × St)) : kb (some (.goto l, st)) f = some (.goto l, st) := rfl
@[simp ↓] theorem kc_t {α : Type} (f g : Unit → Option α) : kc (.v (.bool true)) f g = f () := rfl
@[simp ↓] theorem kc_f {α : Type} (f g : Unit → Option α) : kc (.v (.bool false)) f g = g () := rfl
@[simp ↓] theorem ob_s {α β : Type} (a : α) (f : α → Option β) : ob (some a) f = f a := rfl
@[simp ↓] theorem ob_n {α β : Type} (f : α → Option β) : ob none f = none := rfl
@[simp ↓] theorem pk_t {α : Type} (f g : Unit → α) : pk true f g = f () := rfl
@[simp ↓] theorem pk_f {α : Type} (f g : Unit → α) : pk false f g = g () := rfl
@[simp ↓] theorem tl_s {α : Type} (a : α) (f : Unit → Option α) : tl (some a) f = some a := rfl
@[simp ↓] theorem tl_n {α : Type} (f : Unit → Option α) : tl none f = f () := rfl
/-! Code. -/
section
variable {P : Program} {C G : Told} {n k d : Nat} {low : Code → Run} {st : St} {a b : Code}
@[simp] theorem k_skip : codeK P C n low .skip st = some (.normal, st) := rfl
@[simp] theorem k_reg (id : Nat) (ops : Array Oper) : codeK P C n low (.region id ops false) st = ob (regionA P C ops ops.toList st.tm st.h) fun r => some (.normal, r) := by
  show (match regionA P C ops ops.toList st.tm st.h with
    | some r => some (Ex.normal, r)
    | none => none) = _
  cases regionA P C ops ops.toList st.tm st.h <;> rfl
@[simp] theorem k_drawn (id : Nat) (ops : Array Oper) : codeK P C n low (.region id ops true) st = ob (drawnB P C ops ops.toList 0 [] st.tm st.h (bitsL [] 0 ops.toList)) fun r => some (.normal, r) := by
  show (match drawnB P C ops ops.toList 0 [] st.tm st.h (bitsL [] 0 ops.toList) with
    | some r => some (Ex.normal, r)
    | none => none) = _
  cases drawnB P C ops ops.toList 0 [] st.tm st.h (bitsL [] 0 ops.toList) <;> rfl
@[simp] theorem k_seq : codeK P C n low (.seq a b) st = kb (codeK P C n low a st) fun s => codeK P C n low b s := rfl
@[simp] theorem k_cond (c : Operand) : codeK P C n low (.cond c a b) st = kc (evalA st.tm c) (fun _ => codeK P C n low a st) (fun _ => codeK P C n low b st) := rfl
@[simp] theorem k_block (i : Nat) : codeK P C n low (.block i b) st = match codeK P C n low b st with
    | some (.exit j, st) => if j = i then some (.normal, st) else some (.exit j, st)
    | r => r := rfl
theorem k_loop : codeK P C n low (.loop b) st = loopN (codeK P C n low b) n st := rfl
@[simp] theorem k_exit (i : Nat) : codeK P C n low (.exit i) st = some (.exit i, st) := rfl
@[simp] theorem k_ret : codeK P C n low .ret st = some (.ret, st) := rfl
@[simp] theorem k_label (l : Nat) : codeK P C n low (.label l) st = some (.normal, st) := rfl
@[simp] theorem k_goto (l : Nat) : codeK P C n low (.goto l) st = some (.goto l, st) := rfl
theorem k_scope : codeK P C n low (.scope b) st = scopeN low b n b st := rfl
@[simp] theorem code_s (c : Code) : codeA P C n (k + 1) c st = codeK P C n (codeA P C n k) c st := rfl
theorem call_in (f : FuncId) (args : List AV) (h : H) : callN P G n k (d + 1) f args h = tl (G f args h) fun _ => callB P n k (callN P G n k d) f args h := by
  show (match G f args h with
    | some r => some r
    | none => callB P n k (callN P G n k d) f args h) = _
  cases G f args h <;> rfl
@[simp] theorem reg_nil (ops : Array Oper) (tm : List AV) (h : H) : regionA P C ops [] tm h = some ⟨tm, h⟩ := rfl
theorem want_ob {α : Type} {x : Option Bool} {f g : Unit → Option α} : (match x with
    | none => none
    | some false => g ()
    | some true => f ()) = ob x fun b => pk b f g := by
  cases x with
  | none => rfl
  | some b => cases b <;> rfl
@[simp] theorem reg_cons (ops : Array Oper) (o : Oper) (rest : List Oper) (tm : List AV) (h : H) : regionA P C ops (o :: rest) tm h = ob (wantA ops tm o) fun b => pk b
    (fun _ => ob (stepA P C tm h o) fun r => regionA P C ops rest (putA tm o.dst r.1) r.2) (fun _ => regionA P C ops rest (putA tm o.dst .un) h) := by
  rw [← want_ob]
  show (match wantA ops tm o with
    | none => none
    | some false => regionA P C ops rest (putA tm o.dst .un) h
    | some true => match stepA P C tm h o with
      | none => none
      | some r => regionA P C ops rest (putA tm o.dst r.1) r.2) = _
  split
  · rfl
  · rfl
  · cases stepA P C tm h o <;> rfl
@[simp] theorem dr_nil (ops : Array Oper) (i : Nat) (log : List Lg) (tm : List AV) (h : H) (bits : List Nat) : drawnB P C ops [] i log tm h bits = some ⟨tm, h⟩ := rfl
@[simp] theorem dr_cons (ops : Array Oper) (o : Oper) (rest : List Oper) (i : Nat) (log : List Lg) (tm : List AV) (h : H) (bits : List Nat) : drawnB P C ops (o :: rest) i log tm h bits = ob (wantA ops tm o) fun b => pk b
    (fun _ => pk (quietA o)
      (fun _ => ob (opA P tm h o) fun r => pk (memA o)
        (fun _ => pk (log.all (pairOk (bits.headD 0) · ⟨i, h.n, r.2.1.n, false, h, r.2.1, readsA tm o⟩))
          (fun _ => drawnB P C ops rest (i + 1) (⟨i, h.n, r.2.1.n, false, h, r.2.1, readsA tm o⟩ :: log) (putA tm o.dst r.1) r.2.1 bits.tail) (fun _ => none))
        (fun _ => drawnB P C ops rest (i + 1) log (putA tm o.dst r.1) r.2.1 bits.tail))
      (fun _ => ob (stepA P C tm (hideA (hidOf (bits.headD 0) log) h) o) fun r => pk (log.all (pairOk (bits.headD 0) · ⟨i, h.n, r.2.n, true, h, backA (hidOf (bits.headD 0) log) h r.2, []⟩))
          (fun _ => drawnB P C ops rest (i + 1) (⟨i, h.n, r.2.n, true, h, backA (hidOf (bits.headD 0) log) h r.2, []⟩ :: log) (putA tm o.dst r.1) (backA (hidOf (bits.headD 0) log) h r.2) bits.tail) (fun _ => none)))
    (fun _ => drawnB P C ops rest (i + 1) log (putA tm o.dst .un) h bits.tail) := by
  rw [← want_ob]
  show (match wantA ops tm o with
    | none => none
    | some false => drawnB P C ops rest (i + 1) log (putA tm o.dst .un) h bits.tail
    | some true =>
        if quietA o then match opA P tm h o with
          | none => none
          | some r => if memA o then (if log.all (pairOk (bits.headD 0) · ⟨i, h.n, r.2.1.n, false, h, r.2.1, readsA tm o⟩) then
              drawnB P C ops rest (i + 1) (⟨i, h.n, r.2.1.n, false, h, r.2.1, readsA tm o⟩ :: log) (putA tm o.dst r.1) r.2.1 bits.tail else none)
            else drawnB P C ops rest (i + 1) log (putA tm o.dst r.1) r.2.1 bits.tail
        else match stepA P C tm (hideA (hidOf (bits.headD 0) log) h) o with
          | none => none
          | some r => if log.all (pairOk (bits.headD 0) · ⟨i, h.n, r.2.n, true, h, backA (hidOf (bits.headD 0) log) h r.2, []⟩) then
              drawnB P C ops rest (i + 1) (⟨i, h.n, r.2.n, true, h, backA (hidOf (bits.headD 0) log) h r.2, []⟩ :: log) (putA tm o.dst r.1) (backA (hidOf (bits.headD 0) log) h r.2) bits.tail else none) = _
  split
  · rfl
  · rfl
  · cases quietA o
    · rw [if_neg Bool.false_ne_true, pk_f]
      cases stepA P C tm (hideA (hidOf (bits.headD 0) log) h) o with
      | none => rfl
      | some r =>
        simp only [ob_s]
        cases log.all (pairOk (bits.headD 0) · ⟨i, h.n, r.2.n, true, h, backA (hidOf (bits.headD 0) log) h r.2, []⟩) <;> rfl
    · rw [if_pos rfl, pk_t]
      cases opA P tm h o with
      | none => rfl
      | some r =>
        simp only [ob_s]
        cases memA o
        · rfl
        · rw [if_pos rfl, pk_t]
          cases log.all (pairOk (bits.headD 0) · ⟨i, h.n, r.2.1.n, false, h, r.2.1, readsA tm o⟩) <;> rfl
end
/-! Told by proofs that are no mere unfolding: what stands ahead of them is left alone else. -/
@[simp] theorem okv_s (a : AV) (h : H) : okv (some a) h = some (a, h, []) := by unfold okv; exact id rfl
@[simp] theorem okv_n (h : H) : okv none h = none := by unfold okv; exact id rfl
@[simp] theorem okr_s (r : AV × H) : okr (some r) = some (r.1, r.2, []) := by unfold okr; exact id rfl
@[simp] theorem okr_n : okr none = none := by unfold okr; exact id rfl
@[simp] theorem pick_b (c : Bool) (a b : AV) (h : H) : pickO (.v (.bool c)) a b h = some (if c then a else b, h, []) := by unfold pickO; exact id rfl
@[simp] theorem box_s (z : List AV) (h : H) : boxO (some z) h = some (.pt h.n 0 0 0, h.new (.box z), []) := by unfold boxO; exact id rfl
@[simp] theorem nil_pt (o sz i f : Nat) (h : H) : nilO (.pt o sz i f) h = some (.pt o sz i f, h, []) := by unfold nilO; exact id rfl
@[simp] theorem nil_fn (f : FuncId) (c : List AV) (h : H) : nilO (.fn f c) h = some (.fn f c, h, []) := by unfold nilO; exact id rfl
@[simp] theorem ext_tu (vs : List AV) (i : Nat) (h : H) : extractA (.tu vs) i h = okv vs[i]? h := by unfold extractA; exact id rfl
@[simp] theorem op_v (h : H) (x : Value) : openD h (.v x) = (.v x, h) := by unfold openD; exact id rfl
@[simp] theorem op_sl (h : H) (sz : Nat) (els : List (List DV)) : openD h (.sl sz els) = (.sl h.n sz 0 els.length none, h.new (.row sz els false)) := by unfold openD; exact id rfl
@[simp] theorem op_ag (h : H) (cs : List DV) : openD h (.ag cs) = (.ag (openL h cs).1, (openL h cs).2) := by unfold openD; exact id rfl
@[simp] theorem op_tu (h : H) (cs : List DV) : openD h (.tu cs) = (.tu (openL h cs).1, (openL h cs).2) := by unfold openD; exact id rfl
@[simp] theorem op_nil (h : H) : openL h [] = ([], h) := by unfold openL; exact id rfl
@[simp] theorem op_cons (h : H) (d : DV) (r : List DV) : openL h (d :: r) = ((openD h d).1 :: (openL (openD h d).2 r).1, (openL (openD h d).2 r).2) := by rw [openL.eq_def]
attribute [simp] stepA.eq_def opA.eq_def quietA.eq_def memA.eq_def
@[simp] theorem one_0 : oneOf [] = .tu [] := by unfold oneOf; exact id rfl
@[simp] theorem one_1 (a : AV) : oneOf [a] = a := by unfold oneOf; exact id rfl
@[simp] theorem one_2 (a b : AV) (r : List AV) : oneOf (a :: b :: r) = .tu (a :: b :: r) := by unfold oneOf; exact id rfl
attribute [simp] calleeA storeO bcallA sealD sealL readsA pairOk hidOf bitsL bitsOf Region.binds partsE packT AV.parts AV.cells storeA oneA oneV putCells
@[simp 5] theorem load_eq (P : Program) (t : TypeId) (a : AV) (h : H) : loadA P t a h = match a, wideT P t with
    | .pt o sz i f, some wd => match h.get o with
      | .box cs => if f + wd.2 ≤ cs.length ∧ i = 0 then match packT wd.1 ((cs.drop f).take wd.2) with
          | some x => some (x, h)
          | none => none
        else none
      | .row sz' els _ => match els[i]? with
        | some e => if f + wd.2 ≤ e.length ∧ sz' = sz then match packT wd.1 (openL h ((e.drop f).take wd.2)).1 with
            | some x => some (x, (openL h ((e.drop f).take wd.2)).2)
            | none => none
          else none
        | none => none
      | _ => none
    | _, _ => none := rfl
attribute [simp] buildA fillA objOf buildSliceA chunk placesA Nat.testBit sameOb eqA eqAL eqV eqD eqL eqE
attribute [simp 10] call_in
theorem loop_s (b : Run) (n : Nat) (st : St) : loopN b (n + 1) st = kb (b st) fun st => loopN b n st := rfl
@[simp] theorem at_sl (P : Program) (t e : TypeId) (o sz off m : Nat) (c : Option Nat) (k : Int) (h1 : P.underlying t = some (.slice e)) (h2 : sizeT P e = some sz) (h3 : 0 ≤ k) (h4 : k < m) : indexAddrA P t (.sl o sz off m c) (I k) = some (.pt o sz (off + k.toNat) 0) := by
  simp [indexAddrA, intOf, h1, h2, h3, h4]
@[simp] theorem want_eq (ops : Array Oper) (tm : List AV) (o : Oper) : wantA ops tm o = match o.guard with
    | none => some true
    | some (j, w) => match ops[j]? with
      | some oj => match oj.dst with
        | some d => match tget tm d with
          | .v (.bool b) => some (b == w)
          | _ => none
        | none => none
      | none => none := rfl
@[simp] theorem res_nil (P : Program) (st : St) : resA P st [] = some ([], st.h) := rfl
@[simp] theorem res_tmp (P : Program) (st : St) (t : Tmp) (r : List ResultVar) : resA P st (.tmp t :: r) = match resA P st r with
    | some x => some (tget st.tm t :: x.1, x.2)
    | none => none := rfl
@[simp] theorem res_cell (P : Program) (st : St) (a : Tmp) (t : TypeId) (r : List ResultVar) : resA P st (.cell a t :: r) = match loadA P t (tget st.tm a) st.h with
    | some x => match resA P ⟨st.tm, x.2⟩ r with
      | some y => some (x.1 :: y.1, y.2)
      | none => none
    | none => none := rfl
theorem cb {f : FuncId} {fn : Func} (hf : Tryz.prog.funcs[f]? = some fn) (n k : Nat) (C : Told) (args : List AV) (h : H) : callB Tryz.prog n k C f args h = match fn.body with
    | none => none
    | some b => match codeA Tryz.prog C n k b ⟨args ++ List.replicate (fn.ntmps - args.length) .un, h⟩ with
      | some (.normal, st) => match resA Tryz.prog st fn.results.toList with
        | none => none
        | some r => some (oneOf r.1, r.2)
      | some (.ret, st) => match resA Tryz.prog st fn.results.toList with
        | none => none
        | some r => some (oneOf r.1, r.2)
      | _ => none := by
  unfold callB
  rw [hf]
  rfl
/-! Types. -/
@[simp] theorem n_len (ts : Array TypeId) (ty : TypeId) (x : AV) (h : H) : builtinA Tryz.prog .len ts ty [x] h = okv (lenB Tryz.prog ts x) h := rfl
/-- A loop over numbers below N. -/
theorem loop_for (b : Run) (N : Nat) (I : Nat → St → Prop) (Q : Ex → St → Prop) (hs : ∀ i st, i < N → I i st → (∃ st', b st = some (.normal, st') ∧ I (i + 1) st') ∨ ∃ e st', b st = some (e, st') ∧ e ≠ .normal ∧ Q e st') (he : ∀ st, I N st → ∃ e st', b st = some (e, st') ∧ e ≠ .normal ∧ Q e st') :
    ∀ m i n st, i + m = N → m < n → I i st → ∃ e st', loopN b n st = some (e, st') ∧ Q e st' := by
  have out : ∀ n st e st', b st = some (e, st') → e ≠ .normal → loopN b (n + 1) st = some (e, st') := fun n st e st' h1 h2 => by
    unfold loopN
    rw [h1]
    cases e
    · exact absurd rfl h2
    all_goals rfl
  intro m
  induction m with
  | zero =>
    intro i n st h1 h2 h3
    obtain ⟨n, rfl⟩ : ∃ k, n = k + 1 := ⟨n - 1, by omega⟩
    have : i = N := by omega
    subst this
    obtain ⟨e, st', q1, q2, q3⟩ := he st h3
    exact ⟨e, st', out n st e st' q1 q2, q3⟩
  | succ m ih =>
    intro i n st h1 h2 h3
    obtain ⟨n, rfl⟩ : ∃ k, n = k + 1 := ⟨n - 1, by omega⟩
    rcases hs i st (by omega) h3 with ⟨st', q1, q2⟩ | ⟨e, st', q1, q2, q3⟩
    · obtain ⟨e, st2, q3, q4⟩ := ih (i + 1) n st' (by omega) (by omega) q2
      refine ⟨e, st2, ?_, q4⟩
      unfold loopN
      rw [q1]
      exact q3
    · exact ⟨e, st', out n st e st' q1 q2, q3⟩
theorem loop_use {b : Run} {n : Nat} {st : St} {r : Option (Ex × St)} (hL : loopN b n st = r) (N : Nat) (I : Nat → St → Prop) (Q : Ex → St → Prop) (hn : N < n) (h0 : I 0 st)
    (hs : ∀ i st, i < N → I i st → (∃ st', b st = some (.normal, st') ∧ I (i + 1) st') ∨ ∃ e st', b st = some (e, st') ∧ e ≠ .normal ∧ Q e st') (he : ∀ st, I N st → ∃ e st', b st = some (e, st') ∧ e ≠ .normal ∧ Q e st') :
    ∃ e st', r = some (e, st') ∧ Q e st' := by
  rw [← hL]
  exact loop_for b N I Q hs he N 0 n st (by omega) hn h0
end Go.Proofs.YtffopeihcebpjaaGreat.X
end
section
set_option linter.unusedVariables false
namespace Go.Proofs.YtffopeihcebpjaaGreat.X
open Go
@[simp] theorem sz_3 : sizeT Tryz.prog 3 = some 1 := by kernel_rfl
@[simp] theorem wd_3 : wideT Tryz.prog 3 = some (false, 1) := by kernel_rfl
@[simp] theorem sz_4 : sizeT Tryz.prog 4 = some 1 := by kernel_rfl
@[simp] theorem wd_4 : wideT Tryz.prog 4 = some (false, 1) := by kernel_rfl
@[simp] theorem sz_5 : sizeT Tryz.prog 5 = some 1 := by kernel_rfl
@[simp] theorem wd_5 : wideT Tryz.prog 5 = some (false, 1) := by kernel_rfl
@[simp] theorem sz_9 : sizeT Tryz.prog 9 = some 1 := by kernel_rfl
@[simp] theorem wd_9 : wideT Tryz.prog 9 = some (false, 1) := by kernel_rfl
@[simp] theorem sz_23 : sizeT Tryz.prog 23 = some 2 := by kernel_rfl
@[simp] theorem wd_23 : wideT Tryz.prog 23 = some (true, 2) := by kernel_rfl
@[simp] theorem sz_24 : sizeT Tryz.prog 24 = some 1 := by kernel_rfl
@[simp] theorem wd_24 : wideT Tryz.prog 24 = some (false, 1) := by kernel_rfl
@[simp] theorem sz_26 : sizeT Tryz.prog 26 = some 9 := by kernel_rfl
@[simp] theorem wd_26 : wideT Tryz.prog 26 = some (true, 9) := by kernel_rfl
@[simp] theorem sz_27 : sizeT Tryz.prog 27 = some 1 := by kernel_rfl
@[simp] theorem wd_27 : wideT Tryz.prog 27 = some (false, 1) := by kernel_rfl
@[simp] theorem sz_29 : sizeT Tryz.prog 29 = some 1 := by kernel_rfl
@[simp] theorem wd_29 : wideT Tryz.prog 29 = some (false, 1) := by kernel_rfl
@[simp] theorem sz_30 : sizeT Tryz.prog 30 = some 1 := by kernel_rfl
@[simp] theorem wd_30 : wideT Tryz.prog 30 = some (false, 1) := by kernel_rfl
@[simp] theorem sz_31 : sizeT Tryz.prog 31 = some 1 := by kernel_rfl
@[simp] theorem wd_31 : wideT Tryz.prog 31 = some (false, 1) := by kernel_rfl
@[simp] theorem sz_33 : sizeT Tryz.prog 33 = some 12 := by kernel_rfl
@[simp] theorem wd_33 : wideT Tryz.prog 33 = some (true, 12) := by kernel_rfl
@[simp] theorem sz_44 : sizeT Tryz.prog 44 = some 2 := by kernel_rfl
@[simp] theorem wd_44 : wideT Tryz.prog 44 = some (true, 2) := by kernel_rfl
@[simp] theorem sz_46 : sizeT Tryz.prog 46 = some 5 := by kernel_rfl
@[simp] theorem wd_46 : wideT Tryz.prog 46 = some (true, 5) := by kernel_rfl
@[simp] theorem sz_55 : sizeT Tryz.prog 55 = some 2 := by kernel_rfl
@[simp] theorem wd_55 : wideT Tryz.prog 55 = some (true, 2) := by kernel_rfl
@[simp] theorem sz_63 : sizeT Tryz.prog 63 = some 6 := by kernel_rfl
@[simp] theorem wd_63 : wideT Tryz.prog 63 = some (true, 6) := by kernel_rfl
@[simp] theorem sz_74 : sizeT Tryz.prog 74 = some 6 := by kernel_rfl
@[simp] theorem wd_74 : wideT Tryz.prog 74 = some (true, 6) := by kernel_rfl
@[simp] theorem sz_104 : sizeT Tryz.prog 104 = some 1 := by kernel_rfl
@[simp] theorem wd_104 : wideT Tryz.prog 104 = some (false, 1) := by kernel_rfl
@[simp] theorem sz_106 : sizeT Tryz.prog 106 = some 1 := by kernel_rfl
@[simp] theorem wd_106 : wideT Tryz.prog 106 = some (false, 1) := by kernel_rfl
@[simp] theorem sz_137 : sizeT Tryz.prog 137 = some 3 := by kernel_rfl
@[simp] theorem wd_137 : wideT Tryz.prog 137 = some (true, 3) := by kernel_rfl
@[simp] theorem sz_156 : sizeT Tryz.prog 156 = some 1 := by kernel_rfl
@[simp] theorem wd_156 : wideT Tryz.prog 156 = some (false, 1) := by kernel_rfl
@[simp] theorem sz_162 : sizeT Tryz.prog 162 = some 7 := by kernel_rfl
@[simp] theorem wd_162 : wideT Tryz.prog 162 = some (true, 7) := by kernel_rfl
@[simp] theorem sz_225 : sizeT Tryz.prog 225 = some 1 := by kernel_rfl
@[simp] theorem wd_225 : wideT Tryz.prog 225 = some (false, 1) := by kernel_rfl
@[simp] theorem el_24 : elemT Tryz.prog 24 = some 55 := by kernel_rfl
@[simp] theorem un_24 : Tryz.prog.underlying 24 = some (.slice 55) := by kernel_rfl
@[simp] theorem el_27 : elemT Tryz.prog 27 = some 3 := by kernel_rfl
@[simp] theorem un_27 : Tryz.prog.underlying 27 = some (.slice 3) := by kernel_rfl
@[simp] theorem el_29 : elemT Tryz.prog 29 = some 63 := by kernel_rfl
@[simp] theorem un_29 : Tryz.prog.underlying 29 = some (.slice 63) := by kernel_rfl
@[simp] theorem el_30 : elemT Tryz.prog 30 = some 74 := by kernel_rfl
@[simp] theorem un_30 : Tryz.prog.underlying 30 = some (.slice 74) := by kernel_rfl
@[simp] theorem el_31 : elemT Tryz.prog 31 = some 137 := by kernel_rfl
@[simp] theorem un_31 : Tryz.prog.underlying 31 = some (.slice 137) := by kernel_rfl
@[simp] theorem el_144 : elemT Tryz.prog 144 = some 5 := by kernel_rfl
@[simp] theorem un_144 : Tryz.prog.underlying 144 = some (.slice 5) := by kernel_rfl
@[simp] theorem el_156 : elemT Tryz.prog 156 = some 162 := by kernel_rfl
@[simp] theorem un_156 : Tryz.prog.underlying 156 = some (.slice 162) := by kernel_rfl
@[simp] theorem el_194 : elemT Tryz.prog 194 = some 27 := by kernel_rfl
@[simp] theorem un_194 : Tryz.prog.underlying 194 = some (.slice 27) := by kernel_rfl
@[simp] theorem un_94 : Tryz.prog.underlying 94 = some (.array 3 3) := by kernel_rfl
@[simp] theorem un_213 : Tryz.prog.underlying 213 = some (.array 8 3) := by kernel_rfl
@[simp] theorem zs_3 (h : H) : zerosA Tryz.prog 3 h = some [.v (.int .i64 0)] := by kernel_rfl
theorem ro_3 (n : Nat) : roomA Tryz.prog 3 n = decide (n ≤ 35184372088832 ∧ n * 8 ≤ 35184372088832) := by kernel_rfl
@[simp] theorem zs_5 (h : H) : zerosA Tryz.prog 5 h = some [.v (.int .u8 0)] := by kernel_rfl
theorem ro_5 (n : Nat) : roomA Tryz.prog 5 n = decide (n ≤ 35184372088832 ∧ n * 1 ≤ 35184372088832) := by kernel_rfl
@[simp] theorem zs_27 (h : H) : zerosA Tryz.prog 27 h = some [.v (.slice none 0 0)] := by kernel_rfl
theorem ro_27 (n : Nat) : roomA Tryz.prog 27 n = decide (n ≤ 35184372088832 ∧ n * 24 ≤ 35184372088832) := by kernel_rfl
@[simp] theorem zs_55 (h : H) : zerosA Tryz.prog 55 h = some [.v (.slice none 0 0), .v (.int .i64 0)] := by kernel_rfl
theorem ro_55 (n : Nat) : roomA Tryz.prog 55 n = decide (n ≤ 35184372088832 ∧ n * 32 ≤ 35184372088832) := by kernel_rfl
@[simp] theorem zs_63 (h : H) : zerosA Tryz.prog 63 h = some [.v (.slice none 0 0), .v (.slice none 0 0), .v (.int .i64 0), .v (.int .i64 0), .v (.int .i64 0), .v (.int .i64 0)] := by kernel_rfl
theorem ro_63 (n : Nat) : roomA Tryz.prog 63 n = decide (n ≤ 35184372088832 ∧ n * 80 ≤ 35184372088832) := by kernel_rfl
@[simp] theorem zs_74 (h : H) : zerosA Tryz.prog 74 h = some [.v (.int .i64 0), .v (.int .i64 0), .v (.int .i64 0), .v (.int .i64 0), .v (.int .i64 0), .v (.int .i64 0)] := by kernel_rfl
theorem ro_74 (n : Nat) : roomA Tryz.prog 74 n = decide (n ≤ 35184372088832 ∧ n * 48 ≤ 35184372088832) := by kernel_rfl
@[simp] theorem zs_137 (h : H) : zerosA Tryz.prog 137 h = some [.v (.int .i64 0), .v (.string ⟨#[]⟩), .v (.int .i64 0)] := by kernel_rfl
theorem ro_137 (n : Nat) : roomA Tryz.prog 137 n = decide (n ≤ 35184372088832 ∧ n * 32 ≤ 35184372088832) := by kernel_rfl
@[simp] theorem zs_162 (h : H) : zerosA Tryz.prog 162 h = some [.v (.slice none 0 0), .v (.slice none 0 0), .v (.int .i64 0), .v (.int .i64 0), .v (.int .i64 0), .v (.int .i64 0), .v (.bool false)] := by kernel_rfl
theorem ro_162 (n : Nat) : roomA Tryz.prog 162 n = decide (n ≤ 35184372088832 ∧ n * 88 ≤ 35184372088832) := by kernel_rfl
@[simp] theorem ze_3 : zeroT Tryz.prog 3 = some [.v (.int .i64 0)] := by kernel_rfl
@[simp] theorem ze_5 : zeroT Tryz.prog 5 = some [.v (.int .u8 0)] := by kernel_rfl
@[simp] theorem ze_23 : zeroT Tryz.prog 23 = some [.v (.int .i64 0), .v (.int .i64 0)] := by kernel_rfl
@[simp] theorem ze_26 : zeroT Tryz.prog 26 = some [.v (.int .i64 0), .v (.int .i64 0), .v (.int .i64 0), .v (.slice none 0 0), .v (.int .i64 0), .v (.int .i64 0), .v (.int .i64 0), .v (.int .i64 0), .v (.bool false)] := by kernel_rfl
@[simp] theorem ze_27 : zeroT Tryz.prog 27 = some [.v (.slice none 0 0)] := by kernel_rfl
@[simp] theorem ze_33 : zeroT Tryz.prog 33 = some [.v (.int .i64 0), .v (.int .i64 0), .v (.int .i64 0), .v (.slice none 0 0), .v (.int .i64 0), .v (.int .i64 0), .v (.int .i64 0), .v (.int .i64 0), .v (.bool false), .v (.slice none 0 0), .v (.slice none 0 0), .v (.slice none 0 0)] := by kernel_rfl
@[simp] theorem ze_44 : zeroT Tryz.prog 44 = some [.v (.int .i64 0), .v (.int .i64 0)] := by kernel_rfl
@[simp] theorem ze_46 : zeroT Tryz.prog 46 = some [.v (.slice none 0 0), .v (.slice none 0 0), .v (.int .i64 0), .v (.int .i64 0), .v (.int .i64 0)] := by kernel_rfl
@[simp] theorem ze_55 : zeroT Tryz.prog 55 = some [.v (.slice none 0 0), .v (.int .i64 0)] := by kernel_rfl
@[simp] theorem ze_63 : zeroT Tryz.prog 63 = some [.v (.slice none 0 0), .v (.slice none 0 0), .v (.int .i64 0), .v (.int .i64 0), .v (.int .i64 0), .v (.int .i64 0)] := by kernel_rfl
@[simp] theorem ze_74 : zeroT Tryz.prog 74 = some [.v (.int .i64 0), .v (.int .i64 0), .v (.int .i64 0), .v (.int .i64 0), .v (.int .i64 0), .v (.int .i64 0)] := by kernel_rfl
@[simp] theorem ze_94 : zeroT Tryz.prog 94 = some [.v (.int .i64 0), .v (.int .i64 0), .v (.int .i64 0)] := by kernel_rfl
@[simp] theorem ze_104 : zeroT Tryz.prog 104 = some [.v (.pointer none)] := by kernel_rfl
@[simp] theorem ze_108 : zeroT Tryz.prog 108 = some [.v (.int .i64 0), .v (.int .i64 0), .v (.int .i64 0), .v (.slice none 0 0), .v (.int .i64 0), .v (.int .i64 0), .v (.int .i64 0), .v (.int .i64 0), .v (.bool false), .v (.slice none 0 0), .v (.slice none 0 0), .v (.slice none 0 0), .v (.int .i64 0), .v (.pointer none)] := by kernel_rfl
@[simp] theorem ze_137 : zeroT Tryz.prog 137 = some [.v (.int .i64 0), .v (.string ⟨#[]⟩), .v (.int .i64 0)] := by kernel_rfl
@[simp] theorem ze_158 : zeroT Tryz.prog 158 = some [.v (.int .i64 0), .v (.int .i64 0), .v (.int .i64 0), .v (.slice none 0 0), .v (.int .i64 0), .v (.int .i64 0), .v (.int .i64 0), .v (.int .i64 0), .v (.bool false), .v (.slice none 0 0)] := by kernel_rfl
@[simp] theorem ze_162 : zeroT Tryz.prog 162 = some [.v (.slice none 0 0), .v (.slice none 0 0), .v (.int .i64 0), .v (.int .i64 0), .v (.int .i64 0), .v (.int .i64 0), .v (.bool false)] := by kernel_rfl
@[simp] theorem ze_191 : zeroT Tryz.prog 191 = some [.v (.int .i64 0), .v (.int .i64 0), .v (.slice none 0 0)] := by kernel_rfl
@[simp] theorem ze_215 : zeroT Tryz.prog 215 = some [.v (.int .i64 0), .v (.int .i64 0), .v (.int .i64 0), .v (.int .i64 0), .v (.int .i64 0), .v (.int .i64 0), .v (.int .i64 0), .v (.int .i64 0), .v (.int .i64 0), .v (.int .i64 0), .v (.int .i64 0), .v (.int .i64 0), .v (.int .i64 0), .v (.int .i64 0), .v (.int .i64 0), .v (.int .i64 0)] := by kernel_rfl
@[simp] theorem ze_225 : zeroT Tryz.prog 225 = some [.v (.map none)] := by kernel_rfl
@[simp] theorem us_23 : Tryz.prog.underlying 23 = some (.struct (fieldsT Tryz.prog 23)) := by kernel_rfl
@[simp] theorem pl_23 : placesA Tryz.prog (fieldsT Tryz.prog 23).toList = some [(0, 1), (1, 1)] := by kernel_rfl
@[simp] theorem us_26 : Tryz.prog.underlying 26 = some (.struct (fieldsT Tryz.prog 26)) := by kernel_rfl
@[simp] theorem pl_26 : placesA Tryz.prog (fieldsT Tryz.prog 26).toList = some [(0, 1), (1, 2), (3, 1), (4, 1), (5, 1), (6, 1), (7, 1), (8, 1)] := by kernel_rfl
@[simp] theorem us_33 : Tryz.prog.underlying 33 = some (.struct (fieldsT Tryz.prog 33)) := by kernel_rfl
@[simp] theorem pl_33 : placesA Tryz.prog (fieldsT Tryz.prog 33).toList = some [(0, 9), (9, 1), (10, 1), (11, 1)] := by kernel_rfl
@[simp] theorem us_44 : Tryz.prog.underlying 44 = some (.struct (fieldsT Tryz.prog 44)) := by kernel_rfl
@[simp] theorem pl_44 : placesA Tryz.prog (fieldsT Tryz.prog 44).toList = some [(0, 1), (1, 1)] := by kernel_rfl
@[simp] theorem us_46 : Tryz.prog.underlying 46 = some (.struct (fieldsT Tryz.prog 46)) := by kernel_rfl
@[simp] theorem pl_46 : placesA Tryz.prog (fieldsT Tryz.prog 46).toList = some [(0, 1), (1, 1), (2, 2), (4, 1)] := by kernel_rfl
@[simp] theorem us_55 : Tryz.prog.underlying 55 = some (.struct (fieldsT Tryz.prog 55)) := by kernel_rfl
@[simp] theorem pl_55 : placesA Tryz.prog (fieldsT Tryz.prog 55).toList = some [(0, 1), (1, 1)] := by kernel_rfl
@[simp] theorem us_63 : Tryz.prog.underlying 63 = some (.struct (fieldsT Tryz.prog 63)) := by kernel_rfl
@[simp] theorem pl_63 : placesA Tryz.prog (fieldsT Tryz.prog 63).toList = some [(0, 5), (5, 1)] := by kernel_rfl
@[simp] theorem us_74 : Tryz.prog.underlying 74 = some (.struct (fieldsT Tryz.prog 74)) := by kernel_rfl
@[simp] theorem pl_74 : placesA Tryz.prog (fieldsT Tryz.prog 74).toList = some [(0, 1), (1, 1), (2, 1), (3, 1), (4, 2)] := by kernel_rfl
@[simp] theorem us_108 : Tryz.prog.underlying 108 = some (.struct (fieldsT Tryz.prog 108)) := by kernel_rfl
@[simp] theorem pl_108 : placesA Tryz.prog (fieldsT Tryz.prog 108).toList = some [(0, 12), (12, 1), (13, 1)] := by kernel_rfl
@[simp] theorem us_137 : Tryz.prog.underlying 137 = some (.struct (fieldsT Tryz.prog 137)) := by kernel_rfl
@[simp] theorem pl_137 : placesA Tryz.prog (fieldsT Tryz.prog 137).toList = some [(0, 1), (1, 1), (2, 1)] := by kernel_rfl
@[simp] theorem us_158 : Tryz.prog.underlying 158 = some (.struct (fieldsT Tryz.prog 158)) := by kernel_rfl
@[simp] theorem pl_158 : placesA Tryz.prog (fieldsT Tryz.prog 158).toList = some [(0, 9), (9, 1)] := by kernel_rfl
@[simp] theorem us_191 : Tryz.prog.underlying 191 = some (.struct (fieldsT Tryz.prog 191)) := by kernel_rfl
@[simp] theorem pl_191 : placesA Tryz.prog (fieldsT Tryz.prog 191).toList = some [(0, 2), (2, 1)] := by kernel_rfl
@[simp] theorem us_215 : Tryz.prog.underlying 215 = some (.struct (fieldsT Tryz.prog 215)) := by kernel_rfl
@[simp] theorem pl_215 : placesA Tryz.prog (fieldsT Tryz.prog 215).toList = some [(0, 8), (8, 8)] := by kernel_rfl
@[simp] theorem fa_23_0 (o sz i g : Nat) : fieldAddrA Tryz.prog 23 (.pt o sz i g) 0 = some (.pt o sz i (g + 0)) := by kernel_rfl
@[simp] theorem fa_23_1 (o sz i g : Nat) : fieldAddrA Tryz.prog 23 (.pt o sz i g) 1 = some (.pt o sz i (g + 1)) := by kernel_rfl
@[simp] theorem fa_26_0 (o sz i g : Nat) : fieldAddrA Tryz.prog 26 (.pt o sz i g) 0 = some (.pt o sz i (g + 0)) := by kernel_rfl
@[simp] theorem fa_26_1 (o sz i g : Nat) : fieldAddrA Tryz.prog 26 (.pt o sz i g) 1 = some (.pt o sz i (g + 1)) := by kernel_rfl
@[simp] theorem fa_26_2 (o sz i g : Nat) : fieldAddrA Tryz.prog 26 (.pt o sz i g) 2 = some (.pt o sz i (g + 3)) := by kernel_rfl
@[simp] theorem fa_26_3 (o sz i g : Nat) : fieldAddrA Tryz.prog 26 (.pt o sz i g) 3 = some (.pt o sz i (g + 4)) := by kernel_rfl
@[simp] theorem fa_26_4 (o sz i g : Nat) : fieldAddrA Tryz.prog 26 (.pt o sz i g) 4 = some (.pt o sz i (g + 5)) := by kernel_rfl
@[simp] theorem fa_26_5 (o sz i g : Nat) : fieldAddrA Tryz.prog 26 (.pt o sz i g) 5 = some (.pt o sz i (g + 6)) := by kernel_rfl
@[simp] theorem fa_26_6 (o sz i g : Nat) : fieldAddrA Tryz.prog 26 (.pt o sz i g) 6 = some (.pt o sz i (g + 7)) := by kernel_rfl
@[simp] theorem fa_26_7 (o sz i g : Nat) : fieldAddrA Tryz.prog 26 (.pt o sz i g) 7 = some (.pt o sz i (g + 8)) := by kernel_rfl
@[simp] theorem fa_33_0 (o sz i g : Nat) : fieldAddrA Tryz.prog 33 (.pt o sz i g) 0 = some (.pt o sz i (g + 0)) := by kernel_rfl
@[simp] theorem fa_33_1 (o sz i g : Nat) : fieldAddrA Tryz.prog 33 (.pt o sz i g) 1 = some (.pt o sz i (g + 9)) := by kernel_rfl
@[simp] theorem fa_33_2 (o sz i g : Nat) : fieldAddrA Tryz.prog 33 (.pt o sz i g) 2 = some (.pt o sz i (g + 10)) := by kernel_rfl
@[simp] theorem fa_33_3 (o sz i g : Nat) : fieldAddrA Tryz.prog 33 (.pt o sz i g) 3 = some (.pt o sz i (g + 11)) := by kernel_rfl
@[simp] theorem fa_44_0 (o sz i g : Nat) : fieldAddrA Tryz.prog 44 (.pt o sz i g) 0 = some (.pt o sz i (g + 0)) := by kernel_rfl
@[simp] theorem fa_44_1 (o sz i g : Nat) : fieldAddrA Tryz.prog 44 (.pt o sz i g) 1 = some (.pt o sz i (g + 1)) := by kernel_rfl
@[simp] theorem fa_46_0 (o sz i g : Nat) : fieldAddrA Tryz.prog 46 (.pt o sz i g) 0 = some (.pt o sz i (g + 0)) := by kernel_rfl
@[simp] theorem fa_46_1 (o sz i g : Nat) : fieldAddrA Tryz.prog 46 (.pt o sz i g) 1 = some (.pt o sz i (g + 1)) := by kernel_rfl
@[simp] theorem fa_46_2 (o sz i g : Nat) : fieldAddrA Tryz.prog 46 (.pt o sz i g) 2 = some (.pt o sz i (g + 2)) := by kernel_rfl
@[simp] theorem fa_46_3 (o sz i g : Nat) : fieldAddrA Tryz.prog 46 (.pt o sz i g) 3 = some (.pt o sz i (g + 4)) := by kernel_rfl
@[simp] theorem fa_55_0 (o sz i g : Nat) : fieldAddrA Tryz.prog 55 (.pt o sz i g) 0 = some (.pt o sz i (g + 0)) := by kernel_rfl
@[simp] theorem fa_55_1 (o sz i g : Nat) : fieldAddrA Tryz.prog 55 (.pt o sz i g) 1 = some (.pt o sz i (g + 1)) := by kernel_rfl
@[simp] theorem fa_63_0 (o sz i g : Nat) : fieldAddrA Tryz.prog 63 (.pt o sz i g) 0 = some (.pt o sz i (g + 0)) := by kernel_rfl
@[simp] theorem fa_63_1 (o sz i g : Nat) : fieldAddrA Tryz.prog 63 (.pt o sz i g) 1 = some (.pt o sz i (g + 5)) := by kernel_rfl
@[simp] theorem fa_74_0 (o sz i g : Nat) : fieldAddrA Tryz.prog 74 (.pt o sz i g) 0 = some (.pt o sz i (g + 0)) := by kernel_rfl
@[simp] theorem fa_74_1 (o sz i g : Nat) : fieldAddrA Tryz.prog 74 (.pt o sz i g) 1 = some (.pt o sz i (g + 1)) := by kernel_rfl
@[simp] theorem fa_74_2 (o sz i g : Nat) : fieldAddrA Tryz.prog 74 (.pt o sz i g) 2 = some (.pt o sz i (g + 2)) := by kernel_rfl
@[simp] theorem fa_74_3 (o sz i g : Nat) : fieldAddrA Tryz.prog 74 (.pt o sz i g) 3 = some (.pt o sz i (g + 3)) := by kernel_rfl
@[simp] theorem fa_74_4 (o sz i g : Nat) : fieldAddrA Tryz.prog 74 (.pt o sz i g) 4 = some (.pt o sz i (g + 4)) := by kernel_rfl
@[simp] theorem fa_108_0 (o sz i g : Nat) : fieldAddrA Tryz.prog 108 (.pt o sz i g) 0 = some (.pt o sz i (g + 0)) := by kernel_rfl
@[simp] theorem fa_108_1 (o sz i g : Nat) : fieldAddrA Tryz.prog 108 (.pt o sz i g) 1 = some (.pt o sz i (g + 12)) := by kernel_rfl
@[simp] theorem fa_108_2 (o sz i g : Nat) : fieldAddrA Tryz.prog 108 (.pt o sz i g) 2 = some (.pt o sz i (g + 13)) := by kernel_rfl
@[simp] theorem fa_137_0 (o sz i g : Nat) : fieldAddrA Tryz.prog 137 (.pt o sz i g) 0 = some (.pt o sz i (g + 0)) := by kernel_rfl
@[simp] theorem fa_137_1 (o sz i g : Nat) : fieldAddrA Tryz.prog 137 (.pt o sz i g) 1 = some (.pt o sz i (g + 1)) := by kernel_rfl
@[simp] theorem fa_137_2 (o sz i g : Nat) : fieldAddrA Tryz.prog 137 (.pt o sz i g) 2 = some (.pt o sz i (g + 2)) := by kernel_rfl
@[simp] theorem fa_158_0 (o sz i g : Nat) : fieldAddrA Tryz.prog 158 (.pt o sz i g) 0 = some (.pt o sz i (g + 0)) := by kernel_rfl
@[simp] theorem fa_158_1 (o sz i g : Nat) : fieldAddrA Tryz.prog 158 (.pt o sz i g) 1 = some (.pt o sz i (g + 9)) := by kernel_rfl
@[simp] theorem fa_162_0 (o sz i g : Nat) : fieldAddrA Tryz.prog 162 (.pt o sz i g) 0 = some (.pt o sz i (g + 0)) := by kernel_rfl
@[simp] theorem fa_162_1 (o sz i g : Nat) : fieldAddrA Tryz.prog 162 (.pt o sz i g) 1 = some (.pt o sz i (g + 5)) := by kernel_rfl
@[simp] theorem fa_162_2 (o sz i g : Nat) : fieldAddrA Tryz.prog 162 (.pt o sz i g) 2 = some (.pt o sz i (g + 6)) := by kernel_rfl
@[simp] theorem fa_191_0 (o sz i g : Nat) : fieldAddrA Tryz.prog 191 (.pt o sz i g) 0 = some (.pt o sz i (g + 0)) := by kernel_rfl
@[simp] theorem fa_191_1 (o sz i g : Nat) : fieldAddrA Tryz.prog 191 (.pt o sz i g) 1 = some (.pt o sz i (g + 2)) := by kernel_rfl
@[simp] theorem fa_215_0 (o sz i g : Nat) : fieldAddrA Tryz.prog 215 (.pt o sz i g) 0 = some (.pt o sz i (g + 0)) := by kernel_rfl
@[simp] theorem fa_215_1 (o sz i g : Nat) : fieldAddrA Tryz.prog 215 (.pt o sz i g) 1 = some (.pt o sz i (g + 8)) := by kernel_rfl
@[simp] theorem ln_9 (s : ByteArray) : lenB Tryz.prog #[9] (.v (.string s)) = some (I s.size) := by kernel_rfl
@[simp] theorem ln_24 (o sz f m : Nat) (c : Option Nat) : lenB Tryz.prog #[24] (.sl o sz f m c) = some (I m) := by kernel_rfl
@[simp] theorem lz_24 : lenB Tryz.prog #[24] (.v (.slice none 0 0)) = some (I 0) := by kernel_rfl
@[simp] theorem ln_27 (o sz f m : Nat) (c : Option Nat) : lenB Tryz.prog #[27] (.sl o sz f m c) = some (I m) := by kernel_rfl
@[simp] theorem lz_27 : lenB Tryz.prog #[27] (.v (.slice none 0 0)) = some (I 0) := by kernel_rfl
@[simp] theorem ln_29 (o sz f m : Nat) (c : Option Nat) : lenB Tryz.prog #[29] (.sl o sz f m c) = some (I m) := by kernel_rfl
@[simp] theorem lz_29 : lenB Tryz.prog #[29] (.v (.slice none 0 0)) = some (I 0) := by kernel_rfl
@[simp] theorem ln_30 (o sz f m : Nat) (c : Option Nat) : lenB Tryz.prog #[30] (.sl o sz f m c) = some (I m) := by kernel_rfl
@[simp] theorem lz_30 : lenB Tryz.prog #[30] (.v (.slice none 0 0)) = some (I 0) := by kernel_rfl
@[simp] theorem ln_31 (o sz f m : Nat) (c : Option Nat) : lenB Tryz.prog #[31] (.sl o sz f m c) = some (I m) := by kernel_rfl
@[simp] theorem lz_31 : lenB Tryz.prog #[31] (.v (.slice none 0 0)) = some (I 0) := by kernel_rfl
@[simp] theorem ln_156 (o sz f m : Nat) (c : Option Nat) : lenB Tryz.prog #[156] (.sl o sz f m c) = some (I m) := by kernel_rfl
@[simp] theorem lz_156 : lenB Tryz.prog #[156] (.v (.slice none 0 0)) = some (I 0) := by kernel_rfl
@[simp] theorem ln_194 (o sz f m : Nat) (c : Option Nat) : lenB Tryz.prog #[194] (.sl o sz f m c) = some (I m) := by kernel_rfl
@[simp] theorem lz_194 : lenB Tryz.prog #[194] (.v (.slice none 0 0)) = some (I 0) := by kernel_rfl
end Go.Proofs.YtffopeihcebpjaaGreat.X
end
section
set_option linter.unusedVariables false
set_option linter.unusedSimpArgs false
set_option maxRecDepth 10000
set_option maxHeartbeats 4000000
namespace Go.Proofs.YtffopeihcebpjaaGreat.X
open Go Go.RowKit
section
variable {w0 : Base} {σ : Sg} {T : Nat → Prop} {h : H} {w : World}
theorem Hr.ext (r : Hr w0 σ T h w) {h' : H} (hg : ∀ o, h'.get o = h.get o) (hn : h'.n = h.n) : Hr w0 σ T h' w where
  below := r.below
  stay := r.stay
  hold := r.hold
  low := by rw [hn]; exact r.low
  dom := by rw [hn]; exact r.dom
  rest := r.rest
  top := fun o q => by rw [hg] at q; rw [hn]; exact r.top o q
  obj := fun o => by rw [hg]; exact r.obj o
  own := fun o b q => by rw [hg] at q; exact r.own o b q
  sep := fun o o' b q q' => by rw [hg] at q q'; exact r.sep o o' b q q'
theorem Hr.newDead (r : Hr w0 σ T h w) (lim : h.n < w0.lim) : Hr w0 (σ.add h.n (⟨0, 0, none⟩, 0)) T (h.new .dead) w :=
  r.adopt lim (⟨0, 0, none⟩, 0) .dead r.below rfl (fun _ _ => rfl) trivial (fun b q => q.elim)
theorem Hr.newNil (r : Hr w0 σ T h w) (lim : h.n < w0.lim) (sz : Nat) : Hr w0 (σ.add h.n (⟨0, 0, none⟩, 0)) T (h.new (.row sz [] true)) w :=
  r.adopt lim (⟨0, 0, none⟩, 0) (.row sz [] true) r.below rfl (fun _ _ => rfl) ⟨_, 0, Sg.add_same .., Nat.le_refl _, (fun x hx => by cases hx), fun q => absurd q (by omega)⟩ (fun b q => by
    obtain ⟨a, rm, e1, e2, e3⟩ := q
    rw [Sg.add_same] at e1
    cases e1
    omega)
/-- A row of one's own gets another number. -/
theorem Hr.move (r : Hr w0 σ T h w) (lim : h.n < w0.lim) {x sz room : Nat} {ad : Addr} {els : List (List DV)} (hg : h.get x = .row sz els true) (hσ : σ x = some (ad, room)) :
    Hr w0 (σ.add h.n (ad, room)) T ((h.set x .dead).new (.row sz els true)) w := by
  have hd : h.get x ≠ .dead := by rw [hg]; simp
  have hO := r.obj x
  rw [hg] at hO
  obtain ⟨a2, room2, q1, q2, q3, q4⟩ := hO
  rw [hσ] at q1
  cases q1
  have key : ∀ b, Own (σ.add h.n (ad, room)) h.n b (.row sz els true) → Own σ x b (h.get x) := fun b q => by
    obtain ⟨a, rm, e1, e2, e3⟩ := q
    rw [Sg.add_same] at e1
    cases e1
    rw [hg]
    exact ⟨ad, room, hσ, e2, e3⟩
  refine (r.kill x hd).adopt lim (ad, room) (.row sz els true) r.below rfl (fun _ _ => rfl) ⟨ad, room, Sg.add_same .., q2, q3, q4⟩ (fun b q => ?_)
  have k := key b q
  obtain ⟨p1, p2, p3⟩ := r.own x b k
  refine ⟨p1, p2, p3, fun o q2 => ?_⟩
  by_cases e : x = o
  · subst e; rw [get_set_same _ hd] at q2; exact q2
  · rw [get_set_ne e] at q2
    exact e (r.sep x o b k q2)
end
theorem sane : Sane Tryz.prog := sane_of (by kernel_rfl)
theorem mixed : Tryz.prog.follows .mixedOrders = true := by kernel_rfl
/-- A call is as it was run. -/
theorem call_of {G : Told} (hG : ToldGrows G) (hT : ToldOk Tryz.prog G) {n k d : Nat} {f : FuncId} {args : List AV} {h : H} {y : AV × H} (e : callB Tryz.prog n k (callN Tryz.prog G n k d) f args h = some y) (hok : h.ok) :
    CallOk Tryz.prog f args h y.1 y.2 ∧ HasBody Tryz.prog f := by
  have gr := callN_grows (P := Tryz.prog) hG (n := n) (k := k) d
  have st := step_ok sane.named (callN_ok mixed sane hG hT (n := n) (k := k) d)
  exact callB_ok gr sane (codeA_ok gr st (drawn_ok mixed gr st) k) _ _ _ _ e hok
theorem lt_of_live {h : H} (hok : h.ok) {o : Nat} (hd : h.get o ≠ .dead) : o < h.n := by
  have : ∀ l : List (Nat × Ob), getL l o ≠ .dead → ∃ p ∈ l, p.1 = o := by
    intro l
    induction l with
    | nil => intro q; exact absurd rfl q
    | cons p r ih =>
      intro q
      obtain ⟨k, b⟩ := p
      rw [getL_cons] at q
      by_cases e : k = o
      · exact ⟨_, List.mem_cons_self .., e⟩
      · rw [if_neg e] at q
        obtain ⟨p, h1, h2⟩ := ih q
        exact ⟨p, List.mem_cons_of_mem _ h1, h2⟩
  obtain ⟨p, h1, h2⟩ := this h.l hd
  rw [← h2]
  exact hok p h1
def noT : Told := fun _ _ _ => none
theorem noT_grows : ToldGrows noT := fun _ _ _ _ e => by cases e
theorem noT_ok : ToldOk Tryz.prog noT := fun _ _ _ _ e _ => by cases e
/-- What slices.Clone does. -/
def cloneT (sz : Nat) (args : List AV) (h : H) : Option (AV × H) := match args with
  | [.sl o sz' off n c] => match h.get o with
    | .row sz2 els own => if sz' = sz ∧ sz2 = sz ∧ off + n ≤ els.length ∧ n ≤ 1000 ∧ flatD ((els.drop off).take n) = true then
        some (.sl (h.n + 1) sz 0 n none, ⟨(h.n + 1, .row sz ((els.drop off).take n) true) :: (h.n, .dead) :: h.l, h.n + 2⟩) else none
    | _ => none
  | _ => none
theorem cloneT_grows {sz : Nat} {args : List AV} {h : H} {y : AV × H} (e : cloneT sz args h = some y) : Grows h y.2 := by
  unfold cloneT at e
  repeat' (split at e)
  all_goals first
    | (cases e; done)
    | (cases e; exact (Grows.new h .dead).trans (Grows.new (h.new .dead) _))
theorem clone_ok {f : FuncId} {sz : Nat} (hB : HasBody Tryz.prog f)
    (run1 : ∀ (h : H) (o off n : Nat) (c : Option Nat) (els : List (List DV)) (own : Bool), h.ok → h.get o = .row sz els own → off + n ≤ els.length → n ≤ 1000 → flatD ((els.drop off).take n) = true → n ≠ 0 →
      CallOk Tryz.prog f [.sl o sz off n c] h (.sl (h.n + 1) sz 0 n none) ⟨(h.n + 1, .row sz ((els.drop off).take n) true) :: (h.n, .dead) :: h.l, h.n + 2⟩)
    (run2 : ∀ (h : H) (a : Addr) (c : Nat), h.ok → CallOk Tryz.prog f [.v (.slice (some a) 0 c)] h (.sl (h.n + 1) sz 0 0 none) ⟨(h.n + 1, .row sz [] true) :: (h.n, .dead) :: h.l, h.n + 2⟩)
    (run3 : ∀ (h : H), h.ok → CallOk Tryz.prog f [.v (.slice none 0 0)] h (.v (.slice none 0 0)) h)
    {args : List AV} {h : H} {y : AV × H} (e : cloneT sz args h = some y) (hok : h.ok) : CallOk Tryz.prog f args h y.1 y.2 ∧ HasBody Tryz.prog f := by
  refine ⟨?_, hB⟩
  unfold cloneT at e
  split at e
  · rename_i o sz' off n c
    split at e
    · rename_i sz2 els own hg
      split at e
      · rename_i hc
        obtain ⟨rfl, rfl, hl, hn, hf⟩ := hc
        cases e
        by_cases h0 : n = 0
        · subst h0
          intro w0 σ T w Args lim g r
          cases g with
          | cons _ X _ _ g1 g2 =>
            cases g2
            cases g1 with
            | sl _ _ _ _ _ ad room A c' hσ hn' hcc hA =>
              cases A with
              | none =>
                have hc0 : c' = 0 := by
                  rcases Nat.eq_zero_or_pos c' with q | q
                  · exact q
                  · cases (hA q).1
                subst hc0
                have l1 : h.n < w0.lim := Nat.lt_of_lt_of_le (Nat.lt_succ_of_lt (Nat.lt_succ_self _)) lim
                have l2 : (h.new Ob.dead).n < w0.lim := Nat.lt_of_lt_of_le (Nat.lt_succ_self _) lim
                refine (run3 h hok w0 σ T w _ (Nat.le_of_lt l1) (.cons _ _ _ _ (.v _) .nil) r).mono (fun e w' he => ?_)
                obtain ⟨y, σ', T', rfl, s1, t1, r1, v1⟩ := he
                cases v1
                have r2 := r1.newDead l1
                have r3 := r2.newNil l2 sz2
                refine ⟨_, _, T', rfl, Sg.le_trans s1 (Sg.le_trans (r1.add_le l1 (⟨0, 0, none⟩, 0)) (r2.add_le l2 (⟨0, 0, none⟩, 0))), t1, ?_, ?_⟩
                · exact r3
                · exact .sl _ _ _ _ _ ⟨0, 0, none⟩ 0 none 0 (Sg.add_same ..) (Nat.le_refl _) (fun k q => by cases q) (fun q => absurd q (by omega))
              | some a =>
                have := run2 h a c' hok w0 σ T w _ lim (.cons _ _ _ _ (.v _) .nil) r
                simpa using this
        · exact run1 h o off n c els own hok hg hl hn hf h0
      · cases e
    · cases e
  · cases e
end Go.Proofs.YtffopeihcebpjaaGreat.X
end
section
set_option linter.unusedVariables false
set_option linter.unusedSimpArgs false
set_option maxRecDepth 10000
set_option maxHeartbeats 4000000
namespace Go.Proofs.YtffopeihcebpjaaGreat.X
open Go Go.RowKit
theorem nil_sl {t e : TypeId} (ht : Tryz.prog.underlying t = some (.slice e)) (x y : Operand) (o sz off n : Nat) (c : Option Nat) (hn : n ≠ 0) : binA Tryz.prog .eql t x y (.sl o sz off n c) (.v (.slice none 0 0)) = some (B false) := by
  simp [binA, isNilV, hn, ht]
@[simp] theorem noT_ap (f : FuncId) (a : List AV) (h : H) : noT f a h = none := rfl
@[simp] theorem over_n (m : Nat) : overC none m = false := rfl
@[simp] theorem over_s (k m : Nat) : overC (some k) m = decide (k < m) := rfl
theorem zn_95 (x y : Operand) (a : Addr) (c : Nat) : binA Tryz.prog .eql 31 x y (.v (.slice (some a) 0 c)) (.v (.slice none 0 0)) = some (B false) := by kernel_rfl
theorem zz_95 (x y : Operand) : binA Tryz.prog .eql 31 x y (.v (.slice none 0 0)) (.v (.slice none 0 0)) = some (B true) := by kernel_rfl
theorem clone_95 {args : List AV} {h : H} {y : AV × H} (e : cloneT 3 args h = some y) (hok : h.ok) : CallOk Tryz.prog 95 args h y.1 y.2 ∧ HasBody Tryz.prog 95 := by
  refine clone_ok ⟨_, Tryz.func95, by kernel_rfl⟩ (fun h o off n c els own hok hg hl hn hf h0 => ?_) (fun h a c hok => ?_) (fun h hok => ?_) e hok
  · have lt := lt_of_live hok (o := o) (by rw [hg]; simp)
    obtain ⟨l, N⟩ := h
    refine (call_of noT_grows noT_ok (n := 9) (k := 1) (d := 2) (y := (_, _)) ?_ hok).1
    have e1 : ¬ N = o := by have : o < N := lt; omega
    have hlen : ((els.drop off).take n).length = n := by simp; omega
    have r : roomA Tryz.prog 137 n = true := by rw [ro_137]; simp; omega
    simp only [h_get] at hg
    simp -implicitDefEqProofs [cb Tryz.func95, Tryz.f95, nil_sl un_31 _ _ _ _ _ _ _ h0, hg, builtinA, appendA, newA, elsAt, hl, hlen, hf, r, e1]
  · obtain ⟨l, N⟩ := h
    refine (call_of noT_grows noT_ok (n := 9) (k := 1) (d := 2) (y := (_, _)) ?_ hok).1
    have r : roomA Tryz.prog 137 0 = true := by rw [ro_137]; simp
    simp -implicitDefEqProofs [cb Tryz.func95, Tryz.f95, zn_95, builtinA, appendA, newA, elsAt, r, flatD]
  · obtain ⟨l, N⟩ := h
    refine (call_of noT_grows noT_ok (n := 9) (k := 1) (d := 2) (y := (_, _)) ?_ hok).1
    simp -implicitDefEqProofs [cb Tryz.func95, Tryz.f95, zz_95]
theorem zn_121 (x y : Operand) (a : Addr) (c : Nat) : binA Tryz.prog .eql 29 x y (.v (.slice (some a) 0 c)) (.v (.slice none 0 0)) = some (B false) := by kernel_rfl
theorem zz_121 (x y : Operand) : binA Tryz.prog .eql 29 x y (.v (.slice none 0 0)) (.v (.slice none 0 0)) = some (B true) := by kernel_rfl
theorem clone_121 {args : List AV} {h : H} {y : AV × H} (e : cloneT 6 args h = some y) (hok : h.ok) : CallOk Tryz.prog 121 args h y.1 y.2 ∧ HasBody Tryz.prog 121 := by
  refine clone_ok ⟨_, Tryz.func121, by kernel_rfl⟩ (fun h o off n c els own hok hg hl hn hf h0 => ?_) (fun h a c hok => ?_) (fun h hok => ?_) e hok
  · have lt := lt_of_live hok (o := o) (by rw [hg]; simp)
    obtain ⟨l, N⟩ := h
    refine (call_of noT_grows noT_ok (n := 9) (k := 1) (d := 2) (y := (_, _)) ?_ hok).1
    have e1 : ¬ N = o := by have : o < N := lt; omega
    have hlen : ((els.drop off).take n).length = n := by simp; omega
    have r : roomA Tryz.prog 63 n = true := by rw [ro_63]; simp; omega
    simp only [h_get] at hg
    simp -implicitDefEqProofs [cb Tryz.func121, Tryz.f121, nil_sl un_29 _ _ _ _ _ _ _ h0, hg, builtinA, appendA, newA, elsAt, hl, hlen, hf, r, e1]
  · obtain ⟨l, N⟩ := h
    refine (call_of noT_grows noT_ok (n := 9) (k := 1) (d := 2) (y := (_, _)) ?_ hok).1
    have r : roomA Tryz.prog 63 0 = true := by rw [ro_63]; simp
    simp -implicitDefEqProofs [cb Tryz.func121, Tryz.f121, zn_121, builtinA, appendA, newA, elsAt, r, flatD]
  · obtain ⟨l, N⟩ := h
    refine (call_of noT_grows noT_ok (n := 9) (k := 1) (d := 2) (y := (_, _)) ?_ hok).1
    simp -implicitDefEqProofs [cb Tryz.func121, Tryz.f121, zz_121]
theorem zn_123 (x y : Operand) (a : Addr) (c : Nat) : binA Tryz.prog .eql 30 x y (.v (.slice (some a) 0 c)) (.v (.slice none 0 0)) = some (B false) := by kernel_rfl
theorem zz_123 (x y : Operand) : binA Tryz.prog .eql 30 x y (.v (.slice none 0 0)) (.v (.slice none 0 0)) = some (B true) := by kernel_rfl
theorem clone_123 {args : List AV} {h : H} {y : AV × H} (e : cloneT 6 args h = some y) (hok : h.ok) : CallOk Tryz.prog 123 args h y.1 y.2 ∧ HasBody Tryz.prog 123 := by
  refine clone_ok ⟨_, Tryz.func123, by kernel_rfl⟩ (fun h o off n c els own hok hg hl hn hf h0 => ?_) (fun h a c hok => ?_) (fun h hok => ?_) e hok
  · have lt := lt_of_live hok (o := o) (by rw [hg]; simp)
    obtain ⟨l, N⟩ := h
    refine (call_of noT_grows noT_ok (n := 9) (k := 1) (d := 2) (y := (_, _)) ?_ hok).1
    have e1 : ¬ N = o := by have : o < N := lt; omega
    have hlen : ((els.drop off).take n).length = n := by simp; omega
    have r : roomA Tryz.prog 74 n = true := by rw [ro_74]; simp; omega
    simp only [h_get] at hg
    simp -implicitDefEqProofs [cb Tryz.func123, Tryz.f123, nil_sl un_30 _ _ _ _ _ _ _ h0, hg, builtinA, appendA, newA, elsAt, hl, hlen, hf, r, e1]
  · obtain ⟨l, N⟩ := h
    refine (call_of noT_grows noT_ok (n := 9) (k := 1) (d := 2) (y := (_, _)) ?_ hok).1
    have r : roomA Tryz.prog 74 0 = true := by rw [ro_74]; simp
    simp -implicitDefEqProofs [cb Tryz.func123, Tryz.f123, zn_123, builtinA, appendA, newA, elsAt, r, flatD]
  · obtain ⟨l, N⟩ := h
    refine (call_of noT_grows noT_ok (n := 9) (k := 1) (d := 2) (y := (_, _)) ?_ hok).1
    simp -implicitDefEqProofs [cb Tryz.func123, Tryz.f123, zz_123]
theorem zn_178 (x y : Operand) (a : Addr) (c : Nat) : binA Tryz.prog .eql 24 x y (.v (.slice (some a) 0 c)) (.v (.slice none 0 0)) = some (B false) := by kernel_rfl
theorem zz_178 (x y : Operand) : binA Tryz.prog .eql 24 x y (.v (.slice none 0 0)) (.v (.slice none 0 0)) = some (B true) := by kernel_rfl
theorem clone_178 {args : List AV} {h : H} {y : AV × H} (e : cloneT 2 args h = some y) (hok : h.ok) : CallOk Tryz.prog 178 args h y.1 y.2 ∧ HasBody Tryz.prog 178 := by
  refine clone_ok ⟨_, Tryz.func178, by kernel_rfl⟩ (fun h o off n c els own hok hg hl hn hf h0 => ?_) (fun h a c hok => ?_) (fun h hok => ?_) e hok
  · have lt := lt_of_live hok (o := o) (by rw [hg]; simp)
    obtain ⟨l, N⟩ := h
    refine (call_of noT_grows noT_ok (n := 9) (k := 1) (d := 2) (y := (_, _)) ?_ hok).1
    have e1 : ¬ N = o := by have : o < N := lt; omega
    have hlen : ((els.drop off).take n).length = n := by simp; omega
    have r : roomA Tryz.prog 55 n = true := by rw [ro_55]; simp; omega
    simp only [h_get] at hg
    simp -implicitDefEqProofs [cb Tryz.func178, Tryz.f178, nil_sl un_24 _ _ _ _ _ _ _ h0, hg, builtinA, appendA, newA, elsAt, hl, hlen, hf, r, e1]
  · obtain ⟨l, N⟩ := h
    refine (call_of noT_grows noT_ok (n := 9) (k := 1) (d := 2) (y := (_, _)) ?_ hok).1
    have r : roomA Tryz.prog 55 0 = true := by rw [ro_55]; simp
    simp -implicitDefEqProofs [cb Tryz.func178, Tryz.f178, zn_178, builtinA, appendA, newA, elsAt, r, flatD]
  · obtain ⟨l, N⟩ := h
    refine (call_of noT_grows noT_ok (n := 9) (k := 1) (d := 2) (y := (_, _)) ?_ hok).1
    simp -implicitDefEqProofs [cb Tryz.func178, Tryz.f178, zz_178]
theorem zn_179 (x y : Operand) (a : Addr) (c : Nat) : binA Tryz.prog .eql 27 x y (.v (.slice (some a) 0 c)) (.v (.slice none 0 0)) = some (B false) := by kernel_rfl
theorem zz_179 (x y : Operand) : binA Tryz.prog .eql 27 x y (.v (.slice none 0 0)) (.v (.slice none 0 0)) = some (B true) := by kernel_rfl
theorem clone_179 {args : List AV} {h : H} {y : AV × H} (e : cloneT 1 args h = some y) (hok : h.ok) : CallOk Tryz.prog 179 args h y.1 y.2 ∧ HasBody Tryz.prog 179 := by
  refine clone_ok ⟨_, Tryz.func179, by kernel_rfl⟩ (fun h o off n c els own hok hg hl hn hf h0 => ?_) (fun h a c hok => ?_) (fun h hok => ?_) e hok
  · have lt := lt_of_live hok (o := o) (by rw [hg]; simp)
    obtain ⟨l, N⟩ := h
    refine (call_of noT_grows noT_ok (n := 9) (k := 1) (d := 2) (y := (_, _)) ?_ hok).1
    have e1 : ¬ N = o := by have : o < N := lt; omega
    have hlen : ((els.drop off).take n).length = n := by simp; omega
    have r : roomA Tryz.prog 3 n = true := by rw [ro_3]; simp; omega
    simp only [h_get] at hg
    simp -implicitDefEqProofs [cb Tryz.func179, Tryz.f179, nil_sl un_27 _ _ _ _ _ _ _ h0, hg, builtinA, appendA, newA, elsAt, hl, hlen, hf, r, e1]
  · obtain ⟨l, N⟩ := h
    refine (call_of noT_grows noT_ok (n := 9) (k := 1) (d := 2) (y := (_, _)) ?_ hok).1
    have r : roomA Tryz.prog 3 0 = true := by rw [ro_3]; simp
    simp -implicitDefEqProofs [cb Tryz.func179, Tryz.f179, zn_179, builtinA, appendA, newA, elsAt, r, flatD]
  · obtain ⟨l, N⟩ := h
    refine (call_of noT_grows noT_ok (n := 9) (k := 1) (d := 2) (y := (_, _)) ?_ hok).1
    simp -implicitDefEqProofs [cb Tryz.func179, Tryz.f179, zz_179]
end Go.Proofs.YtffopeihcebpjaaGreat.X
end
section
set_option linter.unusedVariables false
set_option linter.unusedSimpArgs false
set_option maxRecDepth 10000
set_option maxHeartbeats 4000000
namespace Go.Proofs.YtffopeihcebpjaaGreat.X
open Go Go.RowKit
def G154 : Told := fun f args h => if f = 154 then match args with
  | [.sl p 3 _ np _, .sl o 3 _ no _] => match h.get p, h.get o with
    | .row 3 (_ :: _) true, .row 3 (_ :: _) true => if p = o ∨ np = 0 ∨ no = 0 then none else some (B false, h)
    | _, _ => none
  | _ => none else none
theorem G154_grows : ToldGrows G154 := by
  intro f args h y e
  unfold G154 at e
  repeat' (split at e)
  all_goals first
    | (cases e; done)
    | (cases e; exact Grows.refl _)
theorem no_body154 : ¬ HasBody Tryz.prog 154 := fun ⟨fn, h1, h2⟩ => by
  rw [Tryz.func154] at h1
  cases h1
  cases h2
theorem run_ov (Args : List Value) (w : World) {v : Value} (h : (Extern.SlicesOverlaps.overlaps #[31, 31] #[4] Args.toArray).run Tryz.prog w = .ok v w) : (callFunc 154 Args.toArray).run Tryz.prog w = .ok (.value v) w := by
  rw [run_callFunc_extern Tryz.func154 (by kernel_rfl) (by kernel_rfl) (by kernel_rfl) (e := Extern.SlicesOverlaps.overlaps #[31, 31] #[4]) (by kernel_rfl), h]
  rfl
theorem own_cells {w0 : Base} {σ : Sg} {T : Nat → Prop} {h : H} {w : World} (r : Hr w0 σ T h w) {p : Nat} {e : List DV} {q : List (List DV)} (hg : h.get p = .row 3 (e :: q) true) :
    ∃ b room vs t, σ p = some (⟨b, 0, none⟩, room) ∧ w.heap[b]? = some (.cells vs t (0, 0)) ∧ vs.size ≠ 0 ∧ Own σ p b (h.get p) := by
  have hO := r.obj p
  rw [hg] at hO
  obtain ⟨a, room, h1, h2, h3, h4⟩ := hO
  rw [List.length_cons] at h2
  obtain ⟨vs, t, k1, k2, k3, k4⟩ := h4 (by omega)
  refine ⟨a.block, room, vs, t, k1 ▸ h1, k2, by omega, ?_⟩
  rw [hg]
  exact ⟨a, room, h1, rfl, by omega⟩
theorem G154_ok : ToldOk Tryz.prog G154 := by
  intro f args h y e hok
  unfold G154 at e
  split at e
  · rename_i hf
    subst hf
    split at e
    · rename_i p po np cp o oo no co
      split at e
      · rename_i e1 q1 e2 q2 g1 g2
        split at e
        · cases e
        · rename_i hne
          cases e
          refine .inr ⟨⟨rfl, fun w0 σ T w Args ga r => ⟨.bool false, run_ov _ _ ?_, .v _⟩⟩, no_body154⟩
          obtain ⟨bp, rp, vp, tp, s1, s2, s3, s4⟩ := own_cells r g1
          obtain ⟨bo, ro, vo, to, t1, t2, t3, t4⟩ := own_cells r g2
          have hb : bp ≠ bo := fun q => by subst q; exact hne (.inl (r.sep _ _ _ s4 t4))
          cases ga with
          | cons _ X _ _ gx gs =>
            cases gs with
            | cons _ Y _ _ gy gn =>
              cases gn
              cases gx with
              | sl _ _ _ _ _ ax rx A c' k1 k2 k3 k4 =>
                cases gy with
                | sl _ _ _ _ _ ay ry Bd d' m1 m2 m3 m4 =>
                  rw [s1] at k1
                  cases k1
                  rw [t1] at m1
                  cases m1
                  obtain ⟨rfl, _⟩ := k4 (by omega)
                  obtain ⟨rfl, _⟩ := m4 (by omega)
                  refine Lib.run_overlaps_apart w 31 4 137 un_31 3 (fun w => by kernel_rfl) _ _ np c' no d' (by rw [add_blk, add_blk]; exact hb) tp to vp.size vo.size ?_ ?_ t3 ?_ ?_
                  · rw [add_blk]; unfold World.shape?; rw [s2]
                  · rw [add_blk]; unfold World.shape?; rw [t2]
                  · unfold World.frozen?; rw [add_blk, s2]; simp
                  · unfold World.frozen?; rw [add_blk, s2]; simp
      · cases e
    · cases e
  · cases e
end Go.Proofs.YtffopeihcebpjaaGreat.X
end
section
set_option linter.unusedVariables false
set_option linter.unusedSimpArgs false
set_option maxRecDepth 10000
set_option maxHeartbeats 4000000
namespace Go.Proofs.YtffopeihcebpjaaGreat.X
open Go Go.RowKit
@[simp] theorem cap_s (o sz f m k : Nat) : capB Tryz.prog #[31] (.sl o sz f m (some k)) = some (I k) := by kernel_rfl
@[simp] theorem n_cap (ts : Array TypeId) (ty : TypeId) (x : AV) (h : H) : builtinA Tryz.prog .cap ts ty [x] h = okv (capB Tryz.prog ts x) h := rfl
theorem slice_lo31 (o off m : Nat) (c : Option Nat) (a : Nat) (h : a ≤ m) : sliceA Tryz.prog 31 (.sl o 3 off m c) (some (I a)) none none = some (.sl o 3 (off + a) (m - a) (c.map (· - a))) := by
  simp [sliceA, boundA, intOf, h]
theorem slice_hi31 (o off m : Nat) (c : Option Nat) (b : Nat) (h : b ≤ c.getD m) : sliceA Tryz.prog 31 (.sl o 3 off m c) none (some (I b)) none = some (.sl o 3 off b c) := by
  cases c with
  | none =>
    have h' : b ≤ m := h
    simp [sliceA, boundA, intOf, h']
  | some k =>
    have h' : b ≤ k := h
    simp [sliceA, boundA, intOf, h']
theorem setL_set (o : Nat) (x y : Ob) : ∀ l, setL (setL l o x) o y = setL l o y
  | [] => rfl
  | (k, b) :: r => by
    by_cases h : k = o
    · simp [h]
    · simp [h, setL_set o x y r]
section
variable {l : List (Nat × Ob)} {N o p : Nat} {pc : Option Nat} {A Bs : List (List DV)} {e j : List DV}
theorem ins_run1 (h1 : getL l o = .row 3 A true) (h2 : getL l p = .row 3 [e] true) (hn : A.length ≤ 1000) (hf : flatD [e] = true) :
    callB Tryz.prog 9 1 (callN Tryz.prog G154 9 1 2) 97 [.sl o 3 0 A.length none, I A.length, .sl p 3 0 1 pc] ⟨l, N⟩ = some (.sl N 3 0 (A.length + 1) none, ⟨(N, .row 3 (A ++ [e]) true) :: setL l o .dead, N + 1⟩) := by
  have r : roomA Tryz.prog 137 (A.length + 1) = true := by rw [ro_137]; simp; omega
  simp -implicitDefEqProofs [cb Tryz.func97, Tryz.f97, h1, h2, slice_lo31 _ _ _ _ _ (Nat.le_refl _), builtinA, appendA, newA, elsAt, r, hf]
theorem ins_run2 {a b n n1 a1 b1 : Nat} (h1 : getL l o = .row 3 (A ++ Bs) true) (h2 : getL l p = .row 3 [e] true) (ho : ¬ N = o) (hp : ¬ N = p) (hA : A.length = a) (hBs : Bs.length = b) (hn : a + b = n) (hn1 : n1 = n + 1) (ha1 : a1 = a + 1) (hb1 : b1 = b + 1) (hm : n ≤ 1000) (hB : 0 < b) (hf : flatD [e] = true) (hfB : flatD Bs = true) :
    callB Tryz.prog 9 1 (callN Tryz.prog G154 9 1 2) 97 [.sl o 3 0 n (some n), I a, .sl p 3 0 1 pc] ⟨l, N⟩ = some (.sl N 3 0 n1 none, ⟨(N, .row 3 (A ++ e :: Bs) true) :: l, N + 1⟩) := by
  have r : roomA Tryz.prog 137 n1 = true := by rw [ro_137]; simp; omega
  have e2 : ¬ (a : Int) = (n : Int) := by omega
  have e3 : w64 ((n : Int) + 1) = (n1 : Int) := by rw [w64_id (by omega) (by omega)]; omega
  have e4 : w64 ((n1 : Int) - (a : Int)) = (b1 : Int) := by rw [w64_id (by omega) (by omega)]; omega
  have e5 : (n : Int) < (n1 : Int) := by omega
  have e5' : n < n1 := by omega
  have e6 : a + b1 = n1 := by omega
  have e8 : (0 : Int) ≤ (b1 : Int) ∧ (b1 : Int) ≤ 35184372088832 := by omega
  have e9 : flatD (List.replicate b1 [DV.v (.int .i64 0), .v (.string ⟨#[]⟩), .v (.int .i64 0)]) = true := by
    unfold flatD
    rw [List.all_eq_true]
    intro x hx
    rw [List.eq_of_mem_replicate hx]
    rfl
  have e10 : w64 ((a : Int) + 1) = (a1 : Int) := by rw [w64_id (by omega) (by omega)]; omega
  have f1 : n - a = b := by omega
  have f2 : n1 - a = b1 := by omega
  have f3 : n1 - a1 = b := by omega
  have f4 : a ≤ n := by omega
  have f5 : a ≤ n1 := by omega
  have f6 : a1 ≤ n1 := by omega
  have f7 : min 1 b1 = 1 := by omega
  have f8 : a + 1 = a1 := by omega
  have f9 : (List.take a (A ++ Bs)) = A := by rw [← hA]; simp
  have f10 : (List.drop a (A ++ Bs)) = Bs := by rw [← hA]; simp
  have t1 := slice_hi31 o 0 n (some n) a f4
  have t2 := slice_lo31 N 0 n1 none a f5
  have t3 := slice_lo31 N 0 n1 none a1 f6
  have t4 := slice_lo31 o 0 n (some n) a f4
  have t5 : List.take b Bs = Bs := by rw [← hBs]; simp
  obtain ⟨R, hR⟩ : ∃ R : List (List DV), R = List.replicate b [DV.v (.int .i64 0), .v (.string ⟨#[]⟩), .v (.int .i64 0)] := ⟨_, rfl⟩
  have hRl : R.length = b := by rw [hR]; simp
  have f11 : List.drop a1 (A ++ List.replicate b1 [DV.v (.int .i64 0), .v (.string ⟨#[]⟩), .v (.int .i64 0)]) = R := by
    rw [hb1, List.replicate_succ, ha1, ← hA, List.drop_length_add_append, hR]
    rfl
  have f12 : List.take a1 (A ++ e :: R) = A ++ [e] := by rw [ha1, ← hA, List.take_length_add_append]; rfl
  have f13 : List.drop (a1 + b) (A ++ e :: R) = [] := List.drop_eq_nil_of_le (by simp; omega)
  have f14 : a1 + b ≤ a + (b + 1) := by omega
  simp only [f1] at t4
  simp -implicitDefEqProofs [cb Tryz.func97, Tryz.f97, h1, h2, ho, hp, hA, hBs, hn, e2, e3, e4, e5, e5', e6, e8, e9, e10, f1, f2, f3, f4, f5, f6, f7, f8, f9, f10, t1, t2, t3, t4, t5, f11, f12, f13, f14, hRl, intOf, builtinA, appendA, copyA, newA, elsAt, hf, hfB, r]
theorem ins_run3 {a b n n1 a1 b1 k : Nat} {b0 : List DV} (h1 : getL l o = .row 3 (A ++ (Bs ++ [j])) true) (h2 : getL l p = .row 3 [e] true) (hne : ¬ p = o) (hA : A.length = a) (hBs : Bs.length = b) (hn : a + b = n) (hn1 : n1 = n + 1) (ha1 : a1 = a + 1) (hb1 : b1 = b + 1) (hm : n ≤ 1000) (hB : 0 < b) (hk : n < k) (hf : flatD [e] = true) (hfB : flatD Bs = true) :
    callB Tryz.prog 9 1 (callN Tryz.prog G154 9 1 2) 97 [.sl o 3 0 n (some k), I a, .sl p 3 0 1 pc] ⟨l, N⟩ = some (.sl o 3 0 n1 (some k), ⟨setL l o (.row 3 (A ++ e :: Bs) true), N⟩) := by
  have e2 : ¬ (a : Int) = (n : Int) := by omega
  have e3 : w64 ((n : Int) + 1) = (n1 : Int) := by rw [w64_id (by omega) (by omega)]; omega
  have e5 : ¬ (k : Int) < (n1 : Int) := by omega
  have e10 : w64 ((a : Int) + 1) = (a1 : Int) := by rw [w64_id (by omega) (by omega)]; omega
  have f2 : n1 - a = b1 := by omega
  have f3 : n1 - a1 = b := by omega
  have f1 : n - a = b := by omega
  have f0 : ¬ b = 0 := by omega
  have f7 : min b1 b = b := by omega
  have f7' : min 1 b1 = 1 := by omega
  have f8 : a + 1 = a1 := by omega
  have f9 : (List.take a (A ++ (Bs ++ [j]))) = A := by rw [← hA]; simp
  have f10 : (List.drop a (A ++ (Bs ++ [j]))) = Bs ++ [j] := by rw [← hA]; simp
  have t1 := slice_hi31 o 0 n (some k) n1 (by show n1 ≤ k; omega)
  have t2 := slice_lo31 o 0 n1 (some k) a (by omega)
  have t3 := slice_lo31 o 0 n1 (some k) a1 (by omega)
  have t4 := slice_lo31 o 0 n (some k) a (by omega)
  simp only [f1] at t4
  simp only [f2] at t2
  simp only [f3] at t3
  have t5 : List.take b1 (Bs ++ [j]) = Bs ++ [j] := List.take_of_length_le (by simp; omega)
  have t6 : List.take b (Bs ++ [j]) = Bs := by rw [← hBs]; simp
  have t7 : List.drop (a1 + b) (A ++ (Bs ++ [j])) = [] := List.drop_eq_nil_of_le (by simp; omega)
  obtain ⟨b0, hb0⟩ : ∃ b0, List.take a1 (A ++ (Bs ++ [j])) = A ++ [b0] := by
    match Bs, hBs with
    | b0 :: r, _ => exact ⟨b0, by rw [ha1, ← hA, List.take_length_add_append]; rfl⟩
    | [], q => exact absurd q (by simp; omega)
  have t8 : List.take a (A ++ b0 :: Bs) = A := by rw [← hA]; simp
  have t9 : List.drop a1 (A ++ b0 :: Bs) = Bs := by rw [ha1, ← hA, List.drop_length_add_append]; rfl
  have u1 : a1 + b ≤ a + (b + 1) := by omega
  have u2 : a + b1 ≤ a + (b + 1) := by omega
  have u3 : flatD (Bs ++ [j]) = flatD (Bs ++ [j]) := rfl
  have g1 : ∀ x, getL (setL l o x) o = x := fun x => getL_set_same x l (by rw [h1]; simp)
  have g2 : ∀ x, getL (setL l o x) p = getL l p := fun x => getL_set_ne (fun q => hne q.symm) x l
  have g3 : ∀ x y, setL (setL l o x) o y = setL l o y := fun x y => setL_set ..
  have hc : ∃ x xs, A ++ (Bs ++ [j]) = x :: xs := by
    cases q : A ++ (Bs ++ [j]) with
    | nil => simp at q
    | cons x xs => exact ⟨x, xs, rfl⟩
  obtain ⟨x, xs, hx⟩ := hc
  have ov : ∀ off c, G154 154 [.sl p 3 0 1 pc, .sl o 3 off b c] ⟨l, N⟩ = some (B false, ⟨l, N⟩) := fun off c => by
    unfold G154
    rw [if_pos rfl]
    simp only [h_get, h2, h1, hx]
    rw [if_neg (by omega)]
  simp -implicitDefEqProofs [cb Tryz.func97, Tryz.f97, h1, h2, g1, g2, g3, hne, hA, hBs, hn, e2, e3, e5, e10, f0, f1, f2, f3, f7, f7', f8, f9, f10, t1, t2, t3, t4, t5, t6, t7, t8, t9, u1, u2, hb0, ov, intOf, builtinA, copyA, elsAt, hf, hfB]
end
end Go.Proofs.YtffopeihcebpjaaGreat.X
end
section
set_option linter.unusedVariables false
set_option linter.unusedSimpArgs false
namespace Go.Proofs.YtffopeihcebpjaaGreat.X
open Go Go.RowKit
def insT (args : List AV) (h : H) : Option (AV × H) := match args with
  | [.sl o 3 0 n none, .v (.int .i64 i), .sl p 3 0 1 pc] => match h.get o, h.get p with
    | .row 3 els true, .row 3 [e] true => if n = els.length ∧ n ≤ 1000 ∧ p ≠ o ∧ 0 ≤ i ∧ i ≤ n ∧ flatD els = true ∧ flatD [e] = true then
        some (.sl h.n 3 0 (n + 1) none, (h.set o .dead).new (.row 3 (els.take i.toNat ++ e :: els.drop i.toNat) true)) else none
    | _, _ => none
  | _ => none
theorem insT_grows {args : List AV} {h : H} {y : AV × H} (e : insT args h = some y) : Grows h y.2 := by
  unfold insT at e
  repeat' (split at e)
  all_goals first
    | (cases e; done)
    | (cases e; exact (Grows.set h _ .dead).trans (Grows.new (h.set _ .dead) _))
/-- A row told with an element more than it has, where there is room. -/
theorem Hr.junk {w0 : Base} {σ : Sg} {T : Nat → Prop} {h : H} {w : World} (r : Hr w0 σ T h w) {o : Nat} {els : List (List DV)} {ad : Addr} {room : Nat} (hg : h.get o = .row 3 els true) (hσ : σ o = some (ad, room)) (hr : els.length < room) :
    ∃ j, Hr w0 σ T (h.set o (.row 3 (els ++ [j]) true)) w := by
  have hO := r.obj o
  rw [hg] at hO
  obtain ⟨a, rm, h1, h2, h3, h4⟩ := hO
  rw [hσ] at h1
  cases h1
  obtain ⟨vs, t, k1, k2, k3, k4⟩ := h4 (by omega)
  have hc : ∀ i, i < 3 → ∃ v, vs[els.length * 3 + i]? = some v := fun i hi => ⟨vs[els.length * 3 + i]'(by omega), Array.getElem?_eq_getElem _⟩
  obtain ⟨v0, q0⟩ := hc 0 (by omega)
  obtain ⟨v1, q1⟩ := hc 1 (by omega)
  obtain ⟨v2, q2⟩ := hc 2 (by omega)
  have hd : h.get o ≠ .dead := by rw [hg]; simp
  refine ⟨[.v v0, .v v1, .v v2], r.put o _ hd r.below rfl (fun _ _ => rfl) ⟨ad, room, hσ, by rw [List.length_append]; exact hr, fun e he => ?_, fun _ => ⟨vs, t, k1, k2, k3, fun i x j d hi hj => ?_⟩⟩ (fun b q => by rw [hg]; exact q)⟩
  · rcases List.mem_append.1 he with he | he
    · exact h3 e he
    · rw [List.mem_singleton] at he; subst he; rfl
  · rcases Nat.lt_or_ge i els.length with q | q
    · rw [List.getElem?_append_left q] at hi
      exact k4 i x j d hi hj
    · rw [List.getElem?_append_right q] at hi
      have hi0 : i - els.length = 0 := by
        rcases Nat.eq_zero_or_pos (i - els.length) with z | z
        · exact z
        · rw [List.getElem?_eq_none (by show 1 ≤ _; omega)] at hi; cases hi
      rw [hi0] at hi
      cases hi
      obtain rfl : i = els.length := by omega
      match j, hj with
      | 0, hj => cases hj; exact ⟨v0, q0, .v _⟩
      | 1, hj => cases hj; exact ⟨v1, q1, .v _⟩
      | 2, hj => cases hj; exact ⟨v2, q2, .v _⟩
      | j + 3, hj => simp at hj
theorem insT_ok {args : List AV} {h : H} {y : AV × H} (e : insT args h = some y) (hok : h.ok) : CallOk Tryz.prog 97 args h y.1 y.2 ∧ HasBody Tryz.prog 97 := by
  refine ⟨?_, ⟨_, Tryz.func97, by kernel_rfl⟩⟩
  unfold insT at e
  split at e
  · rename_i o n i p pc
    split at e
    · rename_i els e0 g1 g2
      split at e
      · rename_i hc
        obtain ⟨c1, c2, c3, c4, c5, c6, c7⟩ := hc
        cases e
        obtain ⟨a, rfl⟩ := Int.eq_ofNat_of_zero_le c4
        have ha : a ≤ els.length := by omega
        obtain ⟨A, Bs, rfl, hA⟩ : ∃ A Bs, els = A ++ Bs ∧ A.length = a := ⟨els.take a, els.drop a, (List.take_append_drop a els).symm, by rw [List.length_take]; omega⟩
        have lo := lt_of_live hok (o := o) (by rw [g1]; simp)
        have lp := lt_of_live hok (o := p) (by rw [g2]; simp)
        have ht : (A ++ Bs).take ((a : Nat) : Int).toNat = A := by rw [Int.toNat_natCast, ← hA]; simp
        have hdr : (A ++ Bs).drop ((a : Nat) : Int).toNat = Bs := by rw [Int.toNat_natCast, ← hA]; simp
        simp only [ht, hdr]
        rw [List.length_append] at c1
        have hdo : h.get o ≠ .dead := by rw [g1]; simp
        have fB : flatD Bs = true := by
          unfold flatD at c6 ⊢
          rw [List.all_append, Bool.and_eq_true] at c6
          exact c6.2
        by_cases hB : Bs.length = 0
        · obtain rfl : Bs = [] := List.length_eq_zero_iff.1 hB
          obtain ⟨l, N⟩ := h
          simp only [h_get] at g1 g2
          rw [List.append_nil] at g1
          obtain rfl : n = A.length := by simpa using c1
          obtain rfl : a = A.length := hA.symm
          exact (call_of G154_grows G154_ok (y := (_, _)) (ins_run1 (pc := pc) g1 g2 c2 c7) hok).1
        · intro w0 σ T w Args lim g r
          have lim1 : h.n < w0.lim := lim
          cases g with
          | cons _ X _ _ g1' g2' =>
            cases g1' with
            | sl _ _ _ _ _ ad room A' c' hσ hn' hcc hA' =>
              by_cases hcap : c' = n
              · subst hcap
                obtain ⟨l, N⟩ := h
                simp only [h_get] at g1 g2
                have run := (call_of G154_grows G154_ok (y := (_, _)) (ins_run2 (pc := pc) g1 g2 (show ¬ N = o from fun q => by have : o < N := lo; omega) (show ¬ N = p from fun q => by have : p < N := lp; omega) hA rfl (n := c') (n1 := c' + 1) (by omega) rfl rfl rfl c2 (by omega) c7 fB) hok).1
                refine (run w0 σ T w _ (by exact lim) (.cons _ _ _ _ (.sl _ _ _ _ _ ad room A' c' hσ hn' (fun k q => by cases q; rfl) hA') g2') r).mono (fun e w' he => ?_)
                obtain ⟨y, σ', T', h1, h2, h3, h4, h5⟩ := he
                have hN : ¬ N = o := fun q => by have : o < N := lo; omega
                have h6 := h4.kill o (by simp [hN, g1])
                refine ⟨y, σ', T', h1, h2, h3, h6.ext (fun q => ?_) rfl, h5⟩
                by_cases z : N = q
                · subst z
                  simp [hN]
                · simp [hN, z]
              · obtain ⟨hA1, hA2⟩ := hA' (by omega)
                obtain ⟨j, r2⟩ := r.junk g1 hσ (by rw [List.length_append]; omega)
                obtain ⟨h2, hh2⟩ : ∃ h2, h2 = h.set o (.row 3 (A ++ Bs ++ [j]) true) := ⟨_, rfl⟩
                rw [← hh2] at r2
                have k1 : h2.get o = .row 3 (A ++ (Bs ++ [j])) true := by rw [hh2, get_set_same _ hdo, List.append_assoc]
                have k2 : h2.get p = .row 3 [e0] true := by rw [hh2, get_set_ne (fun q => c3 q.symm), g2]
                have k3 : h2.n = h.n := by rw [hh2]; rfl
                have hok2 : h2.ok := by rw [hh2]; exact (Grows.set h o _).2 hok
                obtain ⟨l, N⟩ := h2
                simp only [h_get] at k1 k2
                have run := (call_of G154_grows G154_ok (y := (_, _)) (ins_run3 (b0 := []) (pc := pc) (N := N) k1 k2 c3 hA rfl (n := n) (n1 := n + 1) (by omega) rfl rfl rfl c2 (by omega) (k := c') (by omega) c7 fB) hok2).1
                refine (run w0 σ T w _ (by have : N = h.n := k3; show N ≤ w0.lim; omega) (.cons _ _ _ _ (.sl _ _ _ _ _ ad room A' c' hσ hn' (fun k q => by cases q; rfl) hA') g2') r2).mono (fun e w' he => ?_)
                obtain ⟨y, σ', T', h1, h2', h3, h4, h5⟩ := he
                cases h5 with
                | sl _ _ _ _ _ ad2 room2 A2 c2' s1 s2 s3 s4 =>
                  have hl : getL (setL l o (.row 3 (A ++ e0 :: Bs) true)) o = .row 3 (A ++ e0 :: Bs) true := getL_set_same _ l (by rw [k1]; simp)
                  have h6 := h4.move (by have : N = h.n := k3; show N < w0.lim; omega) (x := o) (by simpa using hl) s1
                  have k3' : N = h.n := k3
                  have le := h4.add_le (by have : N = h.n := k3; show N < w0.lim; omega) (ad2, room2)
                  subst k3'
                  refine ⟨_, _, T', h1, Sg.le_trans h2' le, h3, h6.ext (fun q => ?_) rfl, .sl _ _ _ _ _ ad2 room2 A2 c2' (Sg.add_same ..) s2 (fun k q => by cases q) s4⟩
                  show getL ((h.n, .row 3 (A ++ e0 :: Bs) true) :: setL h.l o .dead) q = getL ((h.n, .row 3 (A ++ e0 :: Bs) true) :: setL (setL l o (.row 3 (A ++ e0 :: Bs) true)) o .dead) q
                  rw [getL_cons, getL_cons]
                  by_cases z : h.n = q
                  · rw [if_pos z, if_pos z]
                  · rw [if_neg z, if_neg z]
                    by_cases z2 : o = q
                    · subst z2
                      rw [getL_set_same _ _ hdo, getL_set_same _ _ (by rw [hl]; simp)]
                    · rw [getL_set_ne z2, getL_set_ne z2, getL_set_ne z2]
                      have := congrArg (fun x : H => x.get q) hh2
                      rw [get_set_ne z2] at this
                      exact this.symm
      · cases e
    · cases e
  · cases e
/-- What is told at once. -/
def baseT : Told := fun f args h => if f = 179 then cloneT 1 args h else if f = 178 then cloneT 2 args h else if f = 95 then cloneT 3 args h else if f = 121 then cloneT 6 args h else if f = 123 then cloneT 6 args h else if f = 97 then insT args h else none
theorem baseT_grows : ToldGrows baseT := by
  intro f args h y e
  unfold baseT at e
  repeat' (split at e)
  all_goals first
    | exact cloneT_grows e
    | exact insT_grows e
    | cases e
theorem baseT_ok {f : FuncId} {args : List AV} {h : H} {y : AV × H} (e : baseT f args h = some y) (hok : h.ok) : (CallOk Tryz.prog f args h y.1 y.2 ∧ HasBody Tryz.prog f) ∨ (ExtOk Tryz.prog f args h y.1 y.2 ∧ ¬ HasBody Tryz.prog f) := by
  left
  unfold baseT at e
  repeat' (split at e)
  · rename_i q; subst q; exact clone_179 e hok
  · rename_i q; subst q; exact clone_178 e hok
  · rename_i q; subst q; exact clone_95 e hok
  · rename_i q; subst q; exact clone_121 e hok
  · rename_i q; subst q; exact clone_123 e hok
  · rename_i q; subst q; exact insT_ok e hok
  · cases e
end Go.Proofs.YtffopeihcebpjaaGreat.X
end
section
set_option linter.unusedVariables false
set_option linter.unusedSimpArgs false
namespace Go.Proofs.YtffopeihcebpjaaGreat.X
open Go
/-! A nil row told ps an empty one. -/
abbrev dz : DV := .v (.slice none 0 0)
mutual
inductive Gen : DV → DV → Prop
  | refl (d : DV) : Gen d d
  | nil (sz : Nat) : Gen dz (.sl sz [])
  | ag (ps qs : List DV) (h : Gens ps qs) : Gen (.ag ps) (.ag qs)
  | tu (ps qs : List DV) (h : Gens ps qs) : Gen (.tu ps) (.tu qs)
  | sl (sz : Nat) (ps qs : List (List DV)) (h : Genss ps qs) : Gen (.sl sz ps) (.sl sz qs)
inductive Gens : List DV → List DV → Prop
  | nil : Gens [] []
  | cons (a b : DV) (ps qs : List DV) (h : Gen a b) (hs : Gens ps qs) : Gens (a :: ps) (b :: qs)
inductive Genss : List (List DV) → List (List DV) → Prop
  | nil : Genss [] []
  | cons (a b : List DV) (ps qs : List (List DV)) (h : Gens a b) (hs : Genss ps qs) : Genss (a :: ps) (b :: qs)
end
theorem Gens.len : ∀ {ps qs : List DV}, Gens ps qs → ps.length = qs.length
  | _, _, .nil => rfl
  | _, _, .cons _ _ _ _ _ hs => by rw [List.length_cons, List.length_cons, hs.len]
theorem Genss.len : ∀ {ps qs : List (List DV)}, Genss ps qs → ps.length = qs.length
  | _, _, .nil => rfl
  | _, _, .cons _ _ _ _ _ hs => by rw [List.length_cons, List.length_cons, hs.len]
theorem Gens.get : ∀ {ps qs : List DV}, Gens ps qs → ∀ {i : Nat} {b : DV}, qs[i]? = some b → ∃ a, ps[i]? = some a ∧ Gen a b
  | _, _, .nil, i, b, h => by simp at h
  | _, _, .cons a _ _ _ g _, 0, b, h => by cases h; exact ⟨a, rfl, g⟩
  | _, _, .cons _ _ _ _ _ gs, i + 1, b, h => by rw [List.getElem?_cons_succ] at h ⊢; exact gs.get h
theorem Genss.get : ∀ {ps qs : List (List DV)}, Genss ps qs → ∀ {i : Nat} {b : List DV}, qs[i]? = some b → ∃ a, ps[i]? = some a ∧ Gens a b
  | _, _, .nil, i, b, h => by simp at h
  | _, _, .cons a _ _ _ g _, 0, b, h => by cases h; exact ⟨a, rfl, g⟩
  | _, _, .cons _ _ _ _ _ gs, i + 1, b, h => by rw [List.getElem?_cons_succ] at h ⊢; exact gs.get h
theorem Genss.mem {ps qs : List (List DV)} (g : Genss ps qs) {b : List DV} (h : b ∈ qs) : ∃ a ∈ ps, Gens a b := by
  obtain ⟨i, hi⟩ := List.getElem?_of_mem h
  obtain ⟨a, h1, h2⟩ := g.get hi
  exact ⟨a, List.mem_of_getElem? h1, h2⟩
mutual
theorem DVr.gen {T : Nat → Prop} {w : World} : ∀ {a b : DV} {x : Value}, Gen a b → DVr T w a x → DVr T w b x
  | _, _, _, .refl _, h => h
  | _, _, _, .nil sz, .v _ => .sl sz [] none 0 (fun _ _ => undef) (fun _ => rfl) (Nat.le_refl _) (fun _ h => by cases h) (fun i e j d h => by simp at h) (fun i e j d h => by simp at h)
  | _, _, _, .ag _ _ g, .ag _ _ h => .ag _ _ (DVrs.gen g h)
  | _, _, _, .tu _ _ g, .tu _ _ h => .tu _ _ (DVrs.gen g h)
  | _, _, _, .sl sz ps qs g, .sl _ _ A c vals hz hc hs ha hd => by
    rw [g.len]
    refine .sl sz qs A c vals hz (by rw [← g.len]; exact hc) (fun e he => ?_) (fun i e j d q1 q2 => ?_) (fun i e j d q1 q2 => ?_)
    · obtain ⟨a, h1, h2⟩ := g.mem he
      rw [← h2.len]
      exact hs a h1
    · obtain ⟨a, h1, h2⟩ := g.get q1
      obtain ⟨u, h3, h4⟩ := h2.get q2
      exact ha i a j u h1 h3
    · obtain ⟨a, h1, h2⟩ := g.get q1
      obtain ⟨u, h3, h4⟩ := h2.get q2
      exact DVr.gen h4 (hd i a j u h1 h3)
theorem DVrs.gen {T : Nat → Prop} {w : World} : ∀ {ps qs : List DV} {xs : List Value}, Gens ps qs → DVrs T w ps xs → DVrs T w qs xs
  | _, _, _, .nil, h => h
  | _, _, _, .cons _ _ _ _ g gs, .cons _ _ _ _ h hs => .cons _ _ _ _ (DVr.gen g h) (DVrs.gen gs hs)
end
/-! Contracts. -/
structure Con where
  f : FuncId
  K : List DV → Option DV
def lookC : List Con → FuncId → List DV → Option DV
  | [], _, _ => none
  | c :: r, f, ds => if c.f = f then c.K ds else lookC r f ds
@[simp] theorem look_nil (f : FuncId) (ds : List DV) : lookC [] f ds = none := rfl
def GC (L : List Con) : Told := fun f args h => match baseT f args h with
  | some r => some r
  | none => toldD (lookC L) f args h
def Con.ok (c : Con) : Prop := ∀ ds d, c.K ds = some d → DeepOk Tryz.prog c.f ds d ∧ HasBody Tryz.prog c.f
inductive ConsOk : List Con → Prop
  | nil : ConsOk []
  | cons (c : Con) (L : List Con) (h : c.ok) (hs : ConsOk L) : ConsOk (c :: L)
theorem ConsOk.look : ∀ {L : List Con}, ConsOk L → ∀ f ds d, lookC L f ds = some d → DeepOk Tryz.prog f ds d ∧ HasBody Tryz.prog f
  | _, .nil, f, ds, d, e => by cases e
  | _, .cons c L h hs, f, ds, d, e => by
    unfold lookC at e
    split at e
    · rename_i q; subst q; exact h ds d e
    · exact hs.look f ds d e
theorem GC_grows (L : List Con) : ToldGrows (GC L) := by
  intro f args h y e
  unfold GC at e
  split at e
  · rename_i r hr; cases e; exact baseT_grows _ _ _ _ hr
  · exact toldD_grows _ _ _ _ _ e
theorem GC_ok {L : List Con} (hL : ConsOk L) : ToldOk Tryz.prog (GC L) := by
  intro f args h y e hok
  unfold GC at e
  split at e
  · rename_i r hr; cases e; exact baseT_ok hr hok
  · exact (toldD_ok hL.look).any _ _ _ _ e hok
/-- A contract proved by a run over contracts. -/
theorem con_of {L : List Con} (hL : ConsOk L) {c : Con} (h : ∀ ds d, c.K ds = some d → ∃ n k m ds' d0, Gens ds ds' ∧ deepB Tryz.prog (GC L) n k m c.f ds' = some d0 ∧ Gen d0 d) : c.ok := by
  intro ds d e
  obtain ⟨n, k, m, ds', d0, g1, g2, g3⟩ := h ds d e
  obtain ⟨k1, k2⟩ := deepB_ok mixed sane (GC_grows _) (GC_ok hL) g2
  refine ⟨fun w T Args hT hd => ?_, k2⟩
  refine (k1 w T Args hT (hd.gen g1)).mono (fun e w' he => ?_)
  obtain ⟨y, T', q1, q2, q3, q4, q5, q6, q7, q8, q9, q10⟩ := he
  exact ⟨y, T', q1, q2, q3, q4, q5, q6, q7, q8, q9, q10.gen g3⟩
/-! Numbers, truth values, rows of numbers. -/
def unI : DV → Option Int
  | .v (.int .i64 n) => some n
  | _ => none
def unB : DV → Option Bool
  | .v (.bool b) => some b
  | _ => none
def elR (xs : List Int) : List (List DV) := xs.map fun x => [dn x]
def dR (xs : List Int) : DV := .sl 1 (elR xs)
def unE : List (List DV) → Option (List Int)
  | [] => some []
  | [.v (.int .i64 n)] :: r => (unE r).map (n :: ·)
  | _ => none
def unR : DV → Option (List Int)
  | .sl 1 els => unE els
  | .v (.slice none 0 0) => some []
  | _ => none
@[simp] theorem unI_dn (n : Int) : unI (dn n) = some n := rfl
@[simp] theorem unB_db (b : Bool) : unB (db b) = some b := rfl
@[simp] theorem unE_el (xs : List Int) : unE (elR xs) = some xs := by
  induction xs with
  | nil => rfl
  | cons x r ih => show (unE (elR r)).map (x :: ·) = _; rw [ih]; rfl
@[simp] theorem unR_el (xs : List Int) : unR (.sl 1 (elR xs)) = some xs := unE_el xs
@[simp] theorem unR_dz : unR dz = some [] := rfl
theorem unI_eq {d : DV} {n : Int} (h : unI d = some n) : d = dn n := by
  unfold unI at h
  split at h
  · cases h; rfl
  · cases h
theorem unB_eq {d : DV} {b : Bool} (h : unB d = some b) : d = db b := by
  unfold unB at h
  split at h
  · cases h; rfl
  · cases h
theorem unE_eq : ∀ {els : List (List DV)} {xs : List Int}, unE els = some xs → els = elR xs
  | [], xs, h => by cases h; rfl
  | e :: r, xs, h => by
    unfold unE at h
    split at h
    · rename_i q; cases q
    · rename_i n r' q
      cases q
      cases z : unE r with
      | none => rw [z] at h; cases h
      | some ys =>
        rw [z] at h
        cases h
        rw [unE_eq z]
        rfl
    · cases h
theorem unR_gen {d : DV} {xs : List Int} (h : unR d = some xs) : Gen d (dR xs) := by
  unfold unR at h
  split at h
  · rw [unE_eq h]; exact .refl _
  · cases h; exact .nil 1
  · cases h
@[simp] theorem elR_len (xs : List Int) : (elR xs).length = xs.length := List.length_map ..
@[simp] theorem elR_get (xs : List Int) (i : Nat) : (elR xs)[i]? = (xs[i]?).map fun x => [dn x] := List.getElem?_map
@[simp] theorem elR_drop (xs : List Int) (i : Nat) : (elR xs).drop i = elR (xs.drop i) := List.map_drop.symm
@[simp] theorem elR_take (xs : List Int) (i : Nat) : (elR xs).take i = elR (xs.take i) := List.map_take.symm
@[simp] theorem elR_app (xs ys : List Int) : elR xs ++ elR ys = elR (xs ++ ys) := List.map_append.symm
@[simp] theorem scal_v (x : Value) : scalD (.v x) = true := by unfold scalD; exact id rfl
@[simp] theorem scal_sl (sz : Nat) (els : List (List DV)) : scalD (.sl sz els) = false := by unfold scalD; exact id rfl
@[simp] theorem scal_ag (cs : List DV) : scalD (.ag cs) = scalL cs := by rw [scalD.eq_def]
@[simp] theorem scal_tu (cs : List DV) : scalD (.tu cs) = scalL cs := by rw [scalD.eq_def]
@[simp] theorem scal_nil : scalL [] = true := by rw [scalL.eq_def]
@[simp] theorem scal_cons (d : DV) (r : List DV) : scalL (d :: r) = (scalD d && scalL r) := by rw [scalL.eq_def]
@[simp] theorem baseT_eq (f : FuncId) (args : List AV) (h : H) : baseT f args h = if f = 179 then cloneT 1 args h else if f = 178 then cloneT 2 args h else if f = 95 then cloneT 3 args h else if f = 121 then cloneT 6 args h else if f = 123 then cloneT 6 args h else if f = 97 then insT args h else none := by unfold baseT; exact id rfl
@[simp] theorem GC_ap (L : List Con) (f : FuncId) (a : List AV) (h : H) : GC L f a h = tl (baseT f a h) fun _ => match sealL h a with
    | some r => match lookC L f r.1 with
      | some d => some (if scalD d then ((openD h d).1, h) else openD r.2 d)
      | none => none
    | none => none := by
  unfold GC
  cases baseT f a h <;> rfl
attribute [simp] deepA deepB
@[simp] theorem eqE_el (xs : List Int) : eqE (elR xs) (elR xs) = true := by
  induction xs with
  | nil => rfl
  | cons x r ih =>
    show (eqL [dn x] [dn x] && eqE (elR r) (elR r)) = true
    rw [ih]
    simp
/-- A slice whose numbers are known. -/
def RowI (h : H) (o off : Nat) (xs : List Int) : Prop := ∃ els own, h.get o = .row 1 els own ∧ ∀ i x, xs[i]? = some x → els[off + i]? = some [dn x]
theorem load_int {h : H} {o off i : Nat} {xs : List Int} {x : Int} (r : RowI h o off xs) (hx : xs[i]? = some x) : loadA Tryz.prog 3 (.pt o 1 (off + i) 0) h = some (I x, h) := by
  obtain ⟨els, own, h1, h2⟩ := r
  have := h2 i x hx
  simp [loadA, h1, this, packT, openL, openD, dn]
@[simp] theorem at_int (o off m : Nat) (c : Option Nat) (i : Nat) (h : i < m) : indexAddrA Tryz.prog 27 (.sl o 1 off m c) (I i) = some (.pt o 1 (off + i) 0) := by
  simp [indexAddrA, intOf, h]
/-- The place of the first. -/
def fIdx {α : Type} (p : α → Bool) : List α → Option Nat
  | [] => none
  | x :: r => if p x then some 0 else (fIdx p r).map (· + 1)
theorem fIdx_none {α : Type} {p : α → Bool} : ∀ {l : List α}, (∀ (j : Nat) (x : α), l[j]? = some x → p x = false) → fIdx p l = none
  | [], _ => rfl
  | x :: r, h => by
    unfold fIdx
    rw [h 0 x rfl, fIdx_none (l := r) (fun j y hy => h (j + 1) y hy)]
    rfl
theorem fIdx_some {α : Type} {p : α → Bool} : ∀ {l : List α} {i : Nat} {x : α}, l[i]? = some x → p x = true → (∀ (j : Nat) (y : α), j < i → l[j]? = some y → p y = false) → fIdx p l = some i
  | [], i, x, h, _, _ => by simp at h
  | a :: r, 0, x, h, hp, _ => by cases h; unfold fIdx; rw [hp]; rfl
  | a :: r, i + 1, x, h, hp, hj => by
    rw [List.getElem?_cons_succ] at h
    unfold fIdx
    rw [hj 0 a (Nat.zero_lt_succ _) rfl, fIdx_some h hp (fun j y hl hy => hj (j + 1) y (by omega) hy)]
    rfl
theorem fIdx_any {α : Type} {p : α → Bool} : ∀ {l : List α}, (fIdx p l).isSome = l.any p
  | [] => rfl
  | x :: r => by
    unfold fIdx
    rw [List.any_cons]
    cases p x
    · rw [Bool.false_or, ← fIdx_any (l := r)]
      cases fIdx p r <;> rfl
    · rfl
/-- The same as a number: -1, none. -/
def pIdx {α : Type} (p : α → Bool) (l : List α) : Int := match fIdx p l with
  | some i => i
  | none => -1
theorem pIdx_any {α : Type} {p : α → Bool} {l : List α} : decide (0 ≤ pIdx p l) = l.any p := by
  unfold pIdx
  rw [← fIdx_any]
  cases fIdx p l with
  | none => rfl
  | some i => simp
/-! Arguments taken one by one. -/
def argI (g : Int → List DV → Option DV) : List DV → Option DV
  | a :: r => (unI a).bind fun x => g x r
  | [] => none
def argB (g : Bool → List DV → Option DV) : List DV → Option DV
  | a :: r => (unB a).bind fun x => g x r
  | [] => none
def argR (g : List Int → List DV → Option DV) : List DV → Option DV
  | a :: r => (unR a).bind fun x => g x r
  | [] => none
def fin (o : Option DV) : List DV → Option DV
  | [] => o
  | _ => none
@[simp] theorem argI_dn (g : Int → List DV → Option DV) (n : Int) (r : List DV) : argI g (dn n :: r) = g n r := rfl
@[simp] theorem argB_db (g : Bool → List DV → Option DV) (b : Bool) (r : List DV) : argB g (db b :: r) = g b r := rfl
@[simp] theorem argR_el (g : List Int → List DV → Option DV) (xs : List Int) (r : List DV) : argR g (.sl 1 (elR xs) :: r) = g xs r := by
  show (unR (.sl 1 (elR xs))).bind _ = _
  rw [unR_el]
  rfl
@[simp] theorem argR_dz (g : List Int → List DV → Option DV) (r : List DV) : argR g (dz :: r) = g [] r := rfl
@[simp] theorem fin_nil (o : Option DV) : fin o [] = o := rfl
/-- A run over contracts tells what K tells; `pre`: arguments that have been taken. -/
def Sat (L : List Con) (f : FuncId) (pre : List DV) (K : List DV → Option DV) : Prop :=
  ∀ ds d, K ds = some d → ∃ n k m ds' d0, Gens ds ds' ∧ deepB Tryz.prog (GC L) n k m f (pre ++ ds') = some d0 ∧ Gen d0 d
section
variable {L : List Con} {f : FuncId} {pre : List DV}
theorem Sat.con (hL : ConsOk L) {K : List DV → Option DV} (h : Sat L f [] K) : Con.ok ⟨f, K⟩ := con_of hL fun ds d e => h ds d e
theorem Sat.arg {α : Type} {un : DV → Option α} {en : α → DV} (hu : ∀ d x, un d = some x → Gen d (en x)) {g : α → List DV → Option DV} (h : ∀ x, Sat L f (pre ++ [en x]) (g x)) : Sat L f pre (fun ds => match ds with
    | a :: r => (un a).bind fun x => g x r
    | [] => none) := by
  intro ds d e
  cases ds with
  | nil => cases e
  | cons a r =>
    simp only at e
    cases q : un a with
    | none => rw [q] at e; cases e
    | some x =>
      rw [q] at e
      obtain ⟨n, k, m, ds', d0, h1, h2, h3⟩ := h x r d e
      refine ⟨n, k, m, en x :: ds', d0, .cons _ _ _ _ (hu a x q) h1, ?_, h3⟩
      rw [List.append_assoc] at h2
      exact h2
theorem arg_eq {α : Type} {un : DV → Option α} {g : α → List DV → Option DV} {K : List DV → Option DV} (h : ∀ a r, K (a :: r) = (un a).bind fun x => g x r) (h0 : K [] = none) : K = (fun ds => match ds with
    | a :: r => (un a).bind fun x => g x r
    | [] => none) := by
  funext ds
  cases ds with
  | nil => exact h0
  | cons a r => exact h a r
theorem Sat.I {g : Int → List DV → Option DV} (h : ∀ x, Sat L f (pre ++ [dn x]) (g x)) : Sat L f pre (argI g) := by
  rw [arg_eq (K := argI g) (fun _ _ => rfl) rfl]
  exact Sat.arg (fun d x e => by rw [unI_eq e]; exact .refl _) h
theorem Sat.B {g : Bool → List DV → Option DV} (h : ∀ x, Sat L f (pre ++ [db x]) (g x)) : Sat L f pre (argB g) := by
  rw [arg_eq (K := argB g) (fun _ _ => rfl) rfl]
  exact Sat.arg (fun d x e => by rw [unB_eq e]; exact .refl _) h
theorem Sat.R {g : List Int → List DV → Option DV} (h : ∀ x, Sat L f (pre ++ [.sl 1 (elR x)]) (g x)) : Sat L f pre (argR g) := by
  rw [arg_eq (K := argR g) (fun _ _ => rfl) rfl]
  exact Sat.arg (fun d x e => unR_gen e) h
theorem Sat.fin {x : DV} (n k m : Nat) (h : deepB Tryz.prog (GC L) n k m f pre = some x) : Sat L f pre (fin (some x)) := by
  intro ds d e
  cases ds with
  | nil =>
    cases e
    exact ⟨n, k, m, [], _, .nil, by rw [List.append_nil]; exact h, .refl _⟩
  | cons a r => cases e
theorem Sat.opt {o : Option DV} (h : ∀ d, o = some d → ∃ n k m d0, deepB Tryz.prog (GC L) n k m f pre = some d0 ∧ Gen d0 d) : Sat L f pre (X.fin o) := by
  intro ds d e
  cases ds with
  | nil =>
    obtain ⟨n, k, m, d0, h1, h2⟩ := h d e
    exact ⟨n, k, m, [], d0, .nil, by rw [List.append_nil]; exact h1, h2⟩
  | cons a r => cases e
theorem Sat.cond {c : Prop} [Decidable c] {x : DV} (n k m : Nat) (h : c → deepB Tryz.prog (GC L) n k m f pre = some x) : Sat L f pre (X.fin (if c then some x else none)) :=
  Sat.opt fun d e => by
    by_cases q : c
    · rw [if_pos q] at e; cases e; exact ⟨n, k, m, _, h q, .refl _⟩
    · rw [if_neg q] at e; cases e
end
end Go.Proofs.YtffopeihcebpjaaGreat.X
end
section
set_option linter.unusedVariables false
set_option linter.unusedSimpArgs false
set_option maxRecDepth 10000
set_option maxHeartbeats 4000000
namespace Go.Proofs.YtffopeihcebpjaaGreat.X
open Go
def pCut (x : Int) : Int := pMin 1073741824 (pMax (-1073741824) x)
def pTimes (a b : Int) : Int := pCut ((w64 (a * b)).fdiv 65536)
def pPlus (a b : Int) : Int := pCut (w64 (a + b))
def pFix (a : Int) : Bool := decide (-1073741824 ≤ a) && decide (a ≤ 1073741824)
def pHard (x : Int) : Int := pMin 65536 (pMax (-65536) x)
def pRise (x : Int) : Int := if -65536 < x ∧ x < 65536 then 65536 else 0
def pIn (x a b : Int) : Bool := decide (a ≤ x) && decide (x ≤ b)
def pMix (x : Int) : Int := pAnd (w64 (w64 (pXor x (x.fdiv 32768) * 1103515) + 12345)) 2147483647
theorem mix_fold (x : Int) : pAnd (w64 (w64 (pXor x (x.fdiv 32768) * 1103515) + 12345)) 2147483647 = pMix x := rfl
def pDraw (s k : Int) : Int := (pMix (pMix (pMix (pAnd (w64 (w64 (w64 (40503 * s) + w64 (30011 * k)) + 12345)) 2147483647)))).fdiv 256 |>.tmod 65536
def pDrawMay (s k : Int) : Bool := pIn s 0 65535 && pIn k 0 1048576
def pPick (s k b : Int) : Int := w64 ((w64 (pDraw s k * b)).tdiv 65536)
def K134 := argI fun a => fin (some (dn (pCut a)))
def K71 := argI fun a => argI fun b => fin (some (dn (pTimes a b)))
def K68 := argI fun a => argI fun b => fin (some (dn (pPlus a b)))
def K66 := argI fun a => fin (some (db (pFix a)))
def K135 := argI fun a => fin (some (dn (pHard a)))
def K72 := argI fun a => fin (some (dn (pRise a)))
def K77 := argI fun x => argI fun a => argI fun b => fin (some (db (pIn x a b)))
def K63 := argI fun s => fin (some (db (pIn s 0 65535)))
def K64 := argI fun s => fin (some (db (decide (0 ≤ s) && decide (s < 8))))
def K87 := argI fun s => argI fun k => fin (some (db (pDrawMay s k)))
def K30 := argI fun s => argI fun k => fin (some (if pDrawMay s k then .tu [dn (pDraw s k), dn 0] else .tu [dn 0, dn 300]))
theorem ok134 : Con.ok ⟨134, K134⟩ := Sat.con .nil (.I fun a => .fin 1 1 2 (by simp -implicitDefEqProofs [cb Tryz.func134, Tryz.f134, pCut]))
def L1 : List Con := [⟨134, K134⟩]
theorem lk1 (f : FuncId) (ds : List DV) : lookC L1 f ds = if 134 = f then K134 ds else none := rfl
theorem L1ok : ConsOk L1 := .cons _ _ ok134 .nil
theorem ok71 : Con.ok ⟨71, K71⟩ := Sat.con L1ok (.I fun a => .I fun b => .fin 1 1 2 (by simp -implicitDefEqProofs [cb Tryz.func71, Tryz.f71, pTimes, lk1, K134]))
theorem ok68 : Con.ok ⟨68, K68⟩ := Sat.con L1ok (.I fun a => .I fun b => .fin 1 1 2 (by simp -implicitDefEqProofs [cb Tryz.func68, Tryz.f68, pPlus, lk1, K134]))
theorem ok66 : Con.ok ⟨66, K66⟩ := Sat.con .nil (.I fun a => .fin 1 1 2 (by
  by_cases h1 : -1073741824 ≤ a <;> by_cases h2 : a ≤ 1073741824 <;> simp -implicitDefEqProofs [cb Tryz.func66, Tryz.f66, pFix, h1, h2]))
theorem ok135 : Con.ok ⟨135, K135⟩ := Sat.con .nil (.I fun a => .fin 1 1 2 (by simp -implicitDefEqProofs [cb Tryz.func135, Tryz.f135, pHard]))
theorem ok72 : Con.ok ⟨72, K72⟩ := Sat.con .nil (.I fun a => .fin 1 1 2 (by
  by_cases h1 : -65536 < a <;> by_cases h2 : a < 65536 <;> simp -implicitDefEqProofs [cb Tryz.func72, Tryz.f72, pRise, h1, h2]))
theorem ok77 : Con.ok ⟨77, K77⟩ := Sat.con .nil (.I fun x => .I fun a => .I fun b => .fin 1 1 2 (by
  by_cases h1 : a ≤ x <;> by_cases h2 : x ≤ b <;> simp -implicitDefEqProofs [cb Tryz.func77, Tryz.f77, pIn, h1, h2]))
theorem ok63 : Con.ok ⟨63, K63⟩ := Sat.con .nil (.I fun a => .fin 1 1 2 (by
  by_cases h1 : 0 ≤ a <;> by_cases h2 : a ≤ 65535 <;> simp -implicitDefEqProofs [cb Tryz.func63, Tryz.f63, pIn, h1, h2]))
theorem ok64 : Con.ok ⟨64, K64⟩ := Sat.con .nil (.I fun a => .fin 1 1 2 (by
  by_cases h1 : 0 ≤ a <;> by_cases h2 : a < 8 <;> simp -implicitDefEqProofs [cb Tryz.func64, Tryz.f64, h1, h2]))
def L2 : List Con := [⟨71, K71⟩, ⟨68, K68⟩, ⟨66, K66⟩, ⟨135, K135⟩, ⟨72, K72⟩, ⟨77, K77⟩, ⟨63, K63⟩, ⟨64, K64⟩, ⟨134, K134⟩]
theorem lk2 (f : FuncId) (ds : List DV) : lookC L2 f ds = if 71 = f then K71 ds else if 68 = f then K68 ds else if 66 = f then K66 ds else if 135 = f then K135 ds else if 72 = f then K72 ds else if 77 = f then K77 ds else if 63 = f then K63 ds else if 64 = f then K64 ds else if 134 = f then K134 ds else none := rfl
theorem L2ok : ConsOk L2 := .cons _ _ ok71 <| .cons _ _ ok68 <| .cons _ _ ok66 <| .cons _ _ ok135 <| .cons _ _ ok72 <| .cons _ _ ok77 <| .cons _ _ ok63 <| .cons _ _ ok64 L1ok
theorem ok87 : Con.ok ⟨87, K87⟩ := Sat.con L2ok (.I fun s => .I fun k => .fin 1 1 2 (by
  cases h0 : pIn s 0 65535 <;> by_cases h1 : 0 ≤ k <;> by_cases h2 : k ≤ 1048576 <;> simp -implicitDefEqProofs [cb Tryz.func87, Tryz.f87, pDrawMay, lk2, lk1, K63, h0, show pIn k 0 1048576 = (decide (0 ≤ k) && decide (k ≤ 1048576)) from rfl, h1, h2]))
def L3 : List Con := ⟨87, K87⟩ :: L2
theorem lk3 (f : FuncId) (ds : List DV) : lookC L3 f ds = if 87 = f then K87 ds else lookC L2 f ds := rfl
theorem L3ok : ConsOk L3 := .cons _ _ ok87 L2ok
/-- A scope that is gone through three times. -/
theorem scope3 {low : Code → Run} {b b' : Code} {n l : Nat} {st : St} {r : Option (Ex × St)} (hX : scopeN low b (n + 3) b st = r) (I1 I2 Q : St → Prop) (hb : findLabel b l = some b') (h1 : ∃ s, low b st = some (.goto l, s) ∧ I1 s)
    (h2 : ∀ s, I1 s → ∃ s', low b' s = some (.goto l, s') ∧ I2 s') (h3 : ∀ s, I2 s → ∃ s', low b' s = some (.ret, s') ∧ Q s') : ∃ s, r = some (.ret, s) ∧ Q s := by
  obtain ⟨s1, a1, a2⟩ := h1
  obtain ⟨s2, b1, b2⟩ := h2 s1 a2
  obtain ⟨s3, c1, c2⟩ := h3 s2 b2
  refine ⟨s3, ?_, c2⟩
  rw [← hX]
  simp [scopeN, a1, hb, b1, c1]
theorem ok30 : Con.ok ⟨30, K30⟩ := Sat.con L3ok (.I fun s => .I fun k => .fin 9 3 2 (by
  cases h : pDrawMay s k
  · simp -implicitDefEqProofs [cb Tryz.func30, Tryz.f30, lk3, lk2, lk1, K87, h, k_scope, scopeN]
  · obtain ⟨C, hC⟩ : ∃ C, C = callN Tryz.prog (GC L3) 9 3 2 := ⟨_, rfl⟩
    have hc : C 87 [I s, I k] ⟨[], 0⟩ = some (B true, ⟨[], 0⟩) := by rw [hC]; simp [lk3, lk2, lk1, K87, h]
    simp -implicitDefEqProofs [cb Tryz.func30, Tryz.f30, k_scope]
    rw [← hC]
    clear hC
    obtain ⟨x0, hx0⟩ : ∃ x, pAnd (w64 (w64 (w64 (40503 * s) + w64 (30011 * k)) + 12345)) 2147483647 = x := ⟨_, rfl⟩
    generalize hX : scopeN _ _ _ _ _ = r
    obtain ⟨st, rfl, q1, q2, q3⟩ := scope3 (l := 0) hX (fun st => st.h = ⟨[], 0⟩ ∧ st.tm.length = 33 ∧ tget st.tm 6 = I (pMix x0) ∧ tget st.tm 7 = I 2) (fun st => st.h = ⟨[], 0⟩ ∧ st.tm.length = 33 ∧ tget st.tm 6 = I (pMix (pMix x0)) ∧ tget st.tm 7 = I 1)
      (fun st => st.h = ⟨[], 0⟩ ∧ tget st.tm 4 = I (pDraw s k) ∧ tget st.tm 5 = I 0) rfl (by simp -implicitDefEqProofs [hc, mix_fold, hx0]) (fun st ⟨f1, f2, f3, f4⟩ => by simp -implicitDefEqProofs [f1, f2, f3, f4, mix_fold]) (fun st ⟨f1, f2, f3, f4⟩ => by simp -implicitDefEqProofs [f1, f2, f3, f4, mix_fold, pDraw, hx0])
    simp -implicitDefEqProofs [q1, q2, q3]))
end Go.Proofs.YtffopeihcebpjaaGreat.X
end
section
set_option linter.unusedVariables false
set_option linter.unusedSimpArgs false
set_option maxRecDepth 10000
set_option maxHeartbeats 4000000
namespace Go.Proofs.YtffopeihcebpjaaGreat.X
open Go
/-! Two numbers as one value. -/
def un2 : DV → Option (Int × Int)
  | .ag [.v (.int .i64 a), .v (.int .i64 b)] => some (a, b)
  | _ => none
def d2 (p : Int × Int) : DV := .ag [dn p.1, dn p.2]
theorem un2_eq {d : DV} {p : Int × Int} (h : un2 d = some p) : d = d2 p := by
  unfold un2 at h
  split at h
  · cases h; rfl
  · cases h
def arg2 (g : Int → Int → List DV → Option DV) : List DV → Option DV
  | a :: r => (un2 a).bind fun p => g p.1 p.2 r
  | [] => none
@[simp] theorem arg2_ag (g : Int → Int → List DV → Option DV) (a b : Int) (r : List DV) : arg2 g (.ag [dn a, dn b] :: r) = g a b r := rfl
theorem Sat.P {L : List Con} {f : FuncId} {pre : List DV} {g : Int → Int → List DV → Option DV} (h : ∀ a b, Sat L f (pre ++ [.ag [dn a, dn b]]) (g a b)) : Sat L f pre (arg2 g) := by
  rw [arg_eq (K := arg2 g) (un := un2) (g := fun p => g p.1 p.2) (fun _ _ => rfl) rfl]
  exact Sat.arg (en := d2) (fun d x e => by rw [un2_eq e]; exact .refl _) (fun p => h p.1 p.2)
def L4 : List Con := ⟨30, K30⟩ :: L3
theorem lk4 (f : FuncId) (ds : List DV) : lookC L4 f ds = if 30 = f then K30 ds else lookC L3 f ds := rfl
theorem L4ok : ConsOk L4 := .cons _ _ ok30 L3ok
def pPickOk (s k b : Int) : Bool := pDrawMay s k && (decide (1 ≤ b) && decide (b ≤ 65536))
def K33 := argI fun s => argI fun k => argI fun b => fin (some (if pPickOk s k b then .tu [dn (pPick s k b), dn 0] else .tu [dn 0, dn 300]))
theorem ok33 : Con.ok ⟨33, K33⟩ := Sat.con L4ok (.I fun s => .I fun k => .I fun b => .fin 9 1 2 (by
  cases h : pDrawMay s k
  · simp -implicitDefEqProofs [cb Tryz.func33, Tryz.f33, lk4, lk3, lk2, lk1, K30, h, pPickOk]
  · by_cases h1 : b < 1
    · simp -implicitDefEqProofs [cb Tryz.func33, Tryz.f33, lk4, lk3, lk2, lk1, K30, h, pPickOk, h1, show ¬ 1 ≤ b by omega]
    · by_cases h2 : 65536 < b
      · simp -implicitDefEqProofs [cb Tryz.func33, Tryz.f33, lk4, lk3, lk2, lk1, K30, h, pPickOk, h1, h2, show ¬ b ≤ 65536 by omega]
      · simp -implicitDefEqProofs [cb Tryz.func33, Tryz.f33, lk4, lk3, lk2, lk1, K30, h, pPickOk, h1, h2, show 1 ≤ b by omega, show b ≤ 65536 by omega, pPick]))
def pHyper (r m : Int) : Bool := decide (64 ≤ r) && (decide (r ≤ 16384) && (decide (0 ≤ m) && decide (m ≤ 58982)))
def pShape (i h : Int) : Bool := decide (1 ≤ i) && (decide (i ≤ 3) && (decide (1 ≤ h) && decide (h ≤ 3)))
def pMany (i h : Int) : Int := w64 (w64 (w64 (h * w64 (i + 1)) + h) + 1)
def K75 := arg2 fun r m => fin (some (db (pHyper r m)))
def K138 := arg2 fun i h => fin (some (db (pShape i h)))
def K182 := arg2 fun i h => fin (some (dn (pMany i h)))
theorem ok75 : Con.ok ⟨75, K75⟩ := Sat.con .nil (.P fun r m => .fin 9 1 2 (by
  by_cases h1 : 64 ≤ r <;> by_cases h2 : r ≤ 16384 <;> by_cases h3 : 0 ≤ m <;> by_cases h4 : m ≤ 58982 <;> simp -implicitDefEqProofs [cb Tryz.func75, Tryz.f75, pHyper, h1, h2, h3, h4]))
theorem ok138 : Con.ok ⟨138, K138⟩ := Sat.con .nil (.P fun r m => .fin 9 1 2 (by
  by_cases h1 : 1 ≤ r <;> by_cases h2 : r ≤ 3 <;> by_cases h3 : 1 ≤ m <;> by_cases h4 : m ≤ 3 <;> simp -implicitDefEqProofs [cb Tryz.func138, Tryz.f138, pShape, h1, h2, h3, h4]))
theorem ok182 : Con.ok ⟨182, K182⟩ := Sat.con .nil (.P fun r m => .fin 9 1 2 (by simp -implicitDefEqProofs [cb Tryz.func182, Tryz.f182, pMany]))
end Go.Proofs.YtffopeihcebpjaaGreat.X
end
section
set_option linter.unusedVariables false
set_option linter.unusedSimpArgs false
set_option maxRecDepth 10000
set_option maxHeartbeats 4000000
namespace Go.Proofs.YtffopeihcebpjaaGreat.X
open Go
theorem idx193 (C : Told) (n k : Nat) (p : Int → Bool) (xs : List Int) (h : H) (o off : Nat) (c : Option Nat) (fv : FuncId) (hr : RowI h o off xs) (hc : ∀ x ∈ xs, C fv [I x] h = some (B (p x), h)) (hn : xs.length < n) (hs : xs.length < 2 ^ 60) :
    callB Tryz.prog n (k + 1) C 193 [.sl o 1 off xs.length c, .fn fv []] h = some (I (pIdx p xs), h) := by
  simp -implicitDefEqProofs [cb Tryz.func193, Tryz.f193, k_loop]
  generalize hL : loopN _ n _ = r
  obtain ⟨e, st', rfl, q⟩ := loop_use hL xs.length (fun i st => st.h = h ∧ st.tm.length = 19 ∧ tget st.tm 0 = .sl o 1 off xs.length c ∧ tget st.tm 1 = .fn fv [] ∧ tget st.tm 7 = I xs.length ∧ tget st.tm 8 = I i ∧ ∀ j y, j < i → xs[j]? = some y → p y = false)
    (fun e st => st.h = h ∧ st.tm.length = 19 ∧ ((e = .exit 0 ∧ fIdx p xs = none) ∨ (e = .ret ∧ ∃ i : Nat, fIdx p xs = some i ∧ tget st.tm 4 = I i))) hn (by simp) (fun i st hi ⟨f1, f2, f3, f4, f5, f6, f7⟩ => by
      have hxi : xs[i]? = some xs[i] := List.getElem?_eq_getElem hi
      have hcx := hc xs[i] (List.getElem_mem hi)
      have w : w64 ((i : Int) + 1) = ((i + 1 : Nat) : Int) := w64_id (by omega) (by omega)
      cases hp : p xs[i] with
      | false =>
        left
        simp -implicitDefEqProofs [f1, f2, f3, f4, f5, f6, hi, load_int hr hxi, hcx, hp, w]
        intro j y hj hy
        rcases Nat.lt_or_eq_of_le (show j ≤ i by omega) with z | rfl
        · exact f7 j y z hy
        · rw [hxi] at hy; cases hy; exact hp
      | true =>
        right
        refine ⟨.ret, ?_⟩
        simp -implicitDefEqProofs [f1, f2, f3, f4, f5, f6, hi, load_int hr hxi, hcx, hp]
        exact ⟨i, fIdx_some hxi hp f7, rfl⟩)
    (fun st ⟨f1, f2, f3, f4, f5, f6, f7⟩ => by
      refine ⟨.exit 0, ?_⟩
      simp -implicitDefEqProofs [f1, f2, f3, f4, f5, f6]
      exact fIdx_none fun j y hy => f7 j y (List.getElem?_eq_some_iff.1 hy).1 hy)
  obtain ⟨q1, q2, ⟨rfl, q3⟩ | ⟨rfl, i, q3, q4⟩⟩ := q
  · simp -implicitDefEqProofs [q1, q2, q3, pIdx]
  · simp -implicitDefEqProofs [q1, q2, q3, q4, pIdx]
theorem seal_fn (h : H) (a : AV) (f : FuncId) (c : List AV) : sealL h [a, .fn f c] = none := by
  unfold sealL
  cases sealD h a with
  | none => rfl
  | some x => rfl
def L5 : List Con := ⟨75, K75⟩ :: ⟨138, K138⟩ :: ⟨182, K182⟩ :: ⟨33, K33⟩ :: L4
theorem lk5 (f : FuncId) (ds : List DV) : lookC L5 f ds = if 75 = f then K75 ds else if 138 = f then K138 ds else if 182 = f then K182 ds else if 33 = f then K33 ds else lookC L4 f ds := rfl
theorem L5ok : ConsOk L5 := .cons _ _ ok75 <| .cons _ _ ok138 <| .cons _ _ ok182 <| .cons _ _ ok33 L4ok
def pVec (xs : List Int) : Bool := decide (xs.length ≤ 16) && xs.all pFix
def K136 := argR fun xs => fin (some (db (pVec xs)))
theorem ok136 : Con.ok ⟨136, K136⟩ := Sat.con L2ok (.R fun xs => .fin 99 1 9 (by
  by_cases hl : xs.length ≤ 16
  · have hr : RowI ⟨[(0, .row 1 (elR xs) false)], 1⟩ 0 0 xs := ⟨elR xs, false, rfl, fun i x hx => by simp [hx]⟩
    have H := idx193 (callN Tryz.prog (GC L2) 99 1 7) 99 0 (fun x => !pFix x) xs _ 0 0 none 183 hr (fun x _ => by simp -implicitDefEqProofs [cb Tryz.func183, Tryz.f183, lk2, lk1, K66]) (by omega) (by omega)
    rw [Nat.zero_add] at H
    have e : xs.all pFix = !(xs.any fun x => !pFix x) := by simp [List.not_any_eq_all_not]
    simp -implicitDefEqProofs [cb Tryz.func136, Tryz.f136, cb Tryz.func184, Tryz.f184, lk2, lk1, hl, seal_fn, H, pVec, e, pIdx_any, show (xs.length : Int) ≤ 16 by omega]
  · simp -implicitDefEqProofs [cb Tryz.func136, Tryz.f136, lk2, lk1, hl, pVec, show ¬ (xs.length : Int) ≤ 16 by omega]))
def L6 : List Con := ⟨136, K136⟩ :: L5
theorem lk6 (f : FuncId) (ds : List DV) : lookC L6 f ds = if 136 = f then K136 ds else lookC L5 f ds := rfl
theorem L6ok : ConsOk L6 := .cons _ _ ok136 L5ok
def pFits (i h : Int) (ws : List Int) : Bool := pShape i h && (decide ((ws.length : Int) = pMany i h) && pVec ws)
def K130 := arg2 fun i h => argR fun ws => fin (some (db (pFits i h ws)))
theorem ok130 : Con.ok ⟨130, K130⟩ := Sat.con L6ok (.P fun i h => .R fun ws => .fin 9 1 2 (by
  cases h1 : pShape i h <;> by_cases h2 : (ws.length : Int) = pMany i h <;> cases h3 : pVec ws <;> simp -implicitDefEqProofs [cb Tryz.func130, Tryz.f130, lk6, lk5, lk4, lk3, lk2, lk1, K138, K182, K136, pFits, h1, h2, h3]))
def pInputs (i : Int) (xs : List Int) : Bool := decide ((xs.length : Int) = i) && pVec xs
def K131 := arg2 fun i h => argR fun xs => fin (some (db (pInputs i xs)))
theorem ok131 : Con.ok ⟨131, K131⟩ := Sat.con L6ok (.P fun i h => .R fun xs => .fin 9 1 2 (by
  by_cases h2 : (xs.length : Int) = i <;> cases h3 : pVec xs <;> simp -implicitDefEqProofs [cb Tryz.func131, Tryz.f131, lk6, lk5, lk4, lk3, lk2, lk1, K136, pInputs, h2, h3]))
def K76 := arg2 fun r m => fin (some (db (pHyper r m)))
theorem ok76 : Con.ok ⟨76, K76⟩ := Sat.con L6ok (.P fun r m => .fin 9 1 2 (by simp -implicitDefEqProofs [cb Tryz.func76, Tryz.f76, lk6, lk5, lk4, lk3, lk2, lk1, K75]))
def pRowOk (s m t n : Int) : Bool := pIn s 0 65535 && ((decide (0 ≤ m) && decide (m < 8)) && (decide (0 ≤ t) && (decide (t ≤ 32) && (decide (1 ≤ n) && decide (n ≤ 8)))))
def pRow (s m t n : Int) : Int := if pPickOk s (w64 (w64 (4096 * m) + t)) n then pPick s (w64 (w64 (4096 * m) + t)) n else 0
def K21 := argI fun s => argI fun m => argI fun t => argI fun n => fin (some (if pRowOk s m t n then .tu [dn (pRow s m t n), dn 0] else .tu [dn 0, dn 900]))
theorem ok21 : Con.ok ⟨21, K21⟩ := Sat.con L6ok (.I fun s => .I fun m => .I fun t => .I fun n => .fin 9 1 2 (by
  cases h0 : pIn s 0 65535
  · simp -implicitDefEqProofs [cb Tryz.func21, Tryz.f21, lk6, lk5, lk4, lk3, lk2, lk1, K63, K64, K33, h0, pRowOk]
  cases h1 : (decide (0 ≤ m) && decide (m < 8))
  · simp -implicitDefEqProofs [cb Tryz.func21, Tryz.f21, lk6, lk5, lk4, lk3, lk2, lk1, K63, K64, K33, h0, h1, pRowOk]
  by_cases h2 : t < 0
  · simp -implicitDefEqProofs [cb Tryz.func21, Tryz.f21, lk6, lk5, lk4, lk3, lk2, lk1, K63, K64, K33, h0, h1, h2, pRowOk, show ¬ 0 ≤ t by omega]
  by_cases h3 : 32 < t
  · simp -implicitDefEqProofs [cb Tryz.func21, Tryz.f21, lk6, lk5, lk4, lk3, lk2, lk1, K63, K64, K33, h0, h1, h2, h3, pRowOk, show ¬ t ≤ 32 by omega]
  by_cases h4 : n < 1
  · simp -implicitDefEqProofs [cb Tryz.func21, Tryz.f21, lk6, lk5, lk4, lk3, lk2, lk1, K63, K64, K33, h0, h1, h2, h3, h4, pRowOk, show ¬ 1 ≤ n by omega]
  by_cases h5 : 8 < n
  · simp -implicitDefEqProofs [cb Tryz.func21, Tryz.f21, lk6, lk5, lk4, lk3, lk2, lk1, K63, K64, K33, h0, h1, h2, h3, h4, h5, pRowOk, show ¬ n ≤ 8 by omega]
  cases h6 : pPickOk s (w64 (w64 (4096 * m) + t)) n
  · simp -implicitDefEqProofs [cb Tryz.func21, Tryz.f21, lk6, lk5, lk4, lk3, lk2, lk1, K63, K64, K33, h0, h1, h2, h3, h4, h5, h6, pRowOk, pRow, show 0 ≤ t by omega, show t ≤ 32 by omega, show 1 ≤ n by omega, show n ≤ 8 by omega]
  · simp -implicitDefEqProofs [cb Tryz.func21, Tryz.f21, lk6, lk5, lk4, lk3, lk2, lk1, K63, K64, K33, h0, h1, h2, h3, h4, h5, h6, pRowOk, pRow, show 0 ≤ t by omega, show t ≤ 32 by omega, show 1 ≤ n by omega, show n ≤ 8 by omega]))
end Go.Proofs.YtffopeihcebpjaaGreat.X
end
section
set_option linter.unusedVariables false
set_option linter.unusedSimpArgs false
namespace Go.Proofs.YtffopeihcebpjaaGreat.X
open Go
structure Chk where
  ws : List Int
  vs : List Int
  r : Int
  m : Int
  s : Int
def enC (c : Chk) : DV := .ag [.sl 1 (elR c.ws), .sl 1 (elR c.vs), dn c.r, dn c.m, dn c.s]
def unC : DV → Option Chk
  | .ag [a, b, .v (.int .i64 r), .v (.int .i64 m), .v (.int .i64 s)] => (unR a).bind fun ws => (unR b).bind fun vs => some ⟨ws, vs, r, m, s⟩
  | _ => none
theorem unC_gen {d : DV} {c : Chk} (h : unC d = some c) : Gen d (enC c) := by
  unfold unC at h
  split at h
  · rename_i a b r m s
    cases q1 : unR a with
    | none => rw [q1] at h; cases h
    | some ws =>
      cases q2 : unR b with
      | none => rw [q1, q2] at h; cases h
      | some vs =>
        rw [q1, q2] at h
        cases h
        exact .ag _ _ (.cons _ _ _ _ (unR_gen q1) (.cons _ _ _ _ (unR_gen q2) (.cons _ _ _ _ (.refl _) (.cons _ _ _ _ (.refl _) (.cons _ _ _ _ (.refl _) .nil)))))
  · cases h
def argC (g : Chk → List DV → Option DV) : List DV → Option DV
  | a :: r => (unC a).bind fun x => g x r
  | [] => none
@[simp] theorem argC_ag (g : Chk → List DV → Option DV) (ws vs : List Int) (r m s : Int) (q : List DV) : argC g (.ag [.sl 1 (elR ws), .sl 1 (elR vs), dn r, dn m, dn s] :: q) = g ⟨ws, vs, r, m, s⟩ q := by
  simp [argC, unC]
@[simp] theorem argC_z (g : Chk → List DV → Option DV) (r m s : Int) (q : List DV) : argC g (.ag [dz, dz, dn r, dn m, dn s] :: q) = g ⟨[], [], r, m, s⟩ q := by
  simp [argC, unC]
abbrev Rw := List Int × Int
def enW (w : Rw) : List DV := [.sl 1 (elR w.1), dn w.2]
def unW : List DV → Option Rw
  | [a, .v (.int .i64 y)] => (unR a).bind fun xs => some (xs, y)
  | _ => none
def unWs : List (List DV) → Option (List Rw)
  | [] => some []
  | e :: r => (unW e).bind fun w => (unWs r).bind fun ws => some (w :: ws)
def unRows : DV → Option (List Rw)
  | .sl 2 els => unWs els
  | .v (.slice none 0 0) => some []
  | _ => none
def elW (ws : List Rw) : List (List DV) := ws.map enW
theorem unW_gen {e : List DV} {w : Rw} (h : unW e = some w) : Gens e (enW w) := by
  unfold unW at h
  split at h
  · rename_i a y
    cases q : unR a with
    | none => rw [q] at h; cases h
    | some xs =>
      rw [q] at h
      cases h
      exact .cons _ _ _ _ (unR_gen q) (.cons _ _ _ _ (.refl _) .nil)
  · cases h
theorem unWs_gen : ∀ {els : List (List DV)} {ws : List Rw}, unWs els = some ws → Genss els (elW ws)
  | [], ws, h => by cases h; exact .nil
  | e :: r, ws, h => by
    unfold unWs at h
    cases q1 : unW e with
    | none => rw [q1] at h; cases h
    | some w =>
      cases q2 : unWs r with
      | none => rw [q1, q2] at h; cases h
      | some us =>
        rw [q1, q2] at h
        cases h
        exact .cons _ _ _ _ (unW_gen q1) (unWs_gen q2)
theorem unRows_gen {d : DV} {ws : List Rw} (h : unRows d = some ws) : Gen d (.sl 2 (elW ws)) := by
  unfold unRows at h
  split at h
  · exact .sl _ _ _ (unWs_gen h)
  · cases h; exact .nil 2
  · cases h
@[simp] theorem unW_en (w : Rw) : unW (enW w) = some w := by simp [unW, enW]
@[simp] theorem unWs_el (ws : List Rw) : unWs (elW ws) = some ws := by
  induction ws with
  | nil => rfl
  | cons w r ih =>
    show (unW (enW w)).bind (fun w => (unWs (elW r)).bind fun ws => some (w :: ws)) = _
    rw [unW_en, ih]
    rfl
@[simp] theorem unRows_el (ws : List Rw) : unRows (.sl 2 (elW ws)) = some ws := unWs_el ws
@[simp] theorem elW_len (ws : List Rw) : (elW ws).length = ws.length := List.length_map ..
@[simp] theorem elW_get (ws : List Rw) (i : Nat) : (elW ws)[i]? = (ws[i]?).map enW := List.getElem?_map
@[simp] theorem elW_drop (ws : List Rw) (i : Nat) : (elW ws).drop i = elW (ws.drop i) := List.map_drop.symm
@[simp] theorem elW_take (ws : List Rw) (i : Nat) : (elW ws).take i = elW (ws.take i) := List.map_take.symm
@[simp] theorem eqE_elW (ws : List Rw) : eqE (elW ws) (elW ws) = true := by
  induction ws with
  | nil => rfl
  | cons w r ih =>
    show (eqL (enW w) (enW w) && eqE (elW r) (elW r)) = true
    rw [ih]
    simp [enW]
structure Cfg where
  mem : Int
  inn : Int
  hid : Int
  rows : List Rw
  seed : Int
  total : Int
  intv : Int
  cut : Int
  pert : Bool
def enG (c : Cfg) : DV := .ag [dn c.mem, dn c.inn, dn c.hid, .sl 2 (elW c.rows), dn c.seed, dn c.total, dn c.intv, dn c.cut, db c.pert]
def unG : DV → Option Cfg
  | .ag [.v (.int .i64 a), .v (.int .i64 b), .v (.int .i64 c), rs, .v (.int .i64 d), .v (.int .i64 e), .v (.int .i64 f), .v (.int .i64 g), .v (.bool p)] => (unRows rs).bind fun rows => some ⟨a, b, c, rows, d, e, f, g, p⟩
  | _ => none
theorem unG_gen {d : DV} {c : Cfg} (h : unG d = some c) : Gen d (enG c) := by
  unfold unG at h
  split at h
  · rename_i rs _ _ _ _ _
    cases q1 : unRows rs with
    | none => rw [q1] at h; cases h
    | some rows =>
      rw [q1] at h
      cases h
      exact .ag _ _ (.cons _ _ _ _ (.refl _) (.cons _ _ _ _ (.refl _) (.cons _ _ _ _ (.refl _) (.cons _ _ _ _ (unRows_gen q1) (.cons _ _ _ _ (.refl _) (.cons _ _ _ _ (.refl _) (.cons _ _ _ _ (.refl _) (.cons _ _ _ _ (.refl _) (.cons _ _ _ _ (.refl _) .nil)))))))))
  · cases h
def argG (g : Cfg → List DV → Option DV) : List DV → Option DV
  | a :: r => (unG a).bind fun x => g x r
  | [] => none
@[simp] theorem argG_ag (k : Cfg → List DV → Option DV) (a b c : Int) (rows : List Rw) (d e f g : Int) (p : Bool) (q : List DV) : argG k (.ag [dn a, dn b, dn c, .sl 2 (elW rows), dn d, dn e, dn f, dn g, db p] :: q) = k ⟨a, b, c, rows, d, e, f, g, p⟩ q := by
  simp [argG, unG]
def argRs (g : List Rw → List DV → Option DV) : List DV → Option DV
  | a :: r => (unRows a).bind fun x => g x r
  | [] => none
@[simp] theorem argRs_el (g : List Rw → List DV → Option DV) (ws : List Rw) (q : List DV) : argRs g (.sl 2 (elW ws) :: q) = g ws q := by
  simp [argRs]
def unWv : DV → Option Rw
  | .ag e => unW e
  | _ => none
def argW (g : Rw → List DV → Option DV) : List DV → Option DV
  | a :: r => (unWv a).bind fun x => g x r
  | [] => none
@[simp] theorem argW_ag (g : Rw → List DV → Option DV) (xs : List Int) (y : Int) (q : List DV) : argW g (.ag [.sl 1 (elR xs), dn y] :: q) = g (xs, y) q := by
  simp [argW, unWv, unW]
section
variable {L : List Con} {f : FuncId} {pre : List DV}
theorem Sat.C {g : Chk → List DV → Option DV} (h : ∀ c, Sat L f (pre ++ [enC c]) (g c)) : Sat L f pre (argC g) := by
  rw [arg_eq (K := argC g) (fun _ _ => rfl) rfl]
  exact Sat.arg (fun d x e => unC_gen e) h
theorem Sat.G {g : Cfg → List DV → Option DV} (h : ∀ c, Sat L f (pre ++ [enG c]) (g c)) : Sat L f pre (argG g) := by
  rw [arg_eq (K := argG g) (fun _ _ => rfl) rfl]
  exact Sat.arg (fun d x e => unG_gen e) h
theorem Sat.Rs {g : List Rw → List DV → Option DV} (h : ∀ c, Sat L f (pre ++ [.sl 2 (elW c)]) (g c)) : Sat L f pre (argRs g) := by
  rw [arg_eq (K := argRs g) (fun _ _ => rfl) rfl]
  exact Sat.arg (fun d x e => unRows_gen e) h
theorem Sat.W {g : Rw → List DV → Option DV} (h : ∀ c, Sat L f (pre ++ [.ag (enW c)]) (g c)) : Sat L f pre (argW g) := by
  rw [arg_eq (K := argW g) (fun _ _ => rfl) rfl]
  refine Sat.arg (fun d x e => ?_) h
  unfold unWv at e
  split at e
  · exact .ag _ _ (unW_gen e)
  · cases e
end
end Go.Proofs.YtffopeihcebpjaaGreat.X
end
