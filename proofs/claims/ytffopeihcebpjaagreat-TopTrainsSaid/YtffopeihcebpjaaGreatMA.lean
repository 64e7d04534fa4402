/- The executor: what a translated function does, told over values without addresses and a heap of numbered objects. What the executor's values and objects stand for in a world. How the executor's heap goes with a world: objects made, written, told anew. Deep values made out of the executor's values, and opened again. Loads and stores. Stores. The operations, but calls. Operations on two values, slicing, what is built. What is built and made. Rows made. What is appended and copied: the cells of slices and strings. -/
import Derived.Control
import Derived.KernelRfl
import Derived.Below
import Derived.Tactics
section
set_option linter.unusedVariables false
set_option linter.unusedSimpArgs false
namespace Go.Proofs.YtffopeihcebpjaaGreat.X
open Go
/-- Deep values: no address in them. sz: how many cells an element has. -/
inductive DV where
  | v (x : Value)
  | sl (sz : Nat) (els : List (List DV))
  | ag (cs : List DV)
  | tu (vs : List DV)
  deriving Inhabited
/-- Values: a plain one; a slice of object o (element size sz, off and n in elements, c its room if known); a pointer to cell f of element i of object o; cells; a tuple; a closure; a map; unknown. -/
inductive AV where
  | v (x : Value)
  | sl (o sz off n : Nat) (c : Option Nat)
  | pt (o sz i f : Nat)
  | ag (cs : List AV)
  | tu (vs : List AV)
  | fn (f : FuncId) (cap : List AV)
  | mp (o : Nat)
  | un
  deriving Inhabited
inductive Ob where
  | box (cs : List AV)
  | row (sz : Nat) (els : List (List DV)) (own : Bool)
  | map (es : List (Int × Int))
  | dead
  deriving Inhabited
structure H where
  l : List (Nat × Ob)
  n : Nat
  deriving Inhabited
def getL : List (Nat × Ob) → Nat → Ob
  | [], _ => .dead
  | (k, b) :: r, o => if Nat.beq k o then b else getL r o
def setL : List (Nat × Ob) → Nat → Ob → List (Nat × Ob)
  | [], _, _ => []
  | (k, b) :: r, o, x => if Nat.beq k o then (k, x) :: r else (k, b) :: setL r o x
def H.get (h : H) (o : Nat) : Ob := getL h.l o
def H.set (h : H) (o : Nat) (x : Ob) : H := ⟨setL h.l o x, h.n⟩
def H.new (h : H) (x : Ob) : H := ⟨(h.n, x) :: h.l, h.n + 1⟩
def AV.cells : AV → List AV
  | .ag cs => cs
  | .v (.agg cs) => cs.toList.map .v
  | x => [x]
/-- The cells of a value that is known. -/
def AV.parts : AV → Option (List AV)
  | .un => none
  | x => some x.cells
/-- Is a type of cells, a struct or an array? -/
def aggT (P : Program) (t : TypeId) : Option Bool := match P.underlying t with
  | some (.struct _) => some true
  | some (.array _ _) => some true
  | some _ => some false
  | none => none
def sizeT (P : Program) (t : TypeId) : Option Nat := match P.info? t with
  | some i => some i.size
  | none => none
/-- How many cells are loaded of a type; and whether as one. -/
def wideT (P : Program) (t : TypeId) : Option (Bool × Nat) := match aggT P t with
  | some true => match sizeT P t with
    | some n => some (true, n)
    | none => none
  | some false => some (false, 1)
  | none => none
def zeroT (P : Program) (t : TypeId) : Option (List AV) := match P.info? t with
  | some i => i.zero.map fun z => (AV.v z).cells
  | none => none
def packT (b : Bool) (cs : List AV) : Option AV := if b then some (.ag cs) else match cs with
  | [x] => some x
  | _ => none
mutual
/-- A deep value opened: nested slices become new rows that are only read. -/
def openD (h : H) : DV → AV × H
  | .v x => (.v x, h)
  | .sl sz els => (.sl h.n sz 0 els.length none, h.new (.row sz els false))
  | .ag cs => let r := openL h cs; (.ag r.1, r.2)
  | .tu vs => let r := openL h vs; (.tu r.1, r.2)
def openL (h : H) : List DV → List AV × H
  | [] => ([], h)
  | d :: r => let a := openD h d; let b := openL a.2 r; (a.1 :: b.1, b.2)
end
mutual
/-- A value made deep: rows of one's own become rows that are only read. -/
def sealD (h : H) : AV → Option (DV × H)
  | .v x => some (.v x, h)
  | .sl o sz off n _ => match h.get o with
    | .row sz' els own => if sz' = sz ∧ off + n ≤ els.length then some (.sl sz ((els.drop off).take n), if own then h.set o (.row sz els false) else h) else none
    | _ => none
  | .ag cs => match sealL h cs with
    | some r => some (.ag r.1, r.2)
    | none => none
  | .tu vs => match sealL h vs with
    | some r => some (.tu r.1, r.2)
    | none => none
  | _ => none
def sealL (h : H) : List AV → Option (List DV × H)
  | [] => some ([], h)
  | a :: r => match sealD h a with
    | none => none
    | some x => match sealL x.2 r with
      | none => none
      | some y => some (x.1 :: y.1, y.2)
end
def putCells {α : Type} : List α → Nat → List α → List α
  | cs, _, [] => cs
  | cs, i, x :: r => putCells (cs.set i x) (i + 1) r
/-- A load. -/
def loadA (P : Program) (t : TypeId) (a : AV) (h : H) : Option (AV × H) :=
  match a, wideT P t with
  | .pt o sz i f, some wd => match h.get o with
    | .box cs => if f + wd.2 ≤ cs.length ∧ i = 0 then match packT wd.1 ((cs.drop f).take wd.2) with
        | some x => some (x, h)
        | none => none
      else none
    | .row sz' els _ => match els[i]? with
      | some e => if f + wd.2 ≤ e.length ∧ sz' = sz then match packT wd.1 (openL h ((e.drop f).take wd.2)).1 with
          | some x => some (x, (openL h ((e.drop f).take wd.2)).2)
          | none => none
        else none
      | none => none
    | _ => none
  | _, _ => none
/-- Does a value lie in one cell? -/
def oneV : Value → Bool
  | .agg _ => false
  | .tuple _ => false
  | _ => true
def oneA : AV → Bool
  | .v x => oneV x
  | .sl .. => true
  | .pt .. => true
  | .fn .. => true
  | .mp _ => true
  | _ => false
/-- A store. -/
def storeA (a : AV) (xs : List AV) (h : H) : Option H :=
  if !xs.all oneA then none else
  match a with
  | .pt o sz i f => match h.get o with
    | .box cs => if f + xs.length ≤ cs.length ∧ i = 0 then some (h.set o (.box (putCells cs f xs))) else none
    | .row _ _ true => match sealL h xs with
      | some r => match r.2.get o with
        | .row sz' els true => match els[i]? with
          | some e => if f + r.1.length ≤ e.length ∧ sz' = sz then some (r.2.set o (.row sz (els.set i (putCells e f r.1)) true)) else none
          | none => none
        | _ => none
      | none => none
    | _ => none
  | _ => none
def evalA (tm : List AV) : Operand → AV
  | .tmp t => tm.getD t .un
  | .const v => .v v
  | .global _ => .un
  | .func f => .fn f []
def allV : List AV → Option (List Value)
  | [] => some []
  | .v x :: r => (allV r).map (x :: ·)
  | _ :: _ => none
def toV : AV → Option Value
  | .v x => some x
  | .ag cs => (allV cs).map fun l => .agg l.toArray
  | _ => none
/-- What an operation gives that asks nothing of the world. -/
def plain {α : Type} (P : Program) : Sem α → Option α
  | .pure a => some a
  | .program k => plain P (k P)
  | _ => none
def isNilV : Value → Bool
  | .slice none _ _ => true
  | _ => false
def plainV (P : Program) (s : Sem Value) : Option AV := (plain P s).map .v
def binA (P : Program) (op : BinOp) (t : TypeId) (ox oy : Operand) (x y : AV) : Option AV :=
  match x, y with
  | .sl _ _ _ n _, .v z => if isNilV z ∧ n ≠ 0 then match P.underlying t, op with
      | some (.slice _), .eql => some (.v (.bool false))
      | some (.slice _), .neq => some (.v (.bool true))
      | _, _ => none
      else none
  | _, _ => match toV x, toV y with
    | some a, some b => plainV P (do eqGuard op t ox oy a b; binOp op t a b)
    | _, _ => none
def intOf : AV → Option Int
  | .v (.int _ n) => some n
  | _ => none
def fieldsT (P : Program) (t : TypeId) : Array Field := match P.underlying t with
  | some (.struct fs) => fs
  | _ => #[]
def partA (P : Program) (t : TypeId) (cs : List AV) (off : Nat) : Option AV :=
  match wideT P t with
  | some (true, n) => some (.ag ((cs.drop off).take n))
  | some (false, _) => cs[off]?
  | none => none
def fillA (place : Nat → Option (Nat × Nat)) (cells : List AV) : List (Nat × AV) → Option (List AV)
  | [] => some cells
  | (i, v) :: rest => match place i, v.parts with
    | some p, some vs => if vs.length = p.2 ∧ p.1 + p.2 ≤ cells.length then fillA place (putCells cells p.1 vs) rest else none
    | _, _ => none
def placesA (P : Program) : List Field → Option (List (Nat × Nat))
  | [] => some []
  | f :: r => match sizeT P f.type, placesA P r with
    | some s, some l => some ((f.offset, s) :: l)
    | _, _ => none
def chunk {α : Type} (sz : Nat) : Nat → List α → List (List α)
  | 0, _ => []
  | n + 1, l => l.take sz :: chunk sz n (l.drop sz)
/-- A bound of a slicing, from lo to hi; d where none is given. -/
def boundA (o : Option AV) (lo hi d : Nat) : Option Nat := match o with
  | none => some d
  | some a => match intOf a with
    | some i => if (lo : Int) ≤ i ∧ i ≤ hi then some i.toNat else none
    | none => none
def sliceA (P : Program) (t : TypeId) (x : AV) (lo hi mx : Option AV) : Option AV :=
  match x, P.underlying t with
  | .v (.string s), some .string => match mx, boundA hi 0 s.size s.size with
    | none, some h => match boundA lo 0 h 0 with
      | some l => some (.v (.string (s.extract l h)))
      | none => none
    | _, _ => none
  | .v (.slice none 0 0), some (.slice e) => match mx, boundA hi 0 0 0, boundA lo 0 0 0, sizeT P e with
    | none, some _, some _, some _ => some x
    | _, _, _, _ => none
  | .sl o sz off n c, some (.slice e) => if sizeT P e = some sz then match mx with
    | none => match boundA hi 0 (c.getD n) n with
      | some h => match boundA lo 0 h 0 with
        | some l => some (.sl o sz (off + l) (h - l) (c.map (· - l)))
        | none => none
      | none => none
    | some m => match boundA (some m) 0 n n, hi with
      | some m, some hi => match boundA (some hi) 0 m m with
        | some h => match boundA lo 0 h 0 with
          | some l => some (.sl o sz (off + l) (h - l) (some (m - l)))
          | none => none
        | none => none
      | _, _ => none
    else none
  | _, _ => none
/-- The elements that a slice or a string gives, and the objects read. -/
def elsOf (h : H) : AV → Option (List (List DV))
  | .v (.slice none 0 0) => some []
  | .v (.string s) => some (s.data.toList.map fun b => [DV.v (.int .u8 b.toNat)])
  | .sl o sz off n _ => match h.get o with
    | .row sz' els _ => if sz' = sz ∧ off + n ≤ els.length then some ((els.drop off).take n) else none
    | _ => none
  | _ => none
/-- The same, of elements of so many cells. -/
def elsAt (h : H) (es : Nat) : AV → Option (List (List DV))
  | .v (.slice _ 0 _) => some []
  | .v (.string s) => if es = 1 then some (s.data.toList.map fun b => [DV.v (.int .u8 b.toNat)]) else none
  | .sl o sz off n _ => match h.get o with
    | .row sz' els _ => if sz' = sz ∧ sz = es ∧ off + n ≤ els.length then some ((els.drop off).take n) else none
    | _ => none
  | _ => none
/-- The length that a program asks for. -/
def lenB (P : Program) (ts : Array TypeId) (x : AV) : Option AV := match (ts[0]?).bind P.underlying, x with
  | some (.array n _), _ => some (.v (.int .i64 n))
  | some (.pointer a), _ => match P.underlying a with
    | some (.array n _) => some (.v (.int .i64 n))
    | _ => none
  | some (.slice _), .sl _ _ _ n _ => some (.v (.int .i64 n))
  | some (.slice _), .v (.slice _ n _) => some (.v (.int .i64 n))
  | some .string, .v (.string s) => some (.v (.int .i64 s.size))
  | _, _ => none
/-- The room that a program asks for, where it is known. -/
def capB (P : Program) (ts : Array TypeId) (x : AV) : Option AV := match (ts[0]?).bind P.underlying, x with
  | some (.slice _), .sl _ _ _ _ (some n) => some (.v (.int .i64 n))
  | some (.slice _), .v (.slice _ _ n) => some (.v (.int .i64 n))
  | _, _ => none
def elemT (P : Program) (t : TypeId) : Option TypeId := match P.underlying t with
  | some (.slice e) => some e
  | _ => none
def objOf : AV → List Nat
  | .sl o .. => [o]
  | .pt o .. => [o]
  | .mp o => [o]
  | _ => []
/-- The most elements that an append may make: its bytes stay below what a memory bears. -/
def roomA (P : Program) (e : TypeId) (n : Nat) : Bool := match P.info? e with
  | some i => decide (n ≤ 35184372088832 ∧ n * i.bytes ≤ 35184372088832)
  | none => false
def zerosA (P : Program) (e : TypeId) (h : H) : Option (List DV) := match zeroT P e with
  | some z => match sealL h z with
    | some r => some r.1
    | none => none
  | none => none
def oneD : DV → Bool
  | .v x => oneV x
  | .sl .. => true
  | _ => false
def flatD (els : List (List DV)) : Bool := els.all (·.all oneD)
def newA (P : Program) (ts : Array TypeId) (e : TypeId) (es : Nat) (x : AV) (h : H) : Option (List (List DV)) := match (ts[1]?).bind P.underlying with
  | some (.int _) => match intOf x, zerosA P e h with
    | some n, some z => if 0 ≤ n ∧ n ≤ 35184372088832 then some (List.replicate n.toNat z) else none
    | _, _ => none
  | some _ => elsAt h es x
  | none => none
/-- Is a room known, and less than so many? -/
def overC : Option Nat → Nat → Bool
  | some k, m => decide (k < m)
  | none, _ => false
def appendA (P : Program) (ts : Array TypeId) (s x : AV) (h : H) : Option (AV × H) :=
  match elemT P (ts.getD 0 0), (elemT P (ts.getD 0 0)).bind (sizeT P), (elemT P (ts.getD 0 0)).bind (zerosA P · h) with
  | some e, some es, some zs => if zs.length ≠ es then none else
    match newA P ts e es x h with
    | none => none
    | some new => if !flatD new then none else match s with
      | .v (.slice none 0 0) => if roomA P e new.length then (match new with
          | [] => some (s, h)
          | _ => some (.sl h.n es 0 new.length none, h.new (.row es new true))) else none
      | .sl o sz off n c => match h.get o with
        | .row sz' els own => if sz' = sz ∧ es = sz ∧ roomA P e (n + new.length) then
            (if overC c (n + new.length) ∧ off + n ≤ els.length then some (.sl h.n sz 0 (n + new.length) none, h.new (.row sz ((els.drop off).take n ++ new) true))
            else if own ∧ off = 0 ∧ n ≤ els.length then some (.sl h.n sz 0 (n + new.length) none, (h.set o .dead).new (.row sz (els.take n ++ new) true))
            else if c = some 0 ∧ n = 0 then (match new with
              | [] => some (s, h)
              | _ => some (.sl h.n sz 0 new.length none, h.new (.row sz new true)))
            else none) else none
        | _ => none
      | _ => none
  | _, _, _ => none
def copyA (es : Nat) (dst : AV) (new : List (List DV)) (h : H) : Option (AV × H) := match dst with
  | .sl o sz off n _ => match h.get o with
    | .row sz' els true => if sz' = sz ∧ sz = es ∧ off + n ≤ els.length ∧ flatD (new.take (min new.length n)) = true then
        some (.v (.int .i64 (min new.length n : Nat)), h.set o (.row sz (els.take off ++ new.take (min new.length n) ++ els.drop (off + min new.length n)) true)) else none
    | _ => none
  | .v (.slice none 0 0) => some (.v (.int .i64 0), h)
  | _ => none
def clearA (P : Program) (ts : Array TypeId) (x : AV) (h : H) : Option (AV × H) := match x, (ts[0]?).bind (elemT P) with
  | .sl o sz off n _, some e => match h.get o, zerosA P e h with
    | .row sz' els true, some z => if sz' = sz ∧ sizeT P e = some sz ∧ off + n ≤ els.length ∧ z.length = sz ∧ z.all oneD then
        some (.tu [], h.set o (.row sz (els.take off ++ List.replicate n z ++ els.drop (off + n)) true)) else none
    | _, _ => none
  | .v (.slice none 0 0), some _ => some (.tu [], h)
  | _, _ => none
def bytesA : List (List DV) → Option (List UInt8)
  | [] => some []
  | [.v (.int .u8 n)] :: r => (bytesA r).map (UInt8.ofNat n.toNat :: ·)
  | _ :: _ => none
def convB (P : Program) (s d : TypeId) (x : AV) (els : Option (List (List DV))) : Option AV :=
  match P.underlying s, P.underlying d, x with
  | some .string, some (.slice _), _ => none
  | some (.slice _), some .string, .v (.string _) => none
  | some (.slice e), some .string, x => match P.underlying e, els with
    | some (.int .u8), some els => match bytesA els with
      | some l => some (.v (.string ⟨l.toArray⟩))
      | none => none
    | _, _ => none
  | _, _, .v y => plainV P (convert s d y)
  | _, _, _ => none
def convA (P : Program) (s d : TypeId) (x : AV) (h : H) : Option (AV × H) := match convB P s d x (elsAt h 1 x) with
  | some a => some (a, h)
  | none => none
/-- A builtin function: its answer, and what objects it writes. -/
def builtinA (P : Program) (b : Builtin) (ts : Array TypeId) (type : TypeId) (args : List AV) (h : H) : Option (AV × H × List Nat) :=
  match b, args with
  | .len, [x] => match lenB P ts x with
    | some v => some (v, h, [])
    | none => none
  | .cap, [x] => match capB P ts x with
    | some v => some (v, h, [])
    | none => none
  | .append, [s, x] => match appendA P ts s x h with
    | some r => some (r.1, r.2, objOf s)
    | none => none
  | .copy, [d, s] => match (ts[0]?).bind (elemT P) with
    | some e => match sizeT P e with
      | some es => match elsAt h es s with
        | some n => match copyA es d n h with
          | some r => some (r.1, r.2, objOf d)
          | none => none
        | none => none
      | none => none
    | none => none
  | .clear, [x] => match clearA P ts x h with
    | some r => some (r.1, r.2, objOf x)
    | none => none
  | .min, args => match allV args with
    | some vs => match plainV P (Builtin.min_ ts type vs.toArray) with
      | some v => some (v, h, [])
      | none => none
    | none => none
  | .max, args => match allV args with
    | some vs => match plainV P (Builtin.max_ ts type vs.toArray) with
      | some v => some (v, h, [])
      | none => none
    | none => none
  | _, _ => none
def updM (k x : Int) : List (Int × Int) → List (Int × Int)
  | [] => [(k, x)]
  | e :: r => if e.1 = k then (k, x) :: r else e :: updM k x r
def findM (k : Int) : List (Int × Int) → Int
  | [] => 0
  | e :: r => if e.1 = k then e.2 else findM k r
abbrev Res := Option (AV × H × List Nat)
def okv (a : Option AV) (h : H) : Res := match a with
  | some a => some (a, h, [])
  | none => none
def okr (r : Option (AV × H)) : Res := match r with
  | some r => some (r.1, r.2, [])
  | none => none
def pickO (c a b : AV) (h : H) : Res := match c with
  | .v (.bool b') => some (if b' then a else b, h, [])
  | _ => none
def boxO (z : Option (List AV)) (h : H) : Res := match z with
  | some z => some (.pt h.n 0 0 0, h.new (.box z), [])
  | none => none
def storeO (P : Program) (t : TypeId) (a x : AV) (h : H) : Res := match x.parts with
  | some cs => if some cs.length = sizeT P t then match storeA a cs h with
      | some h' => some (.un, h', objOf a)
      | none => none
    else none
  | none => none
def nilO (x : AV) (h : H) : Res := match x with
  | .pt o sz i f => some (.pt o sz i f, h, [])
  | .fn f c => some (.fn f c, h, [])
  | _ => none
def unA (P : Program) (op : UnOp) (x : AV) : Option AV := match x with
  | .v a => plainV P (Op.unary op a)
  | _ => none
def fieldAddrA (P : Program) (t : TypeId) (x : AV) (f : Nat) : Option AV := match x, (fieldsT P t)[f]? with
  | .pt o sz i g, some fl => match sizeT P fl.type with
    | some (_ + 1) => some (.pt o sz i (g + fl.offset))
    | _ => none
  | _, _ => none
def fieldA (P : Program) (t : TypeId) (x : AV) (f : Nat) : Option AV := match (fieldsT P t)[f]?, x with
  | some fl, .ag cs => partA P fl.type cs fl.offset
  | some fl, .v (.agg cs) => partA P fl.type (cs.toList.map .v) fl.offset
  | _, _ => none
def indexAddrA (P : Program) (t : TypeId) (x i : AV) : Option AV := match intOf i, P.underlying t, x with
  | some k, some (.slice e), .sl o sz off n c => if 0 ≤ k ∧ k < n ∧ sizeT P e = some sz then some (.pt o sz (off + k.toNat) 0) else none
  | some k, some (.array n e), .pt o sz i g => match sizeT P e with
    | some s => if 0 ≤ k ∧ k < n then some (.pt o sz i (g + k.toNat * s)) else none
    | none => none
  | _, _, _ => none
def indexA (P : Program) (t : TypeId) (x i : AV) : Option AV := match intOf i, P.underlying t, x with
  | some k, some .string, .v (.string s) => if 0 ≤ k then match s[k.toNat]? with
      | some b => some (.v (.int .u8 b.toNat))
      | none => none
    else none
  | _, _, _ => none
def buildA (P : Program) (t : TypeId) (ps : List (Nat × AV)) : Option AV := match zeroT P t, P.underlying t with
  | some z, some (.struct fs) => match placesA P fs.toList with
    | some pl => match fillA (fun i => pl[i]?) z ps with
      | some c => some (.ag c)
      | none => none
    | none => none
  | some z, some (.array _ e) => match sizeT P e with
    | some s => match fillA (fun i => some (i * s, s)) z ps with
      | some c => some (.ag c)
      | none => none
    | none => none
  | _, _ => none
def buildSliceA (P : Program) (t : TypeId) (len : Nat) (ps : List (Nat × AV)) (h : H) : Res := match elemT P t with
  | some e => match zeroT P e with
    | some z => match sizeT P e with
      | some s => if len * s ≤ 16777216 ∧ z.length = s then match fillA (fun i => some (i * s, s)) (List.replicate len z).flatten ps with
          | some cs => match sealL h cs with
            | some r => some (.sl r.2.n s 0 len none, r.2.new (.row s (chunk s len r.1) true), [])
            | none => none
          | none => none
          else none
      | none => none
    | none => none
  | none => none
def makeSliceA (P : Program) (t : TypeId) (l c : AV) (h : H) : Res := match elemT P t with
  | some e => match intOf l, intOf c, zerosA P e h, sizeT P e with
    | some l, some c, some z, some s => if 0 ≤ l ∧ l ≤ c ∧ roomA P e c.toNat ∧ z.length = s then
        some (.sl h.n s 0 l.toNat none, h.new (.row s (List.replicate l.toNat z) true), [])
      else none
    | _, _, _, _ => none
  | none => none
def makeFuncA (f : Fn) (fs : Array Operand) (cap : List AV) (h : H) : Res := match f with
  | .func f => if fs.isEmpty then some (.fn f cap, h, []) else none
  | _ => none
def makeMapA (x : Option Operand) (h : H) : Res := match x with
  | none => some (.mp h.n, h.new (.map []), [])
  | _ => none
def lookupA (P : Program) (t : TypeId) (m k : AV) (ok : Bool) (h : H) : Res := match ok, P.underlying t, m, k with
  | false, some (.map kt et), .mp o, .v (.int .i64 k) => match P.underlying kt, (P.info? et).bind (·.zero), h.get o with
    | some (.int .i64), some (.int .i64 0), .map es => some (.v (.int .i64 (findM k es)), h, [])
    | _, _, _ => none
  | _, _, _, _ => none
def mapUpdateA (P : Program) (t : TypeId) (m k x : AV) (h : H) : Res := match P.underlying t, m, k, x with
  | some (.map kt _), .mp o, .v (.int .i64 k), .v (.int .i64 x) => match P.underlying kt, h.get o with
    | some (.int .i64), .map es => some (.un, h.set o (.map (updM k x es)), [o])
    | _, _ => none
  | _, _, _, _ => none
def extractA (t : AV) (i : Nat) (h : H) : Res := match t with
  | .tu vs => okv vs[i]? h
  | _ => none
def bcallA (P : Program) (c : Call) (ty : TypeId) (args : List AV) (h : H) : Res := match c.callee with
  | .builtin b => builtinA P b c.argTypes ty args h
  | _ => none
def partsE (tm : List AV) (parts : Array (Nat × Operand)) : List (Nat × AV) := parts.toList.map fun p => (p.1, evalA tm p.2)
/-- What operations but calls of functions do: the value, the heap, the objects written. -/
def opA (P : Program) (tm : List AV) (h : H) (o : Oper) : Res :=
  match o.op with
  | .move x => okv (some (evalA tm x)) h
  | .assign x => okv (some (evalA tm x)) h
  | .pick c a b => pickO (evalA tm c) (evalA tm a) (evalA tm b) h
  | .alloc t => boxO (zeroT P t) h
  | .box _ x => boxO (evalA tm x).parts h
  | .load t a => okr (loadA P t (evalA tm a) h)
  | .store t a x => storeO P t (evalA tm a) (evalA tm x) h
  | .nilCheck x => nilO (evalA tm x) h
  | .binOp op t x y _ => okv (binA P op t x y (evalA tm x) (evalA tm y)) h
  | .unOp op _ x => okv (unA P op (evalA tm x)) h
  | .convert s d x => okr (convA P s d (evalA tm x) h)
  | .fieldAddr t x f => okv (fieldAddrA P t (evalA tm x) f) h
  | .field t x f => okv (fieldA P t (evalA tm x) f) h
  | .indexAddr t x i => okv (indexAddrA P t (evalA tm x) (evalA tm i)) h
  | .index t x i => okv (indexA P t (evalA tm x) (evalA tm i)) h
  | .slice t x lo hi mx => okv (sliceA P t (evalA tm x) (lo.map (evalA tm)) (hi.map (evalA tm)) (mx.map (evalA tm))) h
  | .build t parts => okv (buildA P t (partsE tm parts)) h
  | .buildSlice t len parts => buildSliceA P t len (partsE tm parts) h
  | .makeSlice t l c => makeSliceA P t (evalA tm l) (evalA tm c) h
  | .makeFunc f fs cap => makeFuncA f fs (cap.toList.map (evalA tm)) h
  | .makeMap _ x => makeMapA x h
  | .lookup t m k ok => lookupA P t (evalA tm m) (evalA tm k) ok h
  | .mapUpdate t m k x => mapUpdateA P t (evalA tm m) (evalA tm k) (evalA tm x) h
  | .extract t i => extractA (evalA tm t) i h
  | .call c => bcallA P c o.type (c.args.toList.map (evalA tm)) h
  | _ => none
/-- The same, in one. -/
def opA0 (P : Program) (tm : List AV) (h : H) (o : Oper) : Option (AV × H × List Nat) :=
  match o.op with
  | .move x => some (evalA tm x, h, [])
  | .assign x => some (evalA tm x, h, [])
  | .pick c a b => match evalA tm c with
    | .v (.bool b') => some (if b' then evalA tm a else evalA tm b, h, [])
    | _ => none
  | .alloc t => match zeroT P t with
    | some z => some (.pt h.n 0 0 0, h.new (.box z), [])
    | none => none
  | .box t x => match (evalA tm x).parts with
    | some cs => some (.pt h.n 0 0 0, h.new (.box cs), [])
    | none => none
  | .load t a => match loadA P t (evalA tm a) h with
    | some r => some (r.1, r.2, [])
    | none => none
  | .store t a x => match (evalA tm x).parts with
    | some cs => if some cs.length = sizeT P t then match storeA (evalA tm a) cs h with
        | some h' => some (.un, h', objOf (evalA tm a))
        | none => none
      else none
    | none => none
  | .nilCheck x => match evalA tm x with
    | .pt o sz i f => some (.pt o sz i f, h, [])
    | .fn f c => some (.fn f c, h, [])
    | _ => none
  | .binOp op t x y _ => match binA P op t x y (evalA tm x) (evalA tm y) with
    | some a => some (a, h, [])
    | none => none
  | .unOp op _ x => match evalA tm x with
    | .v a => match plainV P (Op.unary op a) with
      | some a => some (a, h, [])
      | none => none
    | _ => none
  | .convert s d x => match convA P s d (evalA tm x) h with
    | some r => some (r.1, r.2, [])
    | none => none
  | .fieldAddr t x f => match evalA tm x, (fieldsT P t)[f]? with
    | .pt o sz i g, some fl => match sizeT P fl.type with
      | some (_ + 1) => some (.pt o sz i (g + fl.offset), h, [])
      | _ => none
    | _, _ => none
  | .field t x f => match (fieldsT P t)[f]?, evalA tm x with
    | some fl, .ag cs => match partA P fl.type cs fl.offset with
      | some a => some (a, h, [])
      | none => none
    | some fl, .v (.agg cs) => match partA P fl.type (cs.toList.map .v) fl.offset with
      | some a => some (a, h, [])
      | none => none
    | _, _ => none
  | .indexAddr t x i => match intOf (evalA tm i), P.underlying t, evalA tm x with
    | some k, some (.slice e), .sl o sz off n _ => if 0 ≤ k ∧ k < n ∧ sizeT P e = some sz then some (.pt o sz (off + k.toNat) 0, h, []) else none
    | some k, some (.array n e), .pt o sz i g => match sizeT P e with
      | some s => if 0 ≤ k ∧ k < n then some (.pt o sz i (g + k.toNat * s), h, []) else none
      | none => none
    | _, _, _ => none
  | .index t x i => match intOf (evalA tm i), P.underlying t, evalA tm x with
    | some k, some .string, .v (.string s) => if 0 ≤ k then match s[k.toNat]? with
        | some b => some (.v (.int .u8 b.toNat), h, [])
        | none => none
      else none
    | _, _, _ => none
  | .slice t x lo hi mx => match sliceA P t (evalA tm x) (lo.map (evalA tm)) (hi.map (evalA tm)) (mx.map (evalA tm)) with
    | some a => some (a, h, [])
    | none => none
  | .build t parts => match zeroT P t, P.underlying t with
    | some z, some (.struct fs) => match placesA P fs.toList with
      | some ps => match fillA (fun i => ps[i]?) z (parts.toList.map fun p => (p.1, evalA tm p.2)) with
        | some c => some (.ag c, h, [])
        | none => none
      | none => none
    | some z, some (.array _ e) => match sizeT P e with
      | some s => match fillA (fun i => some (i * s, s)) z (parts.toList.map fun p => (p.1, evalA tm p.2)) with
        | some c => some (.ag c, h, [])
        | none => none
      | none => none
    | _, _ => none
  | .buildSlice t len parts => match elemT P t with
    | some e => match zeroT P e with
      | some z => match sizeT P e with
        | some s => if len * s ≤ 16777216 ∧ z.length = s then match fillA (fun i => some (i * s, s)) (List.replicate len z).flatten (parts.toList.map fun p => (p.1, evalA tm p.2)) with
          | some cs => match sealL h cs with
            | some r => some (.sl r.2.n s 0 len none, r.2.new (.row s (chunk s len r.1) true), [])
            | none => none
          | none => none
          else none
        | none => none
      | none => none
    | none => none
  | .makeSlice t l c => match elemT P t with
    | some e => match intOf (evalA tm l), intOf (evalA tm c), zerosA P e h, sizeT P e with
      | some l, some c, some z, some s => if 0 ≤ l ∧ l ≤ c ∧ roomA P e c.toNat ∧ z.length = s then
          some (.sl h.n s 0 l.toNat none, h.new (.row s (List.replicate l.toNat z) true), [])
        else none
      | _, _, _, _ => none
    | none => none
  | .makeFunc (.func f) fs cap => if fs.isEmpty then some (.fn f (cap.toList.map (evalA tm)), h, []) else none
  | .makeMap _ none => some (.mp h.n, h.new (.map []), [])
  | .lookup t m k ok => match ok, P.underlying t, evalA tm m, evalA tm k with
    | false, some (.map kt et), .mp o, .v (.int .i64 k) => match P.underlying kt, (P.info? et).bind (·.zero), h.get o with
      | some (.int .i64), some (.int .i64 0), .map es => some (.v (.int .i64 (findM k es)), h, [])
      | _, _, _ => none
    | _, _, _, _ => none
  | .mapUpdate t m k x => match P.underlying t, evalA tm m, evalA tm k, evalA tm x with
    | some (.map kt _), .mp o, .v (.int .i64 k), .v (.int .i64 x) => match P.underlying kt, h.get o with
      | some (.int .i64), .map es => some (.un, h.set o (.map (updM k x es)), [o])
      | _, _ => none
    | _, _, _, _ => none
  | .extract t i => match evalA tm t with
    | .tu vs => match vs[i]? with
      | some a => some (a, h, [])
      | none => none
    | _ => none
  | .call c => match c.callee with
    | .builtin b => builtinA P b c.argTypes o.type (c.args.toList.map (evalA tm)) h
    | _ => none
  | _ => none
theorem opA_eq (P : Program) (tm : List AV) (h : H) (o : Oper) : opA P tm h o = opA0 P tm h o := by
  unfold opA opA0
  cases o.op
  all_goals simp only [okv, okr, pickO, boxO, storeO, nilO, unA, fieldAddrA, fieldA, indexAddrA, indexA, buildA, buildSliceA, makeSliceA, makeFuncA, makeMapA, lookupA, mapUpdateA, extractA, bcallA, partsE]
  all_goals repeat' split
  all_goals first | rfl | simp_all
/-- The function that an operation calls, with its arguments. -/
def calleeA (tm : List AV) (o : Oper) : Option (FuncId × List AV) := match o.op with
  | .call c => match c.callee with
    | .value f => match evalA tm f with
      | .fn f cap => some (f, c.args.toList.map (evalA tm) ++ cap)
      | _ => none
    | _ => none
  | _ => none
def putA (tm : List AV) (dst : Option Tmp) (v : AV) : List AV := match dst with
  | some d => tm.set d v
  | none => tm
/-- Is an operation wanted? -/
def wantA (ops : Array Oper) (tm : List AV) (o : Oper) : Option Bool := match o.guard with
  | none => some true
  | some (j, w) => match ops[j]? with
    | some oj => match oj.dst with
      | some d => match tm.getD d .un with
        | .v (.bool b) => some (b == w)
        | _ => none
      | none => none
    | none => none
end Go.Proofs.YtffopeihcebpjaaGreat.X
end
section
set_option linter.unusedVariables false
namespace Go.Proofs.YtffopeihcebpjaaGreat.X
open Go Go.RowKit
/-- Where an object lies, and how many elements it has room for. -/
abbrev Sg := Nat → Option (Addr × Nat)
mutual
inductive AVr (σ : Sg) : AV → Value → Prop
  | v (x : Value) : AVr σ (.v x) x
  | sl (o sz off n : Nat) (c : Option Nat) (a : Addr) (room : Nat) (A : Option Addr) (c' : Nat) (ho : σ o = some (a, room)) (hn : n ≤ c') (hc : ∀ k, c = some k → c' = k) (hA : 0 < c' → A = some (a.add (off * sz)) ∧ off + c' ≤ room) : AVr σ (.sl o sz off n c) (.slice A n c')
  | pt (o sz i f : Nat) (a : Addr) (room : Nat) (ho : σ o = some (a, room)) : AVr σ (.pt o sz i f) (.pointer (some (a.add (i * sz + f))))
  | ag (cs : List AV) (vs : List Value) (h : AVrs σ cs vs) : AVr σ (.ag cs) (.agg vs.toArray)
  | tu (cs : List AV) (vs : List Value) (h : AVrs σ cs vs) : AVr σ (.tu cs) (.tuple vs.toArray)
  | fn (f : FuncId) (cap : List AV) (vs : List Value) (h : AVrs σ cap vs) : AVr σ (.fn f cap) (.func (.func f) #[] vs.toArray)
  | mp (o : Nat) (a : Addr) (room : Nat) (ho : σ o = some (a, room)) : AVr σ (.mp o) (.map (some a.block))
  | un (x : Value) : AVr σ .un x
inductive AVrs (σ : Sg) : List AV → List Value → Prop
  | nil : AVrs σ [] []
  | cons (a : AV) (x : Value) (as : List AV) (xs : List Value) (h : AVr σ a x) (hs : AVrs σ as xs) : AVrs σ (a :: as) (x :: xs)
end
def Sg.le (σ σ' : Sg) : Prop := ∀ o x, σ o = some x → σ' o = some x
theorem Sg.le_refl (σ : Sg) : σ.le σ := fun _ _ h => h
theorem Sg.le_trans {a b c : Sg} (h : a.le b) (g : b.le c) : a.le c := fun o x q => g o x (h o x q)
mutual
theorem AVr.up {σ σ' : Sg} (h : σ.le σ') : ∀ {a x}, AVr σ a x → AVr σ' a x
  | _, _, .v x => .v x
  | _, _, .sl o sz off n c a room A c' ho hn hc hA => .sl o sz off n c a room A c' (h _ _ ho) hn hc hA
  | _, _, .pt o sz i f a room ho => .pt o sz i f a room (h _ _ ho)
  | _, _, .ag cs vs g => .ag cs vs (AVrs.up h g)
  | _, _, .tu cs vs g => .tu cs vs (AVrs.up h g)
  | _, _, .fn f cap vs g => .fn f cap vs (AVrs.up h g)
  | _, _, .mp o a room ho => .mp o a room (h _ _ ho)
  | _, _, .un x => .un x
theorem AVrs.up {σ σ' : Sg} (h : σ.le σ') : ∀ {a x}, AVrs σ a x → AVrs σ' a x
  | _, _, .nil => .nil
  | _, _, .cons a x as xs g gs => .cons a x as xs (AVr.up h g) (AVrs.up h gs)
end
theorem AVrs.len {σ : Sg} : ∀ {as : List AV} {xs : List Value}, AVrs σ as xs → as.length = xs.length
  | _, _, .nil => rfl
  | _, _, .cons _ _ _ _ _ g => by rw [List.length_cons, List.length_cons, AVrs.len g]
theorem AVrs.get {σ : Sg} : ∀ {as : List AV} {xs : List Value}, AVrs σ as xs → ∀ (i : Nat) (a : AV), as[i]? = some a → ∃ x, xs[i]? = some x ∧ AVr σ a x
  | _, _, .nil, i, a, h => by simp at h
  | _, _, .cons _ x _ _ g gs, 0, a, h => by
    rw [List.getElem?_cons_zero] at h
    exact ⟨x, rfl, Option.some.inj h ▸ g⟩
  | _, _, .cons _ _ _ _ _ gs, i + 1, a, h => by
    rw [List.getElem?_cons_succ] at h
    exact gs.get i a h
theorem AVrs.set {σ : Sg} {a : AV} {x : Value} (g : AVr σ a x) : ∀ {as : List AV} {xs : List Value}, AVrs σ as xs → ∀ (i : Nat), AVrs σ (as.set i a) (xs.set i x)
  | _, _, .nil, i => .nil
  | _, _, .cons _ _ as xs _ gs, 0 => .cons a x as xs g gs
  | _, _, .cons b y _ _ h gs, i + 1 => .cons b y _ _ h (AVrs.set g gs i)
theorem AVrs.append {σ : Sg} : ∀ {as bs : List AV} {xs ys : List Value}, AVrs σ as xs → AVrs σ bs ys → AVrs σ (as ++ bs) (xs ++ ys)
  | _, _, _, _, .nil, h => h
  | _, _, _, _, .cons a x as xs g gs, h => .cons a x _ _ g (AVrs.append gs h)
theorem AVrs.drop {σ : Sg} : ∀ {as : List AV} {xs : List Value}, AVrs σ as xs → ∀ n, AVrs σ (as.drop n) (xs.drop n)
  | _, _, .nil, n => by cases n <;> exact .nil
  | _, _, .cons a x as xs g gs, 0 => .cons a x as xs g gs
  | _, _, .cons _ _ _ _ _ gs, n + 1 => AVrs.drop gs n
theorem AVrs.take {σ : Sg} : ∀ {as : List AV} {xs : List Value}, AVrs σ as xs → ∀ n, AVrs σ (as.take n) (xs.take n)
  | _, _, .nil, n => by cases n <;> exact .nil
  | _, _, .cons a x as xs g gs, 0 => .nil
  | _, _, .cons a x _ _ g gs, n + 1 => .cons a x _ _ g (AVrs.take gs n)
theorem AVrs.map_v {σ : Sg} : ∀ (l : List Value), AVrs σ (l.map .v) l
  | [] => .nil
  | x :: r => .cons _ _ _ _ (.v x) (AVrs.map_v r)
theorem AVrs.of_map {σ : Sg} {α : Type} (f : α → AV) (g : α → Value) (h : ∀ x, AVr σ (f x) (g x)) : ∀ l : List α, AVrs σ (l.map f) (l.map g)
  | [] => .nil
  | x :: r => .cons _ _ _ _ (h x) (AVrs.of_map f g h r)
theorem AVrs.un {σ : Sg} (x : Value) : ∀ n, AVrs σ (List.replicate n .un) (List.replicate n x)
  | 0 => .nil
  | n + 1 => .cons _ _ _ _ (.un x) (AVrs.un x n)
theorem AVrs.nil_iff {σ : Sg} {xs : List Value} (h : AVrs σ [] xs) : xs = [] := by cases h; rfl
theorem parts_rel {σ : Sg} {a : AV} {x : Value} (h : AVr σ a x) {cs : List AV} (hp : a.parts = some cs) : AVrs σ cs x.cells.toList := by
  cases h with
  | v x =>
    cases hp
    cases x with
    | agg cs => exact AVrs.map_v _
    | _ => exact .cons _ _ _ _ (.v _) .nil
  | sl => cases hp; exact (.cons _ _ _ _ (.sl _ _ _ _ _ _ _ _ _ (by assumption) (by assumption) (by assumption) (by assumption)) .nil)
  | pt => cases hp; exact (.cons _ _ _ _ (.pt _ _ _ _ _ _ (by assumption)) .nil)
  | ag cs vs h => cases hp; exact h
  | tu cs vs h => cases hp; exact (.cons _ _ _ _ (.tu _ _ h) .nil)
  | fn f cap vs h => cases hp; exact (.cons _ _ _ _ (.fn _ _ _ h) .nil)
  | mp => cases hp; exact (.cons _ _ _ _ (.mp _ _ _ (by assumption)) .nil)
  | un => cases hp
/-! Deep values. T: the blocks that stay as they are. -/
mutual
inductive DVr (T : Nat → Prop) (w : World) : DV → Value → Prop
  | v (x : Value) : DVr T w (.v x) x
  | sl (sz : Nat) (els : List (List DV)) (A : Option Addr) (c : Nat) (vals : Nat → Nat → Value) (hz : A = none → c = 0) (hc : els.length ≤ c) (hs : ∀ e ∈ els, e.length = sz)
      (ha : ∀ i e j d, els[i]? = some e → e[j]? = some d → ∃ a, A = some a ∧ T a.block ∧ w.cell? (a.add (i * sz + j)) = some (vals i j))
      (hd : ∀ i e j d, els[i]? = some e → e[j]? = some d → DVr T w d (vals i j)) : DVr T w (.sl sz els) (.slice A els.length c)
  | ag (cs : List DV) (vs : List Value) (h : DVrs T w cs vs) : DVr T w (.ag cs) (.agg vs.toArray)
  | tu (cs : List DV) (vs : List Value) (h : DVrs T w cs vs) : DVr T w (.tu cs) (.tuple vs.toArray)
inductive DVrs (T : Nat → Prop) (w : World) : List DV → List Value → Prop
  | nil : DVrs T w [] []
  | cons (a : DV) (x : Value) (as : List DV) (xs : List Value) (h : DVr T w a x) (hs : DVrs T w as xs) : DVrs T w (a :: as) (x :: xs)
end
theorem cell_same {w w' : World} {a : Addr} (h : w'.heap[a.block]? = w.heap[a.block]?) : w'.cell? a = w.cell? a := by
  unfold World.cell?
  rw [h]
theorem add_blk (a : Addr) (n : Nat) : (a.add n).block = a.block := by
  unfold Addr.add
  split <;> rfl
mutual
theorem DVr.up {T T' : Nat → Prop} {w w' : World} (hT : ∀ b, T b → T' b) (hw : ∀ b, T b → w'.heap[b]? = w.heap[b]?) : ∀ {d x}, DVr T w d x → DVr T' w' d x
  | _, _, .v x => .v x
  | _, _, .sl sz els A c vals hz hc hs ha hd => .sl sz els A c vals hz hc hs (fun i e j d h1 h2 => by
      obtain ⟨a, e1, e2, e3⟩ := ha i e j d h1 h2
      exact ⟨a, e1, hT _ e2, (cell_same (by rw [add_blk]; exact hw _ e2)).trans e3⟩) (fun i e j d h1 h2 => DVr.up hT hw (hd i e j d h1 h2))
  | _, _, .ag cs vs g => .ag cs vs (DVrs.up hT hw g)
  | _, _, .tu cs vs g => .tu cs vs (DVrs.up hT hw g)
theorem DVrs.up {T T' : Nat → Prop} {w w' : World} (hT : ∀ b, T b → T' b) (hw : ∀ b, T b → w'.heap[b]? = w.heap[b]?) : ∀ {d x}, DVrs T w d x → DVrs T' w' d x
  | _, _, .nil => .nil
  | _, _, .cons a x as xs g gs => .cons a x as xs (DVr.up hT hw g) (DVrs.up hT hw gs)
end
/-- A row's cells at an address, in blocks that stay. -/
def RoAt (T : Nat → Prop) (w : World) (a : Addr) (sz : Nat) (els : List (List DV)) : Prop :=
  (∀ e ∈ els, e.length = sz) ∧ ∀ i e j d, els[i]? = some e → e[j]? = some d → T a.block ∧ ∃ v, w.cell? (a.add (i * sz + j)) = some v ∧ DVr T w d v
/-- What an object is in a world. -/
def Obr (σ : Sg) (T : Nat → Prop) (w : World) (o : Nat) : Ob → Prop
  | .dead => True
  | .box cs => ∃ g vs e, σ o = some (⟨g, 0, none⟩, 0) ∧ w.heap[g]? = some (.cells vs e (0, 0)) ∧ AVrs σ cs vs.toList
  | .row sz els true => ∃ a room, σ o = some (a, room) ∧ els.length ≤ room ∧ (∀ e ∈ els, e.length = sz) ∧ (0 < room → ∃ vs e, a = ⟨a.block, 0, none⟩ ∧ w.heap[a.block]? = some (.cells vs e (0, 0)) ∧ room * sz ≤ vs.size ∧ ∀ i x j d, els[i]? = some x → x[j]? = some d → ∃ v, vs[i * sz + j]? = some v ∧ DVr T w d v)
  | .row sz els false => ∃ a room, σ o = some (a, room) ∧ RoAt T w a sz els
  | .map es => ∃ g ms clock, σ o = some (⟨g, 0, none⟩, 0) ∧ w.heap[g]? = some (.map ms clock) ∧ ms.toList.map (fun m => (m.key, m.val)) = es.map (fun e => (Value.int .i64 e.1, Value.int .i64 e.2))
/-- The block that an object may change. -/
def Own (σ : Sg) (o : Nat) (b : Nat) : Ob → Prop
  | .box _ => ∃ a r, σ o = some (a, r) ∧ a.block = b
  | .map _ => ∃ a r, σ o = some (a, r) ∧ a.block = b
  | .row _ _ true => ∃ a r, σ o = some (a, r) ∧ a.block = b ∧ 0 < r
  | _ => False
/-- Where a run begins: the world; the blocks that others hold; those of them that stay as they are; the ids that it may give, and the map of the others. -/
structure Base where
  w : World
  B : Nat → Prop
  S : Nat → Prop
  lo : Nat
  lim : Nat
  s0 : Sg
/-- What others hold is as it was. -/
structure Kept (β : Base) (w : World) : Prop where
  os : w.os = β.w.os
  tape : w.tape = β.w.tape
  output : w.output = β.w.output
  size : β.w.heap.size ≤ w.heap.size
  block : ∀ b, β.B b → b < β.w.heap.size ∧ w.heap[b]? = β.w.heap[b]?
/-- What the executor's heap is in a world. -/
structure Hr (w0 : Base) (σ : Sg) (T : Nat → Prop) (h : H) (w : World) : Prop where
  below : Kept w0 w
  stay : ∀ b, T b → b < w.heap.size
  hold : ∀ b, T b → w0.B b → w0.S b
  low : w0.lo ≤ h.n
  dom : ∀ o, h.n ≤ o → o < w0.lim → σ o = none
  rest : ∀ o, o < w0.lo ∨ w0.lim ≤ o → σ o = w0.s0 o
  top : ∀ o, h.get o ≠ .dead → o < h.n
  obj : ∀ o, Obr σ T w o (h.get o)
  own : ∀ o b, Own σ o b (h.get o) → ¬ w0.B b ∧ b < w.heap.size ∧ ¬ T b
  sep : ∀ o o' b, Own σ o b (h.get o) → Own σ o' b (h.get o') → o = o'
end Go.Proofs.YtffopeihcebpjaaGreat.X
end
section
set_option linter.unusedVariables false
namespace Go.Proofs.YtffopeihcebpjaaGreat.X
open Go Go.RowKit
theorem getL_set_ne {o o' : Nat} (h : o ≠ o') (x : Ob) : ∀ l, getL (setL l o x) o' = getL l o'
  | [] => rfl
  | (k, b) :: r => by
    unfold setL
    by_cases hk : Nat.beq k o = true
    · rw [if_pos hk]
      have : k = o := Nat.eq_of_beq_eq_true hk
      subst this
      unfold getL
      have hn : Nat.beq k o' = false := by
        rw [Bool.eq_false_iff]; intro q; exact h (Nat.eq_of_beq_eq_true q)
      rw [hn]; rfl
    · rw [if_neg hk]
      show getL ((k, b) :: setL r o x) o' = getL ((k, b) :: r) o'
      unfold getL
      rw [getL_set_ne h x r]
theorem getL_set_same {o : Nat} (x : Ob) : ∀ l, getL l o ≠ .dead → getL (setL l o x) o = x
  | [], h => absurd rfl h
  | (k, b) :: r, h => by
    unfold setL
    by_cases hk : Nat.beq k o = true
    · rw [if_pos hk]; unfold getL; rw [if_pos hk]
    · rw [if_neg hk]
      unfold getL
      rw [if_neg hk]
      refine getL_set_same x r ?_
      unfold getL at h
      rwa [if_neg hk] at h
theorem get_set_ne {h : H} {o o' : Nat} (g : o ≠ o') (x : Ob) : (h.set o x).get o' = h.get o' := getL_set_ne g x h.l
theorem get_set_same {h : H} {o : Nat} (x : Ob) (g : h.get o ≠ .dead) : (h.set o x).get o = x := getL_set_same x h.l g
theorem get_new_same (h : H) (x : Ob) : (h.new x).get h.n = x := by
  show getL ((h.n, x) :: h.l) h.n = x
  unfold getL; rw [if_pos (Nat.beq_refl _)]
theorem get_new_ne {h : H} {o : Nat} (g : o ≠ h.n) (x : Ob) : (h.new x).get o = h.get o := by
  show getL ((h.n, x) :: h.l) o = _
  unfold getL
  rw [if_neg (fun q => g (Nat.eq_of_beq_eq_true q).symm)]
  rfl
theorem set_n (h : H) (o : Nat) (x : Ob) : (h.set o x).n = h.n := rfl
theorem new_n (h : H) (x : Ob) : (h.new x).n = h.n + 1 := rfl
theorem Own.up {σ σ' : Sg} (hs : σ.le σ') {o b : Nat} {ob : Ob} (h : Own σ o b ob) : Own σ' o b ob := by
  cases ob with
  | box => obtain ⟨a, r, h1, h2⟩ := h; exact ⟨a, r, hs _ _ h1, h2⟩
  | row sz els own =>
    cases own
    · exact h
    · obtain ⟨a, r, h1, h2⟩ := h; exact ⟨a, r, hs _ _ h1, h2⟩
  | map => obtain ⟨a, r, h1, h2⟩ := h; exact ⟨a, r, hs _ _ h1, h2⟩
  | dead => exact h
theorem Own.down {σ σ' : Sg} (hs : σ.le σ') {o b : Nat} {ob : Ob} (hd : (σ o).isSome) (h : Own σ' o b ob) : Own σ o b ob := by
  obtain ⟨x, hx⟩ := Option.isSome_iff_exists.1 hd
  have hx' := hs _ _ hx
  cases ob with
  | box => obtain ⟨a, r, h1, h2⟩ := h; rw [hx'] at h1; exact ⟨a, r, by rw [hx, h1], h2⟩
  | row sz els own =>
    cases own
    · exact h
    · obtain ⟨a, r, h1, h2⟩ := h; rw [hx'] at h1; exact ⟨a, r, by rw [hx, h1], h2⟩
  | map => obtain ⟨a, r, h1, h2⟩ := h; rw [hx'] at h1; exact ⟨a, r, by rw [hx, h1], h2⟩
  | dead => exact h
theorem RoAt.up {T T' : Nat → Prop} {w w' : World} {a : Addr} {sz : Nat} {els : List (List DV)} (hT : ∀ b, T b → T' b) (hw : ∀ b, T b → w'.heap[b]? = w.heap[b]?) (h : RoAt T w a sz els) : RoAt T' w' a sz els := by
  refine ⟨h.1, fun i e j d h1 h2 => ?_⟩
  obtain ⟨t, v, hv, hd⟩ := h.2 i e j d h1 h2
  exact ⟨hT _ t, v, (cell_same (by rw [add_blk]; exact hw _ t)).trans hv, hd.up hT hw⟩
/-- An object stays what it is, if its own block and those that stay do. -/
theorem Obr.keep {σ σ' : Sg} {T T' : Nat → Prop} {w w' : World} {o : Nat} {ob : Ob} (hs : σ.le σ') (hT : ∀ b, T b → T' b) (hw : ∀ b, T b → w'.heap[b]? = w.heap[b]?)
    (ho : ∀ b, Own σ o b ob → w'.heap[b]? = w.heap[b]?) (h : Obr σ T w o ob) : Obr σ' T' w' o ob := by
  cases ob with
  | dead => exact h
  | box cs =>
    obtain ⟨g, vs, e, h1, h2, h3⟩ := h
    exact ⟨g, vs, e, hs _ _ h1, (ho g ⟨_, _, h1, rfl⟩).trans h2, h3.up hs⟩
  | map es =>
    obtain ⟨g, ms, ck, h1, h2, h3⟩ := h
    exact ⟨g, ms, ck, hs _ _ h1, (ho g ⟨_, _, h1, rfl⟩).trans h2, h3⟩
  | row sz els own =>
    cases own
    · obtain ⟨a, r, h1, h2⟩ := h
      exact ⟨a, r, hs _ _ h1, h2.up hT hw⟩
    · obtain ⟨a, r, h1, h2, h3, h4⟩ := h
      refine ⟨a, r, hs _ _ h1, h2, h3, fun hr => ?_⟩
      obtain ⟨vs, e, e0, e1, e2, e3⟩ := h4 hr
      refine ⟨vs, e, e0, (ho _ ⟨a, r, h1, rfl, hr⟩).trans e1, e2, fun i x j d q1 q2 => ?_⟩
      obtain ⟨v, hv, hd⟩ := e3 i x j d q1 q2
      exact ⟨v, hv, hd.up hT hw⟩
def Sg.add (σ : Sg) (n : Nat) (x : Addr × Nat) : Sg := fun o => if o = n then some x else σ o
theorem Sg.add_same (σ : Sg) (n : Nat) (x : Addr × Nat) : (σ.add n x) n = some x := if_pos rfl
theorem Hr.add_le {w0 : Base} {σ : Sg} {T : Nat → Prop} {h : H} {w : World} (r : Hr w0 σ T h w) (hl : h.n < w0.lim) (x : Addr × Nat) : σ.le (σ.add h.n x) := fun o y hy => by
  have : o ≠ h.n := fun e => by rw [e, r.dom h.n (Nat.le_refl _) hl] at hy; cases hy
  unfold Sg.add
  rw [if_neg this]
  exact hy
theorem Own.some {σ : Sg} {o b : Nat} {ob : Ob} (h : Own σ o b ob) : ∃ a r, σ o = Option.some (a, r) ∧ a.block = b := by
  cases ob with
  | box => exact h
  | row sz els own =>
    cases own
    · exact h.elim
    · obtain ⟨a, r, h1, h2, _⟩ := h; exact ⟨a, r, h1, h2⟩
  | map => exact h
  | dead => exact h.elim
theorem Own.alive {σ : Sg} {o b : Nat} {ob : Ob} (h : Own σ o b ob) : ob ≠ .dead := fun q => by rw [q] at h; exact h.elim
theorem Obr.alive {σ : Sg} {T : Nat → Prop} {w : World} {o : Nat} {ob : Ob} (h : Obr σ T w o ob) (hd : ob ≠ .dead) : (σ o).isSome := by
  cases ob with
  | dead => exact absurd rfl hd
  | box cs => obtain ⟨g, vs, e, h1, _⟩ := h; rw [h1]; rfl
  | map es => obtain ⟨g, ms, ck, h1, _⟩ := h; rw [h1]; rfl
  | row sz els own =>
    cases own
    · obtain ⟨a, r, h1, _⟩ := h; rw [h1]; rfl
    · obtain ⟨a, r, h1, _⟩ := h; rw [h1]; rfl
/-- The step that all others are: the blocks that change are a written object's, or new. -/
theorem Hr.step {w0 : Base} {σ σ' : Sg} {T T' : Nat → Prop} {h h' : H} {w w' : World} (r : Hr w0 σ T h w) (C : Nat → Prop)
    (hs : σ.le σ') (hT : ∀ b, T b → T' b) (hb : Kept w0 w') (hsz : w.heap.size ≤ w'.heap.size) (hst : ∀ b, T' b → b < w'.heap.size)
    (hhold : ∀ b, T' b → w0.B b → w0.S b) (hn : h.n ≤ h'.n)
    (hdom : ∀ o, h'.n ≤ o → o < w0.lim → σ' o = none) (hrest : ∀ o, o < w0.lo ∨ w0.lim ≤ o → σ' o = w0.s0 o) (htop : ∀ o, h'.get o ≠ .dead → o < h'.n)
    (hch : ∀ b, b < w.heap.size → (∀ o, C o → ¬ Own σ o b (h.get o)) → w'.heap[b]? = w.heap[b]?)
    (hget : ∀ o, ¬ C o → o < h.n → h'.get o = h.get o)
    (hobj : ∀ o, C o ∨ ¬ o < h.n → Obr σ' T' w' o (h'.get o))
    (hown : ∀ o b, Own σ' o b (h'.get o) → (o < h.n ∧ Own σ o b (h.get o) ∨ ¬ o < h.n ∧ w.heap.size ≤ b ∧ b < w'.heap.size) ∧ ¬ T' b)
    (hsep : ∀ o o' b, ¬ o < h.n → ¬ o' < h.n → Own σ' o b (h'.get o) → Own σ' o' b (h'.get o') → o = o') : Hr w0 σ' T' h' w' where
  below := hb
  stay := hst
  hold := hhold
  low := Nat.le_trans r.low hn
  dom := hdom
  rest := hrest
  top := htop
  obj o := by
    by_cases hc : C o ∨ ¬ o < h.n
    · exact hobj o hc
    · have h1 : ¬ C o := fun q => hc (.inl q)
      have h2 : o < h.n := Nat.lt_of_not_le (fun q => hc (.inr (by omega)))
      rw [hget o h1 h2]
      have keep : ∀ b, (T b ∨ Own σ o b (h.get o)) → w'.heap[b]? = w.heap[b]? := fun b q => by
        refine hch b ?_ (fun o' hc' ho' => ?_)
        · rcases q with q | q
          · exact r.stay b q
          · exact (r.own o b q).2.1
        · rcases q with q | q
          · exact (r.own o' b ho').2.2 q
          · exact h1 (r.sep o o' b q ho' ▸ hc')
      exact (r.obj o).keep hs hT (fun b q => keep b (.inl q)) (fun b q => keep b (.inr q))
  own o b ho := by
    obtain ⟨h1, h2⟩ := hown o b ho
    rcases h1 with ⟨_, h1⟩ | ⟨_, h1, h3⟩
    · have := r.own o b h1
      exact ⟨this.1, Nat.lt_of_lt_of_le this.2.1 hsz, h2⟩
    · exact ⟨fun q => by have h4 := (r.below.block b q).1; have h5 := r.below.size; omega, h3, h2⟩
  sep o o' b ho ho' := by
    have g1 := (hown o b ho).1
    have g2 := (hown o' b ho').1
    rcases g1 with ⟨l1, g1⟩ | ⟨l1, g1, _⟩
    · rcases g2 with ⟨_, g2⟩ | ⟨_, g2, _⟩
      · exact r.sep o o' b g1 g2
      · have := (r.own o b g1).2.1; omega
    · rcases g2 with ⟨_, g2⟩ | ⟨l2, g2, _⟩
      · have := (r.own o' b g2).2.1; omega
      · exact hsep o o' b l1 l2 ho ho'
theorem alloc_old (w : World) (o : Obj) (b : Nat) (h : b < w.heap.size) : (w.alloc o).heap[b]? = w.heap[b]? := by
  show (w.heap.push o)[b]? = _
  rw [Array.getElem?_push, if_neg (by omega)]
theorem alloc_at (w : World) (o : Obj) : (w.alloc o).heap[w.heap.size]? = some o := by
  show (w.heap.push o)[w.heap.size]? = _
  rw [Array.getElem?_push, if_pos rfl]
theorem alloc_size (w : World) (o : Obj) : (w.alloc o).heap.size = w.heap.size + 1 := Array.size_push ..
theorem below_al {w0 : Base} {w : World} (o : Obj) (h : Kept w0 w) : Kept w0 (w.alloc o) :=
  ⟨h.os, h.tape, h.output, by rw [alloc_size]; have := h.size; omega, fun b hb => ⟨(h.block b hb).1, (alloc_old w o b (by have := h.size; have := (h.block b hb).1; omega)).trans (h.block b hb).2⟩⟩
section
variable {w0 : Base} {σ : Sg} {T : Nat → Prop} {h : H} {w : World}
theorem Hr.lt (r : Hr w0 σ T h w) {o : Nat} (hd : h.get o ≠ .dead) : o < h.n := r.top o hd
theorem Hr.is (r : Hr w0 σ T h w) {o : Nat} (hd : h.get o ≠ .dead) : (σ o).isSome := (r.obj o).alive hd
theorem Hr.old (r : Hr w0 σ T h w) {σ' : Sg} (hs : σ.le σ') {o b : Nat} (ho : Own σ' o b (h.get o)) : o < h.n ∧ Own σ o b (h.get o) :=
  ⟨r.lt ho.alive, ho.down hs (r.is ho.alive)⟩
theorem dom_add (r : Hr w0 σ T h w) (x : Addr × Nat) : ∀ o, h.n + 1 ≤ o → o < w0.lim → (σ.add h.n x) o = none := fun o h1 h2 => by
  unfold Sg.add
  rw [if_neg (by omega)]
  exact r.dom o (by omega) h2
theorem rest_add (r : Hr w0 σ T h w) (hl : h.n < w0.lim) (x : Addr × Nat) : ∀ o, o < w0.lo ∨ w0.lim ≤ o → (σ.add h.n x) o = w0.s0 o := fun o h1 => by
  have := r.low
  unfold Sg.add
  rw [if_neg (by omega)]
  exact r.rest o h1
theorem top_new (r : Hr w0 σ T h w) (ob : Ob) : ∀ o, (h.new ob).get o ≠ .dead → o < (h.new ob).n := fun o ho => by
  rw [new_n]
  by_cases e : o = h.n
  · omega
  · rw [get_new_ne e] at ho
    have := r.top o ho
    omega
/-- An object in a new block. -/
theorem Hr.alloc (r : Hr w0 σ T h w) (lim : h.n < w0.lim) (ob : Ob) (obj : Obj) (room : Nat) (hO : Obr (σ.add h.n (⟨w.heap.size, 0, none⟩, room)) T (w.alloc obj) h.n ob) :
    Hr w0 (σ.add h.n (⟨w.heap.size, 0, none⟩, room)) T (h.new ob) (w.alloc obj) := by
  have hl := r.add_le lim (⟨w.heap.size, 0, none⟩, room)
  have hw : ∀ b, T b → b ≠ w.heap.size := fun b hb => by have := r.stay b hb; omega
  refine r.step (fun _ => False) hl (fun b hb => hb) (below_al obj r.below) (by rw [alloc_size]; omega) (fun b hb => by rw [alloc_size]; have := r.stay b hb; omega) r.hold (Nat.le_succ _) (dom_add r _) (rest_add r lim _) (top_new r ob)
    (fun b hb _ => alloc_old w obj b hb) (fun o _ ho => get_new_ne (by omega) ob) (fun o ho => ?_) (fun o b ho => ?_) (fun o o' b l1 l2 h1 h2 => ?_)
  · rcases ho with ho | ho
    · exact ho.elim
    · by_cases e : o = h.n
      · subst e; rw [get_new_same]; exact hO
      · rw [get_new_ne e]
        have : h.get o = .dead := Classical.byContradiction fun q => ho (r.lt q)
        rw [this]; exact trivial
  · by_cases e : o = h.n
    · subst e
      rw [get_new_same] at ho
      obtain ⟨a, q, h1, h2⟩ := ho.some
      rw [Sg.add_same] at h1
      cases h1
      subst h2
      exact ⟨.inr ⟨by omega, Nat.le_refl _, by rw [alloc_size]; exact Nat.lt_succ_self _⟩, fun q => hw _ q rfl⟩
    · rw [get_new_ne e] at ho
      have ho' := r.old hl ho
      exact ⟨.inl ho', (r.own o b ho'.2).2.2⟩
  · have e : ∀ x, ¬ x < h.n → Own (σ.add h.n (⟨w.heap.size, 0, none⟩, room)) x b ((h.new ob).get x) → x = h.n := fun x hx hy => by
      by_cases e : x = h.n
      · exact e
      · rw [get_new_ne e] at hy
        exact absurd (r.lt hy.alive) hx
    rw [e o l1 h1, e o' l2 h2]
/-- A row that is only read, told as an object; the world is as it was. -/
theorem Hr.ro (r : Hr w0 σ T h w) (lim : h.n < w0.lim) (a : Addr) (room sz : Nat) (els : List (List DV)) (hR : RoAt T w a sz els) : Hr w0 (σ.add h.n (a, room)) T (h.new (.row sz els false)) w := by
  have hl := r.add_le lim (a, room)
  refine r.step (fun _ => False) hl (fun b hb => hb) r.below (Nat.le_refl _) r.stay r.hold (Nat.le_succ _) (dom_add r _) (rest_add r lim _) (top_new r _) (fun b _ _ => rfl) (fun o _ ho => get_new_ne (by omega) _) (fun o ho => ?_) (fun o b ho => ?_) (fun o o' b l1 l2 h1 h2 => ?_)
  · rcases ho with ho | ho
    · exact ho.elim
    · by_cases e : o = h.n
      · subst e; rw [get_new_same]; exact ⟨a, room, Sg.add_same .., hR⟩
      · rw [get_new_ne e]
        have : h.get o = .dead := Classical.byContradiction fun q => ho (r.lt q)
        rw [this]; exact trivial
  · by_cases e : o = h.n
    · subst e; rw [get_new_same] at ho; exact ho.elim
    · rw [get_new_ne e] at ho
      have ho' := r.old hl ho
      exact ⟨.inl ho', (r.own o b ho'.2).2.2⟩
  · by_cases e : o = h.n
    · subst e; rw [get_new_same] at h1; exact h1.elim
    · rw [get_new_ne e] at h1
      exact absurd (r.lt h1.alive) l1
theorem top_set (r : Hr w0 σ T h w) (o : Nat) (ob : Ob) (hd : h.get o ≠ .dead) : ∀ x, (h.set o ob).get x ≠ .dead → x < (h.set o ob).n := fun x hx => by
  rw [set_n]
  by_cases e : x = o
  · subst e; exact r.top x hd
  · rw [get_set_ne (fun q => e q.symm)] at hx
    exact r.top x hx
/-- An object is told anew: its own block alone may have changed. -/
theorem Hr.put (r : Hr w0 σ T h w) {w' : World} (o : Nat) (ob : Ob) (hd : h.get o ≠ .dead) (hb : Kept w0 w') (hsz : w'.heap.size = w.heap.size)
    (hch : ∀ b, ¬ Own σ o b (h.get o) → w'.heap[b]? = w.heap[b]?) (hO : Obr σ T w' o ob) (hown : ∀ b, Own σ o b ob → Own σ o b (h.get o)) : Hr w0 σ T (h.set o ob) w' := by
  refine r.step (fun x => x = o) (Sg.le_refl σ) (fun b q => q) hb (by omega) (fun b q => by rw [hsz]; exact r.stay b q) r.hold (Nat.le_refl _) r.dom r.rest (top_set r o ob hd)
    (fun b _ q => hch b (q o rfl)) (fun x hx _ => get_set_ne (fun e => hx e.symm) ob) (fun x hx => ?_) (fun x b hx => ?_) (fun x y b l1 l2 h1 _ => ?_)
  · rcases hx with rfl | hx
    · rw [get_set_same ob hd]; exact hO
    · have e : x ≠ o := fun e => hx (e ▸ r.lt hd)
      rw [get_set_ne (fun q => e q.symm)]
      have : h.get x = .dead := Classical.byContradiction fun q => hx (r.lt q)
      rw [this]; exact trivial
  · by_cases e : x = o
    · subst e
      rw [get_set_same ob hd] at hx
      have := hown b hx
      exact ⟨.inl ⟨r.lt hd, this⟩, (r.own x b this).2.2⟩
    · rw [get_set_ne (fun q => e q.symm)] at hx
      exact ⟨.inl ⟨r.lt hx.alive, hx⟩, (r.own x b hx).2.2⟩
  · by_cases e : x = o
    · exact absurd (r.lt hd) (e ▸ l1)
    · rw [get_set_ne (fun q => e q.symm)] at h1
      exact absurd (r.lt h1.alive) l1
end
end Go.Proofs.YtffopeihcebpjaaGreat.X
end
section
set_option linter.unusedVariables false
namespace Go.Proofs.YtffopeihcebpjaaGreat.X
open Go Go.RowKit
theorem add_add (a : Addr) (m n : Nat) : (a.add m).add n = a.add (m + n) := by
  unfold Addr.add
  by_cases h : m = 0
  · subst h; rw [if_pos rfl, Nat.zero_add]
  · rw [if_neg h]
    by_cases g : n = 0
    · subst g; rw [if_pos rfl, Nat.add_zero, if_neg h]
    · rw [if_neg g, if_neg (by omega)]
      simp [Nat.add_assoc]
theorem add_plain0 (b k : Nat) : (⟨b, 0, none⟩ : Addr).add k = ⟨b, k, none⟩ := by
  unfold Addr.add
  by_cases h : k = 0
  · subst h; rw [if_pos rfl]
  · rw [if_neg h]; simp
theorem cell_at {w : World} {b k : Nat} {vs : Array Value} {e : TypeId} {fz : Nat × Nat} (h : w.heap[b]? = some (.cells vs e fz)) : w.cell? ⟨b, k, none⟩ = vs[k]? := by
  unfold World.cell?
  rw [h]
  rfl
section
variable {w0 : Base} {σ : Sg} {T : Nat → Prop} {h : H} {w : World}
/-- An object is let go. -/
theorem Hr.kill (r : Hr w0 σ T h w) (o : Nat) (hd : h.get o ≠ .dead) : Hr w0 σ T (h.set o .dead) w :=
  r.put o .dead hd r.below rfl (fun _ _ => rfl) trivial (fun _ q => q.elim)
/-- A row of one's own becomes one that is only read. -/
theorem Hr.shutRow (r : Hr w0 σ T h w) {o sz : Nat} {els : List (List DV)} (hg : h.get o = .row sz els true) :
    ∃ T' : Nat → Prop, (∀ b, T b → T' b) ∧ Hr w0 σ T' (h.set o (.row sz els false)) w := by
  have hd : h.get o ≠ .dead := by rw [hg]; simp
  refine ⟨fun b => T b ∨ Own σ o b (h.get o), fun b q => .inl q, ?_⟩
  have hT : ∀ b, T b → T b ∨ Own σ o b (h.get o) := fun b q => .inl q
  refine r.step (fun x => x = o) (Sg.le_refl σ) hT r.below (Nat.le_refl _) (fun b q => q.elim (r.stay b) (fun q => (r.own o b q).2.1)) (fun b q q2 => q.elim (fun q => r.hold b q q2) (fun q => absurd q2 (r.own o b q).1)) (Nat.le_refl _) r.dom r.rest (top_set r o _ hd)
    (fun b _ _ => rfl) (fun x hx _ => get_set_ne (fun e => hx e.symm) _) (fun x hx => ?_) (fun x b hx => ?_) (fun x y b l1 l2 h1 _ => ?_)
  · rcases hx with rfl | hx
    · rw [get_set_same _ hd]
      have ho := r.obj x
      rw [hg] at ho
      obtain ⟨a, room, e1, e2, e3, e4⟩ := ho
      refine ⟨a, room, e1, e3, fun i e j d q1 q2 => ?_⟩
      have hi : i < els.length := (List.getElem?_eq_some_iff.1 q1).1
      obtain ⟨vs, et, f0, f1, f2, f3⟩ := e4 (by omega)
      obtain ⟨v, hv, hdv⟩ := f3 i e j d q1 q2
      refine ⟨.inr ?_, v, ?_, hdv.up hT (fun _ _ => rfl)⟩
      · rw [hg]; exact ⟨a, room, e1, rfl, by omega⟩
      · rw [f0, add_plain0, cell_at f1, hv]
    · have e : x ≠ o := fun e => hx (e ▸ r.lt hd)
      rw [get_set_ne (fun q => e q.symm)]
      have : h.get x = .dead := Classical.byContradiction fun q => hx (r.lt q)
      rw [this]; exact trivial
  · by_cases e : x = o
    · subst e
      rw [get_set_same _ hd] at hx
      exact hx.elim
    · rw [get_set_ne (fun q => e q.symm)] at hx
      have hlt : x < h.n := Classical.byContradiction fun q => by
        have : h.get x = .dead := Classical.byContradiction fun q2 => q (r.lt q2)
        rw [this] at hx; exact hx.elim
      exact ⟨.inl ⟨hlt, hx⟩, fun q => q.elim (r.own x b hx).2.2 (fun q => e (r.sep x o b hx q))⟩
  · by_cases e : x = o
    · exact absurd (r.lt hd) (e ▸ l1)
    · rw [get_set_ne (fun q => e q.symm)] at h1
      have : h.get x = .dead := Classical.byContradiction fun q2 => l1 (r.lt q2)
      rw [this] at h1; exact h1.elim
theorem mem_cut {α : Type} {l : List α} {a n : Nat} {x : α} (h : x ∈ (l.drop a).take n) : x ∈ l := List.mem_of_mem_drop (List.mem_of_mem_take h)
theorem get_cut {α : Type} {l : List α} {a n i : Nat} {x : α} (h : ((l.drop a).take n)[i]? = some x) : l[a + i]? = some x ∧ i < n := by
  have hi : i < ((l.drop a).take n).length := (List.getElem?_eq_some_iff.1 h).1
  rw [List.length_take] at hi
  rw [List.getElem?_take_of_lt (by omega), List.getElem?_drop] at h
  exact ⟨h, by omega⟩
/-- A slice of a row that is only read, as a deep value. -/
theorem ro_deep {o sz off n : Nat} {c : Option Nat} {els : List (List DV)} {x : Value} (r : Hr w0 σ T h w) (hg : h.get o = .row sz els false) (hl : off + n ≤ els.length) (hx : AVr σ (.sl o sz off n c) x) :
    DVr T w (.sl sz ((els.drop off).take n)) x := by
  cases hx with
  | sl _ _ _ _ _ a room A c' ho hn hc hA =>
    have hO := r.obj o
    rw [hg] at hO
    obtain ⟨a2, room2, e1, e2⟩ := hO
    rw [ho] at e1
    cases e1
    have hlen : ((els.drop off).take n).length = n := by rw [List.length_take, List.length_drop]; omega
    have key : DVr T w (.sl sz ((els.drop off).take n)) (.slice A ((els.drop off).take n).length c') := by
      refine .sl sz _ A c' (fun i j => (w.cell? (a.add ((off + i) * sz + j))).getD default) (fun q => Classical.byContradiction fun q2 => by have := (hA (by omega)).1; rw [q] at this; cases this) (by rw [hlen]; exact hn) (fun e he => e2.1 e (mem_cut he)) (fun i e j d q1 q2 => ?_) (fun i e j d q1 q2 => ?_)
      · obtain ⟨p1, p2⟩ := get_cut q1
        obtain ⟨t, v, hv, hd⟩ := e2.2 (off + i) e j d p1 q2
        obtain ⟨hA1, hA2⟩ := hA (by omega)
        refine ⟨a.add (off * sz), hA1, by rw [add_blk]; exact t, ?_⟩
        rw [add_add, show off * sz + (i * sz + j) = (off + i) * sz + j by rw [Nat.add_mul]; omega, hv]
        rfl
      · obtain ⟨p1, p2⟩ := get_cut q1
        obtain ⟨t, v, hv, hd⟩ := e2.2 (off + i) e j d p1 q2
        simp only [hv, Option.getD_some]
        exact hd
    rw [hlen] at key
    exact key
mutual
theorem sealD_ok : ∀ {h : H} {T : Nat → Prop} {a : AV} {d : DV} {h' : H} {x : Value}, sealD h a = some (d, h') → AVr σ a x → Hr w0 σ T h w →
    ∃ T' : Nat → Prop, (∀ b, T b → T' b) ∧ Hr w0 σ T' h' w ∧ DVr T' w d x
  | h, T, .v y, d, h', x, e, g, r => by
    cases e
    cases g
    exact ⟨T, fun _ q => q, r, .v _⟩
  | h, T, .sl o sz off n c, d, h', x, e, g, r => by
    unfold sealD at e
    split at e
    · rename_i sz' els own hg
      split at e
      · rename_i hc
        obtain ⟨rfl, hl⟩ := hc
        cases e
        cases own
        · exact ⟨T, fun _ q => q, r, ro_deep r hg hl g⟩
        · obtain ⟨T', hT, r'⟩ := r.shutRow hg
          refine ⟨T', hT, r', ro_deep r' (get_set_same _ (by rw [hg]; simp)) hl g⟩
      · cases e
    · cases e
  | h, T, .ag cs, d, h', x, e, g, r => by
    unfold sealD at e
    split at e
    · rename_i y hy
      cases e
      cases g with
      | ag _ vs hvs =>
        obtain ⟨T', hT, r', hd⟩ := sealL_ok hy hvs r
        exact ⟨T', hT, r', .ag _ _ hd⟩
    · cases e
  | h, T, .tu cs, d, h', x, e, g, r => by
    unfold sealD at e
    split at e
    · rename_i y hy
      cases e
      cases g with
      | tu _ vs hvs =>
        obtain ⟨T', hT, r', hd⟩ := sealL_ok hy hvs r
        exact ⟨T', hT, r', .tu _ _ hd⟩
    · cases e
  | h, T, .pt .., d, h', x, e, g, r => by simp [sealD] at e
  | h, T, .fn .., d, h', x, e, g, r => by simp [sealD] at e
  | h, T, .mp .., d, h', x, e, g, r => by simp [sealD] at e
  | h, T, .un, d, h', x, e, g, r => by simp [sealD] at e
theorem sealL_ok : ∀ {h : H} {T : Nat → Prop} {as : List AV} {y : List DV × H} {xs : List Value}, sealL h as = some y → AVrs σ as xs → Hr w0 σ T h w →
    ∃ T' : Nat → Prop, (∀ b, T b → T' b) ∧ Hr w0 σ T' y.2 w ∧ DVrs T' w y.1 xs
  | h, T, [], y, xs, e, g, r => by
    cases e
    cases g
    exact ⟨T, fun _ q => q, r, .nil⟩
  | h, T, a :: as, y, xs, e, g, r => by
    unfold sealL at e
    split at e
    · cases e
    · rename_i z hz
      split at e
      · cases e
      · rename_i u hu
        cases e
        cases g with
        | cons _ x _ xs hx hxs =>
          obtain ⟨T1, hT1, r1, d1⟩ := sealD_ok (d := z.1) (h' := z.2) hz hx r
          obtain ⟨T2, hT2, r2, d2⟩ := sealL_ok hu hxs r1
          exact ⟨T2, fun b q => hT2 b (hT1 b q), r2, .cons _ _ _ _ (d1.up hT2 (fun _ _ => rfl)) d2⟩
end
mutual
theorem openD_n : ∀ (d : DV) (h : H), h.n ≤ (openD h d).2.n
  | .v _, h => Nat.le_refl _
  | .sl _ _, h => Nat.le_succ _
  | .ag cs, h => openL_n cs h
  | .tu cs, h => openL_n cs h
theorem openL_n : ∀ (ds : List DV) (h : H), h.n ≤ (openL h ds).2.n
  | [], h => Nat.le_refl _
  | d :: ds, h => Nat.le_trans (openD_n d h) (openL_n ds (openD h d).2)
end
mutual
theorem openD_ok : ∀ {h : H} {σ : Sg} {d : DV} {x : Value}, (openD h d).2.n ≤ w0.lim → DVr T w d x → Hr w0 σ T h w → ∃ σ' : Sg, σ.le σ' ∧ Hr w0 σ' T (openD h d).2 w ∧ AVr σ' (openD h d).1 x
  | h, σ, .v y, x, _, g, r => by
    cases g
    exact ⟨σ, σ.le_refl, r, .v _⟩
  | h, σ, .sl sz els, x, lim, g, r => by
    cases g with
    | sl _ _ A c vals hz hc hs ha hd =>
      have hR : RoAt T w (A.getD default) sz els := ⟨hs, fun i e j d q1 q2 => by
        obtain ⟨a, e1, e2, e3⟩ := ha i e j d q1 q2
        subst e1
        exact ⟨e2, _, e3, hd i e j d q1 q2⟩⟩
      by_cases hA : 0 < c → A = some (A.getD default)
      · refine ⟨σ.add h.n (A.getD default, c), r.add_le lim _, r.ro lim _ c sz els hR, .sl _ _ _ _ _ (A.getD default) c A c (Sg.add_same ..) hc (fun k q => by cases q) (fun hc0 => ⟨?_, by omega⟩)⟩
        rw [Nat.zero_mul]
        exact (hA hc0).trans (congrArg some (by unfold Addr.add; rw [if_pos rfl]))
      · exfalso
        cases A with
        | none => exact hA (fun q => by have := hz rfl; omega)
        | some a => exact hA (fun _ => rfl)
  | h, σ, .ag cs, x, lim, g, r => by
    cases g with
    | ag _ vs hvs =>
      obtain ⟨σ', hs, r', hv⟩ := openL_ok lim hvs r
      exact ⟨σ', hs, r', .ag _ _ hv⟩
  | h, σ, .tu cs, x, lim, g, r => by
    cases g with
    | tu _ vs hvs =>
      obtain ⟨σ', hs, r', hv⟩ := openL_ok lim hvs r
      exact ⟨σ', hs, r', .tu _ _ hv⟩
theorem openL_ok : ∀ {h : H} {σ : Sg} {ds : List DV} {xs : List Value}, (openL h ds).2.n ≤ w0.lim → DVrs T w ds xs → Hr w0 σ T h w → ∃ σ' : Sg, σ.le σ' ∧ Hr w0 σ' T (openL h ds).2 w ∧ AVrs σ' (openL h ds).1 xs
  | h, σ, [], xs, _, g, r => by
    cases g
    exact ⟨σ, σ.le_refl, r, .nil⟩
  | h, σ, d :: ds, xs, lim, g, r => by
    cases g with
    | cons _ x _ xs hx hxs =>
      obtain ⟨σ1, s1, r1, a1⟩ := openD_ok (Nat.le_trans (openL_n ds _) lim) hx r
      obtain ⟨σ2, s2, r2, a2⟩ := openL_ok (h := (openD h d).2) (ds := ds) lim hxs r1
      exact ⟨σ2, Sg.le_trans s1 s2, r2, .cons _ _ _ _ (a1.up s2) a2⟩
end
end
end Go.Proofs.YtffopeihcebpjaaGreat.X
end
section
set_option linter.unusedVariables false
namespace Go.Proofs.YtffopeihcebpjaaGreat.X
open Go Go.RowKit
theorem bind_run {α β : Type} {P : Program} (s : Sem α) (f : α → Sem β) (w w' : World) (x : α) (h : s.run P w = .ok x w') : (s >>= f).run P w = (f x).run P w' := by
  rw [Sem.run_bind, h]
  rfl
theorem plain_run {α : Type} {P : Program} {x : α} : ∀ (s : Sem α), plain P s = some x → ∀ w, s.run P w = .ok x w
  | .pure a, h, w => by cases h; rfl
  | .program k, h, w => plain_run (k P) h w
  | .load .., h, _ => by cases h
  | .store .., h, _ => by cases h
  | .new .., h, _ => by cases h
  | .shape .., h, _ => by cases h
  | .freeze .., h, _ => by cases h
  | .frozen .., h, _ => by cases h
  | .getObj .., h, _ => by cases h
  | .setObj .., h, _ => by cases h
  | .choose .., h, _ => by cases h
  | .sys .., h, _ => by cases h
  | .mark .., h, _ => by cases h
  | .halt .., h, _ => by cases h
section
variable {P : Program} {w : World}
theorem under_run {t : TypeId} {d : TypeDesc} (h : P.underlying t = some d) : (underlying t).run P w = .ok d w := by
  show (match P.underlying t with | some d => pure d | none => stuck "no such type" : Sem TypeDesc).run P w = _
  rw [h]; rfl
theorem info_run {t : TypeId} {i : TypeInfo} (h : P.info? t = some i) : (typeInfo t).run P w = .ok i w := by
  show (match P.info? t with | some i => pure i | none => stuck "no such type" : Sem TypeInfo).run P w = _
  rw [h]; rfl
theorem size_run {t : TypeId} {n : Nat} (h : sizeT P t = some n) : (sizeOf t).run P w = .ok n w := by
  unfold sizeT at h
  split at h
  · rename_i i hi
    cases h
    unfold sizeOf
    rw [bind_run _ _ _ _ _ (info_run hi)]
    rfl
  · cases h
theorem agg_run {t : TypeId} {b : Bool} (h : aggT P t = some b) : (isAgg t).run P w = .ok b w := by
  unfold aggT at h
  unfold isAgg
  split at h
  · rename_i fs hu; cases h; rw [bind_run _ _ _ _ _ (under_run hu)]; rfl
  · rename_i n e hu; cases h; rw [bind_run _ _ _ _ _ (under_run hu)]; rfl
  · rename_i d h1 h2 hu
    cases h
    rw [bind_run _ _ _ _ _ (under_run hu)]
    cases d <;> first | rfl | (exact absurd rfl (h1 _)) | (exact absurd rfl (h2 _ _))
  · cases h
theorem load_run {a : Addr} {v : Value} (h : w.cell? a = some v) : (load a).run P w = .ok v w := by
  show (Sem.load .plain a .pure).run P w = _
  simp only [Sem.run, h]
theorem loadCells_from (a : Addr) : ∀ (vs : List Value) (i : Nat) (acc : Array Value), (∀ j v, vs[j]? = some v → w.cell? (a.add (i + j)) = some v) →
    (loadCellsFrom a i vs.length acc).run P w = .ok (acc ++ vs.toArray) w
  | [], i, acc, h => by
    show (Sem.pure acc).run P w = _
    simp [Sem.run]
  | v :: vs, i, acc, h => by
    have h0 := h 0 v rfl
    rw [Nat.add_zero] at h0
    show (load (a.add i) >>= fun v => loadCellsFrom a (i + 1) vs.length (acc.push v)).run P w = _
    rw [bind_run _ _ _ _ _ (load_run h0), loadCells_from a vs (i + 1) (acc.push v) (fun j x hj => by
      have := h (j + 1) x hj
      rwa [show i + 1 + j = i + (j + 1) by omega])]
    simp
theorem loadCells_run (a : Addr) (vs : List Value) (h : ∀ j v, vs[j]? = some v → w.cell? (a.add j) = some v) : (loadCells a vs.length).run P w = .ok vs.toArray w := by
  have := loadCells_from (P := P) (w := w) a vs 0 #[] (fun j v hj => by rw [Nat.zero_add]; exact h j v hj)
  rw [Array.empty_append] at this
  exact this
/-- Cells that lie one behind the other are loaded. -/
theorem loadVar_run {t : TypeId} {b : Bool} {n : Nat} (hw : wideT P t = some (b, n)) (a : Addr) (vs : List Value) (hl : vs.length = n) (h : ∀ j v, vs[j]? = some v → w.cell? (a.add j) = some v) :
    ∃ x, (loadVar t a).run P w = .ok x w ∧ (b = true ∧ x = .agg vs.toArray ∨ b = false ∧ vs = [x]) := by
  unfold wideT at hw
  split at hw
  · rename_i ha
    split at hw
    · rename_i m hm
      cases hw
      refine ⟨_, ?_, .inl ⟨rfl, rfl⟩⟩
      unfold loadVar
      rw [bind_run _ _ _ _ _ (agg_run ha)]
      rw [if_pos rfl, bind_run _ _ _ _ _ (size_run hm), ← hl, bind_run _ _ _ _ _ (loadCells_run a vs h)]
      rfl
    · cases hw
  · rename_i ha
    cases hw
    match vs, hl with
    | [v], _ =>
      refine ⟨v, ?_, .inr ⟨rfl, rfl⟩⟩
      unfold loadVar
      rw [bind_run _ _ _ _ _ (agg_run ha), if_neg (by simp)]
      have := h 0 v rfl
      exact load_run (by rwa [show a.add 0 = a from if_pos rfl] at this)
  · cases hw
end
section
variable {P : Program} {w0 : Base} {σ : Sg} {T : Nat → Prop} {h : H} {w : World}
theorem pack_rel {b : Bool} {cs : List AV} {x : AV} {vs : List Value} {y : Value} (hp : packT b cs = some x) (g : AVrs σ cs vs) (hy : b = true ∧ y = .agg vs.toArray ∨ b = false ∧ vs = [y]) : AVr σ x y := by
  rcases hy with ⟨rfl, rfl⟩ | ⟨rfl, rfl⟩
  · cases hp; exact .ag _ _ g
  · unfold packT at hp
    rw [if_neg (by simp)] at hp
    split at hp
    · cases hp
      cases g with
      | cons _ _ _ _ g _ => exact g
    · cases hp
theorem loadA_ok {t : TypeId} {a v : AV} {x : Value} {h' : H} (lim : h'.n ≤ w0.lim) (e : loadA P t a h = some (v, h')) (g : AVr σ a x) (r : Hr w0 σ T h w) :
    ∃ σ' y, σ.le σ' ∧ (Instr.loadAt t x).run P w = .ok y w ∧ Hr w0 σ' T h' w ∧ AVr σ' v y := by
  unfold loadA at e
  split at e
  · rename_i o sz i f wd hwd
    cases g with
    | pt _ _ _ _ ad room ho =>
      have hO := r.obj o
      have start : ∀ y, (loadVar t (ad.add (i * sz + f))).run P w = .ok y w → (Instr.loadAt t (.pointer (some (ad.add (i * sz + f))))).run P w = .ok y w := fun y hy => by
        unfold Instr.loadAt
        rw [bind_run _ _ _ _ (ad.add (i * sz + f)) rfl]
        exact hy
      split at e
      · rename_i cs hg
        rw [hg] at hO
        obtain ⟨g0, vs, et, e1, e2, e3⟩ := hO
        rw [ho] at e1
        cases e1
        split at e
        · rename_i hc
          obtain ⟨hc, rfl⟩ := hc
          split at e
          · rename_i z hz
            cases e
            have hlen : ((vs.toList.drop f).take wd.2).length = wd.2 := by
              have := e3.len
              rw [List.length_take, List.length_drop]; omega
            obtain ⟨y, hy, hy2⟩ := loadVar_run (w := w) (P := P) (t := t) (b := wd.1) (n := wd.2) hwd ((⟨g0, 0, none⟩ : Addr).add (0 * sz + f)) ((vs.toList.drop f).take wd.2) hlen (fun j v hj => by
              obtain ⟨p1, p2⟩ := get_cut hj
              rw [add_add, add_plain0, cell_at e2, Nat.zero_mul, Nat.zero_add]
              rw [← Array.getElem?_toList]
              exact p1)
            exact ⟨σ, y, σ.le_refl, start y hy, r, pack_rel hz ((e3.drop f).take wd.2) hy2⟩
          · cases e
        · cases e
      · rename_i sz' els own hg
        rw [hg] at hO
        split at e
        · rename_i el hel
          split at e
          · rename_i hc
            obtain ⟨hc, rfl⟩ := hc
            split at e
            · rename_i z hz
              cases e
              -- the cells
              have cells : ∃ vs : List Value, vs.length = wd.2 ∧ (∀ j v, vs[j]? = some v → w.cell? ((ad.add (i * sz' + f)).add j) = some v) ∧ DVrs T w ((el.drop f).take wd.2) vs := by
                have one : ∀ j d, el[j]? = some d → ∃ v, w.cell? (ad.add (i * sz' + j)) = some v ∧ DVr T w d v := fun j d hj => by
                  cases own
                  · obtain ⟨a2, room2, q1, q2⟩ := hO
                    rw [ho] at q1
                    cases q1
                    obtain ⟨_, v, hv, hd⟩ := q2.2 i el j d hel hj
                    exact ⟨v, hv, hd⟩
                  · obtain ⟨a2, room2, q1, q2, q3, q4⟩ := hO
                    rw [ho] at q1
                    cases q1
                    have hi : i < els.length := (List.getElem?_eq_some_iff.1 hel).1
                    obtain ⟨vs, et, f0, f1, f2, f3⟩ := q4 (by omega)
                    obtain ⟨v, hv, hd⟩ := f3 i el j d hel hj
                    exact ⟨v, by rw [f0, add_plain0, cell_at f1]; exact hv, hd⟩
                have gen : ∀ (m k : Nat), f + k + m ≤ el.length → ∃ vs : List Value, vs.length = m ∧ (∀ j v, vs[j]? = some v → w.cell? (ad.add (i * sz' + (f + k + j))) = some v) ∧ DVrs T w ((el.drop (f + k)).take m) vs := by
                  intro m
                  induction m with
                  | zero => intro k _; exact ⟨[], rfl, fun j v hj => by simp at hj, by rw [List.take_zero]; exact .nil⟩
                  | succ m ih =>
                    intro k hk
                    obtain ⟨vs, l1, l2, l3⟩ := ih (k + 1) (by omega)
                    have hlt : f + k < el.length := by omega
                    obtain ⟨v, hv, hd⟩ := one (f + k) el[f + k] (List.getElem?_eq_getElem hlt)
                    refine ⟨v :: vs, by rw [List.length_cons, l1], fun j x hj => ?_, ?_⟩
                    · cases j with
                      | zero => cases hj; rw [Nat.add_zero]; exact hv
                      | succ j =>
                        have := l2 j x hj
                        rwa [show f + (k + 1) + j = f + k + (j + 1) by omega] at this
                    · rw [List.drop_eq_getElem_cons hlt, List.take_succ_cons]
                      exact .cons _ _ _ _ hd l3
                obtain ⟨vs, l1, l2, l3⟩ := gen wd.2 0 (by omega)
                refine ⟨vs, l1, fun j v hj => ?_, l3⟩
                have := l2 j v hj
                rw [add_add, show i * sz' + f + j = i * sz' + (f + 0 + j) by omega]
                exact this
              obtain ⟨vs, l1, l2, l3⟩ := cells
              obtain ⟨y, hy, hy2⟩ := loadVar_run (w := w) (P := P) (t := t) (b := wd.1) (n := wd.2) hwd (ad.add (i * sz' + f)) vs l1 l2
              obtain ⟨σ', s', r', a'⟩ := openL_ok lim l3 r
              exact ⟨σ', y, s', start y hy, r', pack_rel hz a' hy2⟩
            · cases e
          · cases e
        · cases e
      · cases e
  · cases e
end
end Go.Proofs.YtffopeihcebpjaaGreat.X
end
section
set_option linter.unusedVariables false
namespace Go.Proofs.YtffopeihcebpjaaGreat.X
open Go Go.RowKit
def setBlk (w : World) (g : Nat) (o : Obj) : World := { w with heap := w.heap.setIfInBounds g o }
theorem setBlk_at {w : World} {g : Nat} {o o' : Obj} (h : w.heap[g]? = some o') : (setBlk w g o).heap[g]? = some o := by
  show (w.heap.setIfInBounds g o)[g]? = _
  have hg : g < w.heap.size := (Array.getElem?_eq_some_iff.1 h).1
  rw [Array.getElem?_setIfInBounds, if_pos rfl, if_pos hg]
theorem setBlk_ne {w : World} {g b : Nat} {o : Obj} (h : b ≠ g) : (setBlk w g o).heap[b]? = w.heap[b]? := by
  show (w.heap.setIfInBounds g o)[b]? = _
  rw [Array.getElem?_setIfInBounds, if_neg (fun q => h q.symm)]
theorem setBlk_size (w : World) (g : Nat) (o : Obj) : (setBlk w g o).heap.size = w.heap.size := Array.size_setIfInBounds ..
theorem setBlk_twice (w : World) (g : Nat) (o o' : Obj) : setBlk (setBlk w g o) g o' = setBlk w g o' := by
  unfold setBlk
  simp
theorem setCell_blk {w : World} {g j : Nat} {v : Value} {vs : Array Value} {e : TypeId} (h : w.heap[g]? = some (.cells vs e (0, 0))) : w.setCell ⟨g, j, none⟩ v = setBlk w g (.cells (vs.setIfInBounds j v) e (0, 0)) := by
  unfold World.setCell setBlk
  congr 1
  refine Array.ext_getElem? (fun i => ?_)
  rw [Array.getElem?_modify, Array.getElem?_setIfInBounds]
  have hg : g < w.heap.size := (Array.getElem?_eq_some_iff.1 h).1
  by_cases e : g = i
  · subst e
    rw [if_pos rfl, if_pos rfl, if_pos hg, h]
    rfl
  · rw [if_neg e, if_neg e]
theorem store_run {P : Program} {w : World} {g j : Nat} {v : Value} {vs : Array Value} {e : TypeId} (h : w.heap[g]? = some (.cells vs e (0, 0))) (hj : j < vs.size) (hv : oneV v = true) :
    (store ⟨g, j, none⟩ v).run P w = .ok () (setBlk w g (.cells (vs.setIfInBounds j v) e (0, 0))) := by
  show (Sem.store .plain ⟨g, j, none⟩ v (.pure ())).run P w = _
  have hc : w.cell? ⟨g, j, none⟩ = some vs[j] := by rw [cell_at h]; exact Array.getElem?_eq_getElem hj
  have hf : w.frozen? ⟨g, j, none⟩ = false := by
    unfold World.frozen?
    rw [h]; simp
  cases v <;> first
    | (simp [oneV] at hv; done)
    | (simp only [Sem.run, hc, hf, setCell_blk h]; rfl)
theorem put_len {α : Type} : ∀ (xs cs : List α) (k : Nat), (putCells cs k xs).length = cs.length
  | [], cs, k => rfl
  | x :: xs, cs, k => by rw [putCells, put_len xs, List.length_set]
theorem storeCells_run {P : Program} {g : Nat} {e : TypeId} : ∀ (xs : List Value) (w : World) (vs : Array Value) (k i : Nat), w.heap[g]? = some (.cells vs e (0, 0)) → k + i + xs.length ≤ vs.size → xs.all oneV = true →
    (storeCells ⟨g, k, none⟩ xs i).run P w = .ok () (setBlk w g (.cells (putCells vs.toList (k + i) xs).toArray e (0, 0)))
  | [], w, vs, k, i, h, hl, hx => by
    show (Sem.pure ()).run P w = _
    have hg : g < w.heap.size := (Array.getElem?_eq_some_iff.1 h).1
    have hh : w.heap.setIfInBounds g (.cells vs e (0, 0)) = w.heap := by
      rw [Array.getElem?_eq_getElem hg] at h
      refine Array.ext_getElem? (fun j => ?_)
      rw [Array.getElem?_setIfInBounds]
      by_cases q : g = j
      · subst q
        rw [if_pos rfl, if_pos hg, Array.getElem?_eq_getElem hg, h]
      · rw [if_neg q]
    show Result.ok () w = Result.ok () (setBlk w g (.cells vs e (0, 0)))
    unfold setBlk
    rw [hh]
  | x :: xs, w, vs, k, i, h, hl, hx => by
    rw [List.length_cons] at hl
    rw [List.all_cons, Bool.and_eq_true] at hx
    show (store ((⟨g, k, none⟩ : Addr).add i) x >>= fun _ => storeCells ⟨g, k, none⟩ xs (i + 1)).run P w = _
    have ha : (⟨g, k, none⟩ : Addr).add i = ⟨g, k + i, none⟩ := by
      unfold Addr.add
      split
      · rename_i q; subst q; rfl
      · rfl
    rw [ha, bind_run _ _ _ _ _ (store_run h (by omega) hx.1)]
    rw [storeCells_run xs _ _ k (i + 1) (setBlk_at h) (by rw [Array.size_setIfInBounds]; omega) hx.2, setBlk_twice]
    rw [Array.toList_setIfInBounds]
    rfl
theorem one_rel {σ : Sg} {a : AV} {x : Value} (g : AVr σ a x) (h : oneA a = true) : oneV x = true := by
  cases g <;> first | exact h | rfl | (simp [oneA] at h)
theorem ones_rel {σ : Sg} : ∀ {as : List AV} {xs : List Value}, AVrs σ as xs → as.all oneA = true → xs.all oneV = true
  | _, _, .nil, _ => rfl
  | _, _, .cons a x as xs g gs, h => by
    rw [List.all_cons, Bool.and_eq_true] at h
    rw [List.all_cons, one_rel g h.1, ones_rel gs h.2]
    rfl
theorem AVrs.put {σ : Sg} : ∀ {ys : List AV} {zs : List Value}, AVrs σ ys zs → ∀ {as : List AV} {xs : List Value} (k : Nat), AVrs σ as xs → AVrs σ (putCells as k ys) (putCells xs k zs)
  | _, _, .nil, _, _, _, g => g
  | _, _, .cons y z ys zs hy hs, _, _, k, g => AVrs.put hs (k + 1) (g.set hy k)
theorem put_get {α : Type} : ∀ (xs cs : List α) (k j : Nat), k + xs.length ≤ cs.length → (putCells cs k xs)[j]? = if k ≤ j ∧ j < k + xs.length then xs[j - k]? else cs[j]?
  | [], cs, k, j, h => by
    rw [putCells, if_neg (by simp only [List.length_nil]; omega)]
  | x :: xs, cs, k, j, h => by
    rw [List.length_cons] at h
    rw [putCells, put_get xs _ (k + 1) j (by rw [List.length_set]; omega), List.length_cons]
    by_cases e : k = j
    · subst e
      rw [if_neg (by omega), if_pos (by omega), Nat.sub_self, List.getElem?_set_self (by omega)]
      rfl
    · rw [List.getElem?_set_ne e]
      by_cases q : k + 1 ≤ j ∧ j < k + 1 + xs.length
      · rw [if_pos q, if_pos (by omega), show j - k = (j - (k + 1)) + 1 by omega]
        rfl
      · rw [if_neg q, if_neg (by omega)]
section
variable {P : Program} {w0 : Base} {σ : Sg} {T : Nat → Prop} {h : H} {w : World}
theorem below_blk (r : Kept w0 w) {g : Nat} (hg : ¬ w0.B g) (o : Obj) : Kept w0 (setBlk w g o) :=
  ⟨r.os, r.tape, r.output, by rw [setBlk_size]; exact r.size, fun b hb => ⟨(r.block b hb).1, (setBlk_ne (fun q => by subst q; exact hg hb)).trans (r.block b hb).2⟩⟩
theorem DVrs.get {T : Nat → Prop} {w : World} : ∀ {ds : List DV} {xs : List Value}, DVrs T w ds xs → ∀ (i : Nat) (d : DV), ds[i]? = some d → ∃ x, xs[i]? = some x ∧ DVr T w d x
  | _, _, .nil, i, a, h => by simp at h
  | _, _, .cons _ x _ _ g gs, 0, a, h => by
    rw [List.getElem?_cons_zero] at h
    exact ⟨x, rfl, Option.some.inj h ▸ g⟩
  | _, _, .cons _ _ _ _ _ gs, i + 1, a, h => by
    rw [List.getElem?_cons_succ] at h
    exact gs.get i a h
theorem DVrs.len {T : Nat → Prop} {w : World} : ∀ {as : List DV} {xs : List Value}, DVrs T w as xs → as.length = xs.length
  | _, _, .nil => rfl
  | _, _, .cons _ _ _ _ _ g => by rw [List.length_cons, List.length_cons, DVrs.len g]
theorem storeA_ok {t : TypeId} {a : AV} {x v : Value} {cs : List AV} {h' : H} (e : storeA a cs h = some h') (hs : some cs.length = sizeT P t) (g : AVr σ a x) (gv : AVrs σ cs v.cells.toList) (r : Hr w0 σ T h w) :
    ∃ (T' : Nat → Prop) (w' : World), (∀ b, T b → T' b) ∧ (Instr.storeAt t x v).run P w = .ok () w' ∧ Hr w0 σ T' h' w' := by
  unfold storeA at e
  split at e
  · cases e
  · rename_i hone
    have hone : cs.all oneA = true := by simpa using hone
    have hov := ones_rel gv hone
    have hlen := gv.len
    split at e
    · rename_i o sz i f
      cases g with
      | pt _ _ _ _ ad room ho =>
        have start : ∀ w', (storeCells (ad.add (i * sz + f)) v.cells.toList).run P w = .ok () w' → (Instr.storeAt t (.pointer (some (ad.add (i * sz + f)))) v).run P w = .ok () w' := fun w' hy => by
          unfold Instr.storeAt
          rw [bind_run _ _ _ _ (ad.add (i * sz + f)) rfl]
          unfold storeVar
          rw [bind_run _ _ _ _ _ (size_run hs.symm), if_neg (by rw [← Array.length_toList]; omega)]
          exact hy
        have hO := r.obj o
        split at e
        · rename_i bs hg
          rw [hg] at hO
          obtain ⟨g0, vs, et, e1, e2, e3⟩ := hO
          rw [ho] at e1
          cases e1
          split at e
          · rename_i hc
            obtain ⟨hc, rfl⟩ := hc
            cases e
            have hvl := e3.len
            have hown : Own σ o g0 (h.get o) := by rw [hg]; exact ⟨_, _, ho, rfl⟩
            have hw := storeCells_run (P := P) v.cells.toList w vs f 0 e2 (by rw [← Array.length_toList (xs := vs)]; omega) hov
            rw [Nat.add_zero] at hw
            obtain ⟨W, hW⟩ : ∃ W, W = setBlk w g0 (.cells (putCells vs.toList f v.cells.toList).toArray et (0, 0)) := ⟨_, rfl⟩
            rw [← hW] at hw
            refine ⟨T, W, fun _ q => q, start W ?_, r.put o _ (by rw [hg]; simp) (by rw [hW]; exact below_blk r.below (r.own o g0 hown).1 _) (by rw [hW]; exact setBlk_size ..) (fun b hb => by rw [hW]; exact setBlk_ne (fun q => hb (q ▸ hown))) ⟨g0, _, et, ho, by rw [hW]; exact setBlk_at e2, ?_⟩ (fun b hb => by rw [hg]; exact hb)⟩
            · rw [add_plain0, Nat.zero_mul, Nat.zero_add]; exact hw
            · exact AVrs.put gv f e3
          · cases e
        · rename_i _ _ hg
          split at e
          · rename_i y hy
            obtain ⟨T', hT, r', hd⟩ := sealL_ok hy gv r
            split at e
            · rename_i sz' els hg2
              split at e
              · rename_i el hel
                split at e
                · rename_i hc
                  obtain ⟨hc, rfl⟩ := hc
                  cases e
                  have hO2 := r'.obj o
                  rw [hg2] at hO2
                  obtain ⟨a2, room, q1, q2, q3, q4⟩ := hO2
                  rw [ho] at q1
                  cases q1
                  have hi : i < els.length := (List.getElem?_eq_some_iff.1 hel).1
                  obtain ⟨vs, et, f0, f1, f2, f3⟩ := q4 (by omega)
                  have hel1 : el.length = sz' := q3 el (List.mem_of_getElem? hel)
                  have hdl := hd.len
                  have hvs : vs.toList.length = vs.size := Array.length_toList ..
                  have hown : Own σ o ad.block (y.2.get o) := by rw [hg2]; exact ⟨ad, room, ho, rfl, by omega⟩
                  have hroom : (i + 1) * sz' ≤ vs.size := Nat.le_trans (Nat.mul_le_mul_right _ (by omega)) f2
                  have hmul : (i + 1) * sz' = i * sz' + sz' := Nat.succ_mul ..
                  have hw := storeCells_run (P := P) v.cells.toList w vs (i * sz' + f) 0 f1 (by omega) hov
                  rw [Nat.add_zero] at hw
                  obtain ⟨W, hW⟩ : ∃ W, W = setBlk w ad.block (.cells (putCells vs.toList (i * sz' + f) v.cells.toList).toArray et (0, 0)) := ⟨_, rfl⟩
                  rw [← hW] at hw
                  have hnT : ¬ T' ad.block := (r'.own o _ hown).2.2
                  have hkeep : ∀ b, T' b → W.heap[b]? = w.heap[b]? := fun b hb => by rw [hW]; exact setBlk_ne (fun q => hnT (q ▸ hb))
                  refine ⟨T', W, hT, start W ?_, r'.put o _ (by rw [hg2]; simp) (by rw [hW]; exact below_blk r'.below (r'.own o _ hown).1 _) (by rw [hW]; exact setBlk_size ..) (fun b hb => by rw [hW]; exact setBlk_ne (fun q => hb (q ▸ hown))) ⟨ad, room, ho, by rw [List.length_set]; exact q2, fun e he => ?_, fun _ => ⟨_, et, f0, by rw [hW]; exact setBlk_at f1, by rw [List.size_toArray, put_len, Array.length_toList]; exact f2, fun j x k d p1 p2 => ?_⟩⟩ (fun b hb => by rw [hg2]; obtain ⟨a, rm, b1, b2, b3⟩ := hb; exact ⟨a, rm, b1, b2, b3⟩)⟩
                  · rw [f0, add_plain0]; exact hw
                  · rcases List.mem_or_eq_of_mem_set he with he | he
                    · exact q3 e he
                    · rw [he, put_len]; exact hel1
                  · rw [List.getElem?_toArray, put_get _ _ _ _ (by omega)]
                    rw [List.getElem?_set] at p1
                    by_cases ej : i = j
                    · subst ej
                      rw [if_pos rfl, if_pos hi] at p1
                      cases p1
                      rw [put_get _ _ _ _ (by omega)] at p2
                      have hk : k < sz' := by
                        by_cases qk : f ≤ k ∧ k < f + y.1.length
                        · omega
                        · rw [if_neg qk] at p2
                          have := (List.getElem?_eq_some_iff.1 p2).1
                          omega
                      by_cases qk : f ≤ k ∧ k < f + y.1.length
                      · rw [if_pos qk] at p2
                        obtain ⟨z, hz, hzd⟩ := hd.get _ _ p2
                        refine ⟨z, ?_, hzd.up (fun _ q => q) hkeep⟩
                        rw [if_pos (by omega), show i * sz' + k - (i * sz' + f) = k - f by omega]
                        exact hz
                      · rw [if_neg qk] at p2
                        obtain ⟨z, hz, hzd⟩ := f3 i el k d hel p2
                        refine ⟨z, ?_, hzd.up (fun _ q => q) hkeep⟩
                        rw [if_neg (by omega), Array.getElem?_toList]
                        exact hz
                    · rw [if_neg ej] at p1
                      obtain ⟨z, hz, hzd⟩ := f3 j x k d p1 p2
                      have hk : k < sz' := by
                        have h1 := (List.getElem?_eq_some_iff.1 p2).1
                        have h2 := q3 x (List.mem_of_getElem? p1)
                        omega
                      refine ⟨z, ?_, hzd.up (fun _ q => q) hkeep⟩
                      have hne : ¬ (i * sz' + f ≤ j * sz' + k ∧ j * sz' + k < i * sz' + f + v.cells.toList.length) := by
                        intro q
                        rcases Nat.lt_or_gt_of_ne ej with ej | ej
                        · have : (i + 1) * sz' ≤ j * sz' := Nat.mul_le_mul_right _ ej
                          omega
                        · have : (j + 1) * sz' ≤ i * sz' := Nat.mul_le_mul_right _ ej
                          have h3 : (j + 1) * sz' = j * sz' + sz' := Nat.succ_mul ..
                          omega
                      rw [if_neg hne, Array.getElem?_toList]
                      exact hz
                · cases e
              · cases e
            · cases e
          · cases e
        · cases e
    · cases e
end
end Go.Proofs.YtffopeihcebpjaaGreat.X
end
section
set_option linter.unusedVariables false
namespace Go.Proofs.YtffopeihcebpjaaGreat.X
open Go Go.RowKit
/-- What an operation's run comes to. -/
def Goes (P : Program) (w0 : Base) (σ : Sg) (T : Nat → Prop) (w : World) (s : Sem Next) (v : AV) (h' : H) : Prop :=
  ∃ (σ' : Sg) (T' : Nat → Prop) (w' : World) (nx : Next) (y : Value), σ.le σ' ∧ (∀ b, T b → T' b) ∧ s.run P w = .ok nx w' ∧ (nx = .value y ∨ nx = .skip ∧ y = undef) ∧ Hr w0 σ' T' h' w' ∧ AVr σ' v y
section
variable {P : Program} {w0 : Base} {σ : Sg} {T : Nat → Prop} {h : H} {w : World} {tm : List AV} {a : Act} {o : Oper}
theorem evalA_ok (g : AVrs σ tm a.tmps.toList) (x : Operand) : AVr σ (evalA tm x) (a.eval x) := by
  cases x with
  | tmp t =>
    show AVr σ (tm.getD t .un) (a.tmps.getD t undef)
    rw [List.getD_eq_getElem?_getD]
    cases q : tm[t]? with
    | none => exact .un _
    | some y =>
      obtain ⟨z, hz, hr⟩ := g.get t y q
      rw [Array.getElem?_toList] at hz
      rw [Array.getD_eq_getD_getElem?, hz]
      exact hr
  | const v => exact .v v
  | global n => exact .un _
  | func f => exact .fn f [] [] .nil
theorem evals_ok (g : AVrs σ tm a.tmps.toList) : ∀ l : List Operand, AVrs σ (l.map (evalA tm)) (l.map a.eval)
  | [] => .nil
  | x :: r => .cons _ _ _ _ (evalA_ok g x) (evals_ok g r)
theorem val_run {s : Sem Value} {y : Value} {w' : World} (hs : s.run P w = .ok y w') : (do pure (Next.value (← s)) : Sem Next).run P w = .ok (.value y) w' := by
  rw [bind_run _ _ _ _ _ hs]; rfl
theorem unit_run {s : Sem Unit} {w' : World} (hs : s.run P w = .ok () w') : (do s; pure Next.skip : Sem Next).run P w = .ok .skip w' := by
  rw [bind_run _ _ _ _ _ hs]; rfl
/-- A value, the world as it was. -/
theorem Goes.quiet {s : Sem Value} {y : Value} {v : AV} (r : Hr w0 σ T h w) (hs : s.run P w = .ok y w) (g : AVr σ v y) : Goes P w0 σ T w (do pure (Next.value (← s))) v h :=
  ⟨σ, T, w, _, y, σ.le_refl, fun _ q => q, val_run hs, .inl rfl, r, g⟩
theorem toV_rel {x : AV} {y v : Value} (g : AVr σ x y) (h : toV x = some v) : y = v := by
  have all : ∀ {cs : List AV} {vs l : List Value}, AVrs σ cs vs → allV cs = some l → vs = l := by
    intro cs
    induction cs with
    | nil => intro vs l g h; cases g; cases h; rfl
    | cons c cs ih =>
      intro vs l g h
      cases g with
      | cons _ z _ zs hz hzs =>
        cases c <;> simp [allV] at h
        obtain ⟨l', hl, rfl⟩ := h
        cases hz
        rw [ih hzs hl]
  cases g with
  | v x => cases h; rfl
  | ag cs vs g =>
    simp [toV] at h
    obtain ⟨l, hl, rfl⟩ := h
    rw [all g hl]
  | _ => simp [toV] at h
theorem allV_rel : ∀ {cs : List AV} {vs l : List Value}, AVrs σ cs vs → allV cs = some l → vs = l
  | [], _, _, g, h => by cases g; cases h; rfl
  | c :: cs, _, _, g, h => by
    cases g with
    | cons _ z _ zs hz hzs =>
      cases c <;> simp [allV] at h
      obtain ⟨l', hl, rfl⟩ := h
      cases hz
      rw [allV_rel hzs hl]
theorem plainV_rel {s : Sem Value} {v : AV} (h : plainV P s = some v) : ∃ y, s.run P w = .ok y w ∧ AVr σ v y := by
  unfold plainV at h
  cases q : plain P s with
  | none => rw [q] at h; cases h
  | some y =>
    rw [q] at h
    cases h
    exact ⟨y, plain_run s q w, .v y⟩
theorem zero_run {t : TypeId} {z : List AV} (h : zeroT P t = some z) : ∃ v, (zeroValue t).run P w = .ok v w ∧ AVrs σ z v.cells.toList := by
  unfold zeroT at h
  split at h
  · rename_i i hi
    cases q : i.zero with
    | none => rw [q] at h; cases h
    | some v =>
      rw [q] at h
      cases h
      refine ⟨v, ?_, ?_⟩
      · unfold zeroValue
        rw [bind_run _ _ _ _ _ (info_run hi), q]
        rfl
      · cases v <;> first | exact AVrs.map_v _ | exact .cons _ _ _ _ (.v _) .nil
  · cases h
theorem newVar_run (t : TypeId) (v : Value) : (newVar t v).run P w = .ok ⟨w.heap.size, 0, none⟩ (w.alloc (.cells v.cells t (0, 0))) := rfl
/-- A box. -/
theorem Hr.box (r : Hr w0 σ T h w) (lim : h.n < w0.lim) {cs : List AV} {v : Value} (t : TypeId) (g : AVrs σ cs v.cells.toList) :
    Hr w0 (σ.add h.n (⟨w.heap.size, 0, none⟩, 0)) T (h.new (.box cs)) (w.alloc (.cells v.cells t (0, 0))) :=
  r.alloc lim (.box cs) _ 0 ⟨w.heap.size, v.cells, t, Sg.add_same .., alloc_at w _, g.up (r.add_le lim _)⟩
theorem move_ok {x : Operand} (ho : o.op = .move x ∨ o.op = .assign x) (g : AVrs σ tm a.tmps.toList) (r : Hr w0 σ T h w) : Goes P w0 σ T w (execOp a.eval o) (evalA tm x) h := by
  refine ⟨σ, T, w, .value (a.eval x), _, σ.le_refl, fun _ q => q, ?_, .inl rfl, r, evalA_ok g x⟩
  rcases ho with ho | ho <;> (unfold execOp; rw [ho]; rfl)
theorem pick_ok {c x y : Operand} {b : Bool} (ho : o.op = .pick c x y) (hc : evalA tm c = .v (.bool b)) (g : AVrs σ tm a.tmps.toList) (r : Hr w0 σ T h w) : Goes P w0 σ T w (execOp a.eval o) (if b then evalA tm x else evalA tm y) h := by
  have hcv : a.eval c = .bool b := by
    have := evalA_ok g c
    rw [hc] at this
    generalize a.eval c = z at this ⊢
    cases this; rfl
  refine ⟨σ, T, w, .value (if b then a.eval x else a.eval y), _, σ.le_refl, fun _ q => q, ?_, .inl rfl, r, ?_⟩
  · unfold execOp
    rw [ho]
    show (asBool (a.eval c) >>= fun q => pure (Next.value (if q then a.eval x else a.eval y))).run P w = _
    rw [hcv]
    cases b <;> rfl
  · cases b
    · exact evalA_ok g y
    · exact evalA_ok g x
theorem alloc_ok (lim : h.n < w0.lim) {t : TypeId} {z : List AV} (ho : o.op = .alloc t) (hz : zeroT P t = some z) (g : AVrs σ tm a.tmps.toList) (r : Hr w0 σ T h w) : Goes P w0 σ T w (execOp a.eval o) (.pt h.n 0 0 0) (h.new (.box z)) := by
  obtain ⟨v, hv, hvr⟩ := zero_run (σ := σ) (w := w) hz
  refine ⟨_, T, _, .value (.pointer (some ⟨w.heap.size, 0, none⟩)), _, r.add_le lim _, fun _ q => q, ?_, .inl rfl, r.box lim t hvr, ?_⟩
  · unfold execOp
    rw [ho]
    refine val_run ?_
    unfold Instr.alloc
    rw [bind_run _ _ _ _ _ hv]
    rfl
  · exact .pt _ _ _ _ ⟨w.heap.size, 0, none⟩ 0 (Sg.add_same ..)
theorem box_ok (lim : h.n < w0.lim) {t : TypeId} {x : Operand} {cs : List AV} (ho : o.op = .box t x) (hc : (evalA tm x).parts = some cs) (g : AVrs σ tm a.tmps.toList) (r : Hr w0 σ T h w) : Goes P w0 σ T w (execOp a.eval o) (.pt h.n 0 0 0) (h.new (.box cs)) := by
  have hvr := parts_rel (evalA_ok g x) hc
  refine ⟨_, T, _, .value (.pointer (some ⟨w.heap.size, 0, none⟩)), _, r.add_le lim _, fun _ q => q, ?_, .inl rfl, r.box lim t hvr, .pt _ _ _ _ ⟨w.heap.size, 0, none⟩ 0 (Sg.add_same ..)⟩
  unfold execOp
  rw [ho]
  exact val_run rfl
theorem load_ok {t : TypeId} {x : Operand} {v : AV} {h' : H} (lim : h'.n ≤ w0.lim) (ho : o.op = .load t x) (e : loadA P t (evalA tm x) h = some (v, h')) (g : AVrs σ tm a.tmps.toList) (r : Hr w0 σ T h w) : Goes P w0 σ T w (execOp a.eval o) v h' := by
  obtain ⟨σ', y, s', hy, r', hr⟩ := loadA_ok (P := P) lim e (evalA_ok g x) r
  refine ⟨σ', T, w, _, y, s', fun _ q => q, ?_, .inl rfl, r', hr⟩
  unfold execOp
  rw [ho]
  exact val_run hy
theorem store_ok {t : TypeId} {x y : Operand} {cs : List AV} {h' : H} (ho : o.op = .store t x y) (hc : (evalA tm y).parts = some cs) (hs : some cs.length = sizeT P t) (e : storeA (evalA tm x) cs h = some h') (g : AVrs σ tm a.tmps.toList) (r : Hr w0 σ T h w) : Goes P w0 σ T w (execOp a.eval o) .un h' := by
  obtain ⟨T', w', hT, hrun, r'⟩ := storeA_ok (P := P) e hs (evalA_ok g x) (parts_rel (evalA_ok g y) hc) r
  refine ⟨σ, T', w', _, undef, σ.le_refl, hT, ?_, .inr ⟨rfl, rfl⟩, r', .un _⟩
  unfold execOp
  rw [ho]
  exact unit_run hrun
theorem nilCheck_ok {x : Operand} (ho : o.op = .nilCheck x) (hx : (∃ o sz i f, evalA tm x = .pt o sz i f) ∨ ∃ f c, evalA tm x = .fn f c) (g : AVrs σ tm a.tmps.toList) (r : Hr w0 σ T h w) : Goes P w0 σ T w (execOp a.eval o) (evalA tm x) h := by
  have gx := evalA_ok g x
  refine ⟨σ, T, w, .value (a.eval x), _, σ.le_refl, fun _ q => q, ?_, .inl rfl, r, gx⟩
  unfold execOp
  rw [ho]
  rcases hx with ⟨o', sz, i, f, hx⟩ | ⟨f, c, hx⟩
  · rw [hx] at gx
    cases q : a.eval x <;> rw [q] at gx <;> cases gx
    simp only [q]
    rfl
  · rw [hx] at gx
    cases q : a.eval x <;> rw [q] at gx <;> cases gx
    simp only [q]
    rfl
theorem unOp_ok {op : UnOp} {t : TypeId} {x : Operand} {y : Value} {v : AV} (ho : o.op = .unOp op t x) (hx : evalA tm x = .v y) (e : plainV P (Op.unary op y) = some v) (g : AVrs σ tm a.tmps.toList) (r : Hr w0 σ T h w) : Goes P w0 σ T w (execOp a.eval o) v h := by
  have gx := evalA_ok g x
  rw [hx] at gx
  obtain ⟨z, hz, hr⟩ := plainV_rel (σ := σ) (w := w) e
  unfold execOp
  rw [ho]
  refine Goes.quiet r ?_ hr
  cases q : a.eval x <;> rw [q] at gx <;> cases gx <;> exact hz
theorem fieldAddr_ok {t : TypeId} {x : Operand} {f : Nat} {fl : Field} {o' sz i k s : Nat} (ho : o.op = .fieldAddr t x f) (hx : evalA tm x = .pt o' sz i k) (hf : (fieldsT P t)[f]? = some fl) (hs : sizeT P fl.type = some (s + 1)) (g : AVrs σ tm a.tmps.toList) (r : Hr w0 σ T h w) :
    Goes P w0 σ T w (execOp a.eval o) (.pt o' sz i (k + fl.offset)) h := by
  have gx := evalA_ok g x
  rw [hx] at gx
  unfold fieldsT at hf
  split at hf
  · rename_i fs hu
    cases q : a.eval x <;> rw [q] at gx <;> cases gx
    rename_i ad room hσ
    have : Goes P w0 σ T w (do pure (Next.value (← Instr.fieldAt t (.pointer (some (ad.add (i * sz + k)))) f))) (.pt o' sz i (k + fl.offset)) h := by
      refine Goes.quiet (y := .pointer (some (ad.add (i * sz + (k + fl.offset))))) r ?_ (.pt _ _ _ _ _ _ hσ)
      unfold Instr.fieldAt
      rw [bind_run _ _ _ _ _ (under_run hu)]
      simp only [hf]
      show (Instr.sureAddr (.pointer (some (ad.add (i * sz + k)))) >>= fun a => fieldPlace a fl >>= fun p => pure (Value.pointer (some p))).run P w = _
      rw [bind_run _ _ _ _ (ad.add (i * sz + k)) rfl]
      have hp : (fieldPlace (ad.add (i * sz + k)) fl).run P w = .ok ((ad.add (i * sz + k)).add fl.offset) w := by
        unfold fieldPlace
        rw [bind_run _ _ _ _ _ (size_run hs), if_neg (by omega)]
        rfl
      rw [bind_run _ _ _ _ _ hp, add_add, Nat.add_assoc]
      rfl
    unfold execOp
    rw [ho]
    simp only [q]
    exact this
  · simp at hf
theorem intOf_rel {x : AV} {y : Value} {i : Int} (g : AVr σ x y) (h : intOf x = some i) : ∃ k, y = .int k i := by
  unfold intOf at h
  split at h
  · cases h; cases g; exact ⟨_, rfl⟩
  · cases h
theorem part_rel {t : TypeId} {cs : List AV} {vs : List Value} {off : Nat} {x : AV} (e : partA P t cs off = some x) (g : AVrs σ cs vs) : ∃ y, (part t vs.toArray off).run P w = .ok y w ∧ AVr σ x y := by
  unfold partA at e
  unfold wideT at e
  split at e
  · rename_i n hw
    cases e
    split at hw
    · rename_i ha
      split at hw
      · rename_i m hm
        cases hw
        refine ⟨.agg ((vs.drop off).take n).toArray, ?_, .ag _ _ ((g.drop off).take n)⟩
        unfold part
        rw [bind_run _ _ _ _ _ (agg_run ha), if_pos rfl, bind_run _ _ _ _ _ (size_run hm)]
        show Result.ok _ w = _
        congr 2
        refine Array.toList_inj.1 ?_
        simp [List.take_drop]
      · cases hw
    · cases hw
    · cases hw
  · rename_i n hw
    split at hw
    · split at hw <;> cases hw
    · rename_i ha
      cases hw
      obtain ⟨y, hy, hr⟩ := g.get off x e
      refine ⟨y, ?_, hr⟩
      unfold part
      rw [bind_run _ _ _ _ _ (agg_run ha), if_neg (by simp), List.getElem?_toArray, hy]
      rfl
    · cases hw
  · cases e
theorem field_ok {t : TypeId} {x : Operand} {f : Nat} {fl : Field} {cs : List AV} {v : AV} (ho : o.op = .field t x f) (hf : (fieldsT P t)[f]? = some fl) (hx : evalA tm x = .ag cs ∨ ∃ vs, evalA tm x = .v (.agg vs) ∧ cs = vs.toList.map .v) (e : partA P fl.type cs fl.offset = some v) (g : AVrs σ tm a.tmps.toList) (r : Hr w0 σ T h w) :
    Goes P w0 σ T w (execOp a.eval o) v h := by
  have gx := evalA_ok g x
  have hv : ∃ vs : List Value, a.eval x = .agg vs.toArray ∧ AVrs σ cs vs := by
    rcases hx with hx | ⟨vs, hx, rfl⟩
    · rw [hx] at gx
      generalize a.eval x = z at gx
      cases gx
      exact ⟨_, rfl, by assumption⟩
    · rw [hx] at gx
      generalize a.eval x = z at gx
      cases gx
      exact ⟨vs.toList, by simp, AVrs.map_v _⟩
  obtain ⟨vs, hv, hr⟩ := hv
  obtain ⟨y, hy, hyr⟩ := part_rel (w := w) e hr
  unfold fieldsT at hf
  split at hf
  · rename_i fs hu
    unfold execOp
    rw [ho]
    refine Goes.quiet r ?_ hyr
    unfold Instr.field
    rw [bind_run _ _ _ _ _ (under_run hu)]
    simp only [hf]
    rw [hv]
    exact hy
  · simp at hf
theorem indexSlice_ok {t e : TypeId} {x i : Operand} {k : Int} {o' sz off n : Nat} {c : Option Nat} (ho : o.op = .indexAddr t x i) (hi : intOf (evalA tm i) = some k) (hu : P.underlying t = some (.slice e)) (hx : evalA tm x = .sl o' sz off n c) (h0 : 0 ≤ k) (h1 : k < n) (hs : sizeT P e = some sz)
    (g : AVrs σ tm a.tmps.toList) (r : Hr w0 σ T h w) : Goes P w0 σ T w (execOp a.eval o) (.pt o' sz (off + k.toNat) 0) h := by
  have gx := evalA_ok g x
  rw [hx] at gx
  obtain ⟨kk, hk⟩ := intOf_rel (evalA_ok g i) hi
  generalize hax : a.eval x = z at gx
  cases gx with
  | sl _ _ _ _ _ ad room A c' hσ hn hc hA =>
    obtain ⟨hA1, hA2⟩ := hA (by omega)
    unfold execOp
    rw [ho]
    refine Goes.quiet (y := .pointer (some (ad.add ((off + k.toNat) * sz + 0)))) r ?_ (.pt _ _ _ _ _ _ hσ)
    show (Instr.indexAt t (a.eval x) (a.eval i)).run P w = _
    rw [hax, hk, hA1]
    unfold Instr.indexAt
    rw [bind_run _ _ _ _ (kk, k) rfl]
    simp only [Sem.run_bind, under_run hu, Result.andThen_ok]
    have hkn : 0 ≤ k ∧ k < (n : Int) := ⟨h0, h1⟩
    simp only [Sem.run_pure, Result.andThen_ok, if_pos hkn, Sem.run_bind, size_run hs, add_add]
    rw [show off * sz + k.toNat * sz = (off + k.toNat) * sz + 0 by rw [Nat.add_mul]; omega]
theorem indexArr_ok {t e : TypeId} {x i : Operand} {k : Int} {o' sz j f n s : Nat} (ho : o.op = .indexAddr t x i) (hi : intOf (evalA tm i) = some k) (hu : P.underlying t = some (.array n e)) (hx : evalA tm x = .pt o' sz j f) (h0 : 0 ≤ k) (h1 : k < n) (hs : sizeT P e = some s)
    (g : AVrs σ tm a.tmps.toList) (r : Hr w0 σ T h w) : Goes P w0 σ T w (execOp a.eval o) (.pt o' sz j (f + k.toNat * s)) h := by
  have gx := evalA_ok g x
  rw [hx] at gx
  obtain ⟨kk, hk⟩ := intOf_rel (evalA_ok g i) hi
  generalize hax : a.eval x = z at gx
  cases gx with
  | pt _ _ _ _ ad room hσ =>
    unfold execOp
    rw [ho]
    refine Goes.quiet (y := .pointer (some (ad.add (j * sz + (f + k.toNat * s))))) r ?_ (.pt _ _ _ _ _ _ hσ)
    show (Instr.indexAt t (a.eval x) (a.eval i)).run P w = _
    rw [hax, hk]
    unfold Instr.indexAt
    rw [bind_run _ _ _ _ (kk, k) rfl]
    simp only [Sem.run_bind, under_run hu, Result.andThen_ok, Instr.sureAddr]
    have hkn : 0 ≤ k ∧ k < (n : Int) := ⟨h0, h1⟩
    simp only [Sem.run_pure, Result.andThen_ok, if_pos hkn, Sem.run_bind, size_run hs, add_add, Nat.add_assoc]
theorem index_ok {t : TypeId} {x i : Operand} {k : Int} {s : ByteArray} {b : UInt8} (ho : o.op = .index t x i) (hi : intOf (evalA tm i) = some k) (hu : P.underlying t = some .string) (hx : evalA tm x = .v (.string s)) (h0 : 0 ≤ k) (hb : s[k.toNat]? = some b)
    (g : AVrs σ tm a.tmps.toList) (r : Hr w0 σ T h w) : Goes P w0 σ T w (execOp a.eval o) (.v (.int .u8 b.toNat)) h := by
  have gx := evalA_ok g x
  rw [hx] at gx
  obtain ⟨kk, hk⟩ := intOf_rel (evalA_ok g i) hi
  generalize hax : a.eval x = z at gx
  cases gx
  unfold execOp
  rw [ho]
  refine Goes.quiet r ?_ (.v _)
  show (Instr.index t (a.eval x) (a.eval i)).run P w = _
  rw [hax, hk]
  unfold Instr.index
  rw [bind_run _ _ _ _ (kk, k) rfl]
  simp only [Sem.run_bind, under_run hu, Result.andThen_ok, if_pos h0, hb, Sem.run_pure]
theorem extract_ok {x : Operand} {i : Nat} {vs : List AV} {v : AV} (ho : o.op = .extract x i) (hx : evalA tm x = .tu vs) (hv : vs[i]? = some v) (g : AVrs σ tm a.tmps.toList) (r : Hr w0 σ T h w) : Goes P w0 σ T w (execOp a.eval o) v h := by
  have gx := evalA_ok g x
  rw [hx] at gx
  generalize hax : a.eval x = z at gx
  cases gx with
  | tu _ ys hr =>
    obtain ⟨y, hy, hyr⟩ := hr.get i v hv
    unfold execOp
    rw [ho]
    refine Goes.quiet r ?_ hyr
    show (Instr.extract (a.eval x) i).run P w = _
    rw [hax]
    unfold Instr.extract
    simp only [List.getElem?_toArray, hy]
    rfl
theorem makeFunc_ok {f : FuncId} {fs cap : Array Operand} (ho : o.op = .makeFunc (.func f) fs cap) (hfs : fs = #[]) (g : AVrs σ tm a.tmps.toList) (r : Hr w0 σ T h w) : Goes P w0 σ T w (execOp a.eval o) (.fn f (cap.toList.map (evalA tm))) h := by
  subst hfs
  unfold execOp
  rw [ho]
  refine Goes.quiet r (y := .func (.func f) #[] (cap.toList.map a.eval).toArray) ?_ (.fn _ _ _ (evals_ok g _))
  show Result.ok _ w = _
  simp
  exact Array.toList_inj.1 (by simp)
theorem makeMap_ok (lim : h.n < w0.lim) {t : TypeId} (ho : o.op = .makeMap t none) (r : Hr w0 σ T h w) : Goes P w0 σ T w (execOp a.eval o) (.mp h.n) (h.new (.map [])) := by
  refine ⟨_, T, _, .value (.map (some w.heap.size)), _, r.add_le lim _, fun _ q => q, ?_, .inl rfl, r.alloc lim (.map []) (.map #[] 0) 0 ⟨w.heap.size, #[], 0, Sg.add_same .., alloc_at w _, rfl⟩, .mp _ ⟨w.heap.size, 0, none⟩ 0 (Sg.add_same ..)⟩
  unfold execOp
  rw [ho]
  exact val_run rfl
end
end Go.Proofs.YtffopeihcebpjaaGreat.X
end
section
set_option linter.unusedVariables false
namespace Go.Proofs.YtffopeihcebpjaaGreat.X
open Go Go.RowKit
section
variable {P : Program} {w0 : Base} {σ : Sg} {T : Nat → Prop} {h : H} {w : World} {tm : List AV} {a : Act} {o : Oper}
theorem binA_ok {op : BinOp} {t t2 : TypeId} {x y : Operand} {v : AV} (ho : o.op = .binOp op t x y t2) (e : binA P op t x y (evalA tm x) (evalA tm y) = some v) (g : AVrs σ tm a.tmps.toList) (r : Hr w0 σ T h w) : Goes P w0 σ T w (execOp a.eval o) v h := by
  have gx := evalA_ok g x
  have gy := evalA_ok g y
  unfold execOp
  rw [ho]
  unfold binA at e
  split at e
  · rename_i o' sz off n c z hxe hye
    rw [hxe] at gx
    rw [hye] at gy
    split at e
    · rename_i hc
      obtain ⟨hc, hn⟩ := hc
      generalize hax : a.eval x = X at gx
      generalize hay : a.eval y = Y at gy
      cases gy
      cases gx with
      | sl _ _ _ _ _ ad room A c' hσ hn' hc' hA =>
        obtain ⟨hA1, _⟩ := hA (by omega)
        unfold isNilV at hc
        split at hc
        · rename_i n2 c2
          split at e
          · rename_i et hu
            cases e
            refine Goes.quiet r ?_ (.v (.bool false))
            rw [hax, hay, hA1]
            rw [bind_run _ _ _ w () rfl]
            show (Op.equal t (.slice (some (ad.add (off * sz))) n c') (.slice none n2 c2) >>= fun b => pure (Value.bool b)).run P w = _
            unfold Op.equal Op.maxDepth Op.equalIn
            simp only [Sem.run_bind, under_run hu, Result.andThen_ok, Sem.run_pure]
          · rename_i et hu
            cases e
            refine Goes.quiet r ?_ (.v (.bool true))
            rw [hax, hay, hA1]
            rw [bind_run _ _ _ w () rfl]
            show (Op.equal t (.slice (some (ad.add (off * sz))) n c') (.slice none n2 c2) >>= fun b => pure (Value.bool !b)).run P w = _
            unfold Op.equal Op.maxDepth Op.equalIn
            simp only [Sem.run_bind, under_run hu, Result.andThen_ok, Sem.run_pure]
            rfl
          · cases e
        · cases hc
    · cases e
  · split at e
    · rename_i p q hp hq
      have e1 := toV_rel gx hp
      have e2 := toV_rel gy hq
      obtain ⟨z, hz, hzr⟩ := plainV_rel (σ := σ) (w := w) e
      refine Goes.quiet r ?_ hzr
      rw [e1, e2]
      exact hz
    · cases e
theorem bound_run {hi : Nat} {code : BoundsCode} {v : Value} {i : Int} {kk : IntKind} (hv : v = .int kk i) (h0 : 0 ≤ i) (h1 : i ≤ hi) : (Instr.sliceBound v hi code).run P w = .ok i.toNat w := by
  subst hv
  unfold Instr.sliceBound
  rw [bind_run _ _ _ _ (kk, i) rfl]
  simp only [if_pos (And.intro h0 h1)]
  rfl
/-- A bound as it is told, and as it is run. -/
theorem boundA_rel {b : Option AV} {v : Option Value} {lo hi d n : Nat} (e : boundA b lo hi d = some n) (g : ∀ x, b = some x → ∃ y, v = some y ∧ AVr σ x y) (hnone : b = none → v = none) :
    (v = none ∧ n = d) ∨ ∃ y k i, v = some y ∧ y = Value.int k i ∧ lo ≤ n ∧ n ≤ hi ∧ i = (n : Int) := by
  unfold boundA at e
  cases b with
  | none => cases e; exact .inl ⟨hnone rfl, rfl⟩
  | some x =>
    obtain ⟨y, hy, hr⟩ := g x rfl
    right
    simp only at e
    split at e
    · rename_i i hi2
      split at e
      · rename_i hb
        cases e
        obtain ⟨k, hk⟩ := intOf_rel hr hi2
        exact ⟨y, k, i, hy, hk, by omega, by omega, by omega⟩
      · cases e
    · cases e
def Bd (b : Option Value) (n d top : Nat) : Prop := (b = none ∧ n = d) ∨ ∃ k, b = some (.int k (n : Int)) ∧ n ≤ top
theorem bounds_run {s : Bool} {len cap l hh : Nat} {lo hi : Option Value} (h1 : Bd hi hh len cap) (h2 : Bd lo l 0 hh) : (Instr.sliceBounds s len cap lo hi none).run P w = .ok (l, hh, cap) w := by
  have br : ∀ {k : IntKind} {n top : Nat} {code : BoundsCode}, n ≤ top → (Instr.sliceBound (.int k (n : Int)) top code).run P w = .ok n w := fun {k n top code} hn => bound_run (kk := k) (i := (n : Int)) rfl (by omega) (by omega)
  unfold Instr.sliceBounds
  rcases h1 with ⟨rfl, rfl⟩ | ⟨k, rfl, hb⟩
  · rcases h2 with ⟨rfl, rfl⟩ | ⟨k2, rfl, hb2⟩
    · rfl
    · simp only [Sem.run_bind, Sem.run_pure, Result.andThen_ok, br hb2]
  · rcases h2 with ⟨rfl, rfl⟩ | ⟨k2, rfl, hb2⟩
    · simp only [Sem.run_bind, Sem.run_pure, Result.andThen_ok, br hb]
    · simp only [Sem.run_bind, Sem.run_pure, Result.andThen_ok, br hb, br hb2]
theorem bounds3_run {s : Bool} {len cap l hh m : Nat} {lo : Option Value} {hv mv : Value} {k1 k2 : IntKind} (e1 : mv = .int k1 (m : Int)) (hm : m ≤ cap) (e2 : hv = .int k2 (hh : Int)) (hb : hh ≤ m) (h2 : Bd lo l 0 hh) :
    (Instr.sliceBounds s len cap lo (some hv) (some mv)).run P w = .ok (l, hh, m) w := by
  have br : ∀ {k : IntKind} {n top : Nat} {code : BoundsCode}, n ≤ top → (Instr.sliceBound (.int k (n : Int)) top code).run P w = .ok n w := fun {k n top code} hn => bound_run (kk := k) (i := (n : Int)) rfl (by omega) (by omega)
  subst e1
  subst e2
  unfold Instr.sliceBounds
  rcases h2 with ⟨rfl, rfl⟩ | ⟨k, rfl, hb2⟩
  · simp only [Sem.run_bind, Sem.run_pure, Result.andThen_ok, br hm, br hb]
  · simp only [Sem.run_bind, Sem.run_pure, Result.andThen_ok, br hm, br hb, br hb2]
theorem bd_of (g : AVrs σ tm a.tmps.toList) {b : Option Operand} {lo hi d n : Nat} (e : boundA (b.map (evalA tm)) lo hi d = some n) : Bd (b.map a.eval) n d hi ∧ (lo ≤ n ∨ n = d) := by
  have := boundA_rel (v := b.map a.eval) e (fun x hx => by
    cases b with
    | none => cases hx
    | some y => cases hx; exact ⟨_, rfl, evalA_ok g y⟩) (fun hx => by
    cases b with
    | none => rfl
    | some y => cases hx)
  rcases this with ⟨h1, h2⟩ | ⟨y, k, i, h1, h2, h3, h4, h5⟩
  · exact ⟨.inl ⟨h1, h2⟩, .inr h2⟩
  · subst h5; subst h2
    exact ⟨.inr ⟨k, h1, h4⟩, .inl h3⟩
theorem Bd.le {b : Option Value} {n d top : Nat} (h : Bd b n d top) (hd : d ≤ top) : n ≤ top := by
  rcases h with ⟨_, h⟩ | ⟨_, _, h⟩
  · omega
  · exact h
theorem slice_ok {t : TypeId} {x : Operand} {lo hi mx : Option Operand} {v : AV} (ho : o.op = .slice t x lo hi mx) (e : sliceA P t (evalA tm x) (lo.map (evalA tm)) (hi.map (evalA tm)) (mx.map (evalA tm)) = some v) (g : AVrs σ tm a.tmps.toList) (r : Hr w0 σ T h w) :
    Goes P w0 σ T w (execOp a.eval o) v h := by
  have gx := evalA_ok g x
  unfold execOp
  rw [ho]
  have at_ : ∀ {d : TypeDesc} {y : Value}, P.underlying t = some d → (∀ n e, d ≠ .array n e) → (Instr.slice t (a.eval x) (lo.map a.eval) (hi.map a.eval) (mx.map a.eval)).run P w = .ok y w →
      (Instr.sliceAt t (a.eval x) (lo.map a.eval) (hi.map a.eval) (mx.map a.eval)).run P w = .ok y w := fun {d y} hu hd hr => by
    unfold Instr.sliceAt
    rw [bind_run _ _ _ _ _ (under_run hu)]
    cases d <;> first | exact hr | exact absurd rfl (hd _ _)
  unfold sliceA at e
  split at e
  · rename_i s hx hu
    rw [hx] at gx
    generalize hax : a.eval x = X at gx
    cases gx
    split at e
    · rename_i hh hm hhi
      split at e
      · rename_i l hlo
        cases e
        cases mx with
        | some m => cases hm
        | none =>
          have b1 := (bd_of g hhi).1
          have b2 := (bd_of g hlo).1
          refine Goes.quiet r (at_ hu (fun _ _ q => by cases q) ?_) (.v _)
          unfold Instr.slice
          rw [bind_run _ _ _ _ _ (under_run hu), hax]
          show (Instr.sliceBounds false s.size s.size (lo.map a.eval) (hi.map a.eval) none >>= fun q => pure (Value.string (s.extract q.1 q.2.1))).run P w = _
          rw [bind_run _ _ _ _ _ (bounds_run b1 b2)]
          rfl
      · cases e
    · cases e
  · rename_i et hx hu
    rw [hx] at gx
    generalize hax : a.eval x = X at gx
    cases gx
    split at e
    · rename_i h1 l1 sz hm hhi hlo hse
      cases e
      cases mx with
      | some m => cases hm
      | none =>
        have b1 := (bd_of g hhi).1
        have b2 := (bd_of g hlo).1
        have z1 : h1 = 0 := by have := b1.le (Nat.le_refl _); omega
        have z2 : l1 = 0 := by have := b2.le (Nat.le_refl _); omega
        subst z1; subst z2
        rw [hx]
        refine Goes.quiet r (at_ hu (fun _ _ q => by cases q) ?_) (.v _)
        unfold Instr.slice
        rw [bind_run _ _ _ _ _ (under_run hu), hax]
        show (Instr.sliceBounds true 0 0 (lo.map a.eval) (hi.map a.eval) none >>= fun q => sizeOf et >>= fun size => pure (Value.slice (if q.2.2 = q.1 then none else Option.map (fun y : Addr => y.add (q.1 * size)) none) (q.2.1 - q.1) (q.2.2 - q.1))).run P w = _
        rw [bind_run _ _ _ _ _ (bounds_run b1 b2), bind_run _ _ _ _ _ (size_run hse)]
        rfl
    · cases e
  · rename_i o' sz off n c et hx hu
    rw [hx] at gx
    generalize hax : a.eval x = X at gx
    cases gx with
    | sl _ _ _ _ _ ad room A c' hσ hn hc hA =>
      split at e
      · rename_i hse
        split at e
        · rename_i hm
          split at e
          · rename_i hh hhi
            split at e
            · rename_i l hlo
              cases e
              cases mx with
              | some m => cases hm
              | none =>
                have b1 := (bd_of g hhi).1
                have b2 := (bd_of g hlo).1
                have hcd : n ≤ c.getD n ∧ c.getD n ≤ c' := by
                  cases c with
                  | none => exact ⟨Nat.le_refl _, hn⟩
                  | some k0 => have := hc k0 rfl; simp only [Option.getD_some]; omega
                have l1 := b1.le hcd.1
                have l2 := b2.le (by omega)
                have b1' : Bd (hi.map a.eval) hh n c' := by
                  rcases b1 with q | ⟨k, q1, q2⟩
                  · exact .inl q
                  · exact .inr ⟨k, q1, by omega⟩
                refine Goes.quiet r (y := .slice (if c' = l then A else A.map fun y => y.add (l * sz)) (hh - l) (c' - l)) (at_ hu (fun _ _ q => by cases q) ?_) ?_
                · unfold Instr.slice
                  rw [bind_run _ _ _ _ _ (under_run hu), hax]
                  show (Instr.sliceBounds true n c' (lo.map a.eval) (hi.map a.eval) none >>= fun q => sizeOf et >>= fun size => pure (Value.slice (if q.2.2 = q.1 then A else Option.map (fun y : Addr => y.add (q.1 * size)) A) (q.2.1 - q.1) (q.2.2 - q.1))).run P w = _
                  rw [bind_run _ _ _ _ _ (bounds_run b1' b2), bind_run _ _ _ _ _ (size_run hse)]
                  rfl
                · refine .sl _ _ _ _ _ ad room _ _ hσ (by omega) (fun k hk => ?_) (fun hpos => ?_)
                  · cases c with
                    | none => cases hk
                    | some k0 => cases hk; rw [hc k0 rfl]
                  · obtain ⟨a1, a2⟩ := hA (by omega)
                    rw [if_neg (by omega), a1]
                    refine ⟨congrArg some ?_, by omega⟩
                    show (ad.add (off * sz)).add (l * sz) = _
                    rw [add_add, ← Nat.add_mul]
            · cases e
          · cases e
        · rename_i m hm
          split at e
          · rename_i m' hv hmb hhv
            split at e
            · rename_i hh hhb
              split at e
              · rename_i l hlo
                cases e
                cases mx with
                | none => cases hm
                | some mo =>
                  cases hi with
                  | none => cases hhv
                  | some hio =>
                    cases hm
                    cases hhv
                    have b0 := (bd_of g (b := some mo) hmb).1
                    have b1 := (bd_of g (b := some hio) hhb).1
                    have b2 := (bd_of g hlo).1
                    obtain ⟨k0, q0, p0⟩ := b0.resolve_left (fun q => by cases q.1)
                    obtain ⟨k1, q1, p1⟩ := b1.resolve_left (fun q => by cases q.1)
                    have l2 := b2.le (by omega)
                    refine Goes.quiet r (y := .slice (if m' = l then A else A.map fun y => y.add (l * sz)) (hh - l) (m' - l)) (at_ hu (fun _ _ q => by cases q) ?_) ?_
                    · unfold Instr.slice
                      rw [bind_run _ _ _ _ _ (under_run hu), hax]
                      show (Instr.sliceBounds true n c' (lo.map a.eval) (some (a.eval hio)) (some (a.eval mo)) >>= fun q => sizeOf et >>= fun size => pure (Value.slice (if q.2.2 = q.1 then A else Option.map (fun y : Addr => y.add (q.1 * size)) A) (q.2.1 - q.1) (q.2.2 - q.1))).run P w = _
                      rw [bind_run _ _ _ _ _ (bounds3_run (Option.some.inj q0) (by omega) (Option.some.inj q1) p1 b2), bind_run _ _ _ _ _ (size_run hse)]
                      rfl
                    · refine .sl _ _ _ _ _ ad room _ _ hσ (by omega) (fun k hk => by cases hk; rfl) (fun hpos => ?_)
                      obtain ⟨a1, a2⟩ := hA (by omega)
                      rw [if_neg (by omega), a1]
                      refine ⟨congrArg some ?_, by omega⟩
                      show (ad.add (off * sz)).add (l * sz) = _
                      rw [add_add, ← Nat.add_mul]
              · cases e
            · cases e
          · cases e
      · cases e
  · cases e
end
end Go.Proofs.YtffopeihcebpjaaGreat.X
end
section
set_option linter.unusedVariables false
namespace Go.Proofs.YtffopeihcebpjaaGreat.X
open Go Go.RowKit
theorem foldl_put (off : Nat) : ∀ (xs : List Value) (k : Nat) (cs : Array Value), (xs.zipIdx k).foldl (fun cs (p : Value × Nat) => cs.setIfInBounds (off + p.2) p.1) cs = (putCells cs.toList (off + k) xs).toArray
  | [], k, cs => by simp [putCells]
  | x :: xs, k, cs => by
    rw [List.zipIdx_cons, List.foldl_cons, foldl_put off xs (k + 1)]
    rw [Array.toList_setIfInBounds]
    rfl
theorem fill_put (off : Nat) (v : Value) (cs : Array Value) : v.cells.zipIdx.foldl (fun cs (p : Value × Nat) => cs.setIfInBounds (off + p.2) p.1) cs = (putCells cs.toList off v.cells.toList).toArray := by
  rw [← Array.foldl_toList, Array.toList_zipIdx]
  exact foldl_put off v.cells.toList 0 cs
section
variable {P : Program} {w0 : Base} {σ : Sg} {T : Nat → Prop} {h : H} {w : World} {tm : List AV} {a : Act} {o : Oper}
inductive PartsR (σ : Sg) : List (Nat × AV) → List (Nat × Value) → Prop
  | nil : PartsR σ [] []
  | cons (i : Nat) (x : AV) (y : Value) (r : List (Nat × AV)) (s : List (Nat × Value)) (g : AVr σ x y) (gs : PartsR σ r s) : PartsR σ ((i, x) :: r) ((i, y) :: s)
theorem parts_of (g : AVrs σ tm a.tmps.toList) : ∀ l : List (Nat × Operand), PartsR σ (l.map fun p => (p.1, evalA tm p.2)) (l.map fun p => (p.1, a.eval p.2))
  | [] => .nil
  | p :: r => .cons _ _ _ _ _ (evalA_ok g p.2) (parts_of g r)
theorem fill_rel {place : Nat → Option (Nat × Nat)} : ∀ {ps : List (Nat × AV)} {qs : List (Nat × Value)} {cells cs : List AV} {vs : List Value}, PartsR σ ps qs → fillA place cells ps = some cs → AVrs σ cells vs →
    ∃ us : List Value, Instr.fill place vs.toArray qs = some us.toArray ∧ AVrs σ cs us ∧ cs.length = cells.length
  | _, _, cells, cs, vs, .nil, e, g => by
    cases e
    exact ⟨vs, rfl, g, rfl⟩
  | _, _, cells, cs, vs, .cons i x y r s gx gs, e, g => by
    unfold fillA at e
    split at e
    · rename_i p xs hp hx
      split at e
      · rename_i hc
        have gx2 := parts_rel gx hx
        have hl := gx2.len
        have hl2 := g.len
        obtain ⟨us, h1, h2, h3⟩ := fill_rel gs e (AVrs.put gx2 p.1 g)
        refine ⟨us, ?_, h2, by rw [h3, put_len]⟩
        have e1 : y.cells.size = p.2 := by rw [← Array.length_toList]; omega
        have hcond : (y.cells.size ≠ p.2 || decide (p.1 + y.cells.size > vs.toArray.size)) = false := by
          rw [e1, List.size_toArray]
          simp
          omega
        unfold Instr.fill
        rw [hp]
        simp only
        rw [if_neg (by rw [e1, List.size_toArray]; simp; omega)]
        have := fill_put p.1 y vs.toArray
        rw [show (vs.toArray).toList = vs from rfl] at this
        rw [this]
        exact h1
      · cases e
    · cases e
theorem places_run : ∀ (fs : List Field) (ps : List (Nat × Nat)), placesA P fs = some ps → (fs.mapM fun f => (do pure (f.offset, ← sizeOf f.type) : Sem (Nat × Nat))).run P w = .ok ps w
  | [], ps, e => by cases e; rfl
  | f :: r, ps, e => by
    unfold placesA at e
    split at e
    · rename_i s l hs hl
      cases e
      rw [List.mapM_cons]
      have h1 : (do pure (f.offset, ← sizeOf f.type) : Sem (Nat × Nat)).run P w = .ok (f.offset, s) w := by
        rw [bind_run _ _ _ _ _ (size_run hs)]; rfl
      rw [bind_run _ _ _ _ _ h1, bind_run _ _ _ _ _ (places_run r l hl)]
      rfl
    · cases e
theorem buildS_ok {t : TypeId} {parts : Array (Nat × Operand)} {z c : List AV} {fs : Array Field} {ps : List (Nat × Nat)} (ho : o.op = .build t parts) (hz : zeroT P t = some z) (hu : P.underlying t = some (.struct fs)) (hp : placesA P fs.toList = some ps)
    (e : fillA (fun i => ps[i]?) z (parts.toList.map fun p => (p.1, evalA tm p.2)) = some c) (g : AVrs σ tm a.tmps.toList) (r : Hr w0 σ T h w) : Goes P w0 σ T w (execOp a.eval o) (.ag c) h := by
  obtain ⟨v, hv, hvr⟩ := zero_run (σ := σ) (w := w) hz
  obtain ⟨us, h1, h2, _⟩ := fill_rel (parts_of g parts.toList) e hvr
  unfold execOp
  rw [ho]
  refine Goes.quiet r ?_ (.ag c us h2)
  unfold Instr.build
  rw [bind_run _ _ _ _ _ hv, bind_run _ _ _ _ _ (under_run hu)]
  have hm : (fs.mapM fun f => (do pure (f.offset, ← sizeOf f.type) : Sem (Nat × Nat))).run P w = .ok ps.toArray w := by
    rw [Array.mapM_eq_mapM_toList, Sem.run_map, places_run fs.toList ps hp]
    rfl
  simp only
  rw [bind_run _ _ _ _ _ hm]
  have hpt : (parts.map fun x => (x.1, a.eval x.2)).toList = parts.toList.map fun p => (p.1, a.eval p.2) := Array.toList_map ..
  have h1' : Instr.fill (ps.toArray[·]?) v.cells (parts.map fun x => (x.1, a.eval x.2)).toList = some us.toArray := by
    rw [hpt]
    have : (fun i => ps.toArray[i]?) = fun i => ps[i]? := funext fun i => List.getElem?_toArray ..
    rw [this]
    exact h1
  rw [h1']
  rfl
theorem buildA_ok {t e0 : TypeId} {n s : Nat} {parts : Array (Nat × Operand)} {z c : List AV} (ho : o.op = .build t parts) (hz : zeroT P t = some z) (hu : P.underlying t = some (.array n e0)) (hs : sizeT P e0 = some s)
    (e : fillA (fun i => some (i * s, s)) z (parts.toList.map fun p => (p.1, evalA tm p.2)) = some c) (g : AVrs σ tm a.tmps.toList) (r : Hr w0 σ T h w) : Goes P w0 σ T w (execOp a.eval o) (.ag c) h := by
  obtain ⟨v, hv, hvr⟩ := zero_run (σ := σ) (w := w) hz
  obtain ⟨us, h1, h2, _⟩ := fill_rel (parts_of g parts.toList) e hvr
  unfold execOp
  rw [ho]
  refine Goes.quiet r ?_ (.ag c us h2)
  unfold Instr.build
  rw [bind_run _ _ _ _ _ hv, bind_run _ _ _ _ _ (under_run hu)]
  simp only
  rw [bind_run _ _ _ _ _ (size_run hs)]
  have hpt : (parts.map fun x => (x.1, a.eval x.2)).toList = parts.toList.map fun p => (p.1, a.eval p.2) := Array.toList_map ..
  have h1' : Instr.fill (fun i => some (i * s, s)) v.cells (parts.map fun x => (x.1, a.eval x.2)).toList = some us.toArray := by
    rw [hpt]
    exact h1
  rw [h1']
  rfl
end
end Go.Proofs.YtffopeihcebpjaaGreat.X
end
section
set_option linter.unusedVariables false
namespace Go.Proofs.YtffopeihcebpjaaGreat.X
open Go Go.RowKit
theorem chunk_get {α : Type} (s : Nat) : ∀ (n : Nat) (l : List α) (i : Nat) (x : List α), (chunk s n l)[i]? = some x → i < n ∧ x = (l.drop (i * s)).take s
  | 0, l, i, x, h => by simp [chunk] at h
  | n + 1, l, 0, x, h => by
    simp [chunk] at h
    subst h
    simp
  | n + 1, l, i + 1, x, h => by
    rw [chunk, List.getElem?_cons_succ] at h
    obtain ⟨h1, h2⟩ := chunk_get s n (l.drop s) i x h
    refine ⟨by omega, ?_⟩
    rw [h2, List.drop_drop, show s + i * s = (i + 1) * s by rw [Nat.add_mul]; omega]
theorem chunk_len {α : Type} (s : Nat) : ∀ (n : Nat) (l : List α), (chunk s n l).length = n
  | 0, _ => rfl
  | n + 1, l => by rw [chunk, List.length_cons, chunk_len s n]
theorem rep_get {α : Type} (z : List α) : ∀ (n i : Nat), i < n * z.length → ((List.replicate n z).flatten)[i]? = z[i % z.length]?
  | 0, i, h => by omega
  | n + 1, i, h => by
    rw [List.replicate_succ, List.flatten_cons]
    rw [Nat.add_mul, Nat.one_mul] at h
    by_cases q : i < z.length
    · rw [List.getElem?_append_left q, Nat.mod_eq_of_lt q]
    · rw [List.getElem?_append_right (by omega), rep_get z n (i - z.length) (by omega), ← Nat.mod_eq_sub_mod (by omega)]
theorem AVrs.of_get {σ : Sg} : ∀ {as : List AV} {xs : List Value}, as.length = xs.length → (∀ (i : Nat) (a : AV) (x : Value), as[i]? = some a → xs[i]? = some x → AVr σ a x) → AVrs σ as xs
  | [], [], _, _ => .nil
  | [], _ :: _, h, _ => by cases h
  | _ :: _, [], h, _ => by cases h
  | a :: as, x :: xs, h, g => .cons _ _ _ _ (g 0 a x rfl rfl) (AVrs.of_get (by simpa using h) (fun i b y h1 h2 => g (i + 1) b y h1 h2))
section
variable {P : Program} {w0 : Base} {σ : Sg} {T : Nat → Prop} {h : H} {w : World} {tm : List AV} {a : Act} {o : Oper}
/-- A row made in a new block. -/
theorem Hr.row (r : Hr w0 σ T h w) (lim : h.n < w0.lim) (e : TypeId) (sz room : Nat) (els : List (List DV)) (vs : Array Value) (hl : els.length ≤ room) (hs : ∀ x ∈ els, x.length = sz) (hv : room * sz ≤ vs.size)
    (hc : ∀ i x j d, els[i]? = some x → x[j]? = some d → ∃ v, vs[i * sz + j]? = some v ∧ DVr T w d v) :
    Hr w0 (σ.add h.n (⟨w.heap.size, 0, none⟩, room)) T (h.new (.row sz els true)) (w.alloc (.cells vs e (0, 0))) := by
  refine r.alloc lim _ _ room ⟨⟨w.heap.size, 0, none⟩, room, Sg.add_same .., hl, hs, fun _ => ⟨vs, e, rfl, alloc_at w _, hv, fun i x j d h1 h2 => ?_⟩⟩
  obtain ⟨v, hv, hd⟩ := hc i x j d h1 h2
  exact ⟨v, hv, hd.up (fun _ q => q) (fun b hb => alloc_old w _ b (r.stay b hb))⟩
theorem new_sl (r : Hr w0 σ T h w) (sz n room c' : Nat) (hn : n ≤ c') (hr : c' ≤ room) : AVr (σ.add h.n (⟨w.heap.size, 0, none⟩, room)) (.sl h.n sz 0 n none) (.slice (some ⟨w.heap.size, 0, none⟩) n c') :=
  .sl _ _ _ _ _ ⟨w.heap.size, 0, none⟩ room _ _ (Sg.add_same ..) hn (fun k q => by cases q) (fun _ => ⟨by rw [Nat.zero_mul]; rfl, by omega⟩)
theorem zero_v {t : TypeId} {z : List AV} (e : zeroT P t = some z) : ∃ v, (zeroValue t).run P w = .ok v w ∧ z = v.cells.toList.map .v := by
  unfold zeroT at e
  split at e
  · rename_i i hi
    cases q : i.zero with
    | none => rw [q] at e; cases e
    | some v =>
      rw [q] at e
      cases e
      refine ⟨v, ?_, ?_⟩
      · unfold zeroValue
        rw [bind_run _ _ _ _ _ (info_run hi), q]
        rfl
      · cases v <;> rfl
  · cases e
theorem seal_v : ∀ (l : List Value) (h : H), sealL h (l.map .v) = some (l.map DV.v, h)
  | [], h => rfl
  | x :: r, h => by
    show sealL h (AV.v x :: r.map .v) = _
    unfold sealL
    have : sealD h (.v x) = some (.v x, h) := by unfold sealD; rfl
    rw [this]
    simp only
    rw [seal_v r h]
    rfl
theorem zeros_v {t : TypeId} {z : List DV} (e : zerosA P t h = some z) : ∃ v, (zeroValue t).run P w = .ok v w ∧ z = v.cells.toList.map DV.v := by
  unfold zerosA at e
  split at e
  · rename_i y hy
    obtain ⟨v, hv, rfl⟩ := zero_v (w := w) hy
    rw [seal_v] at e
    cases e
    exact ⟨v, hv, rfl⟩
  · cases e
theorem zcells_get (z : Array Value) (n k : Nat) (hk : k < n) (hz : 0 < z.size) : ((Array.range n).map (fun i => z[i % z.size]!))[k]? = z[k % z.size]? := by
  have hm : k % z.size < z.size := Nat.mod_lt _ hz
  rw [Array.getElem?_map, Array.getElem?_range, if_pos hk]
  simp [hm]
/-- Rows of zeros: what lies at element i, cell j. -/
theorem zrow_cell {v : Value} {i j n : Nat} {d : DV} {sz : Nat} (hsz : v.cells.size = sz) (hn : i * sz + j < n) (hd : (v.cells.toList.map DV.v)[j]? = some d) :
    ∃ x, ((Array.range n).map (fun i => v.cells[i % v.cells.size]!))[i * sz + j]? = some x ∧ DVr T w d x := by
  rw [List.getElem?_map] at hd
  cases q : v.cells.toList[j]? with
  | none => rw [q] at hd; cases hd
  | some x =>
    rw [q] at hd
    cases hd
    have hj : j < v.cells.toList.length := (List.getElem?_eq_some_iff.1 q).1
    rw [Array.length_toList] at hj
    refine ⟨x, ?_, .v x⟩
    rw [zcells_get _ _ _ hn (by omega), hsz, Nat.add_comm, Nat.add_mul_mod_self_right, Nat.mod_eq_of_lt (by omega)]
    rw [← Array.getElem?_toList]
    exact q
theorem wrap_small {n : Int} (h0 : 0 ≤ n) (h1 : n ≤ 35184372088832) : IntKind.i64.wrap n = n := by
  rw [IntKind.wrap_i64]; omega
theorem room_spec {e : TypeId} {n : Nat} (h : roomA P e n = true) : ∃ i, P.info? e = some i ∧ n ≤ 35184372088832 ∧ n * i.bytes ≤ 35184372088832 := by
  unfold roomA at h
  split at h
  · rename_i i hi
    have := of_decide_eq_true h
    exact ⟨i, hi, this.1, this.2⟩
  · cases h
theorem askRoom_run (n : Nat) : (askRoom n).run P w = .ok () w := by
  unfold askRoom
  split <;> rfl
theorem newRow_run (e : TypeId) (vs : Array Value) : (newRow e vs).run P w = .ok ⟨w.heap.size, 0, none⟩ (w.alloc (.cells vs e (0, 0))) := rfl
theorem makeSlice_ok (lim : h.n < w0.lim) {t e : TypeId} {l c : Operand} {li ci : Int} {z : List DV} {s : Nat} (ho : o.op = .makeSlice t l c) (hu : P.underlying t = some (.slice e)) (hl : intOf (evalA tm l) = some li) (hc : intOf (evalA tm c) = some ci) (hz : zerosA P e h = some z) (hs : sizeT P e = some s)
    (h0 : 0 ≤ li) (h1 : li ≤ ci) (hr : roomA P e ci.toNat = true) (hzs : z.length = s) (g : AVrs σ tm a.tmps.toList) (r : Hr w0 σ T h w) :
    Goes P w0 σ T w (execOp a.eval o) (.sl h.n s 0 li.toNat none) (h.new (.row s (List.replicate li.toNat z) true)) := by
  obtain ⟨k1, e1⟩ := intOf_rel (evalA_ok g l) hl
  obtain ⟨k2, e2⟩ := intOf_rel (evalA_ok g c) hc
  obtain ⟨v, hv, rfl⟩ := zeros_v (w := w) hz
  obtain ⟨i, hi, b1, b2⟩ := room_spec hr
  have hvs : v.cells.size = s := by rw [← hzs, List.length_map, Array.length_toList]
  have wl : IntKind.i64.wrap li = li := wrap_small h0 (by omega)
  have wc : IntKind.i64.wrap ci = ci := wrap_small (by omega) (by omega)
  obtain ⟨zz, hzz⟩ : ∃ zz : Array Value, zz = (Array.range (ci.toNat * s)).map (fun i => (if ci.toNat * s = 0 then #[] else v.cells)[i % (if ci.toNat * s = 0 then #[] else v.cells).size]!) := ⟨_, rfl⟩
  have hzsize : zz.size = ci.toNat * s := by rw [hzz]; simp
  have key : ∀ i x j d, (List.replicate li.toNat (v.cells.toList.map DV.v))[i]? = some x → x[j]? = some d → ∃ y, zz[i * s + j]? = some y ∧ DVr T w d y := fun i x j d p1 p2 => by
    have hi' := (List.getElem?_eq_some_iff.1 p1).1
    rw [List.length_replicate] at hi'
    rw [List.getElem?_replicate, if_pos hi'] at p1
    cases p1
    have hj := (List.getElem?_eq_some_iff.1 p2).1
    rw [hzs] at hj
    have hb : (i + 1) * s ≤ ci.toNat * s := Nat.mul_le_mul_right _ (by omega)
    have hb2 : (i + 1) * s = i * s + s := Nat.succ_mul ..
    rw [hzz, if_neg (by omega)]
    exact zrow_cell hvs (by omega) p2
  refine ⟨_, T, _, .value (.slice (some ⟨w.heap.size, 0, none⟩) li.toNat ci.toNat), _, r.add_le lim _, fun _ q => q, ?_, .inl rfl,
    r.row lim e s ci.toNat _ zz (by rw [List.length_replicate]; omega) (fun x hx => by rw [(List.mem_replicate.1 hx).2]; exact hzs) (by omega) key, new_sl r s li.toNat ci.toNat ci.toNat (by omega) (Nat.le_refl _)⟩
  unfold execOp
  rw [ho]
  refine val_run ?_
  show (Instr.makeSlice t (a.eval l) (a.eval c)).run P w = _
  rw [e1, e2]
  have hb3 : ((i.bytes : Int) * ci ≤ 35184372088832) := by
    have : ((ci.toNat * i.bytes : Nat) : Int) ≤ 35184372088832 := by omega
    rw [Int.natCast_mul, Int.toNat_of_nonneg (by omega), Int.mul_comm] at this
    exact this
  have hb4 : (0 : Int) ≤ (i.bytes : Int) * ci := Int.mul_nonneg (by omega) (by omega)
  obtain ⟨bb, hbb⟩ : ∃ bb : Int, bb = (i.bytes : Int) * ci := ⟨_, rfl⟩
  have hcond : ((decide (ci < 0) || decide ((i.bytes : Int) * ci > 2 ^ 48)) || decide (li < 0) || decide (li > ci)) = false := by
    rw [← hbb] at hb3 hb4 ⊢
    simp
    omega
  unfold Instr.makeSlice
  rw [bind_run _ _ _ _ _ (under_run hu)]
  simp only
  rw [bind_run _ _ _ w li rfl, bind_run _ _ _ w ci rfl, bind_run _ _ _ _ _ (info_run hi)]
  simp only [wl, wc]
  rw [if_neg (by rw [hcond]; simp), bind_run _ _ _ _ _ (askRoom_run _), bind_run _ _ _ _ _ (size_run hs)]
  by_cases hn : ci.toNat * s = 0
  · simp only [if_pos hn] at hzz ⊢
    rw [bind_run _ _ _ w #[] rfl, ← hzz, bind_run _ _ _ _ _ (newRow_run e zz)]
    rfl
  · simp only [if_neg hn] at hzz ⊢
    rw [bind_run _ _ _ _ _ hv, bind_run _ _ _ w v.cells rfl, ← hzz, bind_run _ _ _ _ _ (newRow_run e zz)]
    rfl
theorem buildSlice_ok {t e : TypeId} {len s : Nat} {parts : Array (Nat × Operand)} {z cs : List AV} {y : List DV × H} (lim : y.2.n < w0.lim) (ho : o.op = .buildSlice t len parts) (hu : P.underlying t = some (.slice e)) (hz : zeroT P e = some z) (hs : sizeT P e = some s) (hle : len * s ≤ 16777216) (hzs : z.length = s)
    (ef : fillA (fun i => some (i * s, s)) (List.replicate len z).flatten (parts.toList.map fun p => (p.1, evalA tm p.2)) = some cs) (es : sealL h cs = some y) (g : AVrs σ tm a.tmps.toList) (r : Hr w0 σ T h w) :
    Goes P w0 σ T w (execOp a.eval o) (.sl y.2.n s 0 len none) (y.2.new (.row s (chunk s len y.1) true)) := by
  obtain ⟨v, hv, rfl⟩ := zero_v (w := w) hz
  have hvs : v.cells.size = s := by rw [← hzs, List.length_map, Array.length_toList]
  obtain ⟨zz, hzz⟩ : ∃ zz : Array Value, zz = (Array.range (len * s)).map (fun i => (if len * s = 0 then #[] else v.cells)[i % (if len * s = 0 then #[] else v.cells).size]!) := ⟨_, rfl⟩
  have hzsize : zz.size = len * s := by rw [hzz]; simp
  have hfl : ((List.replicate len (v.cells.toList.map AV.v)).flatten).length = len * s := by
    rw [List.length_flatten, List.map_replicate, hzs, List.sum_replicate_nat]
  have hrel : AVrs σ (List.replicate len (v.cells.toList.map AV.v)).flatten zz.toList := by
    refine AVrs.of_get (by rw [hfl, Array.length_toList, hzsize]) (fun i b x h1 h2 => ?_)
    have hi : i < len * s := by have := (List.getElem?_eq_some_iff.1 h1).1; omega
    have hsp : 0 < s := by
      refine Nat.pos_of_ne_zero (fun q => ?_)
      rw [q, Nat.mul_zero] at hi; omega
    rw [rep_get _ _ _ (by rw [hzs]; exact hi), hzs, List.getElem?_map] at h1
    rw [Array.getElem?_toList, hzz, if_neg (by omega), zcells_get _ _ _ hi (by omega), hvs, ← Array.getElem?_toList] at h2
    rw [h2] at h1
    cases h1
    exact .v x
  obtain ⟨us, f1, f2, f3⟩ := fill_rel (parts_of g parts.toList) ef hrel
  obtain ⟨T', hT, r', hd⟩ := sealL_ok es f2 r
  have hul : us.length = len * s := by rw [← f2.len, f3, hfl]
  have hyl : y.1.length = len * s := by rw [hd.len, hul]
  have key : ∀ i x j d, (chunk s len y.1)[i]? = some x → x[j]? = some d → ∃ q, us.toArray[i * s + j]? = some q ∧ DVr T' w d q := fun i x j d p1 p2 => by
    obtain ⟨hi, rfl⟩ := chunk_get s len y.1 i x p1
    obtain ⟨p3, p4⟩ := get_cut p2
    obtain ⟨q, q1, q2⟩ := hd.get _ _ p3
    exact ⟨q, by rw [List.getElem?_toArray]; exact q1, q2⟩
  refine ⟨_, T', _, .value (.slice (some ⟨w.heap.size, 0, none⟩) len len), _, r'.add_le lim _, hT, ?_, .inl rfl,
    r'.row lim e s len _ us.toArray (by rw [chunk_len]; omega) (fun x hx => ?_) (by rw [List.size_toArray]; omega) key, new_sl r' s len len len (Nat.le_refl _) (Nat.le_refl _)⟩
  · unfold execOp
    rw [ho]
    refine val_run ?_
    unfold Instr.buildSlice
    rw [bind_run _ _ _ _ _ (under_run hu)]
    simp only
    rw [bind_run _ _ _ _ _ (size_run hs), if_neg (by omega)]
    have hpt : (parts.map fun x => (x.1, a.eval x.2)).toList = parts.toList.map fun p => (p.1, a.eval p.2) := Array.toList_map ..
    have f1' : Instr.fill (fun i => some (i * s, s)) zz (parts.map fun x => (x.1, a.eval x.2)).toList = some us.toArray := by
      rw [hpt]
      exact f1
    by_cases hn : len * s = 0
    · simp only [if_pos hn] at hzz ⊢
      rw [bind_run _ _ _ w #[] rfl]
      try simp only
      rw [← hzz, f1']
      try simp only
      rw [bind_run _ _ _ _ _ (newRow_run e us.toArray)]
      rfl
    · simp only [if_neg hn] at hzz ⊢
      rw [bind_run _ _ _ _ _ hv, bind_run _ _ _ w v.cells rfl]
      try simp only
      rw [← hzz, f1']
      try simp only
      rw [bind_run _ _ _ _ _ (newRow_run e us.toArray)]
      rfl
  · obtain ⟨i, hi⟩ := List.mem_iff_getElem?.1 hx
    obtain ⟨h1, rfl⟩ := chunk_get s len y.1 i x hi
    rw [List.length_take, List.length_drop, hyl]
    have hb : (i + 1) * s ≤ len * s := Nat.mul_le_mul_right _ (by omega)
    have hb2 : (i + 1) * s = i * s + s := Nat.succ_mul ..
    omega
end
end Go.Proofs.YtffopeihcebpjaaGreat.X
end
section
set_option linter.unusedVariables false
namespace Go.Proofs.YtffopeihcebpjaaGreat.X
open Go Go.RowKit
section
variable {P : Program} {w0 : Base} {σ : Sg} {T : Nat → Prop} {h : H} {w : World} {tm : List AV} {a : Act} {o : Oper}
/-- Cells in a row stand for elements. -/
def Cells (T : Nat → Prop) (w : World) (sz : Nat) (els : List (List DV)) (vs : List Value) : Prop :=
  vs.length = els.length * sz ∧ (∀ e ∈ els, e.length = sz) ∧ ∀ i e j d, els[i]? = some e → e[j]? = some d → ∃ v, vs[i * sz + j]? = some v ∧ DVr T w d v
theorem row_facts (r : Hr w0 σ T h w) {o sz : Nat} {els : List (List DV)} {own : Bool} {ad : Addr} {room : Nat} (hg : h.get o = .row sz els own) (ho : σ o = some (ad, room)) :
    (∀ e ∈ els, e.length = sz) ∧ ∀ i e j d, els[i]? = some e → e[j]? = some d → ∃ v, w.cell? (ad.add (i * sz + j)) = some v ∧ DVr T w d v := by
  have hO := r.obj o
  rw [hg] at hO
  cases own
  · obtain ⟨a2, room2, q1, q2⟩ := hO
    rw [ho] at q1
    cases q1
    refine ⟨q2.1, fun i e j d h1 h2 => ?_⟩
    obtain ⟨_, v, hv, hd⟩ := q2.2 i e j d h1 h2
    exact ⟨v, hv, hd⟩
  · obtain ⟨a2, room2, q1, q2, q3, q4⟩ := hO
    rw [ho] at q1
    cases q1
    refine ⟨q3, fun i e j d h1 h2 => ?_⟩
    have hi : i < els.length := (List.getElem?_eq_some_iff.1 h1).1
    obtain ⟨vs, et, f0, f1, f2, f3⟩ := q4 (by omega)
    obtain ⟨v, hv, hd⟩ := f3 i e j d h1 h2
    exact ⟨v, by rw [f0, add_plain0, cell_at f1]; exact hv, hd⟩
theorem row_cells {sz off n : Nat} {els : List (List DV)} {ad : Addr} (F : (∀ e ∈ els, e.length = sz) ∧ ∀ i e j d, els[i]? = some e → e[j]? = some d → ∃ v, w.cell? (ad.add (i * sz + j)) = some v ∧ DVr T w d v) (hl : off + n ≤ els.length) :
    ∃ vs : List Value, Cells T w sz ((els.drop off).take n) vs ∧ ∀ k v, vs[k]? = some v → w.cell? ((ad.add (off * sz)).add k) = some v := by
  have hlen : ((els.drop off).take n).length = n := by rw [List.length_take, List.length_drop]; omega
  obtain ⟨vs, hvs⟩ : ∃ vs : List Value, vs = (List.range (n * sz)).map (fun k => (w.cell? (ad.add (off * sz + k))).getD default) := ⟨_, rfl⟩
  have get : ∀ k, k < n * sz → vs[k]? = some ((w.cell? (ad.add (off * sz + k))).getD default) := fun k hk => by
    rw [hvs, List.getElem?_map, List.getElem?_range hk]; rfl
  have at_ : ∀ i j, i < n → j < sz → ∃ v, w.cell? (ad.add (off * sz + (i * sz + j))) = some v := fun i j hi hj => by
    have h1 : off + i < els.length := by omega
    have h2 := F.1 _ (List.getElem_mem h1)
    obtain ⟨v, hv, _⟩ := F.2 (off + i) els[off + i] j (els[off + i][j]'(by omega)) (List.getElem?_eq_getElem h1) (List.getElem?_eq_getElem (by omega))
    exact ⟨v, by rw [show off * sz + (i * sz + j) = (off + i) * sz + j by rw [Nat.add_mul]; omega]; exact hv⟩
  refine ⟨vs, ⟨by rw [hvs, List.length_map, List.length_range, hlen], fun e he => F.1 e (mem_cut he), fun i e j d h1 h2 => ?_⟩, fun k v hk => ?_⟩
  · obtain ⟨p1, p2⟩ := get_cut h1
    obtain ⟨v, hv, hd⟩ := F.2 (off + i) e j d p1 h2
    have hj : j < sz := by
      have q1 := (List.getElem?_eq_some_iff.1 h2).1
      have q2 := F.1 e (List.mem_of_getElem? p1)
      omega
    have hb : (i + 1) * sz ≤ n * sz := Nat.mul_le_mul_right _ (by omega)
    have hb2 : (i + 1) * sz = i * sz + sz := Nat.succ_mul ..
    refine ⟨v, ?_, hd⟩
    rw [get _ (by omega), show off * sz + (i * sz + j) = (off + i) * sz + j by rw [Nat.add_mul]; omega, hv]
    rfl
  · have hk2 : k < n * sz := by
      have := (List.getElem?_eq_some_iff.1 hk).1
      rw [hvs, List.length_map, List.length_range] at this
      exact this
    have hsz : 0 < sz := by
      refine Nat.pos_of_ne_zero (fun q => ?_)
      rw [q, Nat.mul_zero] at hk2; omega
    have e1 : k = (k / sz) * sz + k % sz := by rw [Nat.mul_comm]; exact (Nat.div_add_mod k sz).symm
    obtain ⟨u, hu⟩ := at_ (k / sz) (k % sz) (Nat.div_lt_of_lt_mul (by rw [Nat.mul_comm]; exact hk2)) (Nat.mod_lt _ hsz)
    rw [← e1] at hu
    rw [get k hk2, hu] at hk
    rw [add_add, hu]
    exact hk
theorem len_run {x : AV} {X : Value} {es : Nat} {new : List (List DV)} (e : elsAt h es x = some new) (g : AVr σ x X) (r : Hr w0 σ T h w) : (Builtin.lenOf X).run P w = .ok new.length w ∧
    ∀ n, n ≤ new.length → ∃ vs : List Value, (Builtin.firstCells es n X).run P w = .ok vs.toArray w ∧ Cells T w es (new.take n) vs := by
  unfold elsAt at e
  split at e
  · rename_i A c
    cases e
    cases g
    refine ⟨rfl, fun n hn => ⟨[], ?_, ?_⟩⟩
    · have hn0 : n = 0 := by simpa using hn
      subst hn0
      cases A with
      | none => rfl
      | some a =>
        show (loadCells a (0 * es)).run P w = _
        rw [Nat.zero_mul]
        rfl
    · have : n = 0 := by simpa using hn
      subst this
      exact ⟨by simp, fun x hx => by simp at hx, fun i e j d q => by simp at q⟩
  · rename_i s
    split at e
    · rename_i he
      subst he
      cases e
      cases g
      have hlen : (s.data.toList.map fun b => [DV.v (.int .u8 b.toNat)]).length = s.size := by rw [List.length_map]; rfl
      refine ⟨by rw [hlen]; rfl, fun n hn => ⟨((s.extract 0 n).data.map fun b => Value.int .u8 b.toNat).toList, ?_, ?_⟩⟩
      · show Result.ok ((s.extract 0 n).data.map fun b => Value.int .u8 b.toNat) w = _
        rw [Array.toArray_toList]
      · rw [hlen] at hn
        have hd : (s.extract 0 n).data.toList = s.data.toList.take n := by
          rw [ByteArray.data_extract]
          simp
        refine ⟨?_, fun x hx => ?_, fun i e j d h1 h2 => ?_⟩
        · rw [Array.toList_map, List.length_map, hd, List.length_take, List.length_take, List.length_map, Nat.mul_one]
        · obtain ⟨b, _, rfl⟩ := List.mem_map.1 (List.mem_of_mem_take hx)
          rfl
        · rw [← List.map_take, List.getElem?_map] at h1
          cases q : (s.data.toList.take n)[i]? with
          | none => rw [q] at h1; cases h1
          | some b =>
            rw [q] at h1
            cases h1
            cases j with
            | succ j => simp at h2
            | zero =>
              cases h2
              refine ⟨.int .u8 b.toNat, ?_, .v _⟩
              rw [Nat.mul_one, Nat.add_zero, Array.toList_map, List.getElem?_map, hd, q]
              rfl
    · cases e
  · rename_i o' sz off n0 c
    split at e
    · rename_i sz' els own hg
      split at e
      · rename_i hc
        obtain ⟨rfl, rfl, hl⟩ := hc
        cases e
        cases g with
        | sl _ _ _ _ _ ad room A c' hσ hn hcc hA =>
          have hlen : ((els.drop off).take n0).length = n0 := by rw [List.length_take, List.length_drop]; omega
          refine ⟨by rw [hlen]; rfl, fun n hnn => ?_⟩
          rw [hlen] at hnn
          obtain ⟨vs, hv1, hv2⟩ := row_cells (row_facts r hg hσ) (off := off) (n := n) (by omega)
          rw [List.take_take, Nat.min_eq_left hnn]
          refine ⟨vs, ?_, hv1⟩
          have hlv := hv1.1
          rw [List.length_take, List.length_drop, Nat.min_eq_left (by omega)] at hlv
          by_cases hz : n = 0
          · subst hz
            have : vs = [] := List.eq_nil_of_length_eq_zero (by rw [hlv, Nat.zero_mul])
            subst this
            cases A with
            | none => rfl
            | some ad2 =>
              show (loadCells ad2 (0 * sz')).run P w = _
              rw [Nat.zero_mul]
              rfl
          · obtain ⟨a1, _⟩ := hA (by omega)
            subst a1
            show (loadCells (ad.add (off * sz')) (n * sz')).run P w = _
            rw [← hlv]
            exact loadCells_run _ _ hv2
      · cases e
    · cases e
  · cases e
end
end Go.Proofs.YtffopeihcebpjaaGreat.X
end
