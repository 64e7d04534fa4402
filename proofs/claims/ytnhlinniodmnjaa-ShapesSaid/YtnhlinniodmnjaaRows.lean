/-
  No cell of these rows narrows 'for every input' (looked for: loops, veiled, ifaces, maps, wideKeys, modest, calm, conditions, laid).
  DERIVED. THE GIVEN ROWS OF THIS SEAT. 15 by the template 'for every input the law returns true; each argument reads behind the call as it read before'; 0 by the template 'total and deterministic' (their statements: YtnhlinniodmnjaaTotals.lean).
  GIVEN WITH THE SEED: the statements are not yours to turn. If you find one false, say at which input.
  Laid BY PROGRAM, IN A SANDBOX (cutbox-rows.mjs): the forced cells as the released guide's own fill.sh prints them over the translation f11840576e5701ce… (all of the seat's roots in one cut). By AI agents, Wed Nov 11 2026. No macro, syntax, notation, axiom, sorry.
-/
import Derived.Test.YtnhlinniodmnjaaChecked
import GoSem.Claim
import GoSem.ClaimJoined
import GoSem.ClaimMapViews
import Derived.JoinedTies
import Derived.KernelRfl
namespace Go.Proofs.Ytnhlinniodmnjaa
/- THE CELL 'sum', in the pinned program and in every row, IS THE sha256 OF THE DUMP (.gsa) THAT YtnhlinniodmnjaaProg.lean LOADS. Nothing in Lean hashes anything: it is a label: what it is worth is what the hold of that sum in a sandbox is worth. -/
noncomputable def Try.pinned : Pinned := { name := "ytnhlinniodmnjaa", sum := "f11840576e5701ce0ff44fcfeb7f78b292555c861466824df4c526bd1204e797", checked := Try.checked }
namespace Rows
def none {H : Type} : Left H := { results := [], args := [] }

/-- 'grafterlaw5.Shapes': WHATEVER THE INPUT: true; the input reads as it did. -/
def shapesSpec : ChangeSpec := { name := "shapes", fn := fun _ => fun
  | [d1, d2, d3] => { results := [.lit (.bool true)], args := [d1, d2, d3] }
  | _ => none }
def shapesRow : OpenClaim := { program := "ytnhlinniodmnjaa", sum := "f11840576e5701ce0ff44fcfeb7f78b292555c861466824df4c526bd1204e797", func := "grafter/grafterlaw5.Shapes", spec := "shapes", apart := false }
def ShapesSaid : Prop := shapesRow.holds Try.pinned (OpenSpec.ofChange shapesSpec)

/-- ITS FALSE NEIGHBOUR: 'it returns false'. Refute it at one input. -/
def shapesWrong : ChangeSpec := { name := "shapes", fn := fun _ => fun
  | [d1, d2, d3] => { results := [.lit (.bool false)], args := [d1, d2, d3] }
  | _ => none }
def ShapesWrongFalsely : Prop := shapesRow.holds Try.pinned (OpenSpec.ofChange shapesWrong)

/-- 'grafterlaw5.ShapeForms': WHATEVER THE INPUT: true; the input reads as it did. -/
def shapeFormsSpec : ChangeSpec := { name := "shapeForms", fn := fun _ => fun
  | [d1, d2] => { results := [.lit (.bool true)], args := [d1, d2] }
  | _ => none }
def shapeFormsRow : OpenClaim := { program := "ytnhlinniodmnjaa", sum := "f11840576e5701ce0ff44fcfeb7f78b292555c861466824df4c526bd1204e797", func := "grafter/grafterlaw5.ShapeForms", spec := "shapeForms", apart := false }
def ShapeFormsSaid : Prop := shapeFormsRow.holds Try.pinned (OpenSpec.ofChange shapeFormsSpec)

/-- ITS FALSE NEIGHBOUR: 'it returns false'. Refute it at one input. -/
def shapeFormsWrong : ChangeSpec := { name := "shapeForms", fn := fun _ => fun
  | [d1, d2] => { results := [.lit (.bool false)], args := [d1, d2] }
  | _ => none }
def ShapeFormsWrongFalsely : Prop := shapeFormsRow.holds Try.pinned (OpenSpec.ofChange shapeFormsWrong)

/-- 'grafterlaw5.ShapeTable': WHATEVER THE INPUT: true; the input reads as it did. -/
def shapeTableSpec : ChangeSpec := { name := "shapeTable", fn := fun _ => fun
  | [d] => { results := [.lit (.bool true)], args := [d] }
  | _ => none }
def shapeTableRow : OpenClaim := { program := "ytnhlinniodmnjaa", sum := "f11840576e5701ce0ff44fcfeb7f78b292555c861466824df4c526bd1204e797", func := "grafter/grafterlaw5.ShapeTable", spec := "shapeTable", apart := false }
def ShapeTableSaid : Prop := shapeTableRow.holds Try.pinned (OpenSpec.ofChange shapeTableSpec)

/-- ITS FALSE NEIGHBOUR: 'it returns false'. Refute it at one input. -/
def shapeTableWrong : ChangeSpec := { name := "shapeTable", fn := fun _ => fun
  | [d] => { results := [.lit (.bool false)], args := [d] }
  | _ => none }
def ShapeTableWrongFalsely : Prop := shapeTableRow.holds Try.pinned (OpenSpec.ofChange shapeTableWrong)

/-- 'grafterlaw5.ShapeDraws': WHATEVER THE INPUT: true; the input reads as it did. -/
def shapeDrawsSpec : ChangeSpec := { name := "shapeDraws", fn := fun _ => fun
  | [d1, d2, d3] => { results := [.lit (.bool true)], args := [d1, d2, d3] }
  | _ => none }
def shapeDrawsRow : OpenClaim := { program := "ytnhlinniodmnjaa", sum := "f11840576e5701ce0ff44fcfeb7f78b292555c861466824df4c526bd1204e797", func := "grafter/grafterlaw5.ShapeDraws", spec := "shapeDraws", apart := false }
def ShapeDrawsSaid : Prop := shapeDrawsRow.holds Try.pinned (OpenSpec.ofChange shapeDrawsSpec)

/-- ITS FALSE NEIGHBOUR: 'it returns false'. Refute it at one input. -/
def shapeDrawsWrong : ChangeSpec := { name := "shapeDraws", fn := fun _ => fun
  | [d1, d2, d3] => { results := [.lit (.bool false)], args := [d1, d2, d3] }
  | _ => none }
def ShapeDrawsWrongFalsely : Prop := shapeDrawsRow.holds Try.pinned (OpenSpec.ofChange shapeDrawsWrong)

/-- 'grafterlaw5.ShapeApart': WHATEVER THE INPUT: true; the input reads as it did. -/
def shapeApartSpec : ChangeSpec := { name := "shapeApart", fn := fun _ => fun
  | [d1, d2, d3] => { results := [.lit (.bool true)], args := [d1, d2, d3] }
  | _ => none }
def shapeApartRow : OpenClaim := { program := "ytnhlinniodmnjaa", sum := "f11840576e5701ce0ff44fcfeb7f78b292555c861466824df4c526bd1204e797", func := "grafter/grafterlaw5.ShapeApart", spec := "shapeApart", apart := false }
def ShapeApartSaid : Prop := shapeApartRow.holds Try.pinned (OpenSpec.ofChange shapeApartSpec)

/-- ITS FALSE NEIGHBOUR: 'it returns false'. Refute it at one input. -/
def shapeApartWrong : ChangeSpec := { name := "shapeApart", fn := fun _ => fun
  | [d1, d2, d3] => { results := [.lit (.bool false)], args := [d1, d2, d3] }
  | _ => none }
def ShapeApartWrongFalsely : Prop := shapeApartRow.holds Try.pinned (OpenSpec.ofChange shapeApartWrong)

/-- 'grafterlaw8.Optims': WHATEVER THE INPUT: true; the input reads as it did. -/
def optimsSpec : ChangeSpec := { name := "optims", fn := fun _ => fun
  | [d1, d2, d3, d4] => { results := [.lit (.bool true)], args := [d1, d2, d3, d4] }
  | _ => none }
def optimsRow : OpenClaim := { program := "ytnhlinniodmnjaa", sum := "f11840576e5701ce0ff44fcfeb7f78b292555c861466824df4c526bd1204e797", func := "grafter/grafterlaw8.Optims", spec := "optims", unfollowed := true, recurses := true, apart := false }
def OptimsSaid : Prop := optimsRow.holds Try.pinned (OpenSpec.ofChange optimsSpec)

/-- ITS FALSE NEIGHBOUR: 'it returns false'. Refute it at one input. -/
def optimsWrong : ChangeSpec := { name := "optims", fn := fun _ => fun
  | [d1, d2, d3, d4] => { results := [.lit (.bool false)], args := [d1, d2, d3, d4] }
  | _ => none }
def OptimsWrongFalsely : Prop := optimsRow.holds Try.pinned (OpenSpec.ofChange optimsWrong)

/-- 'grafterlaw8.OptimForms': WHATEVER THE INPUT: true; the input reads as it did. -/
def optimFormsSpec : ChangeSpec := { name := "optimForms", fn := fun _ => fun
  | [d1, d2] => { results := [.lit (.bool true)], args := [d1, d2] }
  | _ => none }
def optimFormsRow : OpenClaim := { program := "ytnhlinniodmnjaa", sum := "f11840576e5701ce0ff44fcfeb7f78b292555c861466824df4c526bd1204e797", func := "grafter/grafterlaw8.OptimForms", spec := "optimForms", unfollowed := true, recurses := true, apart := false }
def OptimFormsSaid : Prop := optimFormsRow.holds Try.pinned (OpenSpec.ofChange optimFormsSpec)

/-- ITS FALSE NEIGHBOUR: 'it returns false'. Refute it at one input. -/
def optimFormsWrong : ChangeSpec := { name := "optimForms", fn := fun _ => fun
  | [d1, d2] => { results := [.lit (.bool false)], args := [d1, d2] }
  | _ => none }
def OptimFormsWrongFalsely : Prop := optimFormsRow.holds Try.pinned (OpenSpec.ofChange optimFormsWrong)

/-- 'grafterlaw8.OptimStill': WHATEVER THE INPUT: true; the input reads as it did. -/
def optimStillSpec : ChangeSpec := { name := "optimStill", fn := fun _ => fun
  | [d1, d2] => { results := [.lit (.bool true)], args := [d1, d2] }
  | _ => none }
def optimStillRow : OpenClaim := { program := "ytnhlinniodmnjaa", sum := "f11840576e5701ce0ff44fcfeb7f78b292555c861466824df4c526bd1204e797", func := "grafter/grafterlaw8.OptimStill", spec := "optimStill", unfollowed := true, recurses := true, apart := false }
def OptimStillSaid : Prop := optimStillRow.holds Try.pinned (OpenSpec.ofChange optimStillSpec)

/-- ITS FALSE NEIGHBOUR: 'it returns false'. Refute it at one input. -/
def optimStillWrong : ChangeSpec := { name := "optimStill", fn := fun _ => fun
  | [d1, d2] => { results := [.lit (.bool false)], args := [d1, d2] }
  | _ => none }
def OptimStillWrongFalsely : Prop := optimStillRow.holds Try.pinned (OpenSpec.ofChange optimStillWrong)

/-- 'grafterlaw8.OptimDown': WHATEVER THE INPUT: true; the input reads as it did. -/
def optimDownSpec : ChangeSpec := { name := "optimDown", fn := fun _ => fun
  | [d1, d2, d3, d4] => { results := [.lit (.bool true)], args := [d1, d2, d3, d4] }
  | _ => none }
def optimDownRow : OpenClaim := { program := "ytnhlinniodmnjaa", sum := "f11840576e5701ce0ff44fcfeb7f78b292555c861466824df4c526bd1204e797", func := "grafter/grafterlaw8.OptimDown", spec := "optimDown", unfollowed := true, recurses := true, apart := false }
def OptimDownSaid : Prop := optimDownRow.holds Try.pinned (OpenSpec.ofChange optimDownSpec)

/-- ITS FALSE NEIGHBOUR: 'it returns false'. Refute it at one input. -/
def optimDownWrong : ChangeSpec := { name := "optimDown", fn := fun _ => fun
  | [d1, d2, d3, d4] => { results := [.lit (.bool false)], args := [d1, d2, d3, d4] }
  | _ => none }
def OptimDownWrongFalsely : Prop := optimDownRow.holds Try.pinned (OpenSpec.ofChange optimDownWrong)

/-- 'grafterlaw8.OptimPlace': WHATEVER THE INPUT: true; the input reads as it did. -/
def optimPlaceSpec : ChangeSpec := { name := "optimPlace", fn := fun _ => fun
  | [d1, d2, d3, d4] => { results := [.lit (.bool true)], args := [d1, d2, d3, d4] }
  | _ => none }
def optimPlaceRow : OpenClaim := { program := "ytnhlinniodmnjaa", sum := "f11840576e5701ce0ff44fcfeb7f78b292555c861466824df4c526bd1204e797", func := "grafter/grafterlaw8.OptimPlace", spec := "optimPlace", unfollowed := true, recurses := true, apart := false }
def OptimPlaceSaid : Prop := optimPlaceRow.holds Try.pinned (OpenSpec.ofChange optimPlaceSpec)

/-- ITS FALSE NEIGHBOUR: 'it returns false'. Refute it at one input. -/
def optimPlaceWrong : ChangeSpec := { name := "optimPlace", fn := fun _ => fun
  | [d1, d2, d3, d4] => { results := [.lit (.bool false)], args := [d1, d2, d3, d4] }
  | _ => none }
def OptimPlaceWrongFalsely : Prop := optimPlaceRow.holds Try.pinned (OpenSpec.ofChange optimPlaceWrong)

/-- 'grafterlaw4.Vecs': WHATEVER THE INPUT: true; the input reads as it did. -/
def vecsSpec : ChangeSpec := { name := "vecs", fn := fun _ => fun
  | [d1, d2, d3] => { results := [.lit (.bool true)], args := [d1, d2, d3] }
  | _ => none }
def vecsRow : OpenClaim := { program := "ytnhlinniodmnjaa", sum := "f11840576e5701ce0ff44fcfeb7f78b292555c861466824df4c526bd1204e797", func := "grafter/grafterlaw4.Vecs", spec := "vecs", unfollowed := true, recurses := true, apart := false }
def VecsSaid : Prop := vecsRow.holds Try.pinned (OpenSpec.ofChange vecsSpec)

/-- ITS FALSE NEIGHBOUR: 'it returns false'. Refute it at one input. -/
def vecsWrong : ChangeSpec := { name := "vecs", fn := fun _ => fun
  | [d1, d2, d3] => { results := [.lit (.bool false)], args := [d1, d2, d3] }
  | _ => none }
def VecsWrongFalsely : Prop := vecsRow.holds Try.pinned (OpenSpec.ofChange vecsWrong)

/-- 'grafterlaw4.VecForms': WHATEVER THE INPUT: true; the input reads as it did. -/
def vecFormsSpec : ChangeSpec := { name := "vecForms", fn := fun _ => fun
  | [d1, d2] => { results := [.lit (.bool true)], args := [d1, d2] }
  | _ => none }
def vecFormsRow : OpenClaim := { program := "ytnhlinniodmnjaa", sum := "f11840576e5701ce0ff44fcfeb7f78b292555c861466824df4c526bd1204e797", func := "grafter/grafterlaw4.VecForms", spec := "vecForms", unfollowed := true, recurses := true, apart := false }
def VecFormsSaid : Prop := vecFormsRow.holds Try.pinned (OpenSpec.ofChange vecFormsSpec)

/-- ITS FALSE NEIGHBOUR: 'it returns false'. Refute it at one input. -/
def vecFormsWrong : ChangeSpec := { name := "vecForms", fn := fun _ => fun
  | [d1, d2] => { results := [.lit (.bool false)], args := [d1, d2] }
  | _ => none }
def VecFormsWrongFalsely : Prop := vecFormsRow.holds Try.pinned (OpenSpec.ofChange vecFormsWrong)

/-- 'grafterlaw4.VecOne': WHATEVER THE INPUT: true; the input reads as it did. -/
def vecOneSpec : ChangeSpec := { name := "vecOne", fn := fun _ => fun
  | [d1, d2] => { results := [.lit (.bool true)], args := [d1, d2] }
  | _ => none }
def vecOneRow : OpenClaim := { program := "ytnhlinniodmnjaa", sum := "f11840576e5701ce0ff44fcfeb7f78b292555c861466824df4c526bd1204e797", func := "grafter/grafterlaw4.VecOne", spec := "vecOne", unfollowed := true, recurses := true, apart := false }
def VecOneSaid : Prop := vecOneRow.holds Try.pinned (OpenSpec.ofChange vecOneSpec)

/-- ITS FALSE NEIGHBOUR: 'it returns false'. Refute it at one input. -/
def vecOneWrong : ChangeSpec := { name := "vecOne", fn := fun _ => fun
  | [d1, d2] => { results := [.lit (.bool false)], args := [d1, d2] }
  | _ => none }
def VecOneWrongFalsely : Prop := vecOneRow.holds Try.pinned (OpenSpec.ofChange vecOneWrong)

/-- 'grafterlaw4.VecSwap': WHATEVER THE INPUT: true; the input reads as it did. -/
def vecSwapSpec : ChangeSpec := { name := "vecSwap", fn := fun _ => fun
  | [d1, d2] => { results := [.lit (.bool true)], args := [d1, d2] }
  | _ => none }
def vecSwapRow : OpenClaim := { program := "ytnhlinniodmnjaa", sum := "f11840576e5701ce0ff44fcfeb7f78b292555c861466824df4c526bd1204e797", func := "grafter/grafterlaw4.VecSwap", spec := "vecSwap", unfollowed := true, recurses := true, apart := false }
def VecSwapSaid : Prop := vecSwapRow.holds Try.pinned (OpenSpec.ofChange vecSwapSpec)

/-- ITS FALSE NEIGHBOUR: 'it returns false'. Refute it at one input. -/
def vecSwapWrong : ChangeSpec := { name := "vecSwap", fn := fun _ => fun
  | [d1, d2] => { results := [.lit (.bool false)], args := [d1, d2] }
  | _ => none }
def VecSwapWrongFalsely : Prop := vecSwapRow.holds Try.pinned (OpenSpec.ofChange vecSwapWrong)

/-- 'grafterlaw4.VecPlace': WHATEVER THE INPUT: true; the input reads as it did. -/
def vecPlaceSpec : ChangeSpec := { name := "vecPlace", fn := fun _ => fun
  | [d1, d2, d3] => { results := [.lit (.bool true)], args := [d1, d2, d3] }
  | _ => none }
def vecPlaceRow : OpenClaim := { program := "ytnhlinniodmnjaa", sum := "f11840576e5701ce0ff44fcfeb7f78b292555c861466824df4c526bd1204e797", func := "grafter/grafterlaw4.VecPlace", spec := "vecPlace", unfollowed := true, recurses := true, apart := false }
def VecPlaceSaid : Prop := vecPlaceRow.holds Try.pinned (OpenSpec.ofChange vecPlaceSpec)

/-- ITS FALSE NEIGHBOUR: 'it returns false'. Refute it at one input. -/
def vecPlaceWrong : ChangeSpec := { name := "vecPlace", fn := fun _ => fun
  | [d1, d2, d3] => { results := [.lit (.bool false)], args := [d1, d2, d3] }
  | _ => none }
def VecPlaceWrongFalsely : Prop := vecPlaceRow.holds Try.pinned (OpenSpec.ofChange vecPlaceWrong)

/- THE SECOND FORM. 'bulk': how many values and letters a reading holds, each counted each time it is reached (what is shared counts as often as it is met; a slice's spare places count too). A statement '..UptoSaid' is the law's where the arguments, and the package variables that the reading takes, are together of bulk at most 1048576: NARROWER than '..Said'. Prove '..Said' where nothing that the law and all that it calls make is longer than what came in: it says more and counts as full. Else prove '..UptoSaid'. A law counts once. -/
mutual
def uptoBulk {H : Type} : DataW H → Nat
  | .lit (.string bytes) => bytes.length + 1
  | .lit _ => 1
  | .nil => 1
  | .ptr d => uptoBulk d + 1
  | .slice elems spare => uptoBulkAll elems + uptoBulkAll spare + 1
  | .agg parts => uptoBulkAll parts + 1
  | .iface _ d => uptoBulk d + 1
  | .map entries => uptoBulkEntries entries + 1
  | .held _ => 1
def uptoBulkAll {H : Type} : List (DataW H) → Nat
  | [] => 0
  | d :: r => uptoBulk d + uptoBulkAll r
def uptoBulkEntries {H : Type} : List (Lit × DataW H) → Nat
  | [] => 0
  | x :: r => uptoBulkEntry x + uptoBulkEntries r
def uptoBulkEntry {H : Type} : Lit × DataW H → Nat
  | (.string bytes, d) => bytes.length + uptoBulk d + 1
  | (_, d) => uptoBulk d + 1
 end
def uptoSmall : (H : Type) → List (DataW H) → Bool := fun _ ds => decide (uptoBulkAll ds ≤ 1048576)
def OpenSpec.upto (s : _root_.Go.ChangeSpec) : _root_.Go.OpenSpec := { _root_.Go.OpenSpec.ofChange s with cond := some uptoSmall }

/-- 'grafterlaw5.Shapes', WHERE WHAT IT READS IS OF BULK AT MOST 1048576: true; the input reads as it did. -/
def shapesUptoRow : OpenClaim := { program := "ytnhlinniodmnjaa", sum := "f11840576e5701ce0ff44fcfeb7f78b292555c861466824df4c526bd1204e797", func := "grafter/grafterlaw5.Shapes", spec := "shapes", apart := false, narrowed := true }
def ShapesUptoSaid : Prop := shapesUptoRow.holds Try.pinned (OpenSpec.upto shapesSpec)

/-- 'grafterlaw5.ShapeForms', WHERE WHAT IT READS IS OF BULK AT MOST 1048576: true; the input reads as it did. -/
def shapeFormsUptoRow : OpenClaim := { program := "ytnhlinniodmnjaa", sum := "f11840576e5701ce0ff44fcfeb7f78b292555c861466824df4c526bd1204e797", func := "grafter/grafterlaw5.ShapeForms", spec := "shapeForms", apart := false, narrowed := true }
def ShapeFormsUptoSaid : Prop := shapeFormsUptoRow.holds Try.pinned (OpenSpec.upto shapeFormsSpec)

/-- 'grafterlaw5.ShapeTable', WHERE WHAT IT READS IS OF BULK AT MOST 1048576: true; the input reads as it did. -/
def shapeTableUptoRow : OpenClaim := { program := "ytnhlinniodmnjaa", sum := "f11840576e5701ce0ff44fcfeb7f78b292555c861466824df4c526bd1204e797", func := "grafter/grafterlaw5.ShapeTable", spec := "shapeTable", apart := false, narrowed := true }
def ShapeTableUptoSaid : Prop := shapeTableUptoRow.holds Try.pinned (OpenSpec.upto shapeTableSpec)

/-- 'grafterlaw5.ShapeDraws', WHERE WHAT IT READS IS OF BULK AT MOST 1048576: true; the input reads as it did. -/
def shapeDrawsUptoRow : OpenClaim := { program := "ytnhlinniodmnjaa", sum := "f11840576e5701ce0ff44fcfeb7f78b292555c861466824df4c526bd1204e797", func := "grafter/grafterlaw5.ShapeDraws", spec := "shapeDraws", apart := false, narrowed := true }
def ShapeDrawsUptoSaid : Prop := shapeDrawsUptoRow.holds Try.pinned (OpenSpec.upto shapeDrawsSpec)

/-- 'grafterlaw5.ShapeApart', WHERE WHAT IT READS IS OF BULK AT MOST 1048576: true; the input reads as it did. -/
def shapeApartUptoRow : OpenClaim := { program := "ytnhlinniodmnjaa", sum := "f11840576e5701ce0ff44fcfeb7f78b292555c861466824df4c526bd1204e797", func := "grafter/grafterlaw5.ShapeApart", spec := "shapeApart", apart := false, narrowed := true }
def ShapeApartUptoSaid : Prop := shapeApartUptoRow.holds Try.pinned (OpenSpec.upto shapeApartSpec)

/-- 'grafterlaw8.Optims', WHERE WHAT IT READS IS OF BULK AT MOST 1048576: true; the input reads as it did. -/
def optimsUptoRow : OpenClaim := { program := "ytnhlinniodmnjaa", sum := "f11840576e5701ce0ff44fcfeb7f78b292555c861466824df4c526bd1204e797", func := "grafter/grafterlaw8.Optims", spec := "optims", unfollowed := true, recurses := true, apart := false, narrowed := true }
def OptimsUptoSaid : Prop := optimsUptoRow.holds Try.pinned (OpenSpec.upto optimsSpec)

/-- 'grafterlaw8.OptimForms', WHERE WHAT IT READS IS OF BULK AT MOST 1048576: true; the input reads as it did. -/
def optimFormsUptoRow : OpenClaim := { program := "ytnhlinniodmnjaa", sum := "f11840576e5701ce0ff44fcfeb7f78b292555c861466824df4c526bd1204e797", func := "grafter/grafterlaw8.OptimForms", spec := "optimForms", unfollowed := true, recurses := true, apart := false, narrowed := true }
def OptimFormsUptoSaid : Prop := optimFormsUptoRow.holds Try.pinned (OpenSpec.upto optimFormsSpec)

/-- 'grafterlaw8.OptimStill', WHERE WHAT IT READS IS OF BULK AT MOST 1048576: true; the input reads as it did. -/
def optimStillUptoRow : OpenClaim := { program := "ytnhlinniodmnjaa", sum := "f11840576e5701ce0ff44fcfeb7f78b292555c861466824df4c526bd1204e797", func := "grafter/grafterlaw8.OptimStill", spec := "optimStill", unfollowed := true, recurses := true, apart := false, narrowed := true }
def OptimStillUptoSaid : Prop := optimStillUptoRow.holds Try.pinned (OpenSpec.upto optimStillSpec)

/-- 'grafterlaw8.OptimDown', WHERE WHAT IT READS IS OF BULK AT MOST 1048576: true; the input reads as it did. -/
def optimDownUptoRow : OpenClaim := { program := "ytnhlinniodmnjaa", sum := "f11840576e5701ce0ff44fcfeb7f78b292555c861466824df4c526bd1204e797", func := "grafter/grafterlaw8.OptimDown", spec := "optimDown", unfollowed := true, recurses := true, apart := false, narrowed := true }
def OptimDownUptoSaid : Prop := optimDownUptoRow.holds Try.pinned (OpenSpec.upto optimDownSpec)

/-- 'grafterlaw8.OptimPlace', WHERE WHAT IT READS IS OF BULK AT MOST 1048576: true; the input reads as it did. -/
def optimPlaceUptoRow : OpenClaim := { program := "ytnhlinniodmnjaa", sum := "f11840576e5701ce0ff44fcfeb7f78b292555c861466824df4c526bd1204e797", func := "grafter/grafterlaw8.OptimPlace", spec := "optimPlace", unfollowed := true, recurses := true, apart := false, narrowed := true }
def OptimPlaceUptoSaid : Prop := optimPlaceUptoRow.holds Try.pinned (OpenSpec.upto optimPlaceSpec)

/-- 'grafterlaw4.Vecs', WHERE WHAT IT READS IS OF BULK AT MOST 1048576: true; the input reads as it did. -/
def vecsUptoRow : OpenClaim := { program := "ytnhlinniodmnjaa", sum := "f11840576e5701ce0ff44fcfeb7f78b292555c861466824df4c526bd1204e797", func := "grafter/grafterlaw4.Vecs", spec := "vecs", unfollowed := true, recurses := true, apart := false, narrowed := true }
def VecsUptoSaid : Prop := vecsUptoRow.holds Try.pinned (OpenSpec.upto vecsSpec)

/-- 'grafterlaw4.VecForms', WHERE WHAT IT READS IS OF BULK AT MOST 1048576: true; the input reads as it did. -/
def vecFormsUptoRow : OpenClaim := { program := "ytnhlinniodmnjaa", sum := "f11840576e5701ce0ff44fcfeb7f78b292555c861466824df4c526bd1204e797", func := "grafter/grafterlaw4.VecForms", spec := "vecForms", unfollowed := true, recurses := true, apart := false, narrowed := true }
def VecFormsUptoSaid : Prop := vecFormsUptoRow.holds Try.pinned (OpenSpec.upto vecFormsSpec)

/-- 'grafterlaw4.VecOne', WHERE WHAT IT READS IS OF BULK AT MOST 1048576: true; the input reads as it did. -/
def vecOneUptoRow : OpenClaim := { program := "ytnhlinniodmnjaa", sum := "f11840576e5701ce0ff44fcfeb7f78b292555c861466824df4c526bd1204e797", func := "grafter/grafterlaw4.VecOne", spec := "vecOne", unfollowed := true, recurses := true, apart := false, narrowed := true }
def VecOneUptoSaid : Prop := vecOneUptoRow.holds Try.pinned (OpenSpec.upto vecOneSpec)

/-- 'grafterlaw4.VecSwap', WHERE WHAT IT READS IS OF BULK AT MOST 1048576: true; the input reads as it did. -/
def vecSwapUptoRow : OpenClaim := { program := "ytnhlinniodmnjaa", sum := "f11840576e5701ce0ff44fcfeb7f78b292555c861466824df4c526bd1204e797", func := "grafter/grafterlaw4.VecSwap", spec := "vecSwap", unfollowed := true, recurses := true, apart := false, narrowed := true }
def VecSwapUptoSaid : Prop := vecSwapUptoRow.holds Try.pinned (OpenSpec.upto vecSwapSpec)

/-- 'grafterlaw4.VecPlace', WHERE WHAT IT READS IS OF BULK AT MOST 1048576: true; the input reads as it did. -/
def vecPlaceUptoRow : OpenClaim := { program := "ytnhlinniodmnjaa", sum := "f11840576e5701ce0ff44fcfeb7f78b292555c861466824df4c526bd1204e797", func := "grafter/grafterlaw4.VecPlace", spec := "vecPlace", unfollowed := true, recurses := true, apart := false, narrowed := true }
def VecPlaceUptoSaid : Prop := vecPlaceUptoRow.holds Try.pinned (OpenSpec.upto vecPlaceSpec)

end Rows
end Go.Proofs.Ytnhlinniodmnjaa
