/-
  No cell of these rows narrows 'for every input' (looked for: loops, veiled, ifaces, maps, wideKeys, modest, calm, conditions, laid).
  DERIVED. THE GIVEN ROWS OF THIS SEAT. 10 by the template 'for every input the law returns true; each argument reads behind the call as it read before'; 0 by the template 'total and deterministic' (their statements: YtffopeihcebpjaaGreatTotals.lean).
  GIVEN WITH THE SEED: the statements are not yours to turn. If you find one false, say at which input.
  Laid BY PROGRAM, IN A SANDBOX (cutbox-rows.mjs): the forced cells as the released guide's own fill.sh prints them over the translation d22d3e4c617eaaaf… (all of the seat's roots in one cut). By AI agents, Wed Nov 11 2026. No macro, syntax, notation, axiom, sorry.
-/
import Derived.Test.YtffopeihcebpjaaGreatChecked
import GoSem.Claim
import GoSem.ClaimJoined
import GoSem.ClaimMapViews
import Derived.JoinedTies
import Derived.KernelRfl
namespace Go.Proofs.YtffopeihcebpjaaGreat
/- THE CELL 'sum', in the pinned program and in every row, IS THE sha256 OF THE DUMP (.gsa) THAT YtffopeihcebpjaaGreatProg.lean LOADS. Nothing in Lean hashes anything: it is a label: what it is worth is what the hold of that sum in a sandbox is worth. -/
noncomputable def Tryz.pinned : Pinned := { name := "ytffopeihcebpjaagreat", sum := "d22d3e4c617eaaaf10056907b4dd3663a10d9c95fe6214f02a0fb969f722bf6f", checked := Tryz.checked }
namespace Rows
def none {H : Type} : Left H := { results := [], args := [] }

/-- 'graftertop.TopRule': WHATEVER THE INPUT: true; the input reads as it did. -/
def topRuleSpec : ChangeSpec := { name := "topRule", fn := fun _ => fun
  | [d1, d2] => { results := [.lit (.bool true)], args := [d1, d2] }
  | _ => none }
def topRuleRow : OpenClaim := { program := "ytffopeihcebpjaagreat", sum := "d22d3e4c617eaaaf10056907b4dd3663a10d9c95fe6214f02a0fb969f722bf6f", func := "grafter/graftertop.TopRule", spec := "topRule", inPlace := ["slices.overlaps[grafter/api.Entry]"], unfollowed := true, recurses := true, apart := false }
def TopRuleSaid : Prop := topRuleRow.holds Tryz.pinned (OpenSpec.ofChange topRuleSpec)

/-- ITS FALSE NEIGHBOUR: 'it returns false'. Refute it at one input. -/
def topRuleWrong : ChangeSpec := { name := "topRule", fn := fun _ => fun
  | [d1, d2] => { results := [.lit (.bool false)], args := [d1, d2] }
  | _ => none }
def TopRuleWrongFalsely : Prop := topRuleRow.holds Tryz.pinned (OpenSpec.ofChange topRuleWrong)

/-- 'graftertop.TopTrains': WHATEVER THE INPUT: true; the input reads as it did. -/
def topTrainsSpec : ChangeSpec := { name := "topTrains", fn := fun _ => fun
  | [d1, d2, d3] => { results := [.lit (.bool true)], args := [d1, d2, d3] }
  | _ => none }
def topTrainsRow : OpenClaim := { program := "ytffopeihcebpjaagreat", sum := "d22d3e4c617eaaaf10056907b4dd3663a10d9c95fe6214f02a0fb969f722bf6f", func := "grafter/graftertop.TopTrains", spec := "topTrains", inPlace := ["slices.overlaps[grafter/api.Entry]"], unfollowed := true, recurses := true, apart := false }
def TopTrainsSaid : Prop := topTrainsRow.holds Tryz.pinned (OpenSpec.ofChange topTrainsSpec)

/-- ITS FALSE NEIGHBOUR: 'it returns false'. Refute it at one input. -/
def topTrainsWrong : ChangeSpec := { name := "topTrains", fn := fun _ => fun
  | [d1, d2, d3] => { results := [.lit (.bool false)], args := [d1, d2, d3] }
  | _ => none }
def TopTrainsWrongFalsely : Prop := topTrainsRow.holds Tryz.pinned (OpenSpec.ofChange topTrainsWrong)

/-- 'graftertop.TopTakes': WHATEVER THE INPUT: true; the input reads as it did. -/
def topTakesSpec : ChangeSpec := { name := "topTakes", fn := fun _ => fun
  | [d1, d2] => { results := [.lit (.bool true)], args := [d1, d2] }
  | _ => none }
def topTakesRow : OpenClaim := { program := "ytffopeihcebpjaagreat", sum := "d22d3e4c617eaaaf10056907b4dd3663a10d9c95fe6214f02a0fb969f722bf6f", func := "grafter/graftertop.TopTakes", spec := "topTakes", inPlace := ["slices.overlaps[grafter/api.Entry]"], unfollowed := true, recurses := true, apart := false }
def TopTakesSaid : Prop := topTakesRow.holds Tryz.pinned (OpenSpec.ofChange topTakesSpec)

/-- ITS FALSE NEIGHBOUR: 'it returns false'. Refute it at one input. -/
def topTakesWrong : ChangeSpec := { name := "topTakes", fn := fun _ => fun
  | [d1, d2] => { results := [.lit (.bool false)], args := [d1, d2] }
  | _ => none }
def TopTakesWrongFalsely : Prop := topTakesRow.holds Tryz.pinned (OpenSpec.ofChange topTakesWrong)

/-- 'graftertop.TopHeld': WHATEVER THE INPUT: true; the input reads as it did. -/
def topHeldSpec : ChangeSpec := { name := "topHeld", fn := fun _ => fun
  | [d1, d2] => { results := [.lit (.bool true)], args := [d1, d2] }
  | _ => none }
def topHeldRow : OpenClaim := { program := "ytffopeihcebpjaagreat", sum := "d22d3e4c617eaaaf10056907b4dd3663a10d9c95fe6214f02a0fb969f722bf6f", func := "grafter/graftertop.TopHeld", spec := "topHeld", inPlace := ["slices.overlaps[grafter/api.Entry]"], unfollowed := true, recurses := true, apart := false }
def TopHeldSaid : Prop := topHeldRow.holds Tryz.pinned (OpenSpec.ofChange topHeldSpec)

/-- ITS FALSE NEIGHBOUR: 'it returns false'. Refute it at one input. -/
def topHeldWrong : ChangeSpec := { name := "topHeld", fn := fun _ => fun
  | [d1, d2] => { results := [.lit (.bool false)], args := [d1, d2] }
  | _ => none }
def TopHeldWrongFalsely : Prop := topHeldRow.holds Tryz.pinned (OpenSpec.ofChange topHeldWrong)

/-- 'graftertop.TopApart': WHATEVER THE INPUT: true; the input reads as it did. -/
def topApartSpec : ChangeSpec := { name := "topApart", fn := fun _ => fun
  | [d1, d2, d3] => { results := [.lit (.bool true)], args := [d1, d2, d3] }
  | _ => none }
def topApartRow : OpenClaim := { program := "ytffopeihcebpjaagreat", sum := "d22d3e4c617eaaaf10056907b4dd3663a10d9c95fe6214f02a0fb969f722bf6f", func := "grafter/graftertop.TopApart", spec := "topApart", inPlace := ["slices.overlaps[grafter/api.Entry]"], unfollowed := true, recurses := true, apart := false }
def TopApartSaid : Prop := topApartRow.holds Tryz.pinned (OpenSpec.ofChange topApartSpec)

/-- ITS FALSE NEIGHBOUR: 'it returns false'. Refute it at one input. -/
def topApartWrong : ChangeSpec := { name := "topApart", fn := fun _ => fun
  | [d1, d2, d3] => { results := [.lit (.bool false)], args := [d1, d2, d3] }
  | _ => none }
def TopApartWrongFalsely : Prop := topApartRow.holds Tryz.pinned (OpenSpec.ofChange topApartWrong)

/-- 'graftertop.TopLearns': WHATEVER THE INPUT: true; the input reads as it did. -/
def topLearnsSpec : ChangeSpec := { name := "topLearns", fn := fun _ => fun
  | [d1, d2, d3] => { results := [.lit (.bool true)], args := [d1, d2, d3] }
  | _ => none }
def topLearnsRow : OpenClaim := { program := "ytffopeihcebpjaagreat", sum := "d22d3e4c617eaaaf10056907b4dd3663a10d9c95fe6214f02a0fb969f722bf6f", func := "grafter/graftertop.TopLearns", spec := "topLearns", inPlace := ["slices.overlaps[grafter/api.Entry]"], unfollowed := true, recurses := true, apart := false }
def TopLearnsSaid : Prop := topLearnsRow.holds Tryz.pinned (OpenSpec.ofChange topLearnsSpec)

/-- ITS FALSE NEIGHBOUR: 'it returns false'. Refute it at one input. -/
def topLearnsWrong : ChangeSpec := { name := "topLearns", fn := fun _ => fun
  | [d1, d2, d3] => { results := [.lit (.bool false)], args := [d1, d2, d3] }
  | _ => none }
def TopLearnsWrongFalsely : Prop := topLearnsRow.holds Tryz.pinned (OpenSpec.ofChange topLearnsWrong)

/-- 'graftertop.TopAncestry': WHATEVER THE INPUT: true; the input reads as it did. -/
def topAncestrySpec : ChangeSpec := { name := "topAncestry", fn := fun _ => fun
  | [d1, d2] => { results := [.lit (.bool true)], args := [d1, d2] }
  | _ => none }
def topAncestryRow : OpenClaim := { program := "ytffopeihcebpjaagreat", sum := "d22d3e4c617eaaaf10056907b4dd3663a10d9c95fe6214f02a0fb969f722bf6f", func := "grafter/graftertop.TopAncestry", spec := "topAncestry", inPlace := ["slices.overlaps[grafter/api.Entry]"], unfollowed := true, recurses := true, apart := false }
def TopAncestrySaid : Prop := topAncestryRow.holds Tryz.pinned (OpenSpec.ofChange topAncestrySpec)

/-- ITS FALSE NEIGHBOUR: 'it returns false'. Refute it at one input. -/
def topAncestryWrong : ChangeSpec := { name := "topAncestry", fn := fun _ => fun
  | [d1, d2] => { results := [.lit (.bool false)], args := [d1, d2] }
  | _ => none }
def TopAncestryWrongFalsely : Prop := topAncestryRow.holds Tryz.pinned (OpenSpec.ofChange topAncestryWrong)

/-- 'graftertop.TopTotals': WHATEVER THE INPUT: true; the input reads as it did. -/
def topTotalsSpec : ChangeSpec := { name := "topTotals", fn := fun _ => fun
  | [d1, d2] => { results := [.lit (.bool true)], args := [d1, d2] }
  | _ => none }
def topTotalsRow : OpenClaim := { program := "ytffopeihcebpjaagreat", sum := "d22d3e4c617eaaaf10056907b4dd3663a10d9c95fe6214f02a0fb969f722bf6f", func := "grafter/graftertop.TopTotals", spec := "topTotals", inPlace := ["slices.overlaps[grafter/api.Entry]"], unfollowed := true, recurses := true, apart := false }
def TopTotalsSaid : Prop := topTotalsRow.holds Tryz.pinned (OpenSpec.ofChange topTotalsSpec)

/-- ITS FALSE NEIGHBOUR: 'it returns false'. Refute it at one input. -/
def topTotalsWrong : ChangeSpec := { name := "topTotals", fn := fun _ => fun
  | [d1, d2] => { results := [.lit (.bool false)], args := [d1, d2] }
  | _ => none }
def TopTotalsWrongFalsely : Prop := topTotalsRow.holds Tryz.pinned (OpenSpec.ofChange topTotalsWrong)

/-- 'graftertop.TopSeed': WHATEVER THE INPUT: true; the input reads as it did. -/
def topSeedSpec : ChangeSpec := { name := "topSeed", fn := fun _ => fun
  | [d1, d2, d3] => { results := [.lit (.bool true)], args := [d1, d2, d3] }
  | _ => none }
def topSeedRow : OpenClaim := { program := "ytffopeihcebpjaagreat", sum := "d22d3e4c617eaaaf10056907b4dd3663a10d9c95fe6214f02a0fb969f722bf6f", func := "grafter/graftertop.TopSeed", spec := "topSeed", inPlace := ["slices.overlaps[grafter/api.Entry]"], unfollowed := true, recurses := true, apart := false }
def TopSeedSaid : Prop := topSeedRow.holds Tryz.pinned (OpenSpec.ofChange topSeedSpec)

/-- ITS FALSE NEIGHBOUR: 'it returns false'. Refute it at one input. -/
def topSeedWrong : ChangeSpec := { name := "topSeed", fn := fun _ => fun
  | [d1, d2, d3] => { results := [.lit (.bool false)], args := [d1, d2, d3] }
  | _ => none }
def TopSeedWrongFalsely : Prop := topSeedRow.holds Tryz.pinned (OpenSpec.ofChange topSeedWrong)

/-- 'graftertop.TopAgain': WHATEVER THE INPUT: true; the input reads as it did. -/
def topAgainSpec : ChangeSpec := { name := "topAgain", fn := fun _ => fun
  | [d1, d2] => { results := [.lit (.bool true)], args := [d1, d2] }
  | _ => none }
def topAgainRow : OpenClaim := { program := "ytffopeihcebpjaagreat", sum := "d22d3e4c617eaaaf10056907b4dd3663a10d9c95fe6214f02a0fb969f722bf6f", func := "grafter/graftertop.TopAgain", spec := "topAgain", inPlace := ["slices.overlaps[grafter/api.Entry]"], unfollowed := true, recurses := true, apart := false }
def TopAgainSaid : Prop := topAgainRow.holds Tryz.pinned (OpenSpec.ofChange topAgainSpec)

/-- ITS FALSE NEIGHBOUR: 'it returns false'. Refute it at one input. -/
def topAgainWrong : ChangeSpec := { name := "topAgain", fn := fun _ => fun
  | [d1, d2] => { results := [.lit (.bool false)], args := [d1, d2] }
  | _ => none }
def TopAgainWrongFalsely : Prop := topAgainRow.holds Tryz.pinned (OpenSpec.ofChange topAgainWrong)

/- THE SECOND FORM. 'bulk': how many values and letters a reading holds, each counted each time it is reached (what is shared counts as often as it is met; a slice's spare places count too). A statement '..UptoSaid' is the law's where the arguments, and the package variables that the reading takes, are together of bulk at most 1048576: NARROWER than '..Said'. Prove '..Said' where nothing that the law and all that it calls make is longer than what came in: it says more and counts as full. Else prove '..UptoSaid'. A law counts once. -/
mutual
def uptoBulk {H : Type} : DataW H → Nat
  | .lit (.string bytes) => bytes.length + 1
  | .lit _ => 1
  | .nil => 1
  | .ptr d => uptoBulk d + 1
  | .slice elems spare => uptoBulkAll elems + uptoBulkAll spare + 1
  | .agg parts => uptoBulkAll parts + 1
  | .iface _ d => uptoBulk d + 1
  | .map entries => uptoBulkEntries entries + 1
  | .held _ => 1
def uptoBulkAll {H : Type} : List (DataW H) → Nat
  | [] => 0
  | d :: r => uptoBulk d + uptoBulkAll r
def uptoBulkEntries {H : Type} : List (Lit × DataW H) → Nat
  | [] => 0
  | x :: r => uptoBulkEntry x + uptoBulkEntries r
def uptoBulkEntry {H : Type} : Lit × DataW H → Nat
  | (.string bytes, d) => bytes.length + uptoBulk d + 1
  | (_, d) => uptoBulk d + 1
 end
def uptoSmall : (H : Type) → List (DataW H) → Bool := fun _ ds => decide (uptoBulkAll ds ≤ 1048576)
def OpenSpec.upto (s : _root_.Go.ChangeSpec) : _root_.Go.OpenSpec := { _root_.Go.OpenSpec.ofChange s with cond := some uptoSmall }

/-- 'graftertop.TopRule', WHERE WHAT IT READS IS OF BULK AT MOST 1048576: true; the input reads as it did. -/
def topRuleUptoRow : OpenClaim := { program := "ytffopeihcebpjaagreat", sum := "d22d3e4c617eaaaf10056907b4dd3663a10d9c95fe6214f02a0fb969f722bf6f", func := "grafter/graftertop.TopRule", spec := "topRule", inPlace := ["slices.overlaps[grafter/api.Entry]"], unfollowed := true, recurses := true, apart := false, narrowed := true }
def TopRuleUptoSaid : Prop := topRuleUptoRow.holds Tryz.pinned (OpenSpec.upto topRuleSpec)

/-- 'graftertop.TopTrains', WHERE WHAT IT READS IS OF BULK AT MOST 1048576: true; the input reads as it did. -/
def topTrainsUptoRow : OpenClaim := { program := "ytffopeihcebpjaagreat", sum := "d22d3e4c617eaaaf10056907b4dd3663a10d9c95fe6214f02a0fb969f722bf6f", func := "grafter/graftertop.TopTrains", spec := "topTrains", inPlace := ["slices.overlaps[grafter/api.Entry]"], unfollowed := true, recurses := true, apart := false, narrowed := true }
def TopTrainsUptoSaid : Prop := topTrainsUptoRow.holds Tryz.pinned (OpenSpec.upto topTrainsSpec)

/-- 'graftertop.TopTakes', WHERE WHAT IT READS IS OF BULK AT MOST 1048576: true; the input reads as it did. -/
def topTakesUptoRow : OpenClaim := { program := "ytffopeihcebpjaagreat", sum := "d22d3e4c617eaaaf10056907b4dd3663a10d9c95fe6214f02a0fb969f722bf6f", func := "grafter/graftertop.TopTakes", spec := "topTakes", inPlace := ["slices.overlaps[grafter/api.Entry]"], unfollowed := true, recurses := true, apart := false, narrowed := true }
def TopTakesUptoSaid : Prop := topTakesUptoRow.holds Tryz.pinned (OpenSpec.upto topTakesSpec)

/-- 'graftertop.TopHeld', WHERE WHAT IT READS IS OF BULK AT MOST 1048576: true; the input reads as it did. -/
def topHeldUptoRow : OpenClaim := { program := "ytffopeihcebpjaagreat", sum := "d22d3e4c617eaaaf10056907b4dd3663a10d9c95fe6214f02a0fb969f722bf6f", func := "grafter/graftertop.TopHeld", spec := "topHeld", inPlace := ["slices.overlaps[grafter/api.Entry]"], unfollowed := true, recurses := true, apart := false, narrowed := true }
def TopHeldUptoSaid : Prop := topHeldUptoRow.holds Tryz.pinned (OpenSpec.upto topHeldSpec)

/-- 'graftertop.TopApart', WHERE WHAT IT READS IS OF BULK AT MOST 1048576: true; the input reads as it did. -/
def topApartUptoRow : OpenClaim := { program := "ytffopeihcebpjaagreat", sum := "d22d3e4c617eaaaf10056907b4dd3663a10d9c95fe6214f02a0fb969f722bf6f", func := "grafter/graftertop.TopApart", spec := "topApart", inPlace := ["slices.overlaps[grafter/api.Entry]"], unfollowed := true, recurses := true, apart := false, narrowed := true }
def TopApartUptoSaid : Prop := topApartUptoRow.holds Tryz.pinned (OpenSpec.upto topApartSpec)

/-- 'graftertop.TopLearns', WHERE WHAT IT READS IS OF BULK AT MOST 1048576: true; the input reads as it did. -/
def topLearnsUptoRow : OpenClaim := { program := "ytffopeihcebpjaagreat", sum := "d22d3e4c617eaaaf10056907b4dd3663a10d9c95fe6214f02a0fb969f722bf6f", func := "grafter/graftertop.TopLearns", spec := "topLearns", inPlace := ["slices.overlaps[grafter/api.Entry]"], unfollowed := true, recurses := true, apart := false, narrowed := true }
def TopLearnsUptoSaid : Prop := topLearnsUptoRow.holds Tryz.pinned (OpenSpec.upto topLearnsSpec)

/-- 'graftertop.TopAncestry', WHERE WHAT IT READS IS OF BULK AT MOST 1048576: true; the input reads as it did. -/
def topAncestryUptoRow : OpenClaim := { program := "ytffopeihcebpjaagreat", sum := "d22d3e4c617eaaaf10056907b4dd3663a10d9c95fe6214f02a0fb969f722bf6f", func := "grafter/graftertop.TopAncestry", spec := "topAncestry", inPlace := ["slices.overlaps[grafter/api.Entry]"], unfollowed := true, recurses := true, apart := false, narrowed := true }
def TopAncestryUptoSaid : Prop := topAncestryUptoRow.holds Tryz.pinned (OpenSpec.upto topAncestrySpec)

/-- 'graftertop.TopTotals', WHERE WHAT IT READS IS OF BULK AT MOST 1048576: true; the input reads as it did. -/
def topTotalsUptoRow : OpenClaim := { program := "ytffopeihcebpjaagreat", sum := "d22d3e4c617eaaaf10056907b4dd3663a10d9c95fe6214f02a0fb969f722bf6f", func := "grafter/graftertop.TopTotals", spec := "topTotals", inPlace := ["slices.overlaps[grafter/api.Entry]"], unfollowed := true, recurses := true, apart := false, narrowed := true }
def TopTotalsUptoSaid : Prop := topTotalsUptoRow.holds Tryz.pinned (OpenSpec.upto topTotalsSpec)

/-- 'graftertop.TopSeed', WHERE WHAT IT READS IS OF BULK AT MOST 1048576: true; the input reads as it did. -/
def topSeedUptoRow : OpenClaim := { program := "ytffopeihcebpjaagreat", sum := "d22d3e4c617eaaaf10056907b4dd3663a10d9c95fe6214f02a0fb969f722bf6f", func := "grafter/graftertop.TopSeed", spec := "topSeed", inPlace := ["slices.overlaps[grafter/api.Entry]"], unfollowed := true, recurses := true, apart := false, narrowed := true }
def TopSeedUptoSaid : Prop := topSeedUptoRow.holds Tryz.pinned (OpenSpec.upto topSeedSpec)

/-- 'graftertop.TopAgain', WHERE WHAT IT READS IS OF BULK AT MOST 1048576: true; the input reads as it did. -/
def topAgainUptoRow : OpenClaim := { program := "ytffopeihcebpjaagreat", sum := "d22d3e4c617eaaaf10056907b4dd3663a10d9c95fe6214f02a0fb969f722bf6f", func := "grafter/graftertop.TopAgain", spec := "topAgain", inPlace := ["slices.overlaps[grafter/api.Entry]"], unfollowed := true, recurses := true, apart := false, narrowed := true }
def TopAgainUptoSaid : Prop := topAgainUptoRow.holds Tryz.pinned (OpenSpec.upto topAgainSpec)

end Rows
end Go.Proofs.YtffopeihcebpjaaGreat
