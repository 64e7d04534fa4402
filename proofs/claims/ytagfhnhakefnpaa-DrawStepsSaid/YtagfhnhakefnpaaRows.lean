/-
  No cell of these rows narrows 'for every input' (looked for: loops, veiled, ifaces, maps, wideKeys, modest, calm, conditions, laid).
  DERIVED. THE GIVEN ROWS OF THIS SEAT. 21 by the template 'for every input the law returns true; each argument reads behind the call as it read before'; 0 by the template 'total and deterministic' (their statements: YtagfhnhakefnpaaTotals.lean).
  GIVEN WITH THE SEED: the statements are not yours to turn. If you find one false, say at which input.
  Laid BY PROGRAM, IN A SANDBOX (cutbox-rows.mjs): the forced cells as the released guide's own fill.sh prints them over the translation 99a17d92a2af22f1… (all of the seat's roots in one cut). By AI agents, Wed Nov 11 2026. No macro, syntax, notation, axiom, sorry.
-/
import Derived.Test.YtagfhnhakefnpaaChecked
import GoSem.Claim
import GoSem.ClaimJoined
import GoSem.ClaimMapViews
import Derived.JoinedTies
import Derived.KernelRfl
namespace Go.Proofs.Ytagfhnhakefnpaa
/- THE CELL 'sum', in the pinned program and in every row, IS THE sha256 OF THE DUMP (.gsa) THAT YtagfhnhakefnpaaProg.lean LOADS. Nothing in Lean hashes anything: it is a label: what it is worth is what the hold of that sum in a sandbox is worth. -/
noncomputable def Try.pinned : Pinned := { name := "ytagfhnhakefnpaa", sum := "99a17d92a2af22f18d7382c99a2682f9022e796ff53e6a370ceca4f36245317c", checked := Try.checked }
namespace Rows
def none {H : Type} : Left H := { results := [], args := [] }

/-- 'grafterlaw0.GrafterNames': WHATEVER THE INPUT: true; the input reads as it did. -/
def grafterNamesSpec : ChangeSpec := { name := "grafterNames", fn := fun _ => fun
  | [] => { results := [.lit (.bool true)], args := [] }
  | _ => none }
def grafterNamesRow : OpenClaim := { program := "ytagfhnhakefnpaa", sum := "99a17d92a2af22f18d7382c99a2682f9022e796ff53e6a370ceca4f36245317c", func := "grafter/grafterlaw0.GrafterNames", spec := "grafterNames", apart := false }
def GrafterNamesSaid : Prop := grafterNamesRow.holds Try.pinned (OpenSpec.ofChange grafterNamesSpec)

/-- ITS FALSE NEIGHBOUR: 'it returns false'. Refute it at one input. -/
def grafterNamesWrong : ChangeSpec := { name := "grafterNames", fn := fun _ => fun
  | [] => { results := [.lit (.bool false)], args := [] }
  | _ => none }
def GrafterNamesWrongFalsely : Prop := grafterNamesRow.holds Try.pinned (OpenSpec.ofChange grafterNamesWrong)

/-- 'grafterlaw1.Fixes': WHATEVER THE INPUT: true; the input reads as it did. -/
def fixesSpec : ChangeSpec := { name := "fixes", fn := fun _ => fun
  | [d1, d2] => { results := [.lit (.bool true)], args := [d1, d2] }
  | _ => none }
def fixesRow : OpenClaim := { program := "ytagfhnhakefnpaa", sum := "99a17d92a2af22f18d7382c99a2682f9022e796ff53e6a370ceca4f36245317c", func := "grafter/grafterlaw1.Fixes", spec := "fixes", apart := false }
def FixesSaid : Prop := fixesRow.holds Try.pinned (OpenSpec.ofChange fixesSpec)

/-- ITS FALSE NEIGHBOUR: 'it returns false'. Refute it at one input. -/
def fixesWrong : ChangeSpec := { name := "fixes", fn := fun _ => fun
  | [d1, d2] => { results := [.lit (.bool false)], args := [d1, d2] }
  | _ => none }
def FixesWrongFalsely : Prop := fixesRow.holds Try.pinned (OpenSpec.ofChange fixesWrong)

/-- 'grafterlaw1.FixRules': WHATEVER THE INPUT: true; the input reads as it did. -/
def fixRulesSpec : ChangeSpec := { name := "fixRules", fn := fun _ => fun
  | [d1, d2] => { results := [.lit (.bool true)], args := [d1, d2] }
  | _ => none }
def fixRulesRow : OpenClaim := { program := "ytagfhnhakefnpaa", sum := "99a17d92a2af22f18d7382c99a2682f9022e796ff53e6a370ceca4f36245317c", func := "grafter/grafterlaw1.FixRules", spec := "fixRules", apart := false }
def FixRulesSaid : Prop := fixRulesRow.holds Try.pinned (OpenSpec.ofChange fixRulesSpec)

/-- ITS FALSE NEIGHBOUR: 'it returns false'. Refute it at one input. -/
def fixRulesWrong : ChangeSpec := { name := "fixRules", fn := fun _ => fun
  | [d1, d2] => { results := [.lit (.bool false)], args := [d1, d2] }
  | _ => none }
def FixRulesWrongFalsely : Prop := fixRulesRow.holds Try.pinned (OpenSpec.ofChange fixRulesWrong)

/-- 'grafterlaw1.FixForms': WHATEVER THE INPUT: true; the input reads as it did. -/
def fixFormsSpec : ChangeSpec := { name := "fixForms", fn := fun _ => fun
  | [d1, d2] => { results := [.lit (.bool true)], args := [d1, d2] }
  | _ => none }
def fixFormsRow : OpenClaim := { program := "ytagfhnhakefnpaa", sum := "99a17d92a2af22f18d7382c99a2682f9022e796ff53e6a370ceca4f36245317c", func := "grafter/grafterlaw1.FixForms", spec := "fixForms", apart := false }
def FixFormsSaid : Prop := fixFormsRow.holds Try.pinned (OpenSpec.ofChange fixFormsSpec)

/-- ITS FALSE NEIGHBOUR: 'it returns false'. Refute it at one input. -/
def fixFormsWrong : ChangeSpec := { name := "fixForms", fn := fun _ => fun
  | [d1, d2] => { results := [.lit (.bool false)], args := [d1, d2] }
  | _ => none }
def FixFormsWrongFalsely : Prop := fixFormsRow.holds Try.pinned (OpenSpec.ofChange fixFormsWrong)

/-- 'grafterlaw1.FixEnds': WHATEVER THE INPUT: true; the input reads as it did. -/
def fixEndsSpec : ChangeSpec := { name := "fixEnds", fn := fun _ => fun
  | [d1, d2] => { results := [.lit (.bool true)], args := [d1, d2] }
  | _ => none }
def fixEndsRow : OpenClaim := { program := "ytagfhnhakefnpaa", sum := "99a17d92a2af22f18d7382c99a2682f9022e796ff53e6a370ceca4f36245317c", func := "grafter/grafterlaw1.FixEnds", spec := "fixEnds", apart := false }
def FixEndsSaid : Prop := fixEndsRow.holds Try.pinned (OpenSpec.ofChange fixEndsSpec)

/-- ITS FALSE NEIGHBOUR: 'it returns false'. Refute it at one input. -/
def fixEndsWrong : ChangeSpec := { name := "fixEnds", fn := fun _ => fun
  | [d1, d2] => { results := [.lit (.bool false)], args := [d1, d2] }
  | _ => none }
def FixEndsWrongFalsely : Prop := fixEndsRow.holds Try.pinned (OpenSpec.ofChange fixEndsWrong)

/-- 'grafterlaw1.FixFloor': WHATEVER THE INPUT: true; the input reads as it did. -/
def fixFloorSpec : ChangeSpec := { name := "fixFloor", fn := fun _ => fun
  | [d1, d2] => { results := [.lit (.bool true)], args := [d1, d2] }
  | _ => none }
def fixFloorRow : OpenClaim := { program := "ytagfhnhakefnpaa", sum := "99a17d92a2af22f18d7382c99a2682f9022e796ff53e6a370ceca4f36245317c", func := "grafter/grafterlaw1.FixFloor", spec := "fixFloor", apart := false }
def FixFloorSaid : Prop := fixFloorRow.holds Try.pinned (OpenSpec.ofChange fixFloorSpec)

/-- ITS FALSE NEIGHBOUR: 'it returns false'. Refute it at one input. -/
def fixFloorWrong : ChangeSpec := { name := "fixFloor", fn := fun _ => fun
  | [d1, d2] => { results := [.lit (.bool false)], args := [d1, d2] }
  | _ => none }
def FixFloorWrongFalsely : Prop := fixFloorRow.holds Try.pinned (OpenSpec.ofChange fixFloorWrong)

/-- 'grafterlaw1.FixSpread': WHATEVER THE INPUT: true; the input reads as it did. -/
def fixSpreadSpec : ChangeSpec := { name := "fixSpread", fn := fun _ => fun
  | [d1, d2, d3] => { results := [.lit (.bool true)], args := [d1, d2, d3] }
  | _ => none }
def fixSpreadRow : OpenClaim := { program := "ytagfhnhakefnpaa", sum := "99a17d92a2af22f18d7382c99a2682f9022e796ff53e6a370ceca4f36245317c", func := "grafter/grafterlaw1.FixSpread", spec := "fixSpread", apart := false }
def FixSpreadSaid : Prop := fixSpreadRow.holds Try.pinned (OpenSpec.ofChange fixSpreadSpec)

/-- ITS FALSE NEIGHBOUR: 'it returns false'. Refute it at one input. -/
def fixSpreadWrong : ChangeSpec := { name := "fixSpread", fn := fun _ => fun
  | [d1, d2, d3] => { results := [.lit (.bool false)], args := [d1, d2, d3] }
  | _ => none }
def FixSpreadWrongFalsely : Prop := fixSpreadRow.holds Try.pinned (OpenSpec.ofChange fixSpreadWrong)

/-- 'grafterlaw2.Acts': WHATEVER THE INPUT: true; the input reads as it did. -/
def actsSpec : ChangeSpec := { name := "acts", fn := fun _ => fun
  | [d] => { results := [.lit (.bool true)], args := [d] }
  | _ => none }
def actsRow : OpenClaim := { program := "ytagfhnhakefnpaa", sum := "99a17d92a2af22f18d7382c99a2682f9022e796ff53e6a370ceca4f36245317c", func := "grafter/grafterlaw2.Acts", spec := "acts", apart := false }
def ActsSaid : Prop := actsRow.holds Try.pinned (OpenSpec.ofChange actsSpec)

/-- ITS FALSE NEIGHBOUR: 'it returns false'. Refute it at one input. -/
def actsWrong : ChangeSpec := { name := "acts", fn := fun _ => fun
  | [d] => { results := [.lit (.bool false)], args := [d] }
  | _ => none }
def ActsWrongFalsely : Prop := actsRow.holds Try.pinned (OpenSpec.ofChange actsWrong)

/-- 'grafterlaw2.ActForms': WHATEVER THE INPUT: true; the input reads as it did. -/
def actFormsSpec : ChangeSpec := { name := "actForms", fn := fun _ => fun
  | [d1, d2] => { results := [.lit (.bool true)], args := [d1, d2] }
  | _ => none }
def actFormsRow : OpenClaim := { program := "ytagfhnhakefnpaa", sum := "99a17d92a2af22f18d7382c99a2682f9022e796ff53e6a370ceca4f36245317c", func := "grafter/grafterlaw2.ActForms", spec := "actForms", apart := false }
def ActFormsSaid : Prop := actFormsRow.holds Try.pinned (OpenSpec.ofChange actFormsSpec)

/-- ITS FALSE NEIGHBOUR: 'it returns false'. Refute it at one input. -/
def actFormsWrong : ChangeSpec := { name := "actForms", fn := fun _ => fun
  | [d1, d2] => { results := [.lit (.bool false)], args := [d1, d2] }
  | _ => none }
def ActFormsWrongFalsely : Prop := actFormsRow.holds Try.pinned (OpenSpec.ofChange actFormsWrong)

/-- 'grafterlaw2.ActShape': WHATEVER THE INPUT: true; the input reads as it did. -/
def actShapeSpec : ChangeSpec := { name := "actShape", fn := fun _ => fun
  | [d1, d2] => { results := [.lit (.bool true)], args := [d1, d2] }
  | _ => none }
def actShapeRow : OpenClaim := { program := "ytagfhnhakefnpaa", sum := "99a17d92a2af22f18d7382c99a2682f9022e796ff53e6a370ceca4f36245317c", func := "grafter/grafterlaw2.ActShape", spec := "actShape", apart := false }
def ActShapeSaid : Prop := actShapeRow.holds Try.pinned (OpenSpec.ofChange actShapeSpec)

/-- ITS FALSE NEIGHBOUR: 'it returns false'. Refute it at one input. -/
def actShapeWrong : ChangeSpec := { name := "actShape", fn := fun _ => fun
  | [d1, d2] => { results := [.lit (.bool false)], args := [d1, d2] }
  | _ => none }
def ActShapeWrongFalsely : Prop := actShapeRow.holds Try.pinned (OpenSpec.ofChange actShapeWrong)

/-- 'grafterlaw2.ActAgain': WHATEVER THE INPUT: true; the input reads as it did. -/
def actAgainSpec : ChangeSpec := { name := "actAgain", fn := fun _ => fun
  | [d] => { results := [.lit (.bool true)], args := [d] }
  | _ => none }
def actAgainRow : OpenClaim := { program := "ytagfhnhakefnpaa", sum := "99a17d92a2af22f18d7382c99a2682f9022e796ff53e6a370ceca4f36245317c", func := "grafter/grafterlaw2.ActAgain", spec := "actAgain", apart := false }
def ActAgainSaid : Prop := actAgainRow.holds Try.pinned (OpenSpec.ofChange actAgainSpec)

/-- ITS FALSE NEIGHBOUR: 'it returns false'. Refute it at one input. -/
def actAgainWrong : ChangeSpec := { name := "actAgain", fn := fun _ => fun
  | [d] => { results := [.lit (.bool false)], args := [d] }
  | _ => none }
def ActAgainWrongFalsely : Prop := actAgainRow.holds Try.pinned (OpenSpec.ofChange actAgainWrong)

/-- 'grafterlaw3.Draws': WHATEVER THE INPUT: true; the input reads as it did. -/
def drawsSpec : ChangeSpec := { name := "draws", fn := fun _ => fun
  | [d1, d2, d3] => { results := [.lit (.bool true)], args := [d1, d2, d3] }
  | _ => none }
def drawsRow : OpenClaim := { program := "ytagfhnhakefnpaa", sum := "99a17d92a2af22f18d7382c99a2682f9022e796ff53e6a370ceca4f36245317c", func := "grafter/grafterlaw3.Draws", spec := "draws", apart := false }
def DrawsSaid : Prop := drawsRow.holds Try.pinned (OpenSpec.ofChange drawsSpec)

/-- ITS FALSE NEIGHBOUR: 'it returns false'. Refute it at one input. -/
def drawsWrong : ChangeSpec := { name := "draws", fn := fun _ => fun
  | [d1, d2, d3] => { results := [.lit (.bool false)], args := [d1, d2, d3] }
  | _ => none }
def DrawsWrongFalsely : Prop := drawsRow.holds Try.pinned (OpenSpec.ofChange drawsWrong)

/-- 'grafterlaw3.DrawBounds': WHATEVER THE INPUT: true; the input reads as it did. -/
def drawBoundsSpec : ChangeSpec := { name := "drawBounds", fn := fun _ => fun
  | [d1, d2, d3] => { results := [.lit (.bool true)], args := [d1, d2, d3] }
  | _ => none }
def drawBoundsRow : OpenClaim := { program := "ytagfhnhakefnpaa", sum := "99a17d92a2af22f18d7382c99a2682f9022e796ff53e6a370ceca4f36245317c", func := "grafter/grafterlaw3.DrawBounds", spec := "drawBounds", apart := false }
def DrawBoundsSaid : Prop := drawBoundsRow.holds Try.pinned (OpenSpec.ofChange drawBoundsSpec)

/-- ITS FALSE NEIGHBOUR: 'it returns false'. Refute it at one input. -/
def drawBoundsWrong : ChangeSpec := { name := "drawBounds", fn := fun _ => fun
  | [d1, d2, d3] => { results := [.lit (.bool false)], args := [d1, d2, d3] }
  | _ => none }
def DrawBoundsWrongFalsely : Prop := drawBoundsRow.holds Try.pinned (OpenSpec.ofChange drawBoundsWrong)

/-- 'grafterlaw3.DrawForms': WHATEVER THE INPUT: true; the input reads as it did. -/
def drawFormsSpec : ChangeSpec := { name := "drawForms", fn := fun _ => fun
  | [d1, d2] => { results := [.lit (.bool true)], args := [d1, d2] }
  | _ => none }
def drawFormsRow : OpenClaim := { program := "ytagfhnhakefnpaa", sum := "99a17d92a2af22f18d7382c99a2682f9022e796ff53e6a370ceca4f36245317c", func := "grafter/grafterlaw3.DrawForms", spec := "drawForms", apart := false }
def DrawFormsSaid : Prop := drawFormsRow.holds Try.pinned (OpenSpec.ofChange drawFormsSpec)

/-- ITS FALSE NEIGHBOUR: 'it returns false'. Refute it at one input. -/
def drawFormsWrong : ChangeSpec := { name := "drawForms", fn := fun _ => fun
  | [d1, d2] => { results := [.lit (.bool false)], args := [d1, d2] }
  | _ => none }
def DrawFormsWrongFalsely : Prop := drawFormsRow.holds Try.pinned (OpenSpec.ofChange drawFormsWrong)

/-- 'grafterlaw3.DrawSteps': WHATEVER THE INPUT: true; the input reads as it did. -/
def drawStepsSpec : ChangeSpec := { name := "drawSteps", fn := fun _ => fun
  | [d1, d2] => { results := [.lit (.bool true)], args := [d1, d2] }
  | _ => none }
def drawStepsRow : OpenClaim := { program := "ytagfhnhakefnpaa", sum := "99a17d92a2af22f18d7382c99a2682f9022e796ff53e6a370ceca4f36245317c", func := "grafter/grafterlaw3.DrawSteps", spec := "drawSteps", apart := false }
def DrawStepsSaid : Prop := drawStepsRow.holds Try.pinned (OpenSpec.ofChange drawStepsSpec)

/-- ITS FALSE NEIGHBOUR: 'it returns false'. Refute it at one input. -/
def drawStepsWrong : ChangeSpec := { name := "drawSteps", fn := fun _ => fun
  | [d1, d2] => { results := [.lit (.bool false)], args := [d1, d2] }
  | _ => none }
def DrawStepsWrongFalsely : Prop := drawStepsRow.holds Try.pinned (OpenSpec.ofChange drawStepsWrong)

/-- 'grafterlaw3.DrawMore': WHATEVER THE INPUT: true; the input reads as it did. -/
def drawMoreSpec : ChangeSpec := { name := "drawMore", fn := fun _ => fun
  | [d1, d2, d3, d4] => { results := [.lit (.bool true)], args := [d1, d2, d3, d4] }
  | _ => none }
def drawMoreRow : OpenClaim := { program := "ytagfhnhakefnpaa", sum := "99a17d92a2af22f18d7382c99a2682f9022e796ff53e6a370ceca4f36245317c", func := "grafter/grafterlaw3.DrawMore", spec := "drawMore", apart := false }
def DrawMoreSaid : Prop := drawMoreRow.holds Try.pinned (OpenSpec.ofChange drawMoreSpec)

/-- ITS FALSE NEIGHBOUR: 'it returns false'. Refute it at one input. -/
def drawMoreWrong : ChangeSpec := { name := "drawMore", fn := fun _ => fun
  | [d1, d2, d3, d4] => { results := [.lit (.bool false)], args := [d1, d2, d3, d4] }
  | _ => none }
def DrawMoreWrongFalsely : Prop := drawMoreRow.holds Try.pinned (OpenSpec.ofChange drawMoreWrong)

/-- 'grafterlaw3.DrawPairs': WHATEVER THE INPUT: true; the input reads as it did. -/
def drawPairsSpec : ChangeSpec := { name := "drawPairs", fn := fun _ => fun
  | [d1, d2] => { results := [.lit (.bool true)], args := [d1, d2] }
  | _ => none }
def drawPairsRow : OpenClaim := { program := "ytagfhnhakefnpaa", sum := "99a17d92a2af22f18d7382c99a2682f9022e796ff53e6a370ceca4f36245317c", func := "grafter/grafterlaw3.DrawPairs", spec := "drawPairs", apart := false }
def DrawPairsSaid : Prop := drawPairsRow.holds Try.pinned (OpenSpec.ofChange drawPairsSpec)

/-- ITS FALSE NEIGHBOUR: 'it returns false'. Refute it at one input. -/
def drawPairsWrong : ChangeSpec := { name := "drawPairs", fn := fun _ => fun
  | [d1, d2] => { results := [.lit (.bool false)], args := [d1, d2] }
  | _ => none }
def DrawPairsWrongFalsely : Prop := drawPairsRow.holds Try.pinned (OpenSpec.ofChange drawPairsWrong)

/-- 'grafterlaw9.Samples': WHATEVER THE INPUT: true; the input reads as it did. -/
def samplesSpec : ChangeSpec := { name := "samples", fn := fun _ => fun
  | [d1, d2, d3, d4] => { results := [.lit (.bool true)], args := [d1, d2, d3, d4] }
  | _ => none }
def samplesRow : OpenClaim := { program := "ytagfhnhakefnpaa", sum := "99a17d92a2af22f18d7382c99a2682f9022e796ff53e6a370ceca4f36245317c", func := "grafter/grafterlaw9.Samples", spec := "samples", apart := false }
def SamplesSaid : Prop := samplesRow.holds Try.pinned (OpenSpec.ofChange samplesSpec)

/-- ITS FALSE NEIGHBOUR: 'it returns false'. Refute it at one input. -/
def samplesWrong : ChangeSpec := { name := "samples", fn := fun _ => fun
  | [d1, d2, d3, d4] => { results := [.lit (.bool false)], args := [d1, d2, d3, d4] }
  | _ => none }
def SamplesWrongFalsely : Prop := samplesRow.holds Try.pinned (OpenSpec.ofChange samplesWrong)

/-- 'grafterlaw9.SampleForms': WHATEVER THE INPUT: true; the input reads as it did. -/
def sampleFormsSpec : ChangeSpec := { name := "sampleForms", fn := fun _ => fun
  | [d1, d2] => { results := [.lit (.bool true)], args := [d1, d2] }
  | _ => none }
def sampleFormsRow : OpenClaim := { program := "ytagfhnhakefnpaa", sum := "99a17d92a2af22f18d7382c99a2682f9022e796ff53e6a370ceca4f36245317c", func := "grafter/grafterlaw9.SampleForms", spec := "sampleForms", apart := false }
def SampleFormsSaid : Prop := sampleFormsRow.holds Try.pinned (OpenSpec.ofChange sampleFormsSpec)

/-- ITS FALSE NEIGHBOUR: 'it returns false'. Refute it at one input. -/
def sampleFormsWrong : ChangeSpec := { name := "sampleForms", fn := fun _ => fun
  | [d1, d2] => { results := [.lit (.bool false)], args := [d1, d2] }
  | _ => none }
def SampleFormsWrongFalsely : Prop := sampleFormsRow.holds Try.pinned (OpenSpec.ofChange sampleFormsWrong)

/-- 'grafterlaw9.SampleAll': WHATEVER THE INPUT: true; the input reads as it did. -/
def sampleAllSpec : ChangeSpec := { name := "sampleAll", fn := fun _ => fun
  | [d1, d2, d3, d4] => { results := [.lit (.bool true)], args := [d1, d2, d3, d4] }
  | _ => none }
def sampleAllRow : OpenClaim := { program := "ytagfhnhakefnpaa", sum := "99a17d92a2af22f18d7382c99a2682f9022e796ff53e6a370ceca4f36245317c", func := "grafter/grafterlaw9.SampleAll", spec := "sampleAll", apart := false }
def SampleAllSaid : Prop := sampleAllRow.holds Try.pinned (OpenSpec.ofChange sampleAllSpec)

/-- ITS FALSE NEIGHBOUR: 'it returns false'. Refute it at one input. -/
def sampleAllWrong : ChangeSpec := { name := "sampleAll", fn := fun _ => fun
  | [d1, d2, d3, d4] => { results := [.lit (.bool false)], args := [d1, d2, d3, d4] }
  | _ => none }
def SampleAllWrongFalsely : Prop := sampleAllRow.holds Try.pinned (OpenSpec.ofChange sampleAllWrong)

/-- 'grafterlaw9.SampleOne': WHATEVER THE INPUT: true; the input reads as it did. -/
def sampleOneSpec : ChangeSpec := { name := "sampleOne", fn := fun _ => fun
  | [d1, d2, d3, d4] => { results := [.lit (.bool true)], args := [d1, d2, d3, d4] }
  | _ => none }
def sampleOneRow : OpenClaim := { program := "ytagfhnhakefnpaa", sum := "99a17d92a2af22f18d7382c99a2682f9022e796ff53e6a370ceca4f36245317c", func := "grafter/grafterlaw9.SampleOne", spec := "sampleOne", apart := false }
def SampleOneSaid : Prop := sampleOneRow.holds Try.pinned (OpenSpec.ofChange sampleOneSpec)

/-- ITS FALSE NEIGHBOUR: 'it returns false'. Refute it at one input. -/
def sampleOneWrong : ChangeSpec := { name := "sampleOne", fn := fun _ => fun
  | [d1, d2, d3, d4] => { results := [.lit (.bool false)], args := [d1, d2, d3, d4] }
  | _ => none }
def SampleOneWrongFalsely : Prop := sampleOneRow.holds Try.pinned (OpenSpec.ofChange sampleOneWrong)

/- THE SECOND FORM. 'bulk': how many values and letters a reading holds, each counted each time it is reached (what is shared counts as often as it is met; a slice's spare places count too). A statement '..UptoSaid' is the law's where the arguments, and the package variables that the reading takes, are together of bulk at most 1048576: NARROWER than '..Said'. Prove '..Said' where nothing that the law and all that it calls make is longer than what came in: it says more and counts as full. Else prove '..UptoSaid'. A law counts once. -/
mutual
def uptoBulk {H : Type} : DataW H → Nat
  | .lit (.string bytes) => bytes.length + 1
  | .lit _ => 1
  | .nil => 1
  | .ptr d => uptoBulk d + 1
  | .slice elems spare => uptoBulkAll elems + uptoBulkAll spare + 1
  | .agg parts => uptoBulkAll parts + 1
  | .iface _ d => uptoBulk d + 1
  | .map entries => uptoBulkEntries entries + 1
  | .held _ => 1
def uptoBulkAll {H : Type} : List (DataW H) → Nat
  | [] => 0
  | d :: r => uptoBulk d + uptoBulkAll r
def uptoBulkEntries {H : Type} : List (Lit × DataW H) → Nat
  | [] => 0
  | x :: r => uptoBulkEntry x + uptoBulkEntries r
def uptoBulkEntry {H : Type} : Lit × DataW H → Nat
  | (.string bytes, d) => bytes.length + uptoBulk d + 1
  | (_, d) => uptoBulk d + 1
 end
def uptoSmall : (H : Type) → List (DataW H) → Bool := fun _ ds => decide (uptoBulkAll ds ≤ 1048576)
def OpenSpec.upto (s : _root_.Go.ChangeSpec) : _root_.Go.OpenSpec := { _root_.Go.OpenSpec.ofChange s with cond := some uptoSmall }

/-- 'grafterlaw0.GrafterNames', WHERE WHAT IT READS IS OF BULK AT MOST 1048576: true; the input reads as it did. -/
def grafterNamesUptoRow : OpenClaim := { program := "ytagfhnhakefnpaa", sum := "99a17d92a2af22f18d7382c99a2682f9022e796ff53e6a370ceca4f36245317c", func := "grafter/grafterlaw0.GrafterNames", spec := "grafterNames", apart := false, narrowed := true }
def GrafterNamesUptoSaid : Prop := grafterNamesUptoRow.holds Try.pinned (OpenSpec.upto grafterNamesSpec)

/-- 'grafterlaw1.Fixes', WHERE WHAT IT READS IS OF BULK AT MOST 1048576: true; the input reads as it did. -/
def fixesUptoRow : OpenClaim := { program := "ytagfhnhakefnpaa", sum := "99a17d92a2af22f18d7382c99a2682f9022e796ff53e6a370ceca4f36245317c", func := "grafter/grafterlaw1.Fixes", spec := "fixes", apart := false, narrowed := true }
def FixesUptoSaid : Prop := fixesUptoRow.holds Try.pinned (OpenSpec.upto fixesSpec)

/-- 'grafterlaw1.FixRules', WHERE WHAT IT READS IS OF BULK AT MOST 1048576: true; the input reads as it did. -/
def fixRulesUptoRow : OpenClaim := { program := "ytagfhnhakefnpaa", sum := "99a17d92a2af22f18d7382c99a2682f9022e796ff53e6a370ceca4f36245317c", func := "grafter/grafterlaw1.FixRules", spec := "fixRules", apart := false, narrowed := true }
def FixRulesUptoSaid : Prop := fixRulesUptoRow.holds Try.pinned (OpenSpec.upto fixRulesSpec)

/-- 'grafterlaw1.FixForms', WHERE WHAT IT READS IS OF BULK AT MOST 1048576: true; the input reads as it did. -/
def fixFormsUptoRow : OpenClaim := { program := "ytagfhnhakefnpaa", sum := "99a17d92a2af22f18d7382c99a2682f9022e796ff53e6a370ceca4f36245317c", func := "grafter/grafterlaw1.FixForms", spec := "fixForms", apart := false, narrowed := true }
def FixFormsUptoSaid : Prop := fixFormsUptoRow.holds Try.pinned (OpenSpec.upto fixFormsSpec)

/-- 'grafterlaw1.FixEnds', WHERE WHAT IT READS IS OF BULK AT MOST 1048576: true; the input reads as it did. -/
def fixEndsUptoRow : OpenClaim := { program := "ytagfhnhakefnpaa", sum := "99a17d92a2af22f18d7382c99a2682f9022e796ff53e6a370ceca4f36245317c", func := "grafter/grafterlaw1.FixEnds", spec := "fixEnds", apart := false, narrowed := true }
def FixEndsUptoSaid : Prop := fixEndsUptoRow.holds Try.pinned (OpenSpec.upto fixEndsSpec)

/-- 'grafterlaw1.FixFloor', WHERE WHAT IT READS IS OF BULK AT MOST 1048576: true; the input reads as it did. -/
def fixFloorUptoRow : OpenClaim := { program := "ytagfhnhakefnpaa", sum := "99a17d92a2af22f18d7382c99a2682f9022e796ff53e6a370ceca4f36245317c", func := "grafter/grafterlaw1.FixFloor", spec := "fixFloor", apart := false, narrowed := true }
def FixFloorUptoSaid : Prop := fixFloorUptoRow.holds Try.pinned (OpenSpec.upto fixFloorSpec)

/-- 'grafterlaw1.FixSpread', WHERE WHAT IT READS IS OF BULK AT MOST 1048576: true; the input reads as it did. -/
def fixSpreadUptoRow : OpenClaim := { program := "ytagfhnhakefnpaa", sum := "99a17d92a2af22f18d7382c99a2682f9022e796ff53e6a370ceca4f36245317c", func := "grafter/grafterlaw1.FixSpread", spec := "fixSpread", apart := false, narrowed := true }
def FixSpreadUptoSaid : Prop := fixSpreadUptoRow.holds Try.pinned (OpenSpec.upto fixSpreadSpec)

/-- 'grafterlaw2.Acts', WHERE WHAT IT READS IS OF BULK AT MOST 1048576: true; the input reads as it did. -/
def actsUptoRow : OpenClaim := { program := "ytagfhnhakefnpaa", sum := "99a17d92a2af22f18d7382c99a2682f9022e796ff53e6a370ceca4f36245317c", func := "grafter/grafterlaw2.Acts", spec := "acts", apart := false, narrowed := true }
def ActsUptoSaid : Prop := actsUptoRow.holds Try.pinned (OpenSpec.upto actsSpec)

/-- 'grafterlaw2.ActForms', WHERE WHAT IT READS IS OF BULK AT MOST 1048576: true; the input reads as it did. -/
def actFormsUptoRow : OpenClaim := { program := "ytagfhnhakefnpaa", sum := "99a17d92a2af22f18d7382c99a2682f9022e796ff53e6a370ceca4f36245317c", func := "grafter/grafterlaw2.ActForms", spec := "actForms", apart := false, narrowed := true }
def ActFormsUptoSaid : Prop := actFormsUptoRow.holds Try.pinned (OpenSpec.upto actFormsSpec)

/-- 'grafterlaw2.ActShape', WHERE WHAT IT READS IS OF BULK AT MOST 1048576: true; the input reads as it did. -/
def actShapeUptoRow : OpenClaim := { program := "ytagfhnhakefnpaa", sum := "99a17d92a2af22f18d7382c99a2682f9022e796ff53e6a370ceca4f36245317c", func := "grafter/grafterlaw2.ActShape", spec := "actShape", apart := false, narrowed := true }
def ActShapeUptoSaid : Prop := actShapeUptoRow.holds Try.pinned (OpenSpec.upto actShapeSpec)

/-- 'grafterlaw2.ActAgain', WHERE WHAT IT READS IS OF BULK AT MOST 1048576: true; the input reads as it did. -/
def actAgainUptoRow : OpenClaim := { program := "ytagfhnhakefnpaa", sum := "99a17d92a2af22f18d7382c99a2682f9022e796ff53e6a370ceca4f36245317c", func := "grafter/grafterlaw2.ActAgain", spec := "actAgain", apart := false, narrowed := true }
def ActAgainUptoSaid : Prop := actAgainUptoRow.holds Try.pinned (OpenSpec.upto actAgainSpec)

/-- 'grafterlaw3.Draws', WHERE WHAT IT READS IS OF BULK AT MOST 1048576: true; the input reads as it did. -/
def drawsUptoRow : OpenClaim := { program := "ytagfhnhakefnpaa", sum := "99a17d92a2af22f18d7382c99a2682f9022e796ff53e6a370ceca4f36245317c", func := "grafter/grafterlaw3.Draws", spec := "draws", apart := false, narrowed := true }
def DrawsUptoSaid : Prop := drawsUptoRow.holds Try.pinned (OpenSpec.upto drawsSpec)

/-- 'grafterlaw3.DrawBounds', WHERE WHAT IT READS IS OF BULK AT MOST 1048576: true; the input reads as it did. -/
def drawBoundsUptoRow : OpenClaim := { program := "ytagfhnhakefnpaa", sum := "99a17d92a2af22f18d7382c99a2682f9022e796ff53e6a370ceca4f36245317c", func := "grafter/grafterlaw3.DrawBounds", spec := "drawBounds", apart := false, narrowed := true }
def DrawBoundsUptoSaid : Prop := drawBoundsUptoRow.holds Try.pinned (OpenSpec.upto drawBoundsSpec)

/-- 'grafterlaw3.DrawForms', WHERE WHAT IT READS IS OF BULK AT MOST 1048576: true; the input reads as it did. -/
def drawFormsUptoRow : OpenClaim := { program := "ytagfhnhakefnpaa", sum := "99a17d92a2af22f18d7382c99a2682f9022e796ff53e6a370ceca4f36245317c", func := "grafter/grafterlaw3.DrawForms", spec := "drawForms", apart := false, narrowed := true }
def DrawFormsUptoSaid : Prop := drawFormsUptoRow.holds Try.pinned (OpenSpec.upto drawFormsSpec)

/-- 'grafterlaw3.DrawSteps', WHERE WHAT IT READS IS OF BULK AT MOST 1048576: true; the input reads as it did. -/
def drawStepsUptoRow : OpenClaim := { program := "ytagfhnhakefnpaa", sum := "99a17d92a2af22f18d7382c99a2682f9022e796ff53e6a370ceca4f36245317c", func := "grafter/grafterlaw3.DrawSteps", spec := "drawSteps", apart := false, narrowed := true }
def DrawStepsUptoSaid : Prop := drawStepsUptoRow.holds Try.pinned (OpenSpec.upto drawStepsSpec)

/-- 'grafterlaw3.DrawMore', WHERE WHAT IT READS IS OF BULK AT MOST 1048576: true; the input reads as it did. -/
def drawMoreUptoRow : OpenClaim := { program := "ytagfhnhakefnpaa", sum := "99a17d92a2af22f18d7382c99a2682f9022e796ff53e6a370ceca4f36245317c", func := "grafter/grafterlaw3.DrawMore", spec := "drawMore", apart := false, narrowed := true }
def DrawMoreUptoSaid : Prop := drawMoreUptoRow.holds Try.pinned (OpenSpec.upto drawMoreSpec)

/-- 'grafterlaw3.DrawPairs', WHERE WHAT IT READS IS OF BULK AT MOST 1048576: true; the input reads as it did. -/
def drawPairsUptoRow : OpenClaim := { program := "ytagfhnhakefnpaa", sum := "99a17d92a2af22f18d7382c99a2682f9022e796ff53e6a370ceca4f36245317c", func := "grafter/grafterlaw3.DrawPairs", spec := "drawPairs", apart := false, narrowed := true }
def DrawPairsUptoSaid : Prop := drawPairsUptoRow.holds Try.pinned (OpenSpec.upto drawPairsSpec)

/-- 'grafterlaw9.Samples', WHERE WHAT IT READS IS OF BULK AT MOST 1048576: true; the input reads as it did. -/
def samplesUptoRow : OpenClaim := { program := "ytagfhnhakefnpaa", sum := "99a17d92a2af22f18d7382c99a2682f9022e796ff53e6a370ceca4f36245317c", func := "grafter/grafterlaw9.Samples", spec := "samples", apart := false, narrowed := true }
def SamplesUptoSaid : Prop := samplesUptoRow.holds Try.pinned (OpenSpec.upto samplesSpec)

/-- 'grafterlaw9.SampleForms', WHERE WHAT IT READS IS OF BULK AT MOST 1048576: true; the input reads as it did. -/
def sampleFormsUptoRow : OpenClaim := { program := "ytagfhnhakefnpaa", sum := "99a17d92a2af22f18d7382c99a2682f9022e796ff53e6a370ceca4f36245317c", func := "grafter/grafterlaw9.SampleForms", spec := "sampleForms", apart := false, narrowed := true }
def SampleFormsUptoSaid : Prop := sampleFormsUptoRow.holds Try.pinned (OpenSpec.upto sampleFormsSpec)

/-- 'grafterlaw9.SampleAll', WHERE WHAT IT READS IS OF BULK AT MOST 1048576: true; the input reads as it did. -/
def sampleAllUptoRow : OpenClaim := { program := "ytagfhnhakefnpaa", sum := "99a17d92a2af22f18d7382c99a2682f9022e796ff53e6a370ceca4f36245317c", func := "grafter/grafterlaw9.SampleAll", spec := "sampleAll", apart := false, narrowed := true }
def SampleAllUptoSaid : Prop := sampleAllUptoRow.holds Try.pinned (OpenSpec.upto sampleAllSpec)

/-- 'grafterlaw9.SampleOne', WHERE WHAT IT READS IS OF BULK AT MOST 1048576: true; the input reads as it did. -/
def sampleOneUptoRow : OpenClaim := { program := "ytagfhnhakefnpaa", sum := "99a17d92a2af22f18d7382c99a2682f9022e796ff53e6a370ceca4f36245317c", func := "grafter/grafterlaw9.SampleOne", spec := "sampleOne", apart := false, narrowed := true }
def SampleOneUptoSaid : Prop := sampleOneUptoRow.holds Try.pinned (OpenSpec.upto sampleOneSpec)

end Rows
end Go.Proofs.Ytagfhnhakefnpaa
