/-
  No cell of these rows narrows 'for every input' (looked for: loops, veiled, ifaces, maps, wideKeys, modest, calm, conditions, laid).
  DERIVED. THE GIVEN ROWS OF THIS SEAT. 19 by the template 'for every input the law returns true; each argument reads behind the call as it read before'; 0 by the template 'total and deterministic' (their statements: YtbhkmgidokonkaaTotals.lean).
  GIVEN WITH THE SEED: the statements are not yours to turn. If you find one false, say at which input.
  Laid BY PROGRAM, IN A SANDBOX (cutbox-rows.mjs): the forced cells as the released guide's own fill.sh prints them over the translation 23922ca1927fea2a… (all of the seat's roots in one cut). By AI agents, Wed Nov 11 2026. No macro, syntax, notation, axiom, sorry.
-/
import Derived.Test.YtbhkmgidokonkaaChecked
import GoSem.Claim
import GoSem.ClaimJoined
import GoSem.ClaimMapViews
import Derived.JoinedTies
import Derived.KernelRfl
namespace Go.Proofs.Ytbhkmgidokonkaa
/- THE CELL 'sum', in the pinned program and in every row, IS THE sha256 OF THE DUMP (.gsa) THAT YtbhkmgidokonkaaProg.lean LOADS. Nothing in Lean hashes anything: it is a label: what it is worth is what the hold of that sum in a sandbox is worth. -/
noncomputable def Try.pinned : Pinned := { name := "ytbhkmgidokonkaa", sum := "23922ca1927fea2a7d47851499b05b438db41ac79aae14097dfdebd569e58b5f", checked := Try.checked }
namespace Rows
def none {H : Type} : Left H := { results := [], args := [] }

/-- 'grafterlaw16.Frames': WHATEVER THE INPUT: true; the input reads as it did. -/
def framesSpec : ChangeSpec := { name := "frames", fn := fun _ => fun
  | [d1, d2, d3] => { results := [.lit (.bool true)], args := [d1, d2, d3] }
  | _ => none }
def framesRow : OpenClaim := { program := "ytbhkmgidokonkaa", sum := "23922ca1927fea2a7d47851499b05b438db41ac79aae14097dfdebd569e58b5f", func := "grafter/grafterlaw16.Frames", spec := "frames", apart := false }
def FramesSaid : Prop := framesRow.holds Try.pinned (OpenSpec.ofChange framesSpec)

/-- ITS FALSE NEIGHBOUR: 'it returns false'. Refute it at one input. -/
def framesWrong : ChangeSpec := { name := "frames", fn := fun _ => fun
  | [d1, d2, d3] => { results := [.lit (.bool false)], args := [d1, d2, d3] }
  | _ => none }
def FramesWrongFalsely : Prop := framesRow.holds Try.pinned (OpenSpec.ofChange framesWrong)

/-- 'grafterlaw16.FrameTurned': WHATEVER THE INPUT: true; the input reads as it did. -/
def frameTurnedSpec : ChangeSpec := { name := "frameTurned", fn := fun _ => fun
  | [d1, d2, d3] => { results := [.lit (.bool true)], args := [d1, d2, d3] }
  | _ => none }
def frameTurnedRow : OpenClaim := { program := "ytbhkmgidokonkaa", sum := "23922ca1927fea2a7d47851499b05b438db41ac79aae14097dfdebd569e58b5f", func := "grafter/grafterlaw16.FrameTurned", spec := "frameTurned", apart := false }
def FrameTurnedSaid : Prop := frameTurnedRow.holds Try.pinned (OpenSpec.ofChange frameTurnedSpec)

/-- ITS FALSE NEIGHBOUR: 'it returns false'. Refute it at one input. -/
def frameTurnedWrong : ChangeSpec := { name := "frameTurned", fn := fun _ => fun
  | [d1, d2, d3] => { results := [.lit (.bool false)], args := [d1, d2, d3] }
  | _ => none }
def FrameTurnedWrongFalsely : Prop := frameTurnedRow.holds Try.pinned (OpenSpec.ofChange frameTurnedWrong)

/-- 'grafterlaw16.FrameForms': WHATEVER THE INPUT: true; the input reads as it did. -/
def frameFormsSpec : ChangeSpec := { name := "frameForms", fn := fun _ => fun
  | [d1, d2] => { results := [.lit (.bool true)], args := [d1, d2] }
  | _ => none }
def frameFormsRow : OpenClaim := { program := "ytbhkmgidokonkaa", sum := "23922ca1927fea2a7d47851499b05b438db41ac79aae14097dfdebd569e58b5f", func := "grafter/grafterlaw16.FrameForms", spec := "frameForms", apart := false }
def FrameFormsSaid : Prop := frameFormsRow.holds Try.pinned (OpenSpec.ofChange frameFormsSpec)

/-- ITS FALSE NEIGHBOUR: 'it returns false'. Refute it at one input. -/
def frameFormsWrong : ChangeSpec := { name := "frameForms", fn := fun _ => fun
  | [d1, d2] => { results := [.lit (.bool false)], args := [d1, d2] }
  | _ => none }
def FrameFormsWrongFalsely : Prop := frameFormsRow.holds Try.pinned (OpenSpec.ofChange frameFormsWrong)

/-- 'grafterlaw16.FrameAt': WHATEVER THE INPUT: true; the input reads as it did. -/
def frameAtSpec : ChangeSpec := { name := "frameAt", fn := fun _ => fun
  | [d1, d2, d3] => { results := [.lit (.bool true)], args := [d1, d2, d3] }
  | _ => none }
def frameAtRow : OpenClaim := { program := "ytbhkmgidokonkaa", sum := "23922ca1927fea2a7d47851499b05b438db41ac79aae14097dfdebd569e58b5f", func := "grafter/grafterlaw16.FrameAt", spec := "frameAt", apart := false }
def FrameAtSaid : Prop := frameAtRow.holds Try.pinned (OpenSpec.ofChange frameAtSpec)

/-- ITS FALSE NEIGHBOUR: 'it returns false'. Refute it at one input. -/
def frameAtWrong : ChangeSpec := { name := "frameAt", fn := fun _ => fun
  | [d1, d2, d3] => { results := [.lit (.bool false)], args := [d1, d2, d3] }
  | _ => none }
def FrameAtWrongFalsely : Prop := frameAtRow.holds Try.pinned (OpenSpec.ofChange frameAtWrong)

/-- 'grafterlaw16.FrameUnlike': WHATEVER THE INPUT: true; the input reads as it did. -/
def frameUnlikeSpec : ChangeSpec := { name := "frameUnlike", fn := fun _ => fun
  | [d1, d2] => { results := [.lit (.bool true)], args := [d1, d2] }
  | _ => none }
def frameUnlikeRow : OpenClaim := { program := "ytbhkmgidokonkaa", sum := "23922ca1927fea2a7d47851499b05b438db41ac79aae14097dfdebd569e58b5f", func := "grafter/grafterlaw16.FrameUnlike", spec := "frameUnlike", apart := false }
def FrameUnlikeSaid : Prop := frameUnlikeRow.holds Try.pinned (OpenSpec.ofChange frameUnlikeSpec)

/-- ITS FALSE NEIGHBOUR: 'it returns false'. Refute it at one input. -/
def frameUnlikeWrong : ChangeSpec := { name := "frameUnlike", fn := fun _ => fun
  | [d1, d2] => { results := [.lit (.bool false)], args := [d1, d2] }
  | _ => none }
def FrameUnlikeWrongFalsely : Prop := frameUnlikeRow.holds Try.pinned (OpenSpec.ofChange frameUnlikeWrong)

/-- 'grafterlaw17.Journals': WHATEVER THE INPUT: true; the input reads as it did. -/
def journalsSpec : ChangeSpec := { name := "journals", fn := fun _ => fun
  | [d1, d2] => { results := [.lit (.bool true)], args := [d1, d2] }
  | _ => none }
def journalsRow : OpenClaim := { program := "ytbhkmgidokonkaa", sum := "23922ca1927fea2a7d47851499b05b438db41ac79aae14097dfdebd569e58b5f", func := "grafter/grafterlaw17.Journals", spec := "journals", inPlace := ["internal/abi.NoEscape"], apart := false }
def JournalsSaid : Prop := journalsRow.holds Try.pinned (OpenSpec.ofChange journalsSpec)

/-- ITS FALSE NEIGHBOUR: 'it returns false'. Refute it at one input. -/
def journalsWrong : ChangeSpec := { name := "journals", fn := fun _ => fun
  | [d1, d2] => { results := [.lit (.bool false)], args := [d1, d2] }
  | _ => none }
def JournalsWrongFalsely : Prop := journalsRow.holds Try.pinned (OpenSpec.ofChange journalsWrong)

/-- 'grafterlaw17.JournalCut': WHATEVER THE INPUT: true; the input reads as it did. -/
def journalCutSpec : ChangeSpec := { name := "journalCut", fn := fun _ => fun
  | [d1, d2] => { results := [.lit (.bool true)], args := [d1, d2] }
  | _ => none }
def journalCutRow : OpenClaim := { program := "ytbhkmgidokonkaa", sum := "23922ca1927fea2a7d47851499b05b438db41ac79aae14097dfdebd569e58b5f", func := "grafter/grafterlaw17.JournalCut", spec := "journalCut", inPlace := ["internal/abi.NoEscape"], apart := false }
def JournalCutSaid : Prop := journalCutRow.holds Try.pinned (OpenSpec.ofChange journalCutSpec)

/-- ITS FALSE NEIGHBOUR: 'it returns false'. Refute it at one input. -/
def journalCutWrong : ChangeSpec := { name := "journalCut", fn := fun _ => fun
  | [d1, d2] => { results := [.lit (.bool false)], args := [d1, d2] }
  | _ => none }
def JournalCutWrongFalsely : Prop := journalCutRow.holds Try.pinned (OpenSpec.ofChange journalCutWrong)

/-- 'grafterlaw17.JournalForms': WHATEVER THE INPUT: true; the input reads as it did. -/
def journalFormsSpec : ChangeSpec := { name := "journalForms", fn := fun _ => fun
  | [d1, d2] => { results := [.lit (.bool true)], args := [d1, d2] }
  | _ => none }
def journalFormsRow : OpenClaim := { program := "ytbhkmgidokonkaa", sum := "23922ca1927fea2a7d47851499b05b438db41ac79aae14097dfdebd569e58b5f", func := "grafter/grafterlaw17.JournalForms", spec := "journalForms", inPlace := ["internal/abi.NoEscape"], apart := false }
def JournalFormsSaid : Prop := journalFormsRow.holds Try.pinned (OpenSpec.ofChange journalFormsSpec)

/-- ITS FALSE NEIGHBOUR: 'it returns false'. Refute it at one input. -/
def journalFormsWrong : ChangeSpec := { name := "journalForms", fn := fun _ => fun
  | [d1, d2] => { results := [.lit (.bool false)], args := [d1, d2] }
  | _ => none }
def JournalFormsWrongFalsely : Prop := journalFormsRow.holds Try.pinned (OpenSpec.ofChange journalFormsWrong)

/-- 'grafterlaw17.JournalBad': WHATEVER THE INPUT: true; the input reads as it did. -/
def journalBadSpec : ChangeSpec := { name := "journalBad", fn := fun _ => fun
  | [d1, d2, d3] => { results := [.lit (.bool true)], args := [d1, d2, d3] }
  | _ => none }
def journalBadRow : OpenClaim := { program := "ytbhkmgidokonkaa", sum := "23922ca1927fea2a7d47851499b05b438db41ac79aae14097dfdebd569e58b5f", func := "grafter/grafterlaw17.JournalBad", spec := "journalBad", inPlace := ["internal/abi.NoEscape"], apart := false }
def JournalBadSaid : Prop := journalBadRow.holds Try.pinned (OpenSpec.ofChange journalBadSpec)

/-- ITS FALSE NEIGHBOUR: 'it returns false'. Refute it at one input. -/
def journalBadWrong : ChangeSpec := { name := "journalBad", fn := fun _ => fun
  | [d1, d2, d3] => { results := [.lit (.bool false)], args := [d1, d2, d3] }
  | _ => none }
def JournalBadWrongFalsely : Prop := journalBadRow.holds Try.pinned (OpenSpec.ofChange journalBadWrong)

/-- 'grafterlaw17.JournalTwo': WHATEVER THE INPUT: true; the input reads as it did. -/
def journalTwoSpec : ChangeSpec := { name := "journalTwo", fn := fun _ => fun
  | [d1, d2] => { results := [.lit (.bool true)], args := [d1, d2] }
  | _ => none }
def journalTwoRow : OpenClaim := { program := "ytbhkmgidokonkaa", sum := "23922ca1927fea2a7d47851499b05b438db41ac79aae14097dfdebd569e58b5f", func := "grafter/grafterlaw17.JournalTwo", spec := "journalTwo", inPlace := ["internal/abi.NoEscape"], apart := false }
def JournalTwoSaid : Prop := journalTwoRow.holds Try.pinned (OpenSpec.ofChange journalTwoSpec)

/-- ITS FALSE NEIGHBOUR: 'it returns false'. Refute it at one input. -/
def journalTwoWrong : ChangeSpec := { name := "journalTwo", fn := fun _ => fun
  | [d1, d2] => { results := [.lit (.bool false)], args := [d1, d2] }
  | _ => none }
def JournalTwoWrongFalsely : Prop := journalTwoRow.holds Try.pinned (OpenSpec.ofChange journalTwoWrong)

/-- 'grafterlaw17.JournalTurned': WHATEVER THE INPUT: true; the input reads as it did. -/
def journalTurnedSpec : ChangeSpec := { name := "journalTurned", fn := fun _ => fun
  | [d1, d2, d3] => { results := [.lit (.bool true)], args := [d1, d2, d3] }
  | _ => none }
def journalTurnedRow : OpenClaim := { program := "ytbhkmgidokonkaa", sum := "23922ca1927fea2a7d47851499b05b438db41ac79aae14097dfdebd569e58b5f", func := "grafter/grafterlaw17.JournalTurned", spec := "journalTurned", inPlace := ["internal/abi.NoEscape"], apart := false }
def JournalTurnedSaid : Prop := journalTurnedRow.holds Try.pinned (OpenSpec.ofChange journalTurnedSpec)

/-- ITS FALSE NEIGHBOUR: 'it returns false'. Refute it at one input. -/
def journalTurnedWrong : ChangeSpec := { name := "journalTurned", fn := fun _ => fun
  | [d1, d2, d3] => { results := [.lit (.bool false)], args := [d1, d2, d3] }
  | _ => none }
def JournalTurnedWrongFalsely : Prop := journalTurnedRow.holds Try.pinned (OpenSpec.ofChange journalTurnedWrong)

/-- 'grafterlaw14.Checks': WHATEVER THE INPUT: true; the input reads as it did. -/
def checksSpec : ChangeSpec := { name := "checks", fn := fun _ => fun
  | [d1, d2] => { results := [.lit (.bool true)], args := [d1, d2] }
  | _ => none }
def checksRow : OpenClaim := { program := "ytbhkmgidokonkaa", sum := "23922ca1927fea2a7d47851499b05b438db41ac79aae14097dfdebd569e58b5f", func := "grafter/grafterlaw14.Checks", spec := "checks", unfollowed := true, recurses := true, apart := false }
def ChecksSaid : Prop := checksRow.holds Try.pinned (OpenSpec.ofChange checksSpec)

/-- ITS FALSE NEIGHBOUR: 'it returns false'. Refute it at one input. -/
def checksWrong : ChangeSpec := { name := "checks", fn := fun _ => fun
  | [d1, d2] => { results := [.lit (.bool false)], args := [d1, d2] }
  | _ => none }
def ChecksWrongFalsely : Prop := checksRow.holds Try.pinned (OpenSpec.ofChange checksWrong)

/-- 'grafterlaw14.CheckForms': WHATEVER THE INPUT: true; the input reads as it did. -/
def checkFormsSpec : ChangeSpec := { name := "checkForms", fn := fun _ => fun
  | [d1, d2] => { results := [.lit (.bool true)], args := [d1, d2] }
  | _ => none }
def checkFormsRow : OpenClaim := { program := "ytbhkmgidokonkaa", sum := "23922ca1927fea2a7d47851499b05b438db41ac79aae14097dfdebd569e58b5f", func := "grafter/grafterlaw14.CheckForms", spec := "checkForms", unfollowed := true, recurses := true, apart := false }
def CheckFormsSaid : Prop := checkFormsRow.holds Try.pinned (OpenSpec.ofChange checkFormsSpec)

/-- ITS FALSE NEIGHBOUR: 'it returns false'. Refute it at one input. -/
def checkFormsWrong : ChangeSpec := { name := "checkForms", fn := fun _ => fun
  | [d1, d2] => { results := [.lit (.bool false)], args := [d1, d2] }
  | _ => none }
def CheckFormsWrongFalsely : Prop := checkFormsRow.holds Try.pinned (OpenSpec.ofChange checkFormsWrong)

/-- 'grafterlaw14.CheckUnlike': WHATEVER THE INPUT: true; the input reads as it did. -/
def checkUnlikeSpec : ChangeSpec := { name := "checkUnlike", fn := fun _ => fun
  | [d1, d2, d3] => { results := [.lit (.bool true)], args := [d1, d2, d3] }
  | _ => none }
def checkUnlikeRow : OpenClaim := { program := "ytbhkmgidokonkaa", sum := "23922ca1927fea2a7d47851499b05b438db41ac79aae14097dfdebd569e58b5f", func := "grafter/grafterlaw14.CheckUnlike", spec := "checkUnlike", unfollowed := true, recurses := true, apart := false }
def CheckUnlikeSaid : Prop := checkUnlikeRow.holds Try.pinned (OpenSpec.ofChange checkUnlikeSpec)

/-- ITS FALSE NEIGHBOUR: 'it returns false'. Refute it at one input. -/
def checkUnlikeWrong : ChangeSpec := { name := "checkUnlike", fn := fun _ => fun
  | [d1, d2, d3] => { results := [.lit (.bool false)], args := [d1, d2, d3] }
  | _ => none }
def CheckUnlikeWrongFalsely : Prop := checkUnlikeRow.holds Try.pinned (OpenSpec.ofChange checkUnlikeWrong)

/-- 'grafterlaw14.CheckNumbers': WHATEVER THE INPUT: true; the input reads as it did. -/
def checkNumbersSpec : ChangeSpec := { name := "checkNumbers", fn := fun _ => fun
  | [d1, d2, d3, d4] => { results := [.lit (.bool true)], args := [d1, d2, d3, d4] }
  | _ => none }
def checkNumbersRow : OpenClaim := { program := "ytbhkmgidokonkaa", sum := "23922ca1927fea2a7d47851499b05b438db41ac79aae14097dfdebd569e58b5f", func := "grafter/grafterlaw14.CheckNumbers", spec := "checkNumbers", unfollowed := true, recurses := true, apart := false }
def CheckNumbersSaid : Prop := checkNumbersRow.holds Try.pinned (OpenSpec.ofChange checkNumbersSpec)

/-- ITS FALSE NEIGHBOUR: 'it returns false'. Refute it at one input. -/
def checkNumbersWrong : ChangeSpec := { name := "checkNumbers", fn := fun _ => fun
  | [d1, d2, d3, d4] => { results := [.lit (.bool false)], args := [d1, d2, d3, d4] }
  | _ => none }
def CheckNumbersWrongFalsely : Prop := checkNumbersRow.holds Try.pinned (OpenSpec.ofChange checkNumbersWrong)

/-- 'grafterlaw14.CheckSizes': WHATEVER THE INPUT: true; the input reads as it did. -/
def checkSizesSpec : ChangeSpec := { name := "checkSizes", fn := fun _ => fun
  | [d1, d2] => { results := [.lit (.bool true)], args := [d1, d2] }
  | _ => none }
def checkSizesRow : OpenClaim := { program := "ytbhkmgidokonkaa", sum := "23922ca1927fea2a7d47851499b05b438db41ac79aae14097dfdebd569e58b5f", func := "grafter/grafterlaw14.CheckSizes", spec := "checkSizes", unfollowed := true, recurses := true, apart := false }
def CheckSizesSaid : Prop := checkSizesRow.holds Try.pinned (OpenSpec.ofChange checkSizesSpec)

/-- ITS FALSE NEIGHBOUR: 'it returns false'. Refute it at one input. -/
def checkSizesWrong : ChangeSpec := { name := "checkSizes", fn := fun _ => fun
  | [d1, d2] => { results := [.lit (.bool false)], args := [d1, d2] }
  | _ => none }
def CheckSizesWrongFalsely : Prop := checkSizesRow.holds Try.pinned (OpenSpec.ofChange checkSizesWrong)

/-- 'grafterlaw8.Optims': WHATEVER THE INPUT: true; the input reads as it did. -/
def optimsSpec : ChangeSpec := { name := "optims", fn := fun _ => fun
  | [d1, d2, d3, d4] => { results := [.lit (.bool true)], args := [d1, d2, d3, d4] }
  | _ => none }
def optimsRow : OpenClaim := { program := "ytbhkmgidokonkaa", sum := "23922ca1927fea2a7d47851499b05b438db41ac79aae14097dfdebd569e58b5f", func := "grafter/grafterlaw8.Optims", spec := "optims", unfollowed := true, recurses := true, apart := false }
def OptimsSaid : Prop := optimsRow.holds Try.pinned (OpenSpec.ofChange optimsSpec)

/-- ITS FALSE NEIGHBOUR: 'it returns false'. Refute it at one input. -/
def optimsWrong : ChangeSpec := { name := "optims", fn := fun _ => fun
  | [d1, d2, d3, d4] => { results := [.lit (.bool false)], args := [d1, d2, d3, d4] }
  | _ => none }
def OptimsWrongFalsely : Prop := optimsRow.holds Try.pinned (OpenSpec.ofChange optimsWrong)

/-- 'grafterlaw4.Vecs': WHATEVER THE INPUT: true; the input reads as it did. -/
def vecsSpec : ChangeSpec := { name := "vecs", fn := fun _ => fun
  | [d1, d2, d3] => { results := [.lit (.bool true)], args := [d1, d2, d3] }
  | _ => none }
def vecsRow : OpenClaim := { program := "ytbhkmgidokonkaa", sum := "23922ca1927fea2a7d47851499b05b438db41ac79aae14097dfdebd569e58b5f", func := "grafter/grafterlaw4.Vecs", spec := "vecs", unfollowed := true, recurses := true, apart := false }
def VecsSaid : Prop := vecsRow.holds Try.pinned (OpenSpec.ofChange vecsSpec)

/-- ITS FALSE NEIGHBOUR: 'it returns false'. Refute it at one input. -/
def vecsWrong : ChangeSpec := { name := "vecs", fn := fun _ => fun
  | [d1, d2, d3] => { results := [.lit (.bool false)], args := [d1, d2, d3] }
  | _ => none }
def VecsWrongFalsely : Prop := vecsRow.holds Try.pinned (OpenSpec.ofChange vecsWrong)

/-- 'grafterlaw2.ActShape': WHATEVER THE INPUT: true; the input reads as it did. -/
def actShapeSpec : ChangeSpec := { name := "actShape", fn := fun _ => fun
  | [d1, d2] => { results := [.lit (.bool true)], args := [d1, d2] }
  | _ => none }
def actShapeRow : OpenClaim := { program := "ytbhkmgidokonkaa", sum := "23922ca1927fea2a7d47851499b05b438db41ac79aae14097dfdebd569e58b5f", func := "grafter/grafterlaw2.ActShape", spec := "actShape", apart := false }
def ActShapeSaid : Prop := actShapeRow.holds Try.pinned (OpenSpec.ofChange actShapeSpec)

/-- ITS FALSE NEIGHBOUR: 'it returns false'. Refute it at one input. -/
def actShapeWrong : ChangeSpec := { name := "actShape", fn := fun _ => fun
  | [d1, d2] => { results := [.lit (.bool false)], args := [d1, d2] }
  | _ => none }
def ActShapeWrongFalsely : Prop := actShapeRow.holds Try.pinned (OpenSpec.ofChange actShapeWrong)

/- THE SECOND FORM. 'bulk': how many values and letters a reading holds, each counted each time it is reached (what is shared counts as often as it is met; a slice's spare places count too). A statement '..UptoSaid' is the law's where the arguments, and the package variables that the reading takes, are together of bulk at most 1048576: NARROWER than '..Said'. Prove '..Said' where nothing that the law and all that it calls make is longer than what came in: it says more and counts as full. Else prove '..UptoSaid'. A law counts once. -/
mutual
def uptoBulk {H : Type} : DataW H → Nat
  | .lit (.string bytes) => bytes.length + 1
  | .lit _ => 1
  | .nil => 1
  | .ptr d => uptoBulk d + 1
  | .slice elems spare => uptoBulkAll elems + uptoBulkAll spare + 1
  | .agg parts => uptoBulkAll parts + 1
  | .iface _ d => uptoBulk d + 1
  | .map entries => uptoBulkEntries entries + 1
  | .held _ => 1
def uptoBulkAll {H : Type} : List (DataW H) → Nat
  | [] => 0
  | d :: r => uptoBulk d + uptoBulkAll r
def uptoBulkEntries {H : Type} : List (Lit × DataW H) → Nat
  | [] => 0
  | x :: r => uptoBulkEntry x + uptoBulkEntries r
def uptoBulkEntry {H : Type} : Lit × DataW H → Nat
  | (.string bytes, d) => bytes.length + uptoBulk d + 1
  | (_, d) => uptoBulk d + 1
 end
def uptoSmall : (H : Type) → List (DataW H) → Bool := fun _ ds => decide (uptoBulkAll ds ≤ 1048576)
def OpenSpec.upto (s : _root_.Go.ChangeSpec) : _root_.Go.OpenSpec := { _root_.Go.OpenSpec.ofChange s with cond := some uptoSmall }

/-- 'grafterlaw16.Frames', WHERE WHAT IT READS IS OF BULK AT MOST 1048576: true; the input reads as it did. -/
def framesUptoRow : OpenClaim := { program := "ytbhkmgidokonkaa", sum := "23922ca1927fea2a7d47851499b05b438db41ac79aae14097dfdebd569e58b5f", func := "grafter/grafterlaw16.Frames", spec := "frames", apart := false, narrowed := true }
def FramesUptoSaid : Prop := framesUptoRow.holds Try.pinned (OpenSpec.upto framesSpec)

/-- 'grafterlaw16.FrameTurned', WHERE WHAT IT READS IS OF BULK AT MOST 1048576: true; the input reads as it did. -/
def frameTurnedUptoRow : OpenClaim := { program := "ytbhkmgidokonkaa", sum := "23922ca1927fea2a7d47851499b05b438db41ac79aae14097dfdebd569e58b5f", func := "grafter/grafterlaw16.FrameTurned", spec := "frameTurned", apart := false, narrowed := true }
def FrameTurnedUptoSaid : Prop := frameTurnedUptoRow.holds Try.pinned (OpenSpec.upto frameTurnedSpec)

/-- 'grafterlaw16.FrameForms', WHERE WHAT IT READS IS OF BULK AT MOST 1048576: true; the input reads as it did. -/
def frameFormsUptoRow : OpenClaim := { program := "ytbhkmgidokonkaa", sum := "23922ca1927fea2a7d47851499b05b438db41ac79aae14097dfdebd569e58b5f", func := "grafter/grafterlaw16.FrameForms", spec := "frameForms", apart := false, narrowed := true }
def FrameFormsUptoSaid : Prop := frameFormsUptoRow.holds Try.pinned (OpenSpec.upto frameFormsSpec)

/-- 'grafterlaw16.FrameAt', WHERE WHAT IT READS IS OF BULK AT MOST 1048576: true; the input reads as it did. -/
def frameAtUptoRow : OpenClaim := { program := "ytbhkmgidokonkaa", sum := "23922ca1927fea2a7d47851499b05b438db41ac79aae14097dfdebd569e58b5f", func := "grafter/grafterlaw16.FrameAt", spec := "frameAt", apart := false, narrowed := true }
def FrameAtUptoSaid : Prop := frameAtUptoRow.holds Try.pinned (OpenSpec.upto frameAtSpec)

/-- 'grafterlaw16.FrameUnlike', WHERE WHAT IT READS IS OF BULK AT MOST 1048576: true; the input reads as it did. -/
def frameUnlikeUptoRow : OpenClaim := { program := "ytbhkmgidokonkaa", sum := "23922ca1927fea2a7d47851499b05b438db41ac79aae14097dfdebd569e58b5f", func := "grafter/grafterlaw16.FrameUnlike", spec := "frameUnlike", apart := false, narrowed := true }
def FrameUnlikeUptoSaid : Prop := frameUnlikeUptoRow.holds Try.pinned (OpenSpec.upto frameUnlikeSpec)

/-- 'grafterlaw17.Journals', WHERE WHAT IT READS IS OF BULK AT MOST 1048576: true; the input reads as it did. -/
def journalsUptoRow : OpenClaim := { program := "ytbhkmgidokonkaa", sum := "23922ca1927fea2a7d47851499b05b438db41ac79aae14097dfdebd569e58b5f", func := "grafter/grafterlaw17.Journals", spec := "journals", inPlace := ["internal/abi.NoEscape"], apart := false, narrowed := true }
def JournalsUptoSaid : Prop := journalsUptoRow.holds Try.pinned (OpenSpec.upto journalsSpec)

/-- 'grafterlaw17.JournalCut', WHERE WHAT IT READS IS OF BULK AT MOST 1048576: true; the input reads as it did. -/
def journalCutUptoRow : OpenClaim := { program := "ytbhkmgidokonkaa", sum := "23922ca1927fea2a7d47851499b05b438db41ac79aae14097dfdebd569e58b5f", func := "grafter/grafterlaw17.JournalCut", spec := "journalCut", inPlace := ["internal/abi.NoEscape"], apart := false, narrowed := true }
def JournalCutUptoSaid : Prop := journalCutUptoRow.holds Try.pinned (OpenSpec.upto journalCutSpec)

/-- 'grafterlaw17.JournalForms', WHERE WHAT IT READS IS OF BULK AT MOST 1048576: true; the input reads as it did. -/
def journalFormsUptoRow : OpenClaim := { program := "ytbhkmgidokonkaa", sum := "23922ca1927fea2a7d47851499b05b438db41ac79aae14097dfdebd569e58b5f", func := "grafter/grafterlaw17.JournalForms", spec := "journalForms", inPlace := ["internal/abi.NoEscape"], apart := false, narrowed := true }
def JournalFormsUptoSaid : Prop := journalFormsUptoRow.holds Try.pinned (OpenSpec.upto journalFormsSpec)

/-- 'grafterlaw17.JournalBad', WHERE WHAT IT READS IS OF BULK AT MOST 1048576: true; the input reads as it did. -/
def journalBadUptoRow : OpenClaim := { program := "ytbhkmgidokonkaa", sum := "23922ca1927fea2a7d47851499b05b438db41ac79aae14097dfdebd569e58b5f", func := "grafter/grafterlaw17.JournalBad", spec := "journalBad", inPlace := ["internal/abi.NoEscape"], apart := false, narrowed := true }
def JournalBadUptoSaid : Prop := journalBadUptoRow.holds Try.pinned (OpenSpec.upto journalBadSpec)

/-- 'grafterlaw17.JournalTwo', WHERE WHAT IT READS IS OF BULK AT MOST 1048576: true; the input reads as it did. -/
def journalTwoUptoRow : OpenClaim := { program := "ytbhkmgidokonkaa", sum := "23922ca1927fea2a7d47851499b05b438db41ac79aae14097dfdebd569e58b5f", func := "grafter/grafterlaw17.JournalTwo", spec := "journalTwo", inPlace := ["internal/abi.NoEscape"], apart := false, narrowed := true }
def JournalTwoUptoSaid : Prop := journalTwoUptoRow.holds Try.pinned (OpenSpec.upto journalTwoSpec)

/-- 'grafterlaw17.JournalTurned', WHERE WHAT IT READS IS OF BULK AT MOST 1048576: true; the input reads as it did. -/
def journalTurnedUptoRow : OpenClaim := { program := "ytbhkmgidokonkaa", sum := "23922ca1927fea2a7d47851499b05b438db41ac79aae14097dfdebd569e58b5f", func := "grafter/grafterlaw17.JournalTurned", spec := "journalTurned", inPlace := ["internal/abi.NoEscape"], apart := false, narrowed := true }
def JournalTurnedUptoSaid : Prop := journalTurnedUptoRow.holds Try.pinned (OpenSpec.upto journalTurnedSpec)

/-- 'grafterlaw14.Checks', WHERE WHAT IT READS IS OF BULK AT MOST 1048576: true; the input reads as it did. -/
def checksUptoRow : OpenClaim := { program := "ytbhkmgidokonkaa", sum := "23922ca1927fea2a7d47851499b05b438db41ac79aae14097dfdebd569e58b5f", func := "grafter/grafterlaw14.Checks", spec := "checks", unfollowed := true, recurses := true, apart := false, narrowed := true }
def ChecksUptoSaid : Prop := checksUptoRow.holds Try.pinned (OpenSpec.upto checksSpec)

/-- 'grafterlaw14.CheckForms', WHERE WHAT IT READS IS OF BULK AT MOST 1048576: true; the input reads as it did. -/
def checkFormsUptoRow : OpenClaim := { program := "ytbhkmgidokonkaa", sum := "23922ca1927fea2a7d47851499b05b438db41ac79aae14097dfdebd569e58b5f", func := "grafter/grafterlaw14.CheckForms", spec := "checkForms", unfollowed := true, recurses := true, apart := false, narrowed := true }
def CheckFormsUptoSaid : Prop := checkFormsUptoRow.holds Try.pinned (OpenSpec.upto checkFormsSpec)

/-- 'grafterlaw14.CheckUnlike', WHERE WHAT IT READS IS OF BULK AT MOST 1048576: true; the input reads as it did. -/
def checkUnlikeUptoRow : OpenClaim := { program := "ytbhkmgidokonkaa", sum := "23922ca1927fea2a7d47851499b05b438db41ac79aae14097dfdebd569e58b5f", func := "grafter/grafterlaw14.CheckUnlike", spec := "checkUnlike", unfollowed := true, recurses := true, apart := false, narrowed := true }
def CheckUnlikeUptoSaid : Prop := checkUnlikeUptoRow.holds Try.pinned (OpenSpec.upto checkUnlikeSpec)

/-- 'grafterlaw14.CheckNumbers', WHERE WHAT IT READS IS OF BULK AT MOST 1048576: true; the input reads as it did. -/
def checkNumbersUptoRow : OpenClaim := { program := "ytbhkmgidokonkaa", sum := "23922ca1927fea2a7d47851499b05b438db41ac79aae14097dfdebd569e58b5f", func := "grafter/grafterlaw14.CheckNumbers", spec := "checkNumbers", unfollowed := true, recurses := true, apart := false, narrowed := true }
def CheckNumbersUptoSaid : Prop := checkNumbersUptoRow.holds Try.pinned (OpenSpec.upto checkNumbersSpec)

/-- 'grafterlaw14.CheckSizes', WHERE WHAT IT READS IS OF BULK AT MOST 1048576: true; the input reads as it did. -/
def checkSizesUptoRow : OpenClaim := { program := "ytbhkmgidokonkaa", sum := "23922ca1927fea2a7d47851499b05b438db41ac79aae14097dfdebd569e58b5f", func := "grafter/grafterlaw14.CheckSizes", spec := "checkSizes", unfollowed := true, recurses := true, apart := false, narrowed := true }
def CheckSizesUptoSaid : Prop := checkSizesUptoRow.holds Try.pinned (OpenSpec.upto checkSizesSpec)

/-- 'grafterlaw8.Optims', WHERE WHAT IT READS IS OF BULK AT MOST 1048576: true; the input reads as it did. -/
def optimsUptoRow : OpenClaim := { program := "ytbhkmgidokonkaa", sum := "23922ca1927fea2a7d47851499b05b438db41ac79aae14097dfdebd569e58b5f", func := "grafter/grafterlaw8.Optims", spec := "optims", unfollowed := true, recurses := true, apart := false, narrowed := true }
def OptimsUptoSaid : Prop := optimsUptoRow.holds Try.pinned (OpenSpec.upto optimsSpec)

/-- 'grafterlaw4.Vecs', WHERE WHAT IT READS IS OF BULK AT MOST 1048576: true; the input reads as it did. -/
def vecsUptoRow : OpenClaim := { program := "ytbhkmgidokonkaa", sum := "23922ca1927fea2a7d47851499b05b438db41ac79aae14097dfdebd569e58b5f", func := "grafter/grafterlaw4.Vecs", spec := "vecs", unfollowed := true, recurses := true, apart := false, narrowed := true }
def VecsUptoSaid : Prop := vecsUptoRow.holds Try.pinned (OpenSpec.upto vecsSpec)

/-- 'grafterlaw2.ActShape', WHERE WHAT IT READS IS OF BULK AT MOST 1048576: true; the input reads as it did. -/
def actShapeUptoRow : OpenClaim := { program := "ytbhkmgidokonkaa", sum := "23922ca1927fea2a7d47851499b05b438db41ac79aae14097dfdebd569e58b5f", func := "grafter/grafterlaw2.ActShape", spec := "actShape", apart := false, narrowed := true }
def ActShapeUptoSaid : Prop := actShapeUptoRow.holds Try.pinned (OpenSpec.upto actShapeSpec)

end Rows
end Go.Proofs.Ytbhkmgidokonkaa
