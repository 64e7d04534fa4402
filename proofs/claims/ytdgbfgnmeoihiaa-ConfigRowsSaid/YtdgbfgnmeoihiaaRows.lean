/-
  No cell of these rows narrows 'for every input' (looked for: loops, veiled, ifaces, maps, wideKeys, modest, calm, conditions, laid).
  DERIVED. THE GIVEN ROWS OF THIS SEAT. 13 by the template 'for every input the law returns true; each argument reads behind the call as it read before'; 0 by the template 'total and deterministic' (their statements: YtdgbfgnmeoihiaaTotals.lean).
  GIVEN WITH THE SEED: the statements are not yours to turn. If you find one false, say at which input.
  Laid BY PROGRAM, IN A SANDBOX (cutbox-rows.mjs): the forced cells as the released guide's own fill.sh prints them over the translation c1283beaf352863e… (all of the seat's roots in one cut). By AI agents, Wed Nov 11 2026. No macro, syntax, notation, axiom, sorry.
-/
import Derived.Test.YtdgbfgnmeoihiaaChecked
import GoSem.Claim
import GoSem.ClaimJoined
import GoSem.ClaimMapViews
import Derived.JoinedTies
import Derived.KernelRfl
namespace Go.Proofs.Ytdgbfgnmeoihiaa
/- THE CELL 'sum', in the pinned program and in every row, IS THE sha256 OF THE DUMP (.gsa) THAT YtdgbfgnmeoihiaaProg.lean LOADS. Nothing in Lean hashes anything: it is a label: what it is worth is what the hold of that sum in a sandbox is worth. -/
noncomputable def Try.pinned : Pinned := { name := "ytdgbfgnmeoihiaa", sum := "c1283beaf352863ef3c260a4db76c8fbe8c16a6d63a16c63bde14663e31eac01", checked := Try.checked }
namespace Rows
def none {H : Type} : Left H := { results := [], args := [] }

/-- 'grafterlaw19.Configs': WHATEVER THE INPUT: true; the input reads as it did. -/
def configsSpec : ChangeSpec := { name := "configs", fn := fun _ => fun
  | [d] => { results := [.lit (.bool true)], args := [d] }
  | _ => none }
def configsRow : OpenClaim := { program := "ytdgbfgnmeoihiaa", sum := "c1283beaf352863ef3c260a4db76c8fbe8c16a6d63a16c63bde14663e31eac01", func := "grafter/grafterlaw19.Configs", spec := "configs", unfollowed := true, recurses := true, apart := false }
def ConfigsSaid : Prop := configsRow.holds Try.pinned (OpenSpec.ofChange configsSpec)

/-- ITS FALSE NEIGHBOUR: 'it returns false'. Refute it at one input. -/
def configsWrong : ChangeSpec := { name := "configs", fn := fun _ => fun
  | [d] => { results := [.lit (.bool false)], args := [d] }
  | _ => none }
def ConfigsWrongFalsely : Prop := configsRow.holds Try.pinned (OpenSpec.ofChange configsWrong)

/-- 'grafterlaw19.ConfigForms': WHATEVER THE INPUT: true; the input reads as it did. -/
def configFormsSpec : ChangeSpec := { name := "configForms", fn := fun _ => fun
  | [d1, d2] => { results := [.lit (.bool true)], args := [d1, d2] }
  | _ => none }
def configFormsRow : OpenClaim := { program := "ytdgbfgnmeoihiaa", sum := "c1283beaf352863ef3c260a4db76c8fbe8c16a6d63a16c63bde14663e31eac01", func := "grafter/grafterlaw19.ConfigForms", spec := "configForms", unfollowed := true, recurses := true, apart := false }
def ConfigFormsSaid : Prop := configFormsRow.holds Try.pinned (OpenSpec.ofChange configFormsSpec)

/-- ITS FALSE NEIGHBOUR: 'it returns false'. Refute it at one input. -/
def configFormsWrong : ChangeSpec := { name := "configForms", fn := fun _ => fun
  | [d1, d2] => { results := [.lit (.bool false)], args := [d1, d2] }
  | _ => none }
def ConfigFormsWrongFalsely : Prop := configFormsRow.holds Try.pinned (OpenSpec.ofChange configFormsWrong)

/-- 'grafterlaw19.ConfigCuts': WHATEVER THE INPUT: true; the input reads as it did. -/
def configCutsSpec : ChangeSpec := { name := "configCuts", fn := fun _ => fun
  | [d1, d2] => { results := [.lit (.bool true)], args := [d1, d2] }
  | _ => none }
def configCutsRow : OpenClaim := { program := "ytdgbfgnmeoihiaa", sum := "c1283beaf352863ef3c260a4db76c8fbe8c16a6d63a16c63bde14663e31eac01", func := "grafter/grafterlaw19.ConfigCuts", spec := "configCuts", unfollowed := true, recurses := true, apart := false }
def ConfigCutsSaid : Prop := configCutsRow.holds Try.pinned (OpenSpec.ofChange configCutsSpec)

/-- ITS FALSE NEIGHBOUR: 'it returns false'. Refute it at one input. -/
def configCutsWrong : ChangeSpec := { name := "configCuts", fn := fun _ => fun
  | [d1, d2] => { results := [.lit (.bool false)], args := [d1, d2] }
  | _ => none }
def ConfigCutsWrongFalsely : Prop := configCutsRow.holds Try.pinned (OpenSpec.ofChange configCutsWrong)

/-- 'grafterlaw19.ConfigRows': WHATEVER THE INPUT: true; the input reads as it did. -/
def configRowsSpec : ChangeSpec := { name := "configRows", fn := fun _ => fun
  | [d1, d2, d3, d4] => { results := [.lit (.bool true)], args := [d1, d2, d3, d4] }
  | _ => none }
def configRowsRow : OpenClaim := { program := "ytdgbfgnmeoihiaa", sum := "c1283beaf352863ef3c260a4db76c8fbe8c16a6d63a16c63bde14663e31eac01", func := "grafter/grafterlaw19.ConfigRows", spec := "configRows", unfollowed := true, recurses := true, apart := false }
def ConfigRowsSaid : Prop := configRowsRow.holds Try.pinned (OpenSpec.ofChange configRowsSpec)

/-- ITS FALSE NEIGHBOUR: 'it returns false'. Refute it at one input. -/
def configRowsWrong : ChangeSpec := { name := "configRows", fn := fun _ => fun
  | [d1, d2, d3, d4] => { results := [.lit (.bool false)], args := [d1, d2, d3, d4] }
  | _ => none }
def ConfigRowsWrongFalsely : Prop := configRowsRow.holds Try.pinned (OpenSpec.ofChange configRowsWrong)

/-- 'grafterlaw10.Losses': WHATEVER THE INPUT: true; the input reads as it did. -/
def lossesSpec : ChangeSpec := { name := "losses", fn := fun _ => fun
  | [d1, d2, d3] => { results := [.lit (.bool true)], args := [d1, d2, d3] }
  | _ => none }
def lossesRow : OpenClaim := { program := "ytdgbfgnmeoihiaa", sum := "c1283beaf352863ef3c260a4db76c8fbe8c16a6d63a16c63bde14663e31eac01", func := "grafter/grafterlaw10.Losses", spec := "losses", unfollowed := true, recurses := true, apart := false }
def LossesSaid : Prop := lossesRow.holds Try.pinned (OpenSpec.ofChange lossesSpec)

/-- ITS FALSE NEIGHBOUR: 'it returns false'. Refute it at one input. -/
def lossesWrong : ChangeSpec := { name := "losses", fn := fun _ => fun
  | [d1, d2, d3] => { results := [.lit (.bool false)], args := [d1, d2, d3] }
  | _ => none }
def LossesWrongFalsely : Prop := lossesRow.holds Try.pinned (OpenSpec.ofChange lossesWrong)

/-- 'grafterlaw10.LossForms': WHATEVER THE INPUT: true; the input reads as it did. -/
def lossFormsSpec : ChangeSpec := { name := "lossForms", fn := fun _ => fun
  | [d1, d2] => { results := [.lit (.bool true)], args := [d1, d2] }
  | _ => none }
def lossFormsRow : OpenClaim := { program := "ytdgbfgnmeoihiaa", sum := "c1283beaf352863ef3c260a4db76c8fbe8c16a6d63a16c63bde14663e31eac01", func := "grafter/grafterlaw10.LossForms", spec := "lossForms", unfollowed := true, recurses := true, apart := false }
def LossFormsSaid : Prop := lossFormsRow.holds Try.pinned (OpenSpec.ofChange lossFormsSpec)

/-- ITS FALSE NEIGHBOUR: 'it returns false'. Refute it at one input. -/
def lossFormsWrong : ChangeSpec := { name := "lossForms", fn := fun _ => fun
  | [d1, d2] => { results := [.lit (.bool false)], args := [d1, d2] }
  | _ => none }
def LossFormsWrongFalsely : Prop := lossFormsRow.holds Try.pinned (OpenSpec.ofChange lossFormsWrong)

/-- 'grafterlaw10.LossRight': WHATEVER THE INPUT: true; the input reads as it did. -/
def lossRightSpec : ChangeSpec := { name := "lossRight", fn := fun _ => fun
  | [d1, d2, d3] => { results := [.lit (.bool true)], args := [d1, d2, d3] }
  | _ => none }
def lossRightRow : OpenClaim := { program := "ytdgbfgnmeoihiaa", sum := "c1283beaf352863ef3c260a4db76c8fbe8c16a6d63a16c63bde14663e31eac01", func := "grafter/grafterlaw10.LossRight", spec := "lossRight", unfollowed := true, recurses := true, apart := false }
def LossRightSaid : Prop := lossRightRow.holds Try.pinned (OpenSpec.ofChange lossRightSpec)

/-- ITS FALSE NEIGHBOUR: 'it returns false'. Refute it at one input. -/
def lossRightWrong : ChangeSpec := { name := "lossRight", fn := fun _ => fun
  | [d1, d2, d3] => { results := [.lit (.bool false)], args := [d1, d2, d3] }
  | _ => none }
def LossRightWrongFalsely : Prop := lossRightRow.holds Try.pinned (OpenSpec.ofChange lossRightWrong)

/-- 'grafterlaw10.LossRow': WHATEVER THE INPUT: true; the input reads as it did. -/
def lossRowSpec : ChangeSpec := { name := "lossRow", fn := fun _ => fun
  | [d1, d2, d3, d4] => { results := [.lit (.bool true)], args := [d1, d2, d3, d4] }
  | _ => none }
def lossRowRow : OpenClaim := { program := "ytdgbfgnmeoihiaa", sum := "c1283beaf352863ef3c260a4db76c8fbe8c16a6d63a16c63bde14663e31eac01", func := "grafter/grafterlaw10.LossRow", spec := "lossRow", unfollowed := true, recurses := true, apart := false }
def LossRowSaid : Prop := lossRowRow.holds Try.pinned (OpenSpec.ofChange lossRowSpec)

/-- ITS FALSE NEIGHBOUR: 'it returns false'. Refute it at one input. -/
def lossRowWrong : ChangeSpec := { name := "lossRow", fn := fun _ => fun
  | [d1, d2, d3, d4] => { results := [.lit (.bool false)], args := [d1, d2, d3, d4] }
  | _ => none }
def LossRowWrongFalsely : Prop := lossRowRow.holds Try.pinned (OpenSpec.ofChange lossRowWrong)

/-- 'grafterlaw6.Forwards': WHATEVER THE INPUT: true; the input reads as it did. -/
def forwardsSpec : ChangeSpec := { name := "forwards", fn := fun _ => fun
  | [d1, d2, d3] => { results := [.lit (.bool true)], args := [d1, d2, d3] }
  | _ => none }
def forwardsRow : OpenClaim := { program := "ytdgbfgnmeoihiaa", sum := "c1283beaf352863ef3c260a4db76c8fbe8c16a6d63a16c63bde14663e31eac01", func := "grafter/grafterlaw6.Forwards", spec := "forwards", unfollowed := true, recurses := true, apart := false }
def ForwardsSaid : Prop := forwardsRow.holds Try.pinned (OpenSpec.ofChange forwardsSpec)

/-- ITS FALSE NEIGHBOUR: 'it returns false'. Refute it at one input. -/
def forwardsWrong : ChangeSpec := { name := "forwards", fn := fun _ => fun
  | [d1, d2, d3] => { results := [.lit (.bool false)], args := [d1, d2, d3] }
  | _ => none }
def ForwardsWrongFalsely : Prop := forwardsRow.holds Try.pinned (OpenSpec.ofChange forwardsWrong)

/-- 'grafterlaw6.ForwardForms': WHATEVER THE INPUT: true; the input reads as it did. -/
def forwardFormsSpec : ChangeSpec := { name := "forwardForms", fn := fun _ => fun
  | [d1, d2] => { results := [.lit (.bool true)], args := [d1, d2] }
  | _ => none }
def forwardFormsRow : OpenClaim := { program := "ytdgbfgnmeoihiaa", sum := "c1283beaf352863ef3c260a4db76c8fbe8c16a6d63a16c63bde14663e31eac01", func := "grafter/grafterlaw6.ForwardForms", spec := "forwardForms", unfollowed := true, recurses := true, apart := false }
def ForwardFormsSaid : Prop := forwardFormsRow.holds Try.pinned (OpenSpec.ofChange forwardFormsSpec)

/-- ITS FALSE NEIGHBOUR: 'it returns false'. Refute it at one input. -/
def forwardFormsWrong : ChangeSpec := { name := "forwardForms", fn := fun _ => fun
  | [d1, d2] => { results := [.lit (.bool false)], args := [d1, d2] }
  | _ => none }
def ForwardFormsWrongFalsely : Prop := forwardFormsRow.holds Try.pinned (OpenSpec.ofChange forwardFormsWrong)

/-- 'grafterlaw6.ForwardZero': WHATEVER THE INPUT: true; the input reads as it did. -/
def forwardZeroSpec : ChangeSpec := { name := "forwardZero", fn := fun _ => fun
  | [d1, d2, d3] => { results := [.lit (.bool true)], args := [d1, d2, d3] }
  | _ => none }
def forwardZeroRow : OpenClaim := { program := "ytdgbfgnmeoihiaa", sum := "c1283beaf352863ef3c260a4db76c8fbe8c16a6d63a16c63bde14663e31eac01", func := "grafter/grafterlaw6.ForwardZero", spec := "forwardZero", unfollowed := true, recurses := true, apart := false }
def ForwardZeroSaid : Prop := forwardZeroRow.holds Try.pinned (OpenSpec.ofChange forwardZeroSpec)

/-- ITS FALSE NEIGHBOUR: 'it returns false'. Refute it at one input. -/
def forwardZeroWrong : ChangeSpec := { name := "forwardZero", fn := fun _ => fun
  | [d1, d2, d3] => { results := [.lit (.bool false)], args := [d1, d2, d3] }
  | _ => none }
def ForwardZeroWrongFalsely : Prop := forwardZeroRow.holds Try.pinned (OpenSpec.ofChange forwardZeroWrong)

/-- 'grafterlaw6.ForwardParts': WHATEVER THE INPUT: true; the input reads as it did. -/
def forwardPartsSpec : ChangeSpec := { name := "forwardParts", fn := fun _ => fun
  | [d1, d2, d3] => { results := [.lit (.bool true)], args := [d1, d2, d3] }
  | _ => none }
def forwardPartsRow : OpenClaim := { program := "ytdgbfgnmeoihiaa", sum := "c1283beaf352863ef3c260a4db76c8fbe8c16a6d63a16c63bde14663e31eac01", func := "grafter/grafterlaw6.ForwardParts", spec := "forwardParts", unfollowed := true, recurses := true, apart := false }
def ForwardPartsSaid : Prop := forwardPartsRow.holds Try.pinned (OpenSpec.ofChange forwardPartsSpec)

/-- ITS FALSE NEIGHBOUR: 'it returns false'. Refute it at one input. -/
def forwardPartsWrong : ChangeSpec := { name := "forwardParts", fn := fun _ => fun
  | [d1, d2, d3] => { results := [.lit (.bool false)], args := [d1, d2, d3] }
  | _ => none }
def ForwardPartsWrongFalsely : Prop := forwardPartsRow.holds Try.pinned (OpenSpec.ofChange forwardPartsWrong)

/-- 'grafterlaw6.ForwardBias': WHATEVER THE INPUT: true; the input reads as it did. -/
def forwardBiasSpec : ChangeSpec := { name := "forwardBias", fn := fun _ => fun
  | [d1, d2, d3, d4] => { results := [.lit (.bool true)], args := [d1, d2, d3, d4] }
  | _ => none }
def forwardBiasRow : OpenClaim := { program := "ytdgbfgnmeoihiaa", sum := "c1283beaf352863ef3c260a4db76c8fbe8c16a6d63a16c63bde14663e31eac01", func := "grafter/grafterlaw6.ForwardBias", spec := "forwardBias", unfollowed := true, recurses := true, apart := false }
def ForwardBiasSaid : Prop := forwardBiasRow.holds Try.pinned (OpenSpec.ofChange forwardBiasSpec)

/-- ITS FALSE NEIGHBOUR: 'it returns false'. Refute it at one input. -/
def forwardBiasWrong : ChangeSpec := { name := "forwardBias", fn := fun _ => fun
  | [d1, d2, d3, d4] => { results := [.lit (.bool false)], args := [d1, d2, d3, d4] }
  | _ => none }
def ForwardBiasWrongFalsely : Prop := forwardBiasRow.holds Try.pinned (OpenSpec.ofChange forwardBiasWrong)

/- THE SECOND FORM. 'bulk': how many values and letters a reading holds, each counted each time it is reached (what is shared counts as often as it is met; a slice's spare places count too). A statement '..UptoSaid' is the law's where the arguments, and the package variables that the reading takes, are together of bulk at most 1048576: NARROWER than '..Said'. Prove '..Said' where nothing that the law and all that it calls make is longer than what came in: it says more and counts as full. Else prove '..UptoSaid'. A law counts once. -/
mutual
def uptoBulk {H : Type} : DataW H → Nat
  | .lit (.string bytes) => bytes.length + 1
  | .lit _ => 1
  | .nil => 1
  | .ptr d => uptoBulk d + 1
  | .slice elems spare => uptoBulkAll elems + uptoBulkAll spare + 1
  | .agg parts => uptoBulkAll parts + 1
  | .iface _ d => uptoBulk d + 1
  | .map entries => uptoBulkEntries entries + 1
  | .held _ => 1
def uptoBulkAll {H : Type} : List (DataW H) → Nat
  | [] => 0
  | d :: r => uptoBulk d + uptoBulkAll r
def uptoBulkEntries {H : Type} : List (Lit × DataW H) → Nat
  | [] => 0
  | x :: r => uptoBulkEntry x + uptoBulkEntries r
def uptoBulkEntry {H : Type} : Lit × DataW H → Nat
  | (.string bytes, d) => bytes.length + uptoBulk d + 1
  | (_, d) => uptoBulk d + 1
 end
def uptoSmall : (H : Type) → List (DataW H) → Bool := fun _ ds => decide (uptoBulkAll ds ≤ 1048576)
def OpenSpec.upto (s : _root_.Go.ChangeSpec) : _root_.Go.OpenSpec := { _root_.Go.OpenSpec.ofChange s with cond := some uptoSmall }

/-- 'grafterlaw19.Configs', WHERE WHAT IT READS IS OF BULK AT MOST 1048576: true; the input reads as it did. -/
def configsUptoRow : OpenClaim := { program := "ytdgbfgnmeoihiaa", sum := "c1283beaf352863ef3c260a4db76c8fbe8c16a6d63a16c63bde14663e31eac01", func := "grafter/grafterlaw19.Configs", spec := "configs", unfollowed := true, recurses := true, apart := false, narrowed := true }
def ConfigsUptoSaid : Prop := configsUptoRow.holds Try.pinned (OpenSpec.upto configsSpec)

/-- 'grafterlaw19.ConfigForms', WHERE WHAT IT READS IS OF BULK AT MOST 1048576: true; the input reads as it did. -/
def configFormsUptoRow : OpenClaim := { program := "ytdgbfgnmeoihiaa", sum := "c1283beaf352863ef3c260a4db76c8fbe8c16a6d63a16c63bde14663e31eac01", func := "grafter/grafterlaw19.ConfigForms", spec := "configForms", unfollowed := true, recurses := true, apart := false, narrowed := true }
def ConfigFormsUptoSaid : Prop := configFormsUptoRow.holds Try.pinned (OpenSpec.upto configFormsSpec)

/-- 'grafterlaw19.ConfigCuts', WHERE WHAT IT READS IS OF BULK AT MOST 1048576: true; the input reads as it did. -/
def configCutsUptoRow : OpenClaim := { program := "ytdgbfgnmeoihiaa", sum := "c1283beaf352863ef3c260a4db76c8fbe8c16a6d63a16c63bde14663e31eac01", func := "grafter/grafterlaw19.ConfigCuts", spec := "configCuts", unfollowed := true, recurses := true, apart := false, narrowed := true }
def ConfigCutsUptoSaid : Prop := configCutsUptoRow.holds Try.pinned (OpenSpec.upto configCutsSpec)

/-- 'grafterlaw19.ConfigRows', WHERE WHAT IT READS IS OF BULK AT MOST 1048576: true; the input reads as it did. -/
def configRowsUptoRow : OpenClaim := { program := "ytdgbfgnmeoihiaa", sum := "c1283beaf352863ef3c260a4db76c8fbe8c16a6d63a16c63bde14663e31eac01", func := "grafter/grafterlaw19.ConfigRows", spec := "configRows", unfollowed := true, recurses := true, apart := false, narrowed := true }
def ConfigRowsUptoSaid : Prop := configRowsUptoRow.holds Try.pinned (OpenSpec.upto configRowsSpec)

/-- 'grafterlaw10.Losses', WHERE WHAT IT READS IS OF BULK AT MOST 1048576: true; the input reads as it did. -/
def lossesUptoRow : OpenClaim := { program := "ytdgbfgnmeoihiaa", sum := "c1283beaf352863ef3c260a4db76c8fbe8c16a6d63a16c63bde14663e31eac01", func := "grafter/grafterlaw10.Losses", spec := "losses", unfollowed := true, recurses := true, apart := false, narrowed := true }
def LossesUptoSaid : Prop := lossesUptoRow.holds Try.pinned (OpenSpec.upto lossesSpec)

/-- 'grafterlaw10.LossForms', WHERE WHAT IT READS IS OF BULK AT MOST 1048576: true; the input reads as it did. -/
def lossFormsUptoRow : OpenClaim := { program := "ytdgbfgnmeoihiaa", sum := "c1283beaf352863ef3c260a4db76c8fbe8c16a6d63a16c63bde14663e31eac01", func := "grafter/grafterlaw10.LossForms", spec := "lossForms", unfollowed := true, recurses := true, apart := false, narrowed := true }
def LossFormsUptoSaid : Prop := lossFormsUptoRow.holds Try.pinned (OpenSpec.upto lossFormsSpec)

/-- 'grafterlaw10.LossRight', WHERE WHAT IT READS IS OF BULK AT MOST 1048576: true; the input reads as it did. -/
def lossRightUptoRow : OpenClaim := { program := "ytdgbfgnmeoihiaa", sum := "c1283beaf352863ef3c260a4db76c8fbe8c16a6d63a16c63bde14663e31eac01", func := "grafter/grafterlaw10.LossRight", spec := "lossRight", unfollowed := true, recurses := true, apart := false, narrowed := true }
def LossRightUptoSaid : Prop := lossRightUptoRow.holds Try.pinned (OpenSpec.upto lossRightSpec)

/-- 'grafterlaw10.LossRow', WHERE WHAT IT READS IS OF BULK AT MOST 1048576: true; the input reads as it did. -/
def lossRowUptoRow : OpenClaim := { program := "ytdgbfgnmeoihiaa", sum := "c1283beaf352863ef3c260a4db76c8fbe8c16a6d63a16c63bde14663e31eac01", func := "grafter/grafterlaw10.LossRow", spec := "lossRow", unfollowed := true, recurses := true, apart := false, narrowed := true }
def LossRowUptoSaid : Prop := lossRowUptoRow.holds Try.pinned (OpenSpec.upto lossRowSpec)

/-- 'grafterlaw6.Forwards', WHERE WHAT IT READS IS OF BULK AT MOST 1048576: true; the input reads as it did. -/
def forwardsUptoRow : OpenClaim := { program := "ytdgbfgnmeoihiaa", sum := "c1283beaf352863ef3c260a4db76c8fbe8c16a6d63a16c63bde14663e31eac01", func := "grafter/grafterlaw6.Forwards", spec := "forwards", unfollowed := true, recurses := true, apart := false, narrowed := true }
def ForwardsUptoSaid : Prop := forwardsUptoRow.holds Try.pinned (OpenSpec.upto forwardsSpec)

/-- 'grafterlaw6.ForwardForms', WHERE WHAT IT READS IS OF BULK AT MOST 1048576: true; the input reads as it did. -/
def forwardFormsUptoRow : OpenClaim := { program := "ytdgbfgnmeoihiaa", sum := "c1283beaf352863ef3c260a4db76c8fbe8c16a6d63a16c63bde14663e31eac01", func := "grafter/grafterlaw6.ForwardForms", spec := "forwardForms", unfollowed := true, recurses := true, apart := false, narrowed := true }
def ForwardFormsUptoSaid : Prop := forwardFormsUptoRow.holds Try.pinned (OpenSpec.upto forwardFormsSpec)

/-- 'grafterlaw6.ForwardZero', WHERE WHAT IT READS IS OF BULK AT MOST 1048576: true; the input reads as it did. -/
def forwardZeroUptoRow : OpenClaim := { program := "ytdgbfgnmeoihiaa", sum := "c1283beaf352863ef3c260a4db76c8fbe8c16a6d63a16c63bde14663e31eac01", func := "grafter/grafterlaw6.ForwardZero", spec := "forwardZero", unfollowed := true, recurses := true, apart := false, narrowed := true }
def ForwardZeroUptoSaid : Prop := forwardZeroUptoRow.holds Try.pinned (OpenSpec.upto forwardZeroSpec)

/-- 'grafterlaw6.ForwardParts', WHERE WHAT IT READS IS OF BULK AT MOST 1048576: true; the input reads as it did. -/
def forwardPartsUptoRow : OpenClaim := { program := "ytdgbfgnmeoihiaa", sum := "c1283beaf352863ef3c260a4db76c8fbe8c16a6d63a16c63bde14663e31eac01", func := "grafter/grafterlaw6.ForwardParts", spec := "forwardParts", unfollowed := true, recurses := true, apart := false, narrowed := true }
def ForwardPartsUptoSaid : Prop := forwardPartsUptoRow.holds Try.pinned (OpenSpec.upto forwardPartsSpec)

/-- 'grafterlaw6.ForwardBias', WHERE WHAT IT READS IS OF BULK AT MOST 1048576: true; the input reads as it did. -/
def forwardBiasUptoRow : OpenClaim := { program := "ytdgbfgnmeoihiaa", sum := "c1283beaf352863ef3c260a4db76c8fbe8c16a6d63a16c63bde14663e31eac01", func := "grafter/grafterlaw6.ForwardBias", spec := "forwardBias", unfollowed := true, recurses := true, apart := false, narrowed := true }
def ForwardBiasUptoSaid : Prop := forwardBiasUptoRow.holds Try.pinned (OpenSpec.upto forwardBiasSpec)

end Rows
end Go.Proofs.Ytdgbfgnmeoihiaa
