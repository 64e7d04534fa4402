-- Written by a program of this session (pprint.py) out of the translation, with hand-proved walks pasted in.
import Derived.Test.YtmkpngdpikadhaaProg
import Derived.Below
import Derived.Deep.Draws
import Derived.Deep.AppendLies
import Derived.Maps.AppendAt
import Derived.OwnWalk
import Derived.Laws.BytesArg
import Derived.Laws.MakeOwn
import Derived.Laws.OwnMore
import Derived.Deep.OwnRows
import Derived.Tactics
import Derived.Lib.ConvBytes
import Derived.Laws.Slices
import Derived.WalkKit
import Derived.KernelRfl
import Derived.RowKit3
import Derived.Deep.LoopGhost
import Derived.Deep.QuietTactic
import Derived.BigQuiet
import Derived.WideLaws
import Derived.Deep.DeepCutAuto
import Derived.Deep.CutBlock
import Derived.Deep.RegionHeld3
import Derived.Laws.Rows
import Derived.Lib.AppendStr
import Derived.ArgAppend
import Derived.Laws.IdiomCopy
import Derived.OrdersHeld
import Derived.Laws.BitsLemmas
import Derived.RowKit
import Derived.ScopeJumps
import Derived.WalkMore
import Derived.Lib.Hide
import Derived.Test.YtmkpngdpikadhaaWWords
import Derived.Test.YtmkpngdpikadhaaWLast
import Derived.Test.YtmkpngdpikadhaaWTab
import Derived.Test.YtmkpngdpikadhaaWFour
import Derived.Test.YtmkpngdpikadhaaWQPut
import Derived.Test.YtmkpngdpikadhaaWApart
import Derived.Test.YtmkpngdpikadhaaWArr
import Derived.Test.YtmkpngdpikadhaaWZeros
import Derived.Test.YtmkpngdpikadhaaWFoot
import Derived.Test.YtmkpngdpikadhaaWKept
import Derived.Test.YtmkpngdpikadhaaWShare
import Derived.Test.YtmkpngdpikadhaaWN
import Derived.Test.YtmkpngdpikadhaaWFootNe
import Derived.Test.YtmkpngdpikadhaaWAt
import Derived.Test.YtmkpngdpikadhaaWEqStruct
import Derived.Test.YtmkpngdpikadhaaWRepsOne
import Derived.Test.YtmkpngdpikadhaaWInv
import Derived.Test.YtmkpngdpikadhaaWInvWords
import Derived.Test.YtmkpngdpikadhaaWGuard
import Derived.Test.YtmkpngdpikadhaaWNEv
import Derived.Test.YtmkpngdpikadhaaWMore
namespace Go.Proofs.Ytmkpngdpikadhaa.PHyperFirst
open Go.RowKit Go.Proofs.YtmkpngdpikadhaaW.PrintWords Go.Proofs.YtmkpngdpikadhaaW.PrintLast Go.Proofs.YtmkpngdpikadhaaW.PrintMore
attribute [local go_sem] max2_int min2_int max_two min_two max_three min_three max_four min_four   -- for this text's walks alone
set_option linter.unusedVariables false
set_option linter.unusedSimpArgs false



def errW : Option Int → Value
  | none => .nilIface
  | some c => .iface 0 (.int .i64 c)
theorem errW_none : errW none = .nilIface := rfl
theorem errW_some (c : Int) : errW (some c) = .iface 0 (.int .i64 c) := rfl

-- the values' own types

end Go.Proofs.Ytmkpngdpikadhaa.PHyperFirst
