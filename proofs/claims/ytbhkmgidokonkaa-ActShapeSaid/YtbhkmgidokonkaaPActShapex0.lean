-- Written by a program of this session (pprint.py) out of the translation, with hand-proved walks pasted in.
import Derived.Test.YtbhkmgidokonkaaProg
import Derived.Below
import Derived.Deep.Draws
import Derived.Deep.AppendLies
import Derived.Maps.AppendAt
import Derived.OwnWalk
import Derived.Laws.BytesArg
import Derived.Laws.MakeOwn
import Derived.Laws.OwnMore
import Derived.Deep.OwnRows
import Derived.Tactics
import Derived.Lib.ConvBytes
import Derived.Laws.Slices
import Derived.WalkKit
import Derived.KernelRfl
import Derived.RowKit3
import Derived.Deep.LoopGhost
import Derived.Deep.QuietTactic
import Derived.BigQuiet
import Derived.WideLaws
import Derived.Deep.DeepCutAuto
import Derived.Deep.CutBlock
import Derived.Deep.RegionHeld3
import Derived.Laws.Rows
import Derived.Lib.AppendStr
import Derived.ArgAppend
import Derived.Laws.IdiomCopy
import Derived.OrdersHeld
import Derived.Laws.BitsLemmas
import Derived.RowKit
import Derived.ScopeJumps
import Derived.WalkMore
import Derived.Lib.Hide
import Derived.Lib.ConvBytes
import Derived.Lib.SliceRun
import Derived.Test.YtbhkmgidokonkaaHelpFn
import Derived.Test.YtbhkmgidokonkaaWWords
import Derived.Test.YtbhkmgidokonkaaWLast
import Derived.Test.YtbhkmgidokonkaaWTab
import Derived.Test.YtbhkmgidokonkaaWFour
import Derived.Test.YtbhkmgidokonkaaWQPut
import Derived.Test.YtbhkmgidokonkaaWApart
import Derived.Test.YtbhkmgidokonkaaWArr
import Derived.Test.YtbhkmgidokonkaaWZeros
import Derived.Test.YtbhkmgidokonkaaWFoot
import Derived.Test.YtbhkmgidokonkaaWKept
import Derived.Test.YtbhkmgidokonkaaWShare
import Derived.Test.YtbhkmgidokonkaaWN
import Derived.Test.YtbhkmgidokonkaaWFootNe
import Derived.Test.YtbhkmgidokonkaaWAt
import Derived.Test.YtbhkmgidokonkaaWEqStruct
import Derived.Test.YtbhkmgidokonkaaWRepsOne
import Derived.Test.YtbhkmgidokonkaaWInv
import Derived.Test.YtbhkmgidokonkaaWInvWords
import Derived.Test.YtbhkmgidokonkaaWGuard
import Derived.Test.YtbhkmgidokonkaaWNEv
import Derived.Test.YtbhkmgidokonkaaWMore
namespace Go.Proofs.Ytbhkmgidokonkaa.PActShape
open Go.RowKit Go.Proofs.YtbhkmgidokonkaaW.PrintWords Go.Proofs.YtbhkmgidokonkaaW.PrintLast Go.Proofs.YtbhkmgidokonkaaW.PrintMore
attribute [local go_sem] max2_int min2_int max_two min_two max_three min_three max_four min_four   -- for this text's walks alone
set_option linter.unusedVariables false
set_option linter.unusedSimpArgs false



def errW : Option Int → Value
  | none => .nilIface
  | some c => .iface 0 (.int .i64 c)
theorem errW_none : errW none = .nilIface := rfl
theorem errW_some (c : Int) : errW (some c) = .iface 0 (.int .i64 c) := rfl

-- the values' own types

end Go.Proofs.Ytbhkmgidokonkaa.PActShape
