-- Written by a program of this session (pprint.py) out of the translation, with hand-proved walks pasted in.
import Derived.Test.YtagfhnhakefnpaaProg
import Derived.Below
import Derived.Deep.Draws
import Derived.Deep.AppendLies
import Derived.Maps.AppendAt
import Derived.OwnWalk
import Derived.Laws.BytesArg
import Derived.Laws.MakeOwn
import Derived.Laws.OwnMore
import Derived.Deep.OwnRows
import Derived.Tactics
import Derived.Lib.ConvBytes
import Derived.Laws.Slices
import Derived.WalkKit
import Derived.KernelRfl
import Derived.RowKit3
import Derived.Deep.LoopGhost
import Derived.Deep.QuietTactic
import Derived.BigQuiet
import Derived.WideLaws
import Derived.Deep.DeepCutAuto
import Derived.Deep.CutBlock
import Derived.Deep.RegionHeld3
import Derived.Laws.Rows
import Derived.Lib.AppendStr
import Derived.ArgAppend
import Derived.Laws.IdiomCopy
import Derived.OrdersHeld
import Derived.Laws.BitsLemmas
import Derived.RowKit
import Derived.ScopeJumps
import Derived.WalkMore
import Derived.Lib.Hide
import Derived.Test.YtagfhnhakefnpaaWWords
import Derived.Test.YtagfhnhakefnpaaWLast
import Derived.Test.YtagfhnhakefnpaaWTab
import Derived.Test.YtagfhnhakefnpaaWFour
import Derived.Test.YtagfhnhakefnpaaWQPut
import Derived.Test.YtagfhnhakefnpaaWApart
import Derived.Test.YtagfhnhakefnpaaWArr
import Derived.Test.YtagfhnhakefnpaaWZeros
import Derived.Test.YtagfhnhakefnpaaWFoot
import Derived.Test.YtagfhnhakefnpaaWKept
import Derived.Test.YtagfhnhakefnpaaWShare
import Derived.Test.YtagfhnhakefnpaaWN
import Derived.Test.YtagfhnhakefnpaaWFootNe
import Derived.Test.YtagfhnhakefnpaaWAt
import Derived.Test.YtagfhnhakefnpaaWEqStruct
import Derived.Test.YtagfhnhakefnpaaWRepsOne
import Derived.Test.YtagfhnhakefnpaaWInv
import Derived.Test.YtagfhnhakefnpaaWInvWords
import Derived.Test.YtagfhnhakefnpaaWGuard
import Derived.Test.YtagfhnhakefnpaaWNEv
import Derived.Test.YtagfhnhakefnpaaWMore
namespace Go.Proofs.Ytagfhnhakefnpaa.PDrawPairs
open Go.RowKit Go.Proofs.YtagfhnhakefnpaaW.PrintWords Go.Proofs.YtagfhnhakefnpaaW.PrintLast Go.Proofs.YtagfhnhakefnpaaW.PrintMore
attribute [local go_sem] max2_int min2_int max_two min_two max_three min_three max_four min_four   -- for this text's walks alone
set_option linter.unusedVariables false
set_option linter.unusedSimpArgs false



def errW : Option Int → Value
  | none => .nilIface
  | some c => .iface 0 (.int .i64 c)
theorem errW_none : errW none = .nilIface := rfl
theorem errW_some (c : Int) : errW (some c) = .iface 0 (.int .i64 c) := rfl

-- the values' own types

end Go.Proofs.Ytagfhnhakefnpaa.PDrawPairs
