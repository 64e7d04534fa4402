-- Written by a program of this session (pprint.py) out of the translation, with hand-proved walks pasted in.
import Derived.Test.YtdgbfgnmeoihiaaProg
import Derived.Below
import Derived.Deep.Draws
import Derived.Deep.AppendLies
import Derived.Maps.AppendAt
import Derived.OwnWalk
import Derived.Laws.BytesArg
import Derived.Laws.MakeOwn
import Derived.Laws.OwnMore
import Derived.Deep.OwnRows
import Derived.Tactics
import Derived.Lib.ConvBytes
import Derived.Laws.Slices
import Derived.WalkKit
import Derived.KernelRfl
import Derived.RowKit3
import Derived.Deep.LoopGhost
import Derived.Deep.QuietTactic
import Derived.BigQuiet
import Derived.WideLaws
import Derived.Deep.DeepCutAuto
import Derived.Deep.CutBlock
import Derived.Deep.RegionHeld3
import Derived.Laws.Rows
import Derived.Lib.AppendStr
import Derived.ArgAppend
import Derived.Laws.IdiomCopy
import Derived.OrdersHeld
import Derived.Laws.BitsLemmas
import Derived.RowKit
import Derived.ScopeJumps
import Derived.WalkMore
import Derived.Lib.Hide
import Derived.Lib.ConvBytes
import Derived.Lib.SliceRun
import Derived.Test.YtdgbfgnmeoihiaaHelpFn
import Derived.Test.YtdgbfgnmeoihiaaWWords
import Derived.Test.YtdgbfgnmeoihiaaWLast
import Derived.Test.YtdgbfgnmeoihiaaWTab
import Derived.Test.YtdgbfgnmeoihiaaWFour
import Derived.Test.YtdgbfgnmeoihiaaWQPut
import Derived.Test.YtdgbfgnmeoihiaaWApart
import Derived.Test.YtdgbfgnmeoihiaaWArr
import Derived.Test.YtdgbfgnmeoihiaaWZeros
import Derived.Test.YtdgbfgnmeoihiaaWFoot
import Derived.Test.YtdgbfgnmeoihiaaWKept
import Derived.Test.YtdgbfgnmeoihiaaWShare
import Derived.Test.YtdgbfgnmeoihiaaWN
import Derived.Test.YtdgbfgnmeoihiaaWFootNe
import Derived.Test.YtdgbfgnmeoihiaaWAt
import Derived.Test.YtdgbfgnmeoihiaaWEqStruct
import Derived.Test.YtdgbfgnmeoihiaaWRepsOne
import Derived.Test.YtdgbfgnmeoihiaaWInv
import Derived.Test.YtdgbfgnmeoihiaaWInvWords
import Derived.Test.YtdgbfgnmeoihiaaWGuard
import Derived.Test.YtdgbfgnmeoihiaaWNEv
import Derived.Test.YtdgbfgnmeoihiaaWMore
namespace Go.Proofs.Ytdgbfgnmeoihiaa.PForwardZero
open Go.RowKit Go.Proofs.YtdgbfgnmeoihiaaW.PrintWords Go.Proofs.YtdgbfgnmeoihiaaW.PrintLast Go.Proofs.YtdgbfgnmeoihiaaW.PrintMore
attribute [local go_sem] max2_int min2_int max_two min_two max_three min_three max_four min_four   -- for this text's walks alone
set_option linter.unusedVariables false
set_option linter.unusedSimpArgs false



def errW : Option Int → Value
  | none => .nilIface
  | some c => .iface 0 (.int .i64 c)
theorem errW_none : errW none = .nilIface := rfl
theorem errW_some (c : Int) : errW (some c) = .iface 0 (.int .i64 c) := rfl

theorem info3 : (Try.prog.info? 3).map (fun i => (i.zero, i.size, i.bytes)) = some (some (.int .i64 0), 1, 8) := by kernel_rfl
-- the values' own types

end Go.Proofs.Ytdgbfgnmeoihiaa.PForwardZero
