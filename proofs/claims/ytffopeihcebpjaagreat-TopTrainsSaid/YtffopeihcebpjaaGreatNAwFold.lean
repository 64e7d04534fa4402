/- The fold of the small run, by the kernel. -/
import Derived.Test.YtffopeihcebpjaaGreatNAwS
set_option linter.unusedVariables false
namespace Go.Proofs.YtffopeihcebpjaaGreat.X
open Go
set_option maxRecDepth 100000
def ev4 : DV := .sl 6 [[dn 0, dn 0, dn 0, dn 0, dn 0, dn 0], [dn 1, dn 0, dn 1, dn 0, dn 0, dn 0], [dn 2, dn 0, dn 0, dn 0, dn 3125, dn 5006], [dn 0, dn 1, dn 0, dn 0, dn 0, dn 0], [dn 0, dn 0, dn 0, dn 0, dn 0, dn 0], [dn 1, dn 0, dn 1, dn 1, dn 0, dn 0], [dn 2, dn 0, dn 0, dn 0, dn 4883, dn 7822], [dn 0, dn 0, dn 0, dn 0, dn 0, dn 0]]
def ck4 : DV := .ag [.sl 1 [[dn (-31760)], [dn (-21740)], [dn (-21217)], [dn (-16177)]], .sl 1 [[dn 9873], [dn 11546], [dn 28657], [dn (-39624)]], dn 4883, dn 7822, dn 3]
theorem awFold : deepA Tryz.prog (GC L15) 1000 3 30 42 [small0, ev4, dn 0, dn 7] = some (.tu [ck4, dn 0]) := by kernel_rfl
end Go.Proofs.YtffopeihcebpjaaGreat.X
