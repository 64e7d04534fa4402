/- One step of the small run, by the kernel. -/
import Derived.Test.YtffopeihcebpjaaGreatNAwS
set_option linter.unusedVariables false
namespace Go.Proofs.YtffopeihcebpjaaGreat.X
open Go
set_option maxRecDepth 100000
theorem awNew : deepA Tryz.prog (GC L15) 1000 3 30 99 [small0] = some (.tu [s0, dn 0]) := by kernel_rfl
end Go.Proofs.YtffopeihcebpjaaGreat.X
