/- One step of the small run, by the kernel. -/
import Derived.Test.YtffopeihcebpjaaGreatNAwTab
set_option linter.unusedVariables false
namespace Go.Proofs.YtffopeihcebpjaaGreat.X
open Go
set_option maxRecDepth 100000
theorem awDo6 : deepA Tryz.prog (GC LA) 1000 3 30 16 [s4, dn 1] = some (.tu [s6, dn 0]) := by kernel_rfl
end Go.Proofs.YtffopeihcebpjaaGreat.X
