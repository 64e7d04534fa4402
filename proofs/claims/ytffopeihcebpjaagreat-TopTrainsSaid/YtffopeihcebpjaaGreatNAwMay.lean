/- The state of the small run may be, by the kernel. -/
import Derived.Test.YtffopeihcebpjaaGreatNAwS
set_option linter.unusedVariables false
namespace Go.Proofs.YtffopeihcebpjaaGreat.X
open Go
set_option maxRecDepth 100000
theorem awMay : deepA Tryz.prog (GC L15) 1000 3 30 51 [s4] = some (db true) := by kernel_rfl
end Go.Proofs.YtffopeihcebpjaaGreat.X
