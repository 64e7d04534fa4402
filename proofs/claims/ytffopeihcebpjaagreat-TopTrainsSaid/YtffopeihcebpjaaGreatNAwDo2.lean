/- One step of the small run, by the kernel. -/
import Derived.Test.YtffopeihcebpjaaGreatNAwS
set_option linter.unusedVariables false
namespace Go.Proofs.YtffopeihcebpjaaGreat.X
open Go
set_option maxRecDepth 100000
theorem awDo2 : deepA Tryz.prog (GC L15) 1000 3 30 16 [s1, dn 1] = some (.tu [s2, dn 0]) := by kernel_rfl
end Go.Proofs.YtffopeihcebpjaaGreat.X
