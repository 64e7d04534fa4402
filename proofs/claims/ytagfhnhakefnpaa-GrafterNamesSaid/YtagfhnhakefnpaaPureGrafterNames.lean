/- Numbers: every error, limit and kind of package api is the document's. No condition. -/
import Derived.Test.YtagfhnhakefnpaaPGrafterNamesx1
import Derived.Test.YtagfhnhakefnpaaHelp
namespace Go.Proofs.Ytagfhnhakefnpaa.Pure
open Go.RowKit Go.Proofs.Ytagfhnhakefnpaa Go.Proofs.Ytagfhnhakefnpaa.PGrafterNames Go.Proofs.YtagfhnhakefnpaaW.PrintWords Go.Proofs.YtagfhnhakefnpaaW.PrintLast Go.Proofs.YtagfhnhakefnpaaW.PrintMore


theorem GrafterNames : grafterlaw0_GrafterNames.Pure := by
  show grafterlaw0_GrafterNames.f = some true
  decide +kernel

end Go.Proofs.Ytagfhnhakefnpaa.Pure
