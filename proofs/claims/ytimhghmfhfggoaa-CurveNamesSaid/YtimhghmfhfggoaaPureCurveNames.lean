/- CurveNames, and what it needs. -/
import Derived.Test.YtimhghmfhfggoaaX55
import Derived.Test.YtimhghmfhfggoaaMath
namespace Go.Proofs.Ytimhghmfhfggoaa.X
open Go.RowKit Go.Proofs.YtimhghmfhfggoaaW.PrintWords Go.Proofs.YtimhghmfhfggoaaW.PrintLast Go.Proofs.YtimhghmfhfggoaaW.PrintMore
set_option linter.unusedVariables false
set_option linter.unusedSimpArgs false

theorem CurveNames_ : spigotlaw40_CurveNames.f 300 = some true := by kernel_rfl
theorem CurveNames_pure : ∃ k, spigotlaw40_CurveNames.f k = some true := ⟨300, CurveNames_⟩
end Go.Proofs.Ytimhghmfhfggoaa.X
