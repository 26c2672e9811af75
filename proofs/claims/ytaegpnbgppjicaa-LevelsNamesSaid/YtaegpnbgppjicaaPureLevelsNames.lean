/- LevelsNames, and what it needs. -/
import Derived.Test.YtaegpnbgppjicaaX40
import Derived.Test.YtaegpnbgppjicaaMath
namespace Go.Proofs.Ytaegpnbgppjicaa.X
open Go.RowKit Go.Proofs.YtaegpnbgppjicaaW.PrintWords Go.Proofs.YtaegpnbgppjicaaW.PrintLast Go.Proofs.YtaegpnbgppjicaaW.PrintMore
set_option linter.unusedVariables false
set_option linter.unusedSimpArgs false

set_option maxRecDepth 100000 in
theorem LevelsNames_pure : ∃ k, spigotlaw04_LevelsNames.f k = some true := ⟨300, by kernel_rfl⟩
end Go.Proofs.Ytaegpnbgppjicaa.X
