/- GcraNames, and what it needs. -/
import Derived.Test.YtnijohomnajngaaX37
import Derived.Test.YtnijohomnajngaaMath
namespace Go.Proofs.Ytnijohomnajngaa.X
open Go.RowKit Go.Proofs.YtnijohomnajngaaW.PrintWords Go.Proofs.YtnijohomnajngaaW.PrintLast Go.Proofs.YtnijohomnajngaaW.PrintMore
set_option linter.unusedVariables false
set_option linter.unusedSimpArgs false

set_option maxRecDepth 100000 in
theorem GcraNames_pure : ∃ k, spigotlaw37_GcraNames.f k = some true := ⟨300, by kernel_rfl⟩
end Go.Proofs.Ytnijohomnajngaa.X
