/- LeaseNames, and what it needs. -/
import Derived.Test.YtbfdpodlnijeoaaX37
import Derived.Test.YtbfdpodlnijeoaaMath
namespace Go.Proofs.Ytbfdpodlnijeoaa.X
open Go.RowKit Go.Proofs.YtbfdpodlnijeoaaW.PrintWords Go.Proofs.YtbfdpodlnijeoaaW.PrintLast Go.Proofs.YtbfdpodlnijeoaaW.PrintMore
set_option linter.unusedVariables false
set_option linter.unusedSimpArgs false

set_option maxRecDepth 100000 in
theorem LeaseNames_pure : ∃ k, spigotlaw42_LeaseNames.f k = some true := ⟨300, by kernel_rfl⟩
end Go.Proofs.Ytbfdpodlnijeoaa.X
