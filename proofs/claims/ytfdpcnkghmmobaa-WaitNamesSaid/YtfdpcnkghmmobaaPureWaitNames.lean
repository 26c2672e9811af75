/- WaitNames, and what it needs. -/
import Derived.Test.YtfdpcnkghmmobaaX49
import Derived.Test.YtfdpcnkghmmobaaMath
namespace Go.Proofs.Ytfdpcnkghmmobaa.X
open Go.RowKit Go.Proofs.YtfdpcnkghmmobaaW.PrintWords Go.Proofs.YtfdpcnkghmmobaaW.PrintLast Go.Proofs.YtfdpcnkghmmobaaW.PrintMore
set_option linter.unusedVariables false
set_option linter.unusedSimpArgs false

set_option maxRecDepth 100000 in
theorem WaitNames_pure : ∃ k, spigotlaw39_WaitNames.f k = some true := ⟨300, by kernel_rfl⟩
end Go.Proofs.Ytfdpcnkghmmobaa.X
