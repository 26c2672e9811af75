/- BucketNames, and what it needs. -/
import Derived.Test.YtmfkedeaifdfdaaX23
import Derived.Test.YtmfkedeaifdfdaaMath
namespace Go.Proofs.Ytmfkedeaifdfdaa.X
open Go.RowKit Go.Proofs.YtmfkedeaifdfdaaW.PrintWords Go.Proofs.YtmfkedeaifdfdaaW.PrintLast Go.Proofs.YtmfkedeaifdfdaaW.PrintMore
set_option linter.unusedVariables false
set_option linter.unusedSimpArgs false

set_option maxRecDepth 100000 in
theorem BucketNames_pure : ∃ k, spigotlaw03_BucketNames.f k = some true := ⟨300, by kernel_rfl⟩
end Go.Proofs.Ytmfkedeaifdfdaa.X
