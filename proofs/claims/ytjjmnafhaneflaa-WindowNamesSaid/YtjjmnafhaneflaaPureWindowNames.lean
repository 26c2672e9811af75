/- WindowNames, and what it needs. -/
import Derived.Test.YtjjmnafhaneflaaX28
import Derived.Test.YtjjmnafhaneflaaMath
namespace Go.Proofs.Ytjjmnafhaneflaa.X
open Go.RowKit Go.Proofs.YtjjmnafhaneflaaW.PrintWords Go.Proofs.YtjjmnafhaneflaaW.PrintLast Go.Proofs.YtjjmnafhaneflaaW.PrintMore
set_option linter.unusedVariables false
set_option linter.unusedSimpArgs false

set_option maxRecDepth 100000 in
theorem WindowNames_pure : ∃ k, spigotlaw38_WindowNames.f k = some true := ⟨300, by kernel_rfl⟩
end Go.Proofs.Ytjjmnafhaneflaa.X
