/- TallyNames: the kernel runs the printed function. -/
import Derived.Test.YtcdmjdghmbdikaaX14
import Derived.Test.YtcdmjdghmbdikaaMath
namespace Go.Proofs.Ytcdmjdghmbdikaa.X
open Go.RowKit Go.Proofs.YtcdmjdghmbdikaaW.PrintWords Go.Proofs.YtcdmjdghmbdikaaW.PrintLast Go.Proofs.YtcdmjdghmbdikaaW.PrintMore
set_option linter.unusedVariables false
set_option linter.unusedSimpArgs false

set_option maxRecDepth 100000 in
theorem TallyNames_pure : ∃ k, spigotlaw21_TallyNames.f k = some true := ⟨500, by kernel_rfl⟩
end Go.Proofs.Ytcdmjdghmbdikaa.X
