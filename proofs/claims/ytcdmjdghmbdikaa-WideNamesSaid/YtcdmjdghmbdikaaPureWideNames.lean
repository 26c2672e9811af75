/- WideNames: the kernel runs the printed function. -/
import Derived.Test.YtcdmjdghmbdikaaX28
import Derived.Test.YtcdmjdghmbdikaaMath
namespace Go.Proofs.Ytcdmjdghmbdikaa.X
open Go.RowKit Go.Proofs.YtcdmjdghmbdikaaW.PrintWords Go.Proofs.YtcdmjdghmbdikaaW.PrintLast Go.Proofs.YtcdmjdghmbdikaaW.PrintMore
set_option linter.unusedVariables false
set_option linter.unusedSimpArgs false

set_option maxRecDepth 100000 in
theorem WideNames_pure : ∃ k, spigotlaw01_WideNames.f k = some true := ⟨300, by kernel_rfl⟩
end Go.Proofs.Ytcdmjdghmbdikaa.X
