/- the examples of chapter 03 hold: the kernel runs the printed function. -/
import Derived.Test.YtmfkedeaifdfdaaX11
import Derived.Test.YtmfkedeaifdfdaaMath
namespace Go.Proofs.Ytmfkedeaifdfdaa.X
open Go.RowKit Go.Proofs.YtmfkedeaifdfdaaW.PrintWords Go.Proofs.YtmfkedeaifdfdaaW.PrintLast Go.Proofs.YtmfkedeaifdfdaaW.PrintMore
set_option linter.unusedVariables false
set_option linter.unusedSimpArgs false

set_option maxRecDepth 100000 in
theorem alive03_ : spigotlaw03_alive.f 60 = some true := by kernel_rfl
theorem alive03 (k : Nat) (hk : 60 ≤ k) : spigotlaw03_alive.f k = some true := up_ (fun k => spigotlaw03_alive.mono k) alive03_ k hk
end Go.Proofs.Ytmfkedeaifdfdaa.X
