/- WideSums over whole numbers. -/
import Derived.Test.YtcdmjdghmbdikaaX19
import Derived.Test.YtcdmjdghmbdikaaWide
namespace Go.Proofs.Ytcdmjdghmbdikaa.X
open Go.RowKit Go.Proofs.YtcdmjdghmbdikaaW.PrintWords Go.Proofs.YtcdmjdghmbdikaaW.PrintLast Go.Proofs.YtcdmjdghmbdikaaW.PrintMore
set_option linter.unusedVariables false
set_option linter.unusedSimpArgs false

theorem WideSums_pure (a0 a1 b0 b1 x : Int) (h0 : U64 a0) (h1 : U64 a1) (h2 : U64 b0) (h3 : U64 b1) (hx : U64 x) : ∃ k, spigotlaw01_WideSums.f k a0 a1 b0 b1 x = some true := by
  refine ⟨10, ?_⟩
  unfold spigotlaw01_WideSums.f
  rw [ref_Add_ok h0 h1 h2 h3, ref_Sub_ok 9 h0 h1 h2 h3, ref_Small_ok h0, wide_Cmp_ok 7 h1 h3, ref_Cmp_ok 9 h1 h3, wide_Of_ok]
  obtain ⟨r1, e1⟩ := wide_Add_some h0 h1 h2 h3
  obtain ⟨r2, e2⟩ := wide_Sub_some h0 h1 h2 h3
  obtain ⟨r3, e3⟩ := wide_Small_some (a0 := a0) (a1 := a1)
  rw [e1, e2, e3]
  simp
end Go.Proofs.Ytcdmjdghmbdikaa.X
