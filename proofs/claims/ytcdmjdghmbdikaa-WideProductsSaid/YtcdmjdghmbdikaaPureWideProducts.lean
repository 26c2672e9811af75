/- WideProducts over whole numbers. -/
import Derived.Test.YtcdmjdghmbdikaaX23
import Derived.Test.YtcdmjdghmbdikaaRefDiv
namespace Go.Proofs.Ytcdmjdghmbdikaa.X
open Go.RowKit Go.Proofs.YtcdmjdghmbdikaaW.PrintWords Go.Proofs.YtcdmjdghmbdikaaW.PrintLast Go.Proofs.YtcdmjdghmbdikaaW.PrintMore
set_option linter.unusedVariables false
set_option linter.unusedSimpArgs false

theorem WideProducts_pure (a0 a1 x y : Int) (h0 : U64 a0) (h1 : U64 a1) (hx : U64 x) (hy : U64 y) : ∃ k, spigotlaw01_WideProducts.f k a0 a1 x y = some true := by
  refine ⟨300, ?_⟩
  unfold spigotlaw01_WideProducts.f
  by_cases c : x = 0
  · subst c
    rw [wide_Div_zero, ref_Div_zero, wide_Up_zero, ref_Up_zero, wide_Mul_ok hx hy, ref_Mul_ok hx hy]
    simp
  · have p : 0 < x := by have := hx.1; omega
    rw [wide_Div_ok 300 (by omega) h0 h1 p hx.2, ref_Div_ok 300 (by omega) h0 h1 p hx.2, wide_Up_ok 300 (by omega) h0 h1 p hx.2, ref_Up_ok 300 (by omega) h0 h1 p hx.2, wide_Mul_ok hx hy, ref_Mul_ok hx hy]
    simp
end Go.Proofs.Ytcdmjdghmbdikaa.X
