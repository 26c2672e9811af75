-- written by xprint.py, a program of this session over the kit's print
import Derived.Test.YtjjmnafhaneflaaX0
namespace Go.Proofs.Ytjjmnafhaneflaa.X
open Go.RowKit Go.Proofs.YtjjmnafhaneflaaW.PrintWords Go.Proofs.YtjjmnafhaneflaaW.PrintLast Go.Proofs.YtjjmnafhaneflaaW.PrintMore
attribute [local go_sem] max2_int min2_int max_two min_two max_three min_three max_four min_four   -- for this text's walks alone
set_option linter.unusedVariables false
set_option linter.unusedSimpArgs false

/-! ### window_begin: function 30 -/
def window_begin.f (a0_0 : Int) (a0_1 : Int) (a1 : Int) : Option (Int) := if (IntKind.u64.wrap (a0_1)) = 0 then (none) else (some (IntKind.u64.wrap (a1 - (Int.tmod a1 (IntKind.u64.wrap (a0_1))))))
set_option maxHeartbeats 8000000 in
set_option maxRecDepth 100000 in
theorem window_begin.calls (a0_0 : Int) (a0_1 : Int) (a1 : Int) (r : Int) (w : World) (h : window_begin.f a0_0 a0_1 a1 = some r) :
  Calls Try.prog 30 #[.agg #[.int .i64 a0_0, .int .i64 a0_1], .int .u64 a1] w fun e w' => e = .returned (.int .u64 r) ∧ Below w.heap.size w w' := by
 have hu23 := Try.underlying23
 have HB := Aside0.mk (Below.refl w.heap.size w)
 have H : (if (IntKind.u64.wrap (a0_1)) = 0 then (none) else (some (IntKind.u64.wrap (a1 - (Int.tmod a1 (IntKind.u64.wrap (a0_1))))))) = some r := h
 clear h
 by_cases c3 : (IntKind.u64.wrap (a0_1)) = 0
 ·rw [if_pos c3] at H; exact absurd H (by simp)
 rw [if_neg c3] at H
 have c3b0 : ((IntKind.u64.wrap (a0_1)) == 0) = false := beq_eq_false_iff_ne.mpr c3
 have c3b1 : ((IntKind.u64.wrap (a0_1)) != 0) = true := bne_iff_ne.mpr c3
 obtain rfl := Option.some.inj H
 go_enter Try.func30, Try.ntmps30
 go_wp2_with (first | ((with_reducible refine gate_dst (N := 2) rfl ?_); refine bx_ #[.int .i64 a0_0, .int .i64 a0_1] 23 ?_; intro gb112 hg w4 BK112 hb; have GW112 := bz_ w hg; replace HB := bs_ w hb; clear hb hg; replace hc112 := ce2_ BK112))
 go_ret
 exact fi_

end Go.Proofs.Ytjjmnafhaneflaa.X
