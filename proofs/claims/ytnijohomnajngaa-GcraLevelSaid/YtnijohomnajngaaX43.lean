-- written by xprint.py, a program of this session over the kit's print
import Derived.Test.YtnijohomnajngaaX0
namespace Go.Proofs.Ytnijohomnajngaa.X
open Go.RowKit Go.Proofs.YtnijohomnajngaaW.PrintWords Go.Proofs.YtnijohomnajngaaW.PrintLast Go.Proofs.YtnijohomnajngaaW.PrintMore
attribute [local go_sem] max2_int min2_int max_two min_two max_three min_three max_four min_four   -- for this text's walks alone
set_option linter.unusedVariables false
set_option linter.unusedSimpArgs false

/-! ### spigotlaw37_given: function 24 -/
def spigotlaw37_given.f  : Option (Int × Int × Int) := some (3, 2, 5)
set_option maxHeartbeats 8000000 in
set_option maxRecDepth 100000 in
theorem spigotlaw37_given.calls  (r1 : Int) (r2 : Int) (r3 : Int) (w : World) (h : spigotlaw37_given.f  = some (r1, r2, r3)) :
  Calls Try.prog 24 #[] w fun e w' => e = .returned (.agg #[.int .i64 r1, .int .i64 r2, .int .i64 r3]) ∧ Below w.heap.size w w' := by
 have hu23 := Try.underlying23
 have HB := Aside0.mk (Below.refl w.heap.size w)
 have H : (some (3, 2, 5)) = some (r1, r2, r3) := h
 clear h
 simp only [Option.some.injEq, Prod.mk.injEq] at H
 obtain ⟨rfl, rfl, rfl⟩ := H
 go_enter Try.func24, Try.ntmps24
 go_wp2_with (first | ((with_reducible refine gate_dst (N := 0) rfl ?_); refine bx_ #[.int .i64 0, .int .i64 0, .int .i64 0] 23 ?_; intro gb533 hg w1 BK533 hb; have GW533 := bz_ w hg; replace HB := bs_ w hb; clear hb hg; obtain ⟨_, _, _, _, _, _⟩ := ce3_ BK533))
 refine bodyPost_ret (results_cell_row rfl _ _ gb533 23 #[.int .i64 3, .int .i64 2, .int .i64 5] (0, 0) _ rfl (bp3_ (bq_ BK533)) Try.underlying23 rfl (by kernel_rfl)) rfl ?_
 exact fi_

end Go.Proofs.Ytnijohomnajngaa.X
