-- written by xprint.py, a program of this session over the kit's print
import Derived.Test.YtcdmjdghmbdikaaX0
namespace Go.Proofs.Ytcdmjdghmbdikaa.X
open Go.RowKit Go.Proofs.YtcdmjdghmbdikaaW.PrintWords Go.Proofs.YtcdmjdghmbdikaaW.PrintLast Go.Proofs.YtcdmjdghmbdikaaW.PrintMore
attribute [local go_sem] max2_int min2_int max_two min_two max_three min_three max_four min_four   -- for this text's walks alone
set_option linter.unusedVariables false
set_option linter.unusedSimpArgs false

/-! ### spigotref21_Made: function 46 -/
def spigotref21_Made.f (a0 : Int) : Option (Int × Int × Int × Int × Int × Int) := some (Int.tmod a0 4294967296, IntKind.u64.wrap (Int.tdiv a0 4294967296), 0, 0, 0, 0)
set_option maxHeartbeats 8000000 in
set_option maxRecDepth 100000 in
theorem spigotref21_Made.calls (a0 : Int) (r1 : Int) (r2 : Int) (r3 : Int) (r4 : Int) (r5 : Int) (r6 : Int) (w : World) (h : spigotref21_Made.f a0 = some (r1, r2, r3, r4, r5, r6)) :
  Calls Try.prog 46 #[.int .u64 a0] w fun e w' => e = .returned (.agg #[.int .u64 r1, .int .u64 r2, .int .u64 r3, .int .u64 r4, .int .u64 r5, .int .u64 r6]) ∧ Below w.heap.size w w' := by
 have hu74 := Try.underlying74
 have HB := Aside0.mk (Below.refl w.heap.size w)
 have H : (some (Int.tmod a0 4294967296, IntKind.u64.wrap (Int.tdiv a0 4294967296), 0, 0, 0, 0)) = some (r1, r2, r3, r4, r5, r6) := h
 clear h
 simp only [Option.some.injEq, Prod.mk.injEq] at H
 obtain ⟨rfl, rfl, rfl, rfl, rfl, rfl⟩ := H
 go_enter Try.func46, Try.ntmps46
 go_wp2_with (first | ((with_reducible refine gate_dst (N := 2) rfl ?_); refine bx_ #[.int .u64 0, .int .u64 0, .int .u64 0, .int .u64 0, .int .u64 0, .int .u64 0] 74 ?_; intro gb193 hg w2 BK193 hb; have GW193 := bz_ w hg; replace HB := bs_ w hb; clear hb hg; replace hc193 := ce6_ BK193))
 refine bodyPost_ret (results_cell_row rfl _ _ gb193 74 #[.int .u64 (Int.tmod a0 4294967296), .int .u64 (IntKind.u64.wrap (Int.tdiv a0 4294967296)), .int .u64 0, .int .u64 0, .int .u64 0, .int .u64 0] (0, 0) _ rfl (bp6_ (bq_ BK193)) Try.underlying74 rfl (by kernel_rfl)) rfl ?_
 exact fi_

end Go.Proofs.Ytcdmjdghmbdikaa.X
