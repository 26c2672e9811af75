-- written by xprint.py, a program of this session over the kit's print
import Derived.Test.YtaegpnbgppjicaaX0
namespace Go.Proofs.Ytaegpnbgppjicaa.X
open Go.RowKit Go.Proofs.YtaegpnbgppjicaaW.PrintWords Go.Proofs.YtaegpnbgppjicaaW.PrintLast Go.Proofs.YtaegpnbgppjicaaW.PrintMore
attribute [local go_sem] max2_int min2_int max_two min_two max_three min_three max_four min_four   -- for this text's walks alone
set_option linter.unusedVariables false
set_option linter.unusedSimpArgs false

/-! ### spigotref01_Less: function 70 -/
def spigotref01_Less.f (a0_0 : Int) (a0_1 : Int) (a1_0 : Int) (a1_1 : Int) : Option (Int × Int) := if a1_1 > a0_1 then (some (IntKind.u64.wrap ((IntKind.u64.wrap (a0_0 - a1_0)) - 1), IntKind.u64.wrap (a0_1 - a1_1))) else (some (IntKind.u64.wrap (a0_0 - a1_0), IntKind.u64.wrap (a0_1 - a1_1)))
set_option maxHeartbeats 8000000 in
set_option maxRecDepth 100000 in
theorem spigotref01_Less.calls (a0_0 : Int) (a0_1 : Int) (a1_0 : Int) (a1_1 : Int) (r1 : Int) (r2 : Int) (w : World) (h : spigotref01_Less.f a0_0 a0_1 a1_0 a1_1 = some (r1, r2)) :
  Calls Try.prog 70 #[.agg #[.int .u64 a0_0, .int .u64 a0_1], .agg #[.int .u64 a1_0, .int .u64 a1_1]] w fun e w' => e = .returned (.agg #[.int .u64 r1, .int .u64 r2]) ∧ Below w.heap.size w w' := by
 have hu83 := Try.underlying83
 have HB := Aside0.mk (Below.refl w.heap.size w)
 have H : (if a1_1 > a0_1 then (some (IntKind.u64.wrap ((IntKind.u64.wrap (a0_0 - a1_0)) - 1), IntKind.u64.wrap (a0_1 - a1_1))) else (some (IntKind.u64.wrap (a0_0 - a1_0), IntKind.u64.wrap (a0_1 - a1_1)))) = some (r1, r2) := h
 clear h
 by_cases c3 : a1_1 > a0_1
 ·rw [if_pos c3] at H
  have c3b0 : decide (a0_1 < a1_1) = true := decide_eq_true c3
  clear c3
  simp only [Option.some.injEq, Prod.mk.injEq] at H
  obtain ⟨rfl, rfl⟩ := H
  go_enter Try.func70, Try.ntmps70
  go_wp2_with (first | ((with_reducible refine gate_dst (N := 2) rfl ?_); refine bx_ #[.int .u64 a0_0, .int .u64 a0_1] 83 ?_; intro gb206 hg w4 BK206 hb; have GW206 := bz_ w hg; have GE206 := GW206; replace HB := bs_ w hb; clear hb hg) | ((with_reducible refine gate_dst (N := 3) rfl ?_); refine bx_ #[.int .u64 a1_0, .int .u64 a1_1] 83 ?_; intro gb207 hg w5 BK207 hb; have GW207 := bz_ w hg; have GE207 := GW207; have NB206_207 := bn_ BK206 hg; have NB207_206 := bm_ BK206 hg; replace BK206 := bb_ BK206 hb; replace HB := bs_ w hb; clear hb hg) | ((with_reducible refine gate_dst (N := 4) rfl ?_); refine bx_ #[.int .u64 0, .int .u64 0] 83 ?_; intro gb208 hg w6 BK208 hb; have GW208 := bz_ w hg; have GE208 := GW208; have NB206_208 := bn_ BK206 hg; have NB208_206 := bm_ BK206 hg; have NB207_208 := bn_ BK207 hg; have NB208_207 := bm_ BK207 hg; replace BK206 := bb_ BK206 hb; replace BK207 := bb_ BK207 hb; replace HB := bs_ w hb; clear hb hg; replace hn207_206 := NB207_206.out; replace hn206_207 := NB206_207.out; replace hn207_208 := NB207_208.out; replace hn208_207 := NB208_207.out; replace hc207 := ce2_ BK207; replace hn206_208 := NB206_208.out; replace hn208_206 := NB208_206.out; replace hc206 := ce2_ BK206; replace hc208 := ce2_ BK208))
  refine bodyPost_ret (results_cell_row rfl _ _ gb208 83 #[.int .u64 (IntKind.u64.wrap ((IntKind.u64.wrap (a0_0 - a1_0)) - 1)), .int .u64 (IntKind.u64.wrap (a0_1 - a1_1))] (0, 0) _ rfl (bp2_ (bq_ BK208)) Try.underlying83 rfl (by kernel_rfl)) rfl ?_
  exact fi_
 ·rw [if_neg c3] at H
  have c3b0 : decide (a0_1 < a1_1) = false := decide_eq_false c3
  clear c3
  simp only [Option.some.injEq, Prod.mk.injEq] at H
  obtain ⟨rfl, rfl⟩ := H
  go_enter Try.func70, Try.ntmps70
  go_wp2_with (first | ((with_reducible refine gate_dst (N := 2) rfl ?_); refine bx_ #[.int .u64 a0_0, .int .u64 a0_1] 83 ?_; intro gb206 hg w13 BK206 hb; have GW206 := bz_ w hg; have GE206 := GW206; replace HB := bs_ w hb; clear hb hg) | ((with_reducible refine gate_dst (N := 3) rfl ?_); refine bx_ #[.int .u64 a1_0, .int .u64 a1_1] 83 ?_; intro gb207 hg w14 BK207 hb; have GW207 := bz_ w hg; have GE207 := GW207; have NB206_207 := bn_ BK206 hg; have NB207_206 := bm_ BK206 hg; replace BK206 := bb_ BK206 hb; replace HB := bs_ w hb; clear hb hg) | ((with_reducible refine gate_dst (N := 4) rfl ?_); refine bx_ #[.int .u64 0, .int .u64 0] 83 ?_; intro gb208 hg w15 BK208 hb; have GW208 := bz_ w hg; have GE208 := GW208; have NB206_208 := bn_ BK206 hg; have NB208_206 := bm_ BK206 hg; have NB207_208 := bn_ BK207 hg; have NB208_207 := bm_ BK207 hg; replace BK206 := bb_ BK206 hb; replace BK207 := bb_ BK207 hb; replace HB := bs_ w hb; clear hb hg; replace hn207_206 := NB207_206.out; replace hn206_207 := NB206_207.out; replace hn207_208 := NB207_208.out; replace hn208_207 := NB208_207.out; replace hc207 := ce2_ BK207; replace hn206_208 := NB206_208.out; replace hn208_206 := NB208_206.out; replace hc206 := ce2_ BK206; replace hc208 := ce2_ BK208))
  refine bodyPost_ret (results_cell_row rfl _ _ gb208 83 #[.int .u64 (IntKind.u64.wrap (a0_0 - a1_0)), .int .u64 (IntKind.u64.wrap (a0_1 - a1_1))] (0, 0) _ rfl (bp2_ (bq_ BK208)) Try.underlying83 rfl (by kernel_rfl)) rfl ?_
  exact fi_

end Go.Proofs.Ytaegpnbgppjicaa.X
