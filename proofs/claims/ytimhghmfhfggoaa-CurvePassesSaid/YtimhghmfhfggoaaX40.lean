-- written by xprint.py, a program of this session over the kit's print
import Derived.Test.YtimhghmfhfggoaaX0
namespace Go.Proofs.Ytimhghmfhfggoaa.X
open Go.RowKit Go.Proofs.YtimhghmfhfggoaaW.PrintWords Go.Proofs.YtimhghmfhfggoaaW.PrintLast Go.Proofs.YtimhghmfhfggoaaW.PrintMore
attribute [local go_sem] max2_int min2_int max_two min_two max_three min_three max_four min_four   -- for this text's walks alone
set_option linter.unusedVariables false
set_option linter.unusedSimpArgs false

def spigotref01_Add.f (a0_0 : Int) (a0_1 : Int) (a1_0 : Int) (a1_1 : Int) : Option (Int × Int × Int) := if a1_1 > (IntKind.u64.wrap (18446744073709551615 - a0_1)) then (if a1_0 > (IntKind.u64.wrap (18446744073709551615 - a0_0)) then (some (0, 0, 16)) else (if (IntKind.u64.wrap (a0_0 + a1_0)) = 18446744073709551615 then (some (0, 0, 16)) else (some (IntKind.u64.wrap ((IntKind.u64.wrap (a0_0 + a1_0)) + 1), IntKind.u64.wrap (a0_1 + a1_1), 0)))) else (if a1_0 > (IntKind.u64.wrap (18446744073709551615 - a0_0)) then (some (0, 0, 16)) else (some (IntKind.u64.wrap (IntKind.u64.wrap (a0_0 + a1_0)), IntKind.u64.wrap (a0_1 + a1_1), 0)))
set_option maxHeartbeats 8000000 in
set_option maxRecDepth 100000 in
theorem spigotref01_Add.calls (a0_0 : Int) (a0_1 : Int) (a1_0 : Int) (a1_1 : Int) (r1 : Int) (r2 : Int) (r3 : Int) (w : World) (h : spigotref01_Add.f a0_0 a0_1 a1_0 a1_1 = some (r1, r2, r3)) :
  Calls Try.prog 90 #[.agg #[.int .u64 a0_0, .int .u64 a0_1], .agg #[.int .u64 a1_0, .int .u64 a1_1]] w fun e w' => e = .returned (.tuple #[.agg #[.int .u64 r1, .int .u64 r2], .int .i64 r3]) ∧ Below w.heap.size w w' := by
 have hu92 := Try.underlying92
 have HB := Aside0.mk (Below.refl w.heap.size w)
 have H : (if a1_1 > (IntKind.u64.wrap (18446744073709551615 - a0_1)) then (if a1_0 > (IntKind.u64.wrap (18446744073709551615 - a0_0)) then (some (0, 0, 16)) else (if (IntKind.u64.wrap (a0_0 + a1_0)) = 18446744073709551615 then (some (0, 0, 16)) else (some (IntKind.u64.wrap ((IntKind.u64.wrap (a0_0 + a1_0)) + 1), IntKind.u64.wrap (a0_1 + a1_1), 0)))) else (if a1_0 > (IntKind.u64.wrap (18446744073709551615 - a0_0)) then (some (0, 0, 16)) else (some (IntKind.u64.wrap (IntKind.u64.wrap (a0_0 + a1_0)), IntKind.u64.wrap (a0_1 + a1_1), 0)))) = some (r1, r2, r3) := h
 clear h
 by_cases c3 : a1_1 > (IntKind.u64.wrap (18446744073709551615 - a0_1))
 ·rw [if_pos c3] at H
  have c3b0 : decide ((IntKind.u64.wrap (18446744073709551615 - a0_1)) < a1_1) = true := decide_eq_true c3
  clear c3
  by_cases c4 : a1_0 > (IntKind.u64.wrap (18446744073709551615 - a0_0))
  ·rw [if_pos c4] at H
   have c4b0 : decide ((IntKind.u64.wrap (18446744073709551615 - a0_0)) < a1_0) = true := decide_eq_true c4
   clear c4
   simp only [Option.some.injEq, Prod.mk.injEq] at H
   obtain ⟨rfl, rfl, rfl⟩ := H
   go_enter Try.func90, Try.ntmps90
   go_wp2_with (first | ((with_reducible refine gate_dst (N := 2) rfl ?_); (try refine ug_ (by rfl) ?_); refine bx_ #[.int .u64 a0_0, .int .u64 a0_1] 92 ?_; intro gb442 hg w5 BK442 hb; have GW442 := bz_ w hg; have GE442 := GW442; replace HB := bs_ w hb; clear hb hg) | ((with_reducible refine gate_dst (N := 3) rfl ?_); (try refine ug_ (by rfl) ?_); refine bx_ #[.int .u64 a1_0, .int .u64 a1_1] 92 ?_; intro gb443 hg w6 BK443 hb; have GW443 := bz_ w hg; have GE443 := GW443; have NB442_443 := bn_ BK442 hg; have NB443_442 := bm_ BK442 hg; replace BK442 := bb_ BK442 hb; replace HB := bs_ w hb; clear hb hg) | ((with_reducible refine gate_dst (N := 4) rfl ?_); (try refine ug_ (by rfl) ?_); refine bx_ #[.int .u64 0, .int .u64 0] 92 ?_; intro gb444 hg w7 BK444 hb; have GW444 := bz_ w hg; have GE444 := GW444; have NB442_444 := bn_ BK442 hg; have NB444_442 := bm_ BK442 hg; have NB443_444 := bn_ BK443 hg; have NB444_443 := bm_ BK443 hg; replace BK442 := bb_ BK442 hb; replace BK443 := bb_ BK443 hb; replace HB := bs_ w hb; clear hb hg; replace hn443_442 := NB443_442.out; replace hn442_443 := NB442_443.out; replace hn443_444 := NB443_444.out; replace hn444_443 := NB444_443.out; replace hc443 := ce2_ BK443; replace hn442_444 := NB442_444.out; replace hn444_442 := NB444_442.out; replace hc442 := ce2_ BK442; replace hc444 := ce2_ BK444))
   refine bodyPost_ret (results_ct rfl _ _ gb444 92 #[.int .u64 0, .int .u64 0] (0, 0) _ rfl (bp2_ (bq_ BK444)) Try.underlying92 rfl (by kernel_rfl)) rfl ?_
   exact fi_
  ·rw [if_neg c4] at H
   have c4b0 : decide ((IntKind.u64.wrap (18446744073709551615 - a0_0)) < a1_0) = false := decide_eq_false c4
   clear c4
   by_cases c14 : (IntKind.u64.wrap (a0_0 + a1_0)) = 18446744073709551615
   ·rw [if_pos c14] at H
    have c14b0 : ((IntKind.u64.wrap (a0_0 + a1_0)) == 18446744073709551615) = true := beq_iff_eq.mpr c14
    have c14b1 : ((IntKind.u64.wrap (a0_0 + a1_0)) != 18446744073709551615) = false := bne_eq_false_iff_eq.mpr c14
    clear c14
    simp only [Option.some.injEq, Prod.mk.injEq] at H
    obtain ⟨rfl, rfl, rfl⟩ := H
    go_enter Try.func90, Try.ntmps90
    go_wp2_with (first | ((with_reducible refine gate_dst (N := 2) rfl ?_); (try refine ug_ (by rfl) ?_); refine bx_ #[.int .u64 a0_0, .int .u64 a0_1] 92 ?_; intro gb442 hg w15 BK442 hb; have GW442 := bz_ w hg; have GE442 := GW442; replace HB := bs_ w hb; clear hb hg) | ((with_reducible refine gate_dst (N := 3) rfl ?_); (try refine ug_ (by rfl) ?_); refine bx_ #[.int .u64 a1_0, .int .u64 a1_1] 92 ?_; intro gb443 hg w16 BK443 hb; have GW443 := bz_ w hg; have GE443 := GW443; have NB442_443 := bn_ BK442 hg; have NB443_442 := bm_ BK442 hg; replace BK442 := bb_ BK442 hb; replace HB := bs_ w hb; clear hb hg) | ((with_reducible refine gate_dst (N := 4) rfl ?_); (try refine ug_ (by rfl) ?_); refine bx_ #[.int .u64 0, .int .u64 0] 92 ?_; intro gb444 hg w17 BK444 hb; have GW444 := bz_ w hg; have GE444 := GW444; have NB442_444 := bn_ BK442 hg; have NB444_442 := bm_ BK442 hg; have NB443_444 := bn_ BK443 hg; have NB444_443 := bm_ BK443 hg; replace BK442 := bb_ BK442 hb; replace BK443 := bb_ BK443 hb; replace HB := bs_ w hb; clear hb hg; replace hn443_442 := NB443_442.out; replace hn442_443 := NB442_443.out; replace hn443_444 := NB443_444.out; replace hn444_443 := NB444_443.out; replace hc443 := ce2_ BK443; replace hn442_444 := NB442_444.out; replace hn444_442 := NB444_442.out; replace hc442 := ce2_ BK442; replace hc444 := ce2_ BK444))
    refine bodyPost_ret (results_ct rfl _ _ gb444 92 #[.int .u64 0, .int .u64 0] (0, 0) _ rfl (bp2_ (bq_ BK444)) Try.underlying92 rfl (by kernel_rfl)) rfl ?_
    exact fi_
   ·rw [if_neg c14] at H
    have c14b0 : ((IntKind.u64.wrap (a0_0 + a1_0)) == 18446744073709551615) = false := beq_eq_false_iff_ne.mpr c14
    have c14b1 : ((IntKind.u64.wrap (a0_0 + a1_0)) != 18446744073709551615) = true := bne_iff_ne.mpr c14
    simp only [Option.some.injEq, Prod.mk.injEq] at H
    obtain ⟨rfl, rfl, rfl⟩ := H
    go_enter Try.func90, Try.ntmps90
    go_wp2_with (first | ((with_reducible refine gate_dst (N := 2) rfl ?_); (try refine ug_ (by rfl) ?_); refine bx_ #[.int .u64 a0_0, .int .u64 a0_1] 92 ?_; intro gb442 hg w24 BK442 hb; have GW442 := bz_ w hg; have GE442 := GW442; replace HB := bs_ w hb; clear hb hg) | ((with_reducible refine gate_dst (N := 3) rfl ?_); (try refine ug_ (by rfl) ?_); refine bx_ #[.int .u64 a1_0, .int .u64 a1_1] 92 ?_; intro gb443 hg w25 BK443 hb; have GW443 := bz_ w hg; have GE443 := GW443; have NB442_443 := bn_ BK442 hg; have NB443_442 := bm_ BK442 hg; replace BK442 := bb_ BK442 hb; replace HB := bs_ w hb; clear hb hg) | ((with_reducible refine gate_dst (N := 4) rfl ?_); (try refine ug_ (by rfl) ?_); refine bx_ #[.int .u64 0, .int .u64 0] 92 ?_; intro gb444 hg w26 BK444 hb; have GW444 := bz_ w hg; have GE444 := GW444; have NB442_444 := bn_ BK442 hg; have NB444_442 := bm_ BK442 hg; have NB443_444 := bn_ BK443 hg; have NB444_443 := bm_ BK443 hg; replace BK442 := bb_ BK442 hb; replace BK443 := bb_ BK443 hb; replace HB := bs_ w hb; clear hb hg; replace hn443_442 := NB443_442.out; replace hn442_443 := NB442_443.out; replace hn443_444 := NB443_444.out; replace hn444_443 := NB444_443.out; replace hc443 := ce2_ BK443; replace hn442_444 := NB442_444.out; replace hn444_442 := NB444_442.out; replace hc442 := ce2_ BK442; replace hc444 := ce2_ BK444))
    refine bodyPost_ret (results_ct rfl _ _ gb444 92 #[.int .u64 (IntKind.u64.wrap ((IntKind.u64.wrap (a0_0 + a1_0)) + 1)), .int .u64 (IntKind.u64.wrap (a0_1 + a1_1))] (0, 0) _ rfl (bp2_ (bq_ BK444)) Try.underlying92 rfl (by kernel_rfl)) rfl ?_
    exact fi_
 ·rw [if_neg c3] at H
  have c3b0 : decide ((IntKind.u64.wrap (18446744073709551615 - a0_1)) < a1_1) = false := decide_eq_false c3
  clear c3
  by_cases c33 : a1_0 > (IntKind.u64.wrap (18446744073709551615 - a0_0))
  ·rw [if_pos c33] at H
   have c33b0 : decide ((IntKind.u64.wrap (18446744073709551615 - a0_0)) < a1_0) = true := decide_eq_true c33
   clear c33
   simp only [Option.some.injEq, Prod.mk.injEq] at H
   obtain ⟨rfl, rfl, rfl⟩ := H
   go_enter Try.func90, Try.ntmps90
   go_wp2_with (first | ((with_reducible refine gate_dst (N := 2) rfl ?_); (try refine ug_ (by rfl) ?_); refine bx_ #[.int .u64 a0_0, .int .u64 a0_1] 92 ?_; intro gb442 hg w34 BK442 hb; have GW442 := bz_ w hg; have GE442 := GW442; replace HB := bs_ w hb; clear hb hg) | ((with_reducible refine gate_dst (N := 3) rfl ?_); (try refine ug_ (by rfl) ?_); refine bx_ #[.int .u64 a1_0, .int .u64 a1_1] 92 ?_; intro gb443 hg w35 BK443 hb; have GW443 := bz_ w hg; have GE443 := GW443; have NB442_443 := bn_ BK442 hg; have NB443_442 := bm_ BK442 hg; replace BK442 := bb_ BK442 hb; replace HB := bs_ w hb; clear hb hg) | ((with_reducible refine gate_dst (N := 4) rfl ?_); (try refine ug_ (by rfl) ?_); refine bx_ #[.int .u64 0, .int .u64 0] 92 ?_; intro gb444 hg w36 BK444 hb; have GW444 := bz_ w hg; have GE444 := GW444; have NB442_444 := bn_ BK442 hg; have NB444_442 := bm_ BK442 hg; have NB443_444 := bn_ BK443 hg; have NB444_443 := bm_ BK443 hg; replace BK442 := bb_ BK442 hb; replace BK443 := bb_ BK443 hb; replace HB := bs_ w hb; clear hb hg; replace hn443_442 := NB443_442.out; replace hn442_443 := NB442_443.out; replace hn443_444 := NB443_444.out; replace hn444_443 := NB444_443.out; replace hc443 := ce2_ BK443; replace hn442_444 := NB442_444.out; replace hn444_442 := NB444_442.out; replace hc442 := ce2_ BK442; replace hc444 := ce2_ BK444))
   refine bodyPost_ret (results_ct rfl _ _ gb444 92 #[.int .u64 0, .int .u64 0] (0, 0) _ rfl (bp2_ (bq_ BK444)) Try.underlying92 rfl (by kernel_rfl)) rfl ?_
   exact fi_
  ·rw [if_neg c33] at H
   have c33b0 : decide ((IntKind.u64.wrap (18446744073709551615 - a0_0)) < a1_0) = false := decide_eq_false c33
   clear c33
   simp only [Option.some.injEq, Prod.mk.injEq] at H
   obtain ⟨rfl, rfl, rfl⟩ := H
   go_enter Try.func90, Try.ntmps90
   go_wp2_with (first | ((with_reducible refine gate_dst (N := 2) rfl ?_); (try refine ug_ (by rfl) ?_); refine bx_ #[.int .u64 a0_0, .int .u64 a0_1] 92 ?_; intro gb442 hg w43 BK442 hb; have GW442 := bz_ w hg; have GE442 := GW442; replace HB := bs_ w hb; clear hb hg) | ((with_reducible refine gate_dst (N := 3) rfl ?_); (try refine ug_ (by rfl) ?_); refine bx_ #[.int .u64 a1_0, .int .u64 a1_1] 92 ?_; intro gb443 hg w44 BK443 hb; have GW443 := bz_ w hg; have GE443 := GW443; have NB442_443 := bn_ BK442 hg; have NB443_442 := bm_ BK442 hg; replace BK442 := bb_ BK442 hb; replace HB := bs_ w hb; clear hb hg) | ((with_reducible refine gate_dst (N := 4) rfl ?_); (try refine ug_ (by rfl) ?_); refine bx_ #[.int .u64 0, .int .u64 0] 92 ?_; intro gb444 hg w45 BK444 hb; have GW444 := bz_ w hg; have GE444 := GW444; have NB442_444 := bn_ BK442 hg; have NB444_442 := bm_ BK442 hg; have NB443_444 := bn_ BK443 hg; have NB444_443 := bm_ BK443 hg; replace BK442 := bb_ BK442 hb; replace BK443 := bb_ BK443 hb; replace HB := bs_ w hb; clear hb hg; replace hn443_442 := NB443_442.out; replace hn442_443 := NB442_443.out; replace hn443_444 := NB443_444.out; replace hn444_443 := NB444_443.out; replace hc443 := ce2_ BK443; replace hn442_444 := NB442_444.out; replace hn444_442 := NB444_442.out; replace hc442 := ce2_ BK442; replace hc444 := ce2_ BK444))
   refine bodyPost_ret (results_ct rfl _ _ gb444 92 #[.int .u64 (IntKind.u64.wrap (IntKind.u64.wrap (a0_0 + a1_0))), .int .u64 (IntKind.u64.wrap (a0_1 + a1_1))] (0, 0) _ rfl (bp2_ (bq_ BK444)) Try.underlying92 rfl (by kernel_rfl)) rfl ?_
   exact fi_

end Go.Proofs.Ytimhghmfhfggoaa.X
