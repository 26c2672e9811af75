-- written by xprint.py, a program of this session over the kit's print
import Derived.Test.YtnijohomnajngaaX0
import Derived.Test.YtnijohomnajngaaX7
namespace Go.Proofs.Ytnijohomnajngaa.X
open Go.RowKit Go.Proofs.YtnijohomnajngaaW.PrintWords Go.Proofs.YtnijohomnajngaaW.PrintLast Go.Proofs.YtnijohomnajngaaW.PrintMore
attribute [local go_sem] max2_int min2_int max_two min_two max_three min_three max_four min_four   -- for this text's walks alone
set_option linter.unusedVariables false
set_option linter.unusedSimpArgs false

/-! ### spigotref01_Add: function 58 -/
def spigotref01_Add.f (a0_0 : Int) (a0_1 : Int) (a1_0 : Int) (a1_1 : Int) : Option (Int × Int × Int) := if a1_1 > (IntKind.u64.wrap (18446744073709551615 - a0_1)) then (if a1_0 > (IntKind.u64.wrap (18446744073709551615 - a0_0)) then (some (0, 0, 16)) else (if (IntKind.u64.wrap (a0_0 + a1_0)) = 18446744073709551615 then (some (0, 0, 16)) else (some (IntKind.u64.wrap ((IntKind.u64.wrap (a0_0 + a1_0)) + 1), IntKind.u64.wrap (a0_1 + a1_1), 0)))) else (if a1_0 > (IntKind.u64.wrap (18446744073709551615 - a0_0)) then (some (0, 0, 16)) else (some (IntKind.u64.wrap (IntKind.u64.wrap (a0_0 + a1_0)), IntKind.u64.wrap (a0_1 + a1_1), 0)))
set_option maxHeartbeats 8000000 in
set_option maxRecDepth 100000 in
theorem spigotref01_Add.calls (a0_0 : Int) (a0_1 : Int) (a1_0 : Int) (a1_1 : Int) (r1 : Int) (r2 : Int) (r3 : Int) (w : World) (h : spigotref01_Add.f a0_0 a0_1 a1_0 a1_1 = some (r1, r2, r3)) :
  Calls Try.prog 58 #[.agg #[.int .u64 a0_0, .int .u64 a0_1], .agg #[.int .u64 a1_0, .int .u64 a1_1]] w fun e w' => e = .returned (.tuple #[.agg #[.int .u64 r1, .int .u64 r2], .int .i64 r3]) ∧ Below w.heap.size w w' := by
 have hu26 := Try.underlying26
 have HB := Aside0.mk (Below.refl w.heap.size w)
 have H : (if a1_1 > (IntKind.u64.wrap (18446744073709551615 - a0_1)) then (if a1_0 > (IntKind.u64.wrap (18446744073709551615 - a0_0)) then (some (0, 0, 16)) else (if (IntKind.u64.wrap (a0_0 + a1_0)) = 18446744073709551615 then (some (0, 0, 16)) else (some (IntKind.u64.wrap ((IntKind.u64.wrap (a0_0 + a1_0)) + 1), IntKind.u64.wrap (a0_1 + a1_1), 0)))) else (if a1_0 > (IntKind.u64.wrap (18446744073709551615 - a0_0)) then (some (0, 0, 16)) else (some (IntKind.u64.wrap (IntKind.u64.wrap (a0_0 + a1_0)), IntKind.u64.wrap (a0_1 + a1_1), 0)))) = some (r1, r2, r3) := h
 clear h
 by_cases c3 : a1_1 > (IntKind.u64.wrap (18446744073709551615 - a0_1))
 ·rw [if_pos c3] at H
  have c3b0 : decide ((IntKind.u64.wrap (18446744073709551615 - a0_1)) < a1_1) = true := decide_eq_true c3
  clear c3
  by_cases c4 : a1_0 > (IntKind.u64.wrap (18446744073709551615 - a0_0))
  ·rw [if_pos c4] at H
   have c4b0 : decide ((IntKind.u64.wrap (18446744073709551615 - a0_0)) < a1_0) = true := decide_eq_true c4
   clear c4
   simp only [Option.some.injEq, Prod.mk.injEq] at H
   obtain ⟨rfl, rfl, rfl⟩ := H
   go_enter Try.func58, Try.ntmps58
   go_wp2_with (first | ((with_reducible refine gate_dst (N := 2) rfl ?_); refine bx_ #[.int .u64 a0_0, .int .u64 a0_1] 26 ?_; intro gb176 hg w5 BK176 hb; have GW176 := bz_ w hg; have GE176 := GW176; replace HB := bs_ w hb; clear hb hg) | ((with_reducible refine gate_dst (N := 3) rfl ?_); refine bx_ #[.int .u64 a1_0, .int .u64 a1_1] 26 ?_; intro gb177 hg w6 BK177 hb; have GW177 := bz_ w hg; have GE177 := GW177; have NB176_177 := bn_ BK176 hg; have NB177_176 := bm_ BK176 hg; replace BK176 := bb_ BK176 hb; replace HB := bs_ w hb; clear hb hg) | ((with_reducible refine gate_dst (N := 4) rfl ?_); refine bx_ #[.int .u64 0, .int .u64 0] 26 ?_; intro gb178 hg w7 BK178 hb; have GW178 := bz_ w hg; have GE178 := GW178; have NB176_178 := bn_ BK176 hg; have NB178_176 := bm_ BK176 hg; have NB177_178 := bn_ BK177 hg; have NB178_177 := bm_ BK177 hg; replace BK176 := bb_ BK176 hb; replace BK177 := bb_ BK177 hb; replace HB := bs_ w hb; clear hb hg; have hnb8 := NB177_176.out; have hnc8 := NB176_177.out; have hnb9 := NB177_178.out; have hnc9 := NB178_177.out; obtain ⟨_, _, _, _⟩ := ce2_ BK177; have hnb11 := NB176_178.out; have hnc11 := NB178_176.out; obtain ⟨_, _, _, _⟩ := ce2_ BK176; obtain ⟨_, _, _, _⟩ := ce2_ BK178))
   refine bodyPost_ret (results_ct rfl _ _ gb178 26 #[.int .u64 0, .int .u64 0] (0, 0) _ rfl (bp2_ (bq_ BK178)) Try.underlying26 rfl (by kernel_rfl)) rfl ?_
   exact fi_
  ·rw [if_neg c4] at H
   have c4b0 : decide ((IntKind.u64.wrap (18446744073709551615 - a0_0)) < a1_0) = false := decide_eq_false c4
   clear c4
   by_cases c14 : (IntKind.u64.wrap (a0_0 + a1_0)) = 18446744073709551615
   ·rw [if_pos c14] at H
    have c14b0 : ((IntKind.u64.wrap (a0_0 + a1_0)) == 18446744073709551615) = true := beq_iff_eq.mpr c14
    have c14b1 : ((IntKind.u64.wrap (a0_0 + a1_0)) != 18446744073709551615) = false := bne_eq_false_iff_eq.mpr c14
    clear c14
    simp only [Option.some.injEq, Prod.mk.injEq] at H
    obtain ⟨rfl, rfl, rfl⟩ := H
    go_enter Try.func58, Try.ntmps58
    go_wp2_with (first | ((with_reducible refine gate_dst (N := 2) rfl ?_); refine bx_ #[.int .u64 a0_0, .int .u64 a0_1] 26 ?_; intro gb176 hg w15 BK176 hb; have GW176 := bz_ w hg; have GE176 := GW176; replace HB := bs_ w hb; clear hb hg) | ((with_reducible refine gate_dst (N := 3) rfl ?_); refine bx_ #[.int .u64 a1_0, .int .u64 a1_1] 26 ?_; intro gb177 hg w16 BK177 hb; have GW177 := bz_ w hg; have GE177 := GW177; have NB176_177 := bn_ BK176 hg; have NB177_176 := bm_ BK176 hg; replace BK176 := bb_ BK176 hb; replace HB := bs_ w hb; clear hb hg) | ((with_reducible refine gate_dst (N := 4) rfl ?_); refine bx_ #[.int .u64 0, .int .u64 0] 26 ?_; intro gb178 hg w17 BK178 hb; have GW178 := bz_ w hg; have GE178 := GW178; have NB176_178 := bn_ BK176 hg; have NB178_176 := bm_ BK176 hg; have NB177_178 := bn_ BK177 hg; have NB178_177 := bm_ BK177 hg; replace BK176 := bb_ BK176 hb; replace BK177 := bb_ BK177 hb; replace HB := bs_ w hb; clear hb hg; have hnb18 := NB177_176.out; have hnc18 := NB176_177.out; have hnb19 := NB177_178.out; have hnc19 := NB178_177.out; obtain ⟨_, _, _, _⟩ := ce2_ BK177; have hnb21 := NB176_178.out; have hnc21 := NB178_176.out; obtain ⟨_, _, _, _⟩ := ce2_ BK176; obtain ⟨_, _, _, _⟩ := ce2_ BK178))
    refine bodyPost_ret (results_ct rfl _ _ gb178 26 #[.int .u64 0, .int .u64 0] (0, 0) _ rfl (bp2_ (bq_ BK178)) Try.underlying26 rfl (by kernel_rfl)) rfl ?_
    exact fi_
   ·rw [if_neg c14] at H
    have c14b0 : ((IntKind.u64.wrap (a0_0 + a1_0)) == 18446744073709551615) = false := beq_eq_false_iff_ne.mpr c14
    have c14b1 : ((IntKind.u64.wrap (a0_0 + a1_0)) != 18446744073709551615) = true := bne_iff_ne.mpr c14
    simp only [Option.some.injEq, Prod.mk.injEq] at H
    obtain ⟨rfl, rfl, rfl⟩ := H
    go_enter Try.func58, Try.ntmps58
    go_wp2_with (first | ((with_reducible refine gate_dst (N := 2) rfl ?_); refine bx_ #[.int .u64 a0_0, .int .u64 a0_1] 26 ?_; intro gb176 hg w24 BK176 hb; have GW176 := bz_ w hg; have GE176 := GW176; replace HB := bs_ w hb; clear hb hg) | ((with_reducible refine gate_dst (N := 3) rfl ?_); refine bx_ #[.int .u64 a1_0, .int .u64 a1_1] 26 ?_; intro gb177 hg w25 BK177 hb; have GW177 := bz_ w hg; have GE177 := GW177; have NB176_177 := bn_ BK176 hg; have NB177_176 := bm_ BK176 hg; replace BK176 := bb_ BK176 hb; replace HB := bs_ w hb; clear hb hg) | ((with_reducible refine gate_dst (N := 4) rfl ?_); refine bx_ #[.int .u64 0, .int .u64 0] 26 ?_; intro gb178 hg w26 BK178 hb; have GW178 := bz_ w hg; have GE178 := GW178; have NB176_178 := bn_ BK176 hg; have NB178_176 := bm_ BK176 hg; have NB177_178 := bn_ BK177 hg; have NB178_177 := bm_ BK177 hg; replace BK176 := bb_ BK176 hb; replace BK177 := bb_ BK177 hb; replace HB := bs_ w hb; clear hb hg; have hnb27 := NB177_176.out; have hnc27 := NB176_177.out; have hnb28 := NB177_178.out; have hnc28 := NB178_177.out; obtain ⟨_, _, _, _⟩ := ce2_ BK177; have hnb30 := NB176_178.out; have hnc30 := NB178_176.out; obtain ⟨_, _, _, _⟩ := ce2_ BK176; obtain ⟨_, _, _, _⟩ := ce2_ BK178))
    refine bodyPost_ret (results_ct rfl _ _ gb178 26 #[.int .u64 (IntKind.u64.wrap ((IntKind.u64.wrap (a0_0 + a1_0)) + 1)), .int .u64 (IntKind.u64.wrap (a0_1 + a1_1))] (0, 0) _ rfl (bp2_ (bq_ BK178)) Try.underlying26 rfl (by kernel_rfl)) rfl ?_
    exact fi_
 ·rw [if_neg c3] at H
  have c3b0 : decide ((IntKind.u64.wrap (18446744073709551615 - a0_1)) < a1_1) = false := decide_eq_false c3
  clear c3
  by_cases c33 : a1_0 > (IntKind.u64.wrap (18446744073709551615 - a0_0))
  ·rw [if_pos c33] at H
   have c33b0 : decide ((IntKind.u64.wrap (18446744073709551615 - a0_0)) < a1_0) = true := decide_eq_true c33
   clear c33
   simp only [Option.some.injEq, Prod.mk.injEq] at H
   obtain ⟨rfl, rfl, rfl⟩ := H
   go_enter Try.func58, Try.ntmps58
   go_wp2_with (first | ((with_reducible refine gate_dst (N := 2) rfl ?_); refine bx_ #[.int .u64 a0_0, .int .u64 a0_1] 26 ?_; intro gb176 hg w34 BK176 hb; have GW176 := bz_ w hg; have GE176 := GW176; replace HB := bs_ w hb; clear hb hg) | ((with_reducible refine gate_dst (N := 3) rfl ?_); refine bx_ #[.int .u64 a1_0, .int .u64 a1_1] 26 ?_; intro gb177 hg w35 BK177 hb; have GW177 := bz_ w hg; have GE177 := GW177; have NB176_177 := bn_ BK176 hg; have NB177_176 := bm_ BK176 hg; replace BK176 := bb_ BK176 hb; replace HB := bs_ w hb; clear hb hg) | ((with_reducible refine gate_dst (N := 4) rfl ?_); refine bx_ #[.int .u64 0, .int .u64 0] 26 ?_; intro gb178 hg w36 BK178 hb; have GW178 := bz_ w hg; have GE178 := GW178; have NB176_178 := bn_ BK176 hg; have NB178_176 := bm_ BK176 hg; have NB177_178 := bn_ BK177 hg; have NB178_177 := bm_ BK177 hg; replace BK176 := bb_ BK176 hb; replace BK177 := bb_ BK177 hb; replace HB := bs_ w hb; clear hb hg; have hnb37 := NB177_176.out; have hnc37 := NB176_177.out; have hnb38 := NB177_178.out; have hnc38 := NB178_177.out; obtain ⟨_, _, _, _⟩ := ce2_ BK177; have hnb40 := NB176_178.out; have hnc40 := NB178_176.out; obtain ⟨_, _, _, _⟩ := ce2_ BK176; obtain ⟨_, _, _, _⟩ := ce2_ BK178))
   refine bodyPost_ret (results_ct rfl _ _ gb178 26 #[.int .u64 0, .int .u64 0] (0, 0) _ rfl (bp2_ (bq_ BK178)) Try.underlying26 rfl (by kernel_rfl)) rfl ?_
   exact fi_
  ·rw [if_neg c33] at H
   have c33b0 : decide ((IntKind.u64.wrap (18446744073709551615 - a0_0)) < a1_0) = false := decide_eq_false c33
   clear c33
   simp only [Option.some.injEq, Prod.mk.injEq] at H
   obtain ⟨rfl, rfl, rfl⟩ := H
   go_enter Try.func58, Try.ntmps58
   go_wp2_with (first | ((with_reducible refine gate_dst (N := 2) rfl ?_); refine bx_ #[.int .u64 a0_0, .int .u64 a0_1] 26 ?_; intro gb176 hg w43 BK176 hb; have GW176 := bz_ w hg; have GE176 := GW176; replace HB := bs_ w hb; clear hb hg) | ((with_reducible refine gate_dst (N := 3) rfl ?_); refine bx_ #[.int .u64 a1_0, .int .u64 a1_1] 26 ?_; intro gb177 hg w44 BK177 hb; have GW177 := bz_ w hg; have GE177 := GW177; have NB176_177 := bn_ BK176 hg; have NB177_176 := bm_ BK176 hg; replace BK176 := bb_ BK176 hb; replace HB := bs_ w hb; clear hb hg) | ((with_reducible refine gate_dst (N := 4) rfl ?_); refine bx_ #[.int .u64 0, .int .u64 0] 26 ?_; intro gb178 hg w45 BK178 hb; have GW178 := bz_ w hg; have GE178 := GW178; have NB176_178 := bn_ BK176 hg; have NB178_176 := bm_ BK176 hg; have NB177_178 := bn_ BK177 hg; have NB178_177 := bm_ BK177 hg; replace BK176 := bb_ BK176 hb; replace BK177 := bb_ BK177 hb; replace HB := bs_ w hb; clear hb hg; have hnb46 := NB177_176.out; have hnc46 := NB176_177.out; have hnb47 := NB177_178.out; have hnc47 := NB178_177.out; obtain ⟨_, _, _, _⟩ := ce2_ BK177; have hnb49 := NB176_178.out; have hnc49 := NB178_176.out; obtain ⟨_, _, _, _⟩ := ce2_ BK176; obtain ⟨_, _, _, _⟩ := ce2_ BK178))
   refine bodyPost_ret (results_ct rfl _ _ gb178 26 #[.int .u64 (IntKind.u64.wrap (IntKind.u64.wrap (a0_0 + a1_0))), .int .u64 (IntKind.u64.wrap (a0_1 + a1_1))] (0, 0) _ rfl (bp2_ (bq_ BK178)) Try.underlying26 rfl (by kernel_rfl)) rfl ?_
   exact fi_

/-! ### spigotref37_sum: function 39 -/
def spigotref37_sum.f (a0_0 : Int) (a0_1 : Int) (a1_0 : Int) (a1_1 : Int) : Option (Int × Int) := (spigotref01_Add.f a0_0 a0_1 a1_0 a1_1).bind fun bt182 => (some (bt182.1, bt182.2.1))
set_option maxHeartbeats 8000000 in
set_option maxRecDepth 100000 in
theorem spigotref37_sum.calls (a0_0 : Int) (a0_1 : Int) (a1_0 : Int) (a1_1 : Int) (r1 : Int) (r2 : Int) (w : World) (h : spigotref37_sum.f a0_0 a0_1 a1_0 a1_1 = some (r1, r2)) :
  Calls Try.prog 39 #[.agg #[.int .u64 a0_0, .int .u64 a0_1], .agg #[.int .u64 a1_0, .int .u64 a1_1]] w fun e w' => e = .returned (.agg #[.int .u64 r1, .int .u64 r2]) ∧ Below w.heap.size w w' := by
 have hu26 := Try.underlying26
 have HB := Aside0.mk (Below.refl w.heap.size w)
 have H : ((spigotref01_Add.f a0_0 a0_1 a1_0 a1_1).bind fun bt182 => (some (bt182.1, bt182.2.1))) = some (r1, r2) := h
 clear h
 obtain ⟨⟨t182, t183, t184⟩, A3, H⟩ := bo_ H
 replace H : (some (t182, t183)) = some (r1, r2) := H
 simp only [Option.some.injEq, Prod.mk.injEq] at H
 obtain ⟨rfl, rfl⟩ := H
 go_enter Try.func39, Try.ntmps39
 go_wp2_with (first | ((with_reducible refine gate_dst (N := 2) rfl ?_); refine bx_ #[.int .u64 a0_0, .int .u64 a0_1] 26 ?_; intro gb179 hg w4 BK179 hb; have GW179 := bz_ w hg; replace HB := bs_ w hb; clear hb hg) | ((with_reducible refine gate_dst (N := 3) rfl ?_); refine bx_ #[.int .u64 a1_0, .int .u64 a1_1] 26 ?_; intro gb180 hg w5 BK180 hb; have GW180 := bz_ w hg; have NB179_180 := bn_ BK179 hg; have NB180_179 := bm_ BK179 hg; replace BK179 := bb_ BK179 hb; replace HB := bs_ w hb; clear hb hg) | ((with_reducible refine gate_dst (N := 4) rfl ?_); refine bx_ #[.int .u64 0, .int .u64 0] 26 ?_; intro gb181 hg w6 BK181 hb; have GW181 := bz_ w hg; have NB179_181 := bn_ BK179 hg; have NB181_179 := bm_ BK179 hg; have NB180_181 := bn_ BK180 hg; have NB181_180 := bm_ BK180 hg; replace BK179 := bb_ BK179 hb; replace BK180 := bb_ BK180 hb; replace HB := bs_ w hb; clear hb hg; have hnb7 := NB179_180.out; have hnc7 := NB180_179.out; have hnb8 := NB179_181.out; have hnc8 := NB181_179.out; obtain ⟨_, _, _, _⟩ := ce2_ BK179; have hnb10 := NB180_181.out; have hnc10 := NB181_180.out; obtain ⟨_, _, _, _⟩ := ce2_ BK180) | ((with_reducible refine gate_callee (f := 58) rfl ?_); refine goesA_ (some 10) Try.func58 #[.agg #[.int .u64 a0_0, .int .u64 a0_1], .agg #[.int .u64 a1_0, .int .u64 a1_1]] ?_; (with_reducible refine (spigotref01_Add.calls a0_0 a0_1 a1_0 a1_1 t182 t183 t184 _ A3.out).mono ?_); rintro e w12 ⟨rfl, hb⟩; refine ⟨_, rfl, ?_⟩; replace BK179 := bb_ BK179 hb; replace BK180 := bb_ BK180 hb; replace BK181 := bb_ BK181 hb; replace HB := bs_ w hb; clear hb) | ((with_reducible refine gate_dst (N := 5) rfl ?_); refine bx_ #[.int .u64 0, .int .u64 0] 26 ?_; intro gb185 hg w13 BK185 hb; have GW185 := bz_ w hg; have NB179_185 := bn_ BK179 hg; have NB185_179 := bm_ BK179 hg; have NB180_185 := bn_ BK180 hg; have NB185_180 := bm_ BK180 hg; have NB181_185 := bn_ BK181 hg; have NB185_181 := bm_ BK181 hg; replace BK179 := bb_ BK179 hb; replace BK180 := bb_ BK180 hb; replace BK181 := bb_ BK181 hb; replace HB := bs_ w hb; clear hb hg; have hnb14 := NB185_179.out; have hnc14 := NB179_185.out; have hnb15 := NB185_180.out; have hnc15 := NB180_185.out; have hnb16 := NB185_181.out; have hnc16 := NB181_185.out; obtain ⟨_, _, _, _⟩ := ce2_ BK185; obtain ⟨_, _, _, _⟩ := ce2_ BK181))
 refine bodyPost_ret (results_cell_row rfl _ _ gb181 26 #[.int .u64 t182, .int .u64 t183] (0, 0) _ rfl (blk_put (cs := #[.int .u64 t182, .int .u64 0]) (blk_put (cs := #[.int .u64 0, .int .u64 0]) (bt_ BK181) 0 _ rfl) 1 _ rfl) Try.underlying26 rfl (by kernel_rfl)) rfl ?_
 exact fi_

/-! ### spigotref37_tokens: function 40 -/
def spigotref37_tokens.f (a0_0 : Int) (a0_1 : Int) (a0_2 : Int) (a1 : Int) : Option (Int × Int) := (spigotref01_Mul.f (IntKind.u64.wrap (a1)) (IntKind.u64.wrap (a0_2))).bind fun bt188 => (some (bt188.1, bt188.2))
set_option maxHeartbeats 8000000 in
set_option maxRecDepth 100000 in
theorem spigotref37_tokens.calls (a0_0 : Int) (a0_1 : Int) (a0_2 : Int) (a1 : Int) (r1 : Int) (r2 : Int) (w : World) (h : spigotref37_tokens.f a0_0 a0_1 a0_2 a1 = some (r1, r2)) :
  Calls Try.prog 40 #[.agg #[.int .i64 a0_0, .int .i64 a0_1, .int .i64 a0_2], .int .i64 a1] w fun e w' => e = .returned (.agg #[.int .u64 r1, .int .u64 r2]) ∧ Below w.heap.size w w' := by
 have hu23 := Try.underlying23
 have hu26 := Try.underlying26
 have HB := Aside0.mk (Below.refl w.heap.size w)
 have H : ((spigotref01_Mul.f (IntKind.u64.wrap (a1)) (IntKind.u64.wrap (a0_2))).bind fun bt188 => (some (bt188.1, bt188.2))) = some (r1, r2) := h
 clear h
 obtain ⟨⟨t188, t189⟩, A3, H⟩ := bo_ H
 replace H : (some (t188, t189)) = some (r1, r2) := H
 simp only [Option.some.injEq, Prod.mk.injEq] at H
 obtain ⟨rfl, rfl⟩ := H
 go_enter Try.func40, Try.ntmps40
 go_wp2_with (first | ((with_reducible refine gate_dst (N := 2) rfl ?_); refine bx_ #[.int .i64 a0_0, .int .i64 a0_1, .int .i64 a0_2] 23 ?_; intro gb186 hg w4 BK186 hb; have GW186 := bz_ w hg; replace HB := bs_ w hb; clear hb hg) | ((with_reducible refine gate_dst (N := 4) rfl ?_); refine bx_ #[.int .u64 0, .int .u64 0] 26 ?_; intro gb187 hg w5 BK187 hb; have GW187 := bz_ w hg; have NB186_187 := bn_ BK186 hg; have NB187_186 := bm_ BK186 hg; replace BK186 := bb_ BK186 hb; replace HB := bs_ w hb; clear hb hg; have hnb6 := NB186_187.out; have hnc6 := NB187_186.out; obtain ⟨_, _, _, _, _, _⟩ := ce3_ BK186) | ((with_reducible refine gate_callee (f := 56) rfl ?_); refine goesA_ (some 10) Try.func56 #[.int .u64 (IntKind.u64.wrap (a1)), .int .u64 (IntKind.u64.wrap (a0_2))] ?_; (with_reducible refine (spigotref01_Mul.calls (IntKind.u64.wrap (a1)) (IntKind.u64.wrap (a0_2)) t188 t189 _ A3.out).mono ?_); rintro e w8 ⟨rfl, hb⟩; refine ⟨_, rfl, ?_⟩; replace BK186 := bb_ BK186 hb; replace BK187 := bb_ BK187 hb; replace HB := bs_ w hb; clear hb; obtain ⟨_, _, _, _⟩ := ce2_ BK187))
 refine bodyPost_ret (results_cell_row rfl _ _ gb187 26 #[.int .u64 t188, .int .u64 t189] (0, 0) _ rfl (bp2_ (bq_ BK187)) Try.underlying26 rfl (by kernel_rfl)) rfl ?_
 exact fi_

end Go.Proofs.Ytnijohomnajngaa.X
