-- written by xprint.py, a program of this session over the kit's print
import Derived.Test.YtcdmjdghmbdikaaX0
namespace Go.Proofs.Ytcdmjdghmbdikaa.X
open Go.RowKit Go.Proofs.YtcdmjdghmbdikaaW.PrintWords Go.Proofs.YtcdmjdghmbdikaaW.PrintLast Go.Proofs.YtcdmjdghmbdikaaW.PrintMore
attribute [local go_sem] max2_int min2_int max_two min_two max_three min_three max_four min_four   -- for this text's walks alone
set_option linter.unusedVariables false
set_option linter.unusedSimpArgs false

/-! ### spigotref18_Counted: function 50 -/
def spigotref18_Counted.f (a0_0 : Int) (a0_1 : Int) (a0_2 : Int) (a1 : Bool) (a2 : Int) : Option (Int × Int × Int) := if a1 = true then (if a0_0 < 18446744073709551615 then (if (IntKind.u64.wrap (18446744073709551615 - a0_2)) < (IntKind.u64.wrap (a2)) then (some (IntKind.u64.wrap (a0_0 + 1), a0_1, 18446744073709551615)) else (some (IntKind.u64.wrap (a0_0 + 1), a0_1, IntKind.u64.wrap (a0_2 + (IntKind.u64.wrap (a2)))))) else (if (IntKind.u64.wrap (18446744073709551615 - a0_2)) < (IntKind.u64.wrap (a2)) then (some (a0_0, a0_1, 18446744073709551615)) else (some (a0_0, a0_1, IntKind.u64.wrap (a0_2 + (IntKind.u64.wrap (a2))))))) else (if a0_1 < 18446744073709551615 then (some (a0_0, IntKind.u64.wrap (a0_1 + 1), a0_2)) else (some (a0_0, a0_1, a0_2)))
set_option maxHeartbeats 8000000 in
set_option maxRecDepth 100000 in
theorem spigotref18_Counted.calls (a0_0 : Int) (a0_1 : Int) (a0_2 : Int) (a1 : Bool) (a2 : Int) (r1 : Int) (r2 : Int) (r3 : Int) (w : World) (h : spigotref18_Counted.f a0_0 a0_1 a0_2 a1 a2 = some (r1, r2, r3)) :
  Calls Try.prog 50 #[.agg #[.int .u64 a0_0, .int .u64 a0_1, .int .u64 a0_2], .bool a1, .int .u32 a2] w fun e w' => e = .returned (.agg #[.int .u64 r1, .int .u64 r2, .int .u64 r3]) ∧ Below w.heap.size w w' := by
 have hu25 := Try.underlying25
 have HB := Aside0.mk (Below.refl w.heap.size w)
 have H : (if a1 = true then (if a0_0 < 18446744073709551615 then (if (IntKind.u64.wrap (18446744073709551615 - a0_2)) < (IntKind.u64.wrap (a2)) then (some (IntKind.u64.wrap (a0_0 + 1), a0_1, 18446744073709551615)) else (some (IntKind.u64.wrap (a0_0 + 1), a0_1, IntKind.u64.wrap (a0_2 + (IntKind.u64.wrap (a2)))))) else (if (IntKind.u64.wrap (18446744073709551615 - a0_2)) < (IntKind.u64.wrap (a2)) then (some (a0_0, a0_1, 18446744073709551615)) else (some (a0_0, a0_1, IntKind.u64.wrap (a0_2 + (IntKind.u64.wrap (a2))))))) else (if a0_1 < 18446744073709551615 then (some (a0_0, IntKind.u64.wrap (a0_1 + 1), a0_2)) else (some (a0_0, a0_1, a0_2)))) = some (r1, r2, r3) := h
 clear h
 by_cases c4 : a1 = true
 ·subst c4
  rw [if_pos rfl] at H
  try dsimp only at H
  by_cases c5 : a0_0 < 18446744073709551615
  ·rw [if_pos c5] at H
   have c5b0 : decide (a0_0 < 18446744073709551615) = true := decide_eq_true c5
   clear c5
   by_cases c6 : (IntKind.u64.wrap (18446744073709551615 - a0_2)) < (IntKind.u64.wrap (a2))
   ·rw [if_pos c6] at H
    have c6b0 : decide ((IntKind.u64.wrap (18446744073709551615 - a0_2)) < (IntKind.u64.wrap (a2))) = true := decide_eq_true c6
    clear c6
    simp only [Option.some.injEq, Prod.mk.injEq] at H
    obtain ⟨rfl, rfl, rfl⟩ := H
    go_enter Try.func50, Try.ntmps50
    go_wp2_with (first | ((with_reducible refine gate_dst (N := 3) rfl ?_); refine bx_ #[.int .u64 a0_0, .int .u64 a0_1, .int .u64 a0_2] 25 ?_; intro gb246 hg w7 BK246 hb; have GW246 := bz_ w hg; have GE246 := GW246; replace HB := bs_ w hb; clear hb hg) | ((with_reducible refine gate_dst (N := 6) rfl ?_); refine bx_ #[.int .u64 0, .int .u64 0, .int .u64 0] 25 ?_; intro gb247 hg w8 BK247 hb; have GW247 := bz_ w hg; have GE247 := GW247; have NB246_247 := bn_ BK246 hg; have NB247_246 := bm_ BK246 hg; replace BK246 := bb_ BK246 hb; replace HB := bs_ w hb; clear hb hg; replace hn246_247 := NB246_247.out; replace hn247_246 := NB247_246.out; replace hc246 := ce3_ BK246; replace hc247 := ce3_ BK247))
    refine bodyPost_ret (results_cell_row rfl _ _ gb247 25 #[.int .u64 (IntKind.u64.wrap (a0_0 + 1)), .int .u64 a0_1, .int .u64 18446744073709551615] (0, 0) _ rfl (bp3_ (bt_ BK247)) Try.underlying25 rfl (by kernel_rfl)) rfl ?_
    exact fi_
   ·rw [if_neg c6] at H
    have c6b0 : decide ((IntKind.u64.wrap (18446744073709551615 - a0_2)) < (IntKind.u64.wrap (a2))) = false := decide_eq_false c6
    clear c6
    simp only [Option.some.injEq, Prod.mk.injEq] at H
    obtain ⟨rfl, rfl, rfl⟩ := H
    go_enter Try.func50, Try.ntmps50
    go_wp2_with (first | ((with_reducible refine gate_dst (N := 3) rfl ?_); refine bx_ #[.int .u64 a0_0, .int .u64 a0_1, .int .u64 a0_2] 25 ?_; intro gb246 hg w12 BK246 hb; have GW246 := bz_ w hg; have GE246 := GW246; replace HB := bs_ w hb; clear hb hg) | ((with_reducible refine gate_dst (N := 6) rfl ?_); refine bx_ #[.int .u64 0, .int .u64 0, .int .u64 0] 25 ?_; intro gb247 hg w13 BK247 hb; have GW247 := bz_ w hg; have GE247 := GW247; have NB246_247 := bn_ BK246 hg; have NB247_246 := bm_ BK246 hg; replace BK246 := bb_ BK246 hb; replace HB := bs_ w hb; clear hb hg; replace hn246_247 := NB246_247.out; replace hn247_246 := NB247_246.out; replace hc246 := ce3_ BK246; replace hc247 := ce3_ BK247))
    refine bodyPost_ret (results_cell_row rfl _ _ gb247 25 #[.int .u64 (IntKind.u64.wrap (a0_0 + 1)), .int .u64 a0_1, .int .u64 (IntKind.u64.wrap (a0_2 + (IntKind.u64.wrap (a2))))] (0, 0) _ rfl (bp3_ (bt_ BK247)) Try.underlying25 rfl (by kernel_rfl)) rfl ?_
    exact fi_
  ·rw [if_neg c5] at H
   have c5b0 : decide (a0_0 < 18446744073709551615) = false := decide_eq_false c5
   clear c5
   by_cases c17 : (IntKind.u64.wrap (18446744073709551615 - a0_2)) < (IntKind.u64.wrap (a2))
   ·rw [if_pos c17] at H
    have c17b0 : decide ((IntKind.u64.wrap (18446744073709551615 - a0_2)) < (IntKind.u64.wrap (a2))) = true := decide_eq_true c17
    clear c17
    simp only [Option.some.injEq, Prod.mk.injEq] at H
    obtain ⟨rfl, rfl, rfl⟩ := H
    go_enter Try.func50, Try.ntmps50
    go_wp2_with (first | ((with_reducible refine gate_dst (N := 3) rfl ?_); refine bx_ #[.int .u64 a0_0, .int .u64 a0_1, .int .u64 a0_2] 25 ?_; intro gb246 hg w18 BK246 hb; have GW246 := bz_ w hg; have GE246 := GW246; replace HB := bs_ w hb; clear hb hg) | ((with_reducible refine gate_dst (N := 6) rfl ?_); refine bx_ #[.int .u64 0, .int .u64 0, .int .u64 0] 25 ?_; intro gb247 hg w19 BK247 hb; have GW247 := bz_ w hg; have GE247 := GW247; have NB246_247 := bn_ BK246 hg; have NB247_246 := bm_ BK246 hg; replace BK246 := bb_ BK246 hb; replace HB := bs_ w hb; clear hb hg; replace hn246_247 := NB246_247.out; replace hn247_246 := NB247_246.out; replace hc246 := ce3_ BK246; replace hc247 := ce3_ BK247))
    refine bodyPost_ret (results_cell_row rfl _ _ gb247 25 #[.int .u64 a0_0, .int .u64 a0_1, .int .u64 18446744073709551615] (0, 0) _ rfl (bp3_ (bt_ BK247)) Try.underlying25 rfl (by kernel_rfl)) rfl ?_
    exact fi_
   ·rw [if_neg c17] at H
    have c17b0 : decide ((IntKind.u64.wrap (18446744073709551615 - a0_2)) < (IntKind.u64.wrap (a2))) = false := decide_eq_false c17
    clear c17
    simp only [Option.some.injEq, Prod.mk.injEq] at H
    obtain ⟨rfl, rfl, rfl⟩ := H
    go_enter Try.func50, Try.ntmps50
    go_wp2_with (first | ((with_reducible refine gate_dst (N := 3) rfl ?_); refine bx_ #[.int .u64 a0_0, .int .u64 a0_1, .int .u64 a0_2] 25 ?_; intro gb246 hg w23 BK246 hb; have GW246 := bz_ w hg; have GE246 := GW246; replace HB := bs_ w hb; clear hb hg) | ((with_reducible refine gate_dst (N := 6) rfl ?_); refine bx_ #[.int .u64 0, .int .u64 0, .int .u64 0] 25 ?_; intro gb247 hg w24 BK247 hb; have GW247 := bz_ w hg; have GE247 := GW247; have NB246_247 := bn_ BK246 hg; have NB247_246 := bm_ BK246 hg; replace BK246 := bb_ BK246 hb; replace HB := bs_ w hb; clear hb hg; replace hn246_247 := NB246_247.out; replace hn247_246 := NB247_246.out; replace hc246 := ce3_ BK246; replace hc247 := ce3_ BK247))
    refine bodyPost_ret (results_cell_row rfl _ _ gb247 25 #[.int .u64 a0_0, .int .u64 a0_1, .int .u64 (IntKind.u64.wrap (a0_2 + (IntKind.u64.wrap (a2))))] (0, 0) _ rfl (bp3_ (bt_ BK247)) Try.underlying25 rfl (by kernel_rfl)) rfl ?_
    exact fi_
 ·replace c4 := Bool.eq_false_iff.mpr c4
  subst c4
  rw [if_neg (show ¬ (false = true) by decide)] at H
  try dsimp only at H
  by_cases c28 : a0_1 < 18446744073709551615
  ·rw [if_pos c28] at H
   have c28b0 : decide (a0_1 < 18446744073709551615) = true := decide_eq_true c28
   clear c28
   simp only [Option.some.injEq, Prod.mk.injEq] at H
   obtain ⟨rfl, rfl, rfl⟩ := H
   go_enter Try.func50, Try.ntmps50
   go_wp2_with (first | ((with_reducible refine gate_dst (N := 3) rfl ?_); refine bx_ #[.int .u64 a0_0, .int .u64 a0_1, .int .u64 a0_2] 25 ?_; intro gb246 hg w29 BK246 hb; have GW246 := bz_ w hg; have GE246 := GW246; replace HB := bs_ w hb; clear hb hg) | ((with_reducible refine gate_dst (N := 6) rfl ?_); refine bx_ #[.int .u64 0, .int .u64 0, .int .u64 0] 25 ?_; intro gb247 hg w30 BK247 hb; have GW247 := bz_ w hg; have GE247 := GW247; have NB246_247 := bn_ BK246 hg; have NB247_246 := bm_ BK246 hg; replace BK246 := bb_ BK246 hb; replace HB := bs_ w hb; clear hb hg; replace hn246_247 := NB246_247.out; replace hn247_246 := NB247_246.out; replace hc246 := ce3_ BK246; replace hc247 := ce3_ BK247))
   refine bodyPost_ret (results_cell_row rfl _ _ gb247 25 #[.int .u64 a0_0, .int .u64 (IntKind.u64.wrap (a0_1 + 1)), .int .u64 a0_2] (0, 0) _ rfl (bp3_ (bt_ BK247)) Try.underlying25 rfl (by kernel_rfl)) rfl ?_
   exact fi_
  ·rw [if_neg c28] at H
   have c28b0 : decide (a0_1 < 18446744073709551615) = false := decide_eq_false c28
   clear c28
   simp only [Option.some.injEq, Prod.mk.injEq] at H
   obtain ⟨rfl, rfl, rfl⟩ := H
   go_enter Try.func50, Try.ntmps50
   go_wp2_with (first | ((with_reducible refine gate_dst (N := 3) rfl ?_); refine bx_ #[.int .u64 a0_0, .int .u64 a0_1, .int .u64 a0_2] 25 ?_; intro gb246 hg w34 BK246 hb; have GW246 := bz_ w hg; have GE246 := GW246; replace HB := bs_ w hb; clear hb hg) | ((with_reducible refine gate_dst (N := 6) rfl ?_); refine bx_ #[.int .u64 0, .int .u64 0, .int .u64 0] 25 ?_; intro gb247 hg w35 BK247 hb; have GW247 := bz_ w hg; have GE247 := GW247; have NB246_247 := bn_ BK246 hg; have NB247_246 := bm_ BK246 hg; replace BK246 := bb_ BK246 hb; replace HB := bs_ w hb; clear hb hg; replace hn246_247 := NB246_247.out; replace hn247_246 := NB247_246.out; replace hc246 := ce3_ BK246; replace hc247 := ce3_ BK247))
   refine bodyPost_ret (results_cell_row rfl _ _ gb247 25 #[.int .u64 a0_0, .int .u64 a0_1, .int .u64 a0_2] (0, 0) _ rfl (bp3_ (bq_ BK247)) Try.underlying25 rfl (by kernel_rfl)) rfl ?_
   exact fi_

/-! ### spigotref21_Count: function 21 -/
def spigotref21_Count.f (a0_0 : Int) (a0_1 : Int) (a0_2 : Int) (a1 : Bool) (a2 : Int) : Option (Int × Int × Int) := (spigotref18_Counted.f a0_0 a0_1 a0_2 a1 a2).bind fun bt250 => (some (bt250.1, bt250.2.1, bt250.2.2))
set_option maxHeartbeats 8000000 in
set_option maxRecDepth 100000 in
theorem spigotref21_Count.calls (a0_0 : Int) (a0_1 : Int) (a0_2 : Int) (a1 : Bool) (a2 : Int) (r1 : Int) (r2 : Int) (r3 : Int) (w : World) (h : spigotref21_Count.f a0_0 a0_1 a0_2 a1 a2 = some (r1, r2, r3)) :
  Calls Try.prog 21 #[.agg #[.int .u64 a0_0, .int .u64 a0_1, .int .u64 a0_2], .bool a1, .int .u32 a2] w fun e w' => e = .returned (.agg #[.int .u64 r1, .int .u64 r2, .int .u64 r3]) ∧ Below w.heap.size w w' := by
 have hu25 := Try.underlying25
 have HB := Aside0.mk (Below.refl w.heap.size w)
 have H : ((spigotref18_Counted.f a0_0 a0_1 a0_2 a1 a2).bind fun bt250 => (some (bt250.1, bt250.2.1, bt250.2.2))) = some (r1, r2, r3) := h
 clear h
 have H0_ := bo_ H; clear H; obtain ⟨⟨t250, t251, t252⟩, A4, H⟩ := H0_
 replace H : (some (t250, t251, t252)) = some (r1, r2, r3) := H
 simp only [Option.some.injEq, Prod.mk.injEq] at H
 obtain ⟨rfl, rfl, rfl⟩ := H
 go_enter Try.func21, Try.ntmps21
 go_wp2_with (first | ((with_reducible refine gate_dst (N := 3) rfl ?_); refine bx_ #[.int .u64 a0_0, .int .u64 a0_1, .int .u64 a0_2] 25 ?_; intro gb248 hg w5 BK248 hb; have GW248 := bz_ w hg; replace HB := bs_ w hb; clear hb hg) | ((with_reducible refine gate_dst (N := 6) rfl ?_); refine bx_ #[.int .u64 0, .int .u64 0, .int .u64 0] 25 ?_; intro gb249 hg w6 BK249 hb; have GW249 := bz_ w hg; have NB248_249 := bn_ BK248 hg; have NB249_248 := bm_ BK248 hg; replace BK248 := bb_ BK248 hb; replace HB := bs_ w hb; clear hb hg; replace hn248_249 := NB248_249.out; replace hn249_248 := NB249_248.out; replace hc248 := ce3_ BK248) | ((with_reducible refine gate_callee (f := 50) rfl ?_); refine goesA_ (some 10) Try.func50 #[.agg #[.int .u64 a0_0, .int .u64 a0_1, .int .u64 a0_2], .bool a1, .int .u32 a2] ?_; (with_reducible refine (spigotref18_Counted.calls a0_0 a0_1 a0_2 a1 a2 t250 t251 t252 _ A4.out).mono ?_); rintro e w9 ⟨rfl, hb⟩; refine ⟨_, rfl, ?_⟩; replace BK248 := bb_ BK248 hb; replace BK249 := bb_ BK249 hb; replace HB := bs_ w hb; clear hb; replace hc249 := ce3_ BK249))
 refine bodyPost_ret (results_cell_row rfl _ _ gb249 25 #[.int .u64 t250, .int .u64 t251, .int .u64 t252] (0, 0) _ rfl (bp3_ (bq_ BK249)) Try.underlying25 rfl (by kernel_rfl)) rfl ?_
 exact fi_

end Go.Proofs.Ytcdmjdghmbdikaa.X
