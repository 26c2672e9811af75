-- written by xprint.py, a program of this session over the kit's print
import Derived.Test.YtnijohomnajngaaX0
import Derived.Test.YtnijohomnajngaaX6
namespace Go.Proofs.Ytnijohomnajngaa.X
open Go.RowKit Go.Proofs.YtnijohomnajngaaW.PrintWords Go.Proofs.YtnijohomnajngaaW.PrintLast Go.Proofs.YtnijohomnajngaaW.PrintMore
attribute [local go_sem] max2_int min2_int max_two min_two max_three min_three max_four min_four   -- for this text's walks alone
set_option linter.unusedVariables false
set_option linter.unusedSimpArgs false

/-! ### spigotref03_Check: function 26 -/
def spigotref03_Check.f (a0_0 : Int) (a0_1 : Int) (a0_2 : Int) (a0_3 : Int) (a0_4 : Int) (a0_5 : Int) : Option (Int) := (spigotref03_CheckLimit.f a0_0 a0_1 a0_2).bind fun t175 => (if t175 = 0 then (if a0_3 < 0 then (some 8) else (if a0_3 > a0_0 then (some 8) else (if a0_4 < 0 then (some 8) else (if a0_4 ≥ a0_2 then (some 8) else (if a0_3 = a0_0 then (if a0_4 = 0 then (some 0) else (some 8)) else (some 0)))))) else (some 8))
set_option maxHeartbeats 8000000 in
set_option maxRecDepth 100000 in
theorem spigotref03_Check.calls (a0_0 : Int) (a0_1 : Int) (a0_2 : Int) (a0_3 : Int) (a0_4 : Int) (a0_5 : Int) (r : Int) (w : World) (h : spigotref03_Check.f a0_0 a0_1 a0_2 a0_3 a0_4 a0_5 = some r) :
  Calls Try.prog 26 #[.agg #[.int .i64 a0_0, .int .i64 a0_1, .int .i64 a0_2, .int .i64 a0_3, .int .i64 a0_4, .int .u64 a0_5]] w fun e w' => e = .returned (.int .i64 r) ∧ Below w.heap.size w w' := by
 have hu30 := Try.underlying30
 have hu23 := Try.underlying23
 have HB := Aside0.mk (Below.refl w.heap.size w)
 have H : ((spigotref03_CheckLimit.f a0_0 a0_1 a0_2).bind fun t175 => (if t175 = 0 then (if a0_3 < 0 then (some 8) else (if a0_3 > a0_0 then (some 8) else (if a0_4 < 0 then (some 8) else (if a0_4 ≥ a0_2 then (some 8) else (if a0_3 = a0_0 then (if a0_4 = 0 then (some 0) else (some 8)) else (some 0)))))) else (some 8))) = some r := h
 clear h
 have H0_ := bo_ H; clear H; obtain ⟨t175, A2, H⟩ := H0_
 try dsimp only at H
 by_cases c3 : t175 = 0
 ·rw [if_pos c3] at H
  have c3b0 : (t175 == 0) = true := beq_iff_eq.mpr c3
  have c3b1 : (t175 != 0) = false := bne_eq_false_iff_eq.mpr c3
  clear c3
  by_cases c4 : a0_3 < 0
  ·rw [if_pos c4] at H
   have c4b0 : decide (a0_3 < 0) = true := decide_eq_true c4
   clear c4
   obtain rfl := Option.some.inj H
   go_enter Try.func26, Try.ntmps26
   go_wp2_with (first | ((with_reducible refine gate_dst (N := 1) rfl ?_); (try refine ug_ (by rfl) ?_); refine bx_ #[.int .i64 a0_0, .int .i64 a0_1, .int .i64 a0_2, .int .i64 a0_3, .int .i64 a0_4, .int .u64 a0_5] 30 ?_; intro gb174 hg w5 BK174 hb; have GW174 := bz_ w hg; have GE174 := GW174; replace HB := bs_ w hb; clear hb hg; replace hc174 := ce6_ BK174) | ((with_reducible refine gate_callee (f := 32) rfl ?_); (try refine ug_ (by rfl) ?_); refine goesA_ (some 5) Try.func32 #[.agg #[.int .i64 a0_0, .int .i64 a0_1, .int .i64 a0_2]] ?_; (with_reducible refine (spigotref03_CheckLimit.calls a0_0 a0_1 a0_2 t175 _ A2.out).mono ?_); rintro e w7 ⟨rfl, hb⟩; refine ⟨_, rfl, ?_⟩; replace BK174 := bb_ BK174 hb; replace HB := bs_ w hb; clear hb; replace hc174 := ce6_ BK174))
   go_ret
   exact fi_
  ·rw [if_neg c4] at H
   have c4b0 : decide (a0_3 < 0) = false := decide_eq_false c4
   clear c4
   by_cases c9 : a0_3 > a0_0
   ·rw [if_pos c9] at H
    have c9b0 : decide (a0_0 < a0_3) = true := decide_eq_true c9
    clear c9
    obtain rfl := Option.some.inj H
    go_enter Try.func26, Try.ntmps26
    go_wp2_with (first | ((with_reducible refine gate_dst (N := 1) rfl ?_); (try refine ug_ (by rfl) ?_); refine bx_ #[.int .i64 a0_0, .int .i64 a0_1, .int .i64 a0_2, .int .i64 a0_3, .int .i64 a0_4, .int .u64 a0_5] 30 ?_; intro gb174 hg w10 BK174 hb; have GW174 := bz_ w hg; have GE174 := GW174; replace HB := bs_ w hb; clear hb hg; replace hc174 := ce6_ BK174) | ((with_reducible refine gate_callee (f := 32) rfl ?_); (try refine ug_ (by rfl) ?_); refine goesA_ (some 5) Try.func32 #[.agg #[.int .i64 a0_0, .int .i64 a0_1, .int .i64 a0_2]] ?_; (with_reducible refine (spigotref03_CheckLimit.calls a0_0 a0_1 a0_2 t175 _ A2.out).mono ?_); rintro e w12 ⟨rfl, hb⟩; refine ⟨_, rfl, ?_⟩; replace BK174 := bb_ BK174 hb; replace HB := bs_ w hb; clear hb; replace hc174 := ce6_ BK174))
    go_ret
    exact fi_
   ·rw [if_neg c9] at H
    have c9b0 : decide (a0_0 < a0_3) = false := decide_eq_false c9
    clear c9
    by_cases c14 : a0_4 < 0
    ·rw [if_pos c14] at H
     have c14b0 : decide (a0_4 < 0) = true := decide_eq_true c14
     clear c14
     obtain rfl := Option.some.inj H
     go_enter Try.func26, Try.ntmps26
     go_wp2_with (first | ((with_reducible refine gate_dst (N := 1) rfl ?_); (try refine ug_ (by rfl) ?_); refine bx_ #[.int .i64 a0_0, .int .i64 a0_1, .int .i64 a0_2, .int .i64 a0_3, .int .i64 a0_4, .int .u64 a0_5] 30 ?_; intro gb174 hg w15 BK174 hb; have GW174 := bz_ w hg; have GE174 := GW174; replace HB := bs_ w hb; clear hb hg; replace hc174 := ce6_ BK174) | ((with_reducible refine gate_callee (f := 32) rfl ?_); (try refine ug_ (by rfl) ?_); refine goesA_ (some 5) Try.func32 #[.agg #[.int .i64 a0_0, .int .i64 a0_1, .int .i64 a0_2]] ?_; (with_reducible refine (spigotref03_CheckLimit.calls a0_0 a0_1 a0_2 t175 _ A2.out).mono ?_); rintro e w17 ⟨rfl, hb⟩; refine ⟨_, rfl, ?_⟩; replace BK174 := bb_ BK174 hb; replace HB := bs_ w hb; clear hb; replace hc174 := ce6_ BK174))
     go_ret
     exact fi_
    ·rw [if_neg c14] at H
     have c14b0 : decide (a0_4 < 0) = false := decide_eq_false c14
     clear c14
     by_cases c19 : a0_4 ≥ a0_2
     ·rw [if_pos c19] at H
      have c19b0 : decide (a0_2 ≤ a0_4) = true := decide_eq_true c19
      clear c19
      obtain rfl := Option.some.inj H
      go_enter Try.func26, Try.ntmps26
      go_wp2_with (first | ((with_reducible refine gate_dst (N := 1) rfl ?_); (try refine ug_ (by rfl) ?_); refine bx_ #[.int .i64 a0_0, .int .i64 a0_1, .int .i64 a0_2, .int .i64 a0_3, .int .i64 a0_4, .int .u64 a0_5] 30 ?_; intro gb174 hg w20 BK174 hb; have GW174 := bz_ w hg; have GE174 := GW174; replace HB := bs_ w hb; clear hb hg; replace hc174 := ce6_ BK174) | ((with_reducible refine gate_callee (f := 32) rfl ?_); (try refine ug_ (by rfl) ?_); refine goesA_ (some 5) Try.func32 #[.agg #[.int .i64 a0_0, .int .i64 a0_1, .int .i64 a0_2]] ?_; (with_reducible refine (spigotref03_CheckLimit.calls a0_0 a0_1 a0_2 t175 _ A2.out).mono ?_); rintro e w22 ⟨rfl, hb⟩; refine ⟨_, rfl, ?_⟩; replace BK174 := bb_ BK174 hb; replace HB := bs_ w hb; clear hb; replace hc174 := ce6_ BK174))
      go_ret
      exact fi_
     ·rw [if_neg c19] at H
      have c19b0 : decide (a0_2 ≤ a0_4) = false := decide_eq_false c19
      clear c19
      by_cases c24 : a0_3 = a0_0
      ·rw [if_pos c24] at H
       have c24b0 : (a0_3 == a0_0) = true := beq_iff_eq.mpr c24
       have c24b1 : (a0_3 != a0_0) = false := bne_eq_false_iff_eq.mpr c24
       clear c24
       by_cases c25 : a0_4 = 0
       ·rw [if_pos c25] at H
        have c25b0 : (a0_4 == 0) = true := beq_iff_eq.mpr c25
        have c25b1 : (a0_4 != 0) = false := bne_eq_false_iff_eq.mpr c25
        clear c25
        obtain rfl := Option.some.inj H
        go_enter Try.func26, Try.ntmps26
        go_wp2_with (first | ((with_reducible refine gate_dst (N := 1) rfl ?_); (try refine ug_ (by rfl) ?_); refine bx_ #[.int .i64 a0_0, .int .i64 a0_1, .int .i64 a0_2, .int .i64 a0_3, .int .i64 a0_4, .int .u64 a0_5] 30 ?_; intro gb174 hg w26 BK174 hb; have GW174 := bz_ w hg; have GE174 := GW174; replace HB := bs_ w hb; clear hb hg; replace hc174 := ce6_ BK174) | ((with_reducible refine gate_callee (f := 32) rfl ?_); (try refine ug_ (by rfl) ?_); refine goesA_ (some 5) Try.func32 #[.agg #[.int .i64 a0_0, .int .i64 a0_1, .int .i64 a0_2]] ?_; (with_reducible refine (spigotref03_CheckLimit.calls a0_0 a0_1 a0_2 t175 _ A2.out).mono ?_); rintro e w28 ⟨rfl, hb⟩; refine ⟨_, rfl, ?_⟩; replace BK174 := bb_ BK174 hb; replace HB := bs_ w hb; clear hb; replace hc174 := ce6_ BK174))
        go_ret
        exact fi_
       ·rw [if_neg c25] at H
        have c25b0 : (a0_4 == 0) = false := beq_eq_false_iff_ne.mpr c25
        have c25b1 : (a0_4 != 0) = true := bne_iff_ne.mpr c25
        obtain rfl := Option.some.inj H
        go_enter Try.func26, Try.ntmps26
        go_wp2_with (first | ((with_reducible refine gate_dst (N := 1) rfl ?_); (try refine ug_ (by rfl) ?_); refine bx_ #[.int .i64 a0_0, .int .i64 a0_1, .int .i64 a0_2, .int .i64 a0_3, .int .i64 a0_4, .int .u64 a0_5] 30 ?_; intro gb174 hg w30 BK174 hb; have GW174 := bz_ w hg; have GE174 := GW174; replace HB := bs_ w hb; clear hb hg; replace hc174 := ce6_ BK174) | ((with_reducible refine gate_callee (f := 32) rfl ?_); (try refine ug_ (by rfl) ?_); refine goesA_ (some 5) Try.func32 #[.agg #[.int .i64 a0_0, .int .i64 a0_1, .int .i64 a0_2]] ?_; (with_reducible refine (spigotref03_CheckLimit.calls a0_0 a0_1 a0_2 t175 _ A2.out).mono ?_); rintro e w32 ⟨rfl, hb⟩; refine ⟨_, rfl, ?_⟩; replace BK174 := bb_ BK174 hb; replace HB := bs_ w hb; clear hb; replace hc174 := ce6_ BK174))
        go_ret
        exact fi_
      ·rw [if_neg c24] at H
       have c24b0 : (a0_3 == a0_0) = false := beq_eq_false_iff_ne.mpr c24
       have c24b1 : (a0_3 != a0_0) = true := bne_iff_ne.mpr c24
       obtain rfl := Option.some.inj H
       go_enter Try.func26, Try.ntmps26
       go_wp2_with (first | ((with_reducible refine gate_dst (N := 1) rfl ?_); (try refine ug_ (by rfl) ?_); refine bx_ #[.int .i64 a0_0, .int .i64 a0_1, .int .i64 a0_2, .int .i64 a0_3, .int .i64 a0_4, .int .u64 a0_5] 30 ?_; intro gb174 hg w34 BK174 hb; have GW174 := bz_ w hg; have GE174 := GW174; replace HB := bs_ w hb; clear hb hg; replace hc174 := ce6_ BK174) | ((with_reducible refine gate_callee (f := 32) rfl ?_); (try refine ug_ (by rfl) ?_); refine goesA_ (some 5) Try.func32 #[.agg #[.int .i64 a0_0, .int .i64 a0_1, .int .i64 a0_2]] ?_; (with_reducible refine (spigotref03_CheckLimit.calls a0_0 a0_1 a0_2 t175 _ A2.out).mono ?_); rintro e w36 ⟨rfl, hb⟩; refine ⟨_, rfl, ?_⟩; replace BK174 := bb_ BK174 hb; replace HB := bs_ w hb; clear hb; replace hc174 := ce6_ BK174))
       go_ret
       exact fi_
 ·rw [if_neg c3] at H
  have c3b0 : (t175 == 0) = false := beq_eq_false_iff_ne.mpr c3
  have c3b1 : (t175 != 0) = true := bne_iff_ne.mpr c3
  obtain rfl := Option.some.inj H
  go_enter Try.func26, Try.ntmps26
  go_wp2_with (first | ((with_reducible refine gate_dst (N := 1) rfl ?_); (try refine ug_ (by rfl) ?_); refine bx_ #[.int .i64 a0_0, .int .i64 a0_1, .int .i64 a0_2, .int .i64 a0_3, .int .i64 a0_4, .int .u64 a0_5] 30 ?_; intro gb174 hg w38 BK174 hb; have GW174 := bz_ w hg; have GE174 := GW174; replace HB := bs_ w hb; clear hb hg; replace hc174 := ce6_ BK174) | ((with_reducible refine gate_callee (f := 32) rfl ?_); (try refine ug_ (by rfl) ?_); refine goesA_ (some 5) Try.func32 #[.agg #[.int .i64 a0_0, .int .i64 a0_1, .int .i64 a0_2]] ?_; (with_reducible refine (spigotref03_CheckLimit.calls a0_0 a0_1 a0_2 t175 _ A2.out).mono ?_); rintro e w40 ⟨rfl, hb⟩; refine ⟨_, rfl, ?_⟩; replace BK174 := bb_ BK174 hb; replace HB := bs_ w hb; clear hb))
  go_ret
  exact fi_

/-! ### spigotref01_Add: function 58 -/
def spigotref01_Add.f (a0_0 : Int) (a0_1 : Int) (a1_0 : Int) (a1_1 : Int) : Option (Int × Int × Int) := if a1_1 > (IntKind.u64.wrap (18446744073709551615 - a0_1)) then (if a1_0 > (IntKind.u64.wrap (18446744073709551615 - a0_0)) then (some (0, 0, 16)) else (if (IntKind.u64.wrap (a0_0 + a1_0)) = 18446744073709551615 then (some (0, 0, 16)) else (some (IntKind.u64.wrap ((IntKind.u64.wrap (a0_0 + a1_0)) + 1), IntKind.u64.wrap (a0_1 + a1_1), 0)))) else (if a1_0 > (IntKind.u64.wrap (18446744073709551615 - a0_0)) then (some (0, 0, 16)) else (some (IntKind.u64.wrap (IntKind.u64.wrap (a0_0 + a1_0)), IntKind.u64.wrap (a0_1 + a1_1), 0)))
set_option maxHeartbeats 8000000 in
set_option maxRecDepth 100000 in
theorem spigotref01_Add.calls (a0_0 : Int) (a0_1 : Int) (a1_0 : Int) (a1_1 : Int) (r1 : Int) (r2 : Int) (r3 : Int) (w : World) (h : spigotref01_Add.f a0_0 a0_1 a1_0 a1_1 = some (r1, r2, r3)) :
  Calls Try.prog 58 #[.agg #[.int .u64 a0_0, .int .u64 a0_1], .agg #[.int .u64 a1_0, .int .u64 a1_1]] w fun e w' => e = .returned (.tuple #[.agg #[.int .u64 r1, .int .u64 r2], .int .i64 r3]) ∧ Below w.heap.size w w' := by
 have hu26 := Try.underlying26
 have HB := Aside0.mk (Below.refl w.heap.size w)
 have H : (if a1_1 > (IntKind.u64.wrap (18446744073709551615 - a0_1)) then (if a1_0 > (IntKind.u64.wrap (18446744073709551615 - a0_0)) then (some (0, 0, 16)) else (if (IntKind.u64.wrap (a0_0 + a1_0)) = 18446744073709551615 then (some (0, 0, 16)) else (some (IntKind.u64.wrap ((IntKind.u64.wrap (a0_0 + a1_0)) + 1), IntKind.u64.wrap (a0_1 + a1_1), 0)))) else (if a1_0 > (IntKind.u64.wrap (18446744073709551615 - a0_0)) then (some (0, 0, 16)) else (some (IntKind.u64.wrap (IntKind.u64.wrap (a0_0 + a1_0)), IntKind.u64.wrap (a0_1 + a1_1), 0)))) = some (r1, r2, r3) := h
 clear h
 by_cases c3 : a1_1 > (IntKind.u64.wrap (18446744073709551615 - a0_1))
 ·rw [if_pos c3] at H
  have c3b0 : decide ((IntKind.u64.wrap (18446744073709551615 - a0_1)) < a1_1) = true := decide_eq_true c3
  clear c3
  by_cases c4 : a1_0 > (IntKind.u64.wrap (18446744073709551615 - a0_0))
  ·rw [if_pos c4] at H
   have c4b0 : decide ((IntKind.u64.wrap (18446744073709551615 - a0_0)) < a1_0) = true := decide_eq_true c4
   clear c4
   simp only [Option.some.injEq, Prod.mk.injEq] at H
   obtain ⟨rfl, rfl, rfl⟩ := H
   go_enter Try.func58, Try.ntmps58
   go_wp2_with (first | ((with_reducible refine gate_dst (N := 2) rfl ?_); (try refine ug_ (by rfl) ?_); refine bx_ #[.int .u64 a0_0, .int .u64 a0_1] 26 ?_; intro gb176 hg w5 BK176 hb; have GW176 := bz_ w hg; have GE176 := GW176; replace HB := bs_ w hb; clear hb hg) | ((with_reducible refine gate_dst (N := 3) rfl ?_); (try refine ug_ (by rfl) ?_); refine bx_ #[.int .u64 a1_0, .int .u64 a1_1] 26 ?_; intro gb177 hg w6 BK177 hb; have GW177 := bz_ w hg; have GE177 := GW177; have NB176_177 := bn_ BK176 hg; have NB177_176 := bm_ BK176 hg; replace BK176 := bb_ BK176 hb; replace HB := bs_ w hb; clear hb hg) | ((with_reducible refine gate_dst (N := 4) rfl ?_); (try refine ug_ (by rfl) ?_); refine bx_ #[.int .u64 0, .int .u64 0] 26 ?_; intro gb178 hg w7 BK178 hb; have GW178 := bz_ w hg; have GE178 := GW178; have NB176_178 := bn_ BK176 hg; have NB178_176 := bm_ BK176 hg; have NB177_178 := bn_ BK177 hg; have NB178_177 := bm_ BK177 hg; replace BK176 := bb_ BK176 hb; replace BK177 := bb_ BK177 hb; replace HB := bs_ w hb; clear hb hg; replace hn177_176 := NB177_176.out; replace hn176_177 := NB176_177.out; replace hn177_178 := NB177_178.out; replace hn178_177 := NB178_177.out; replace hc177 := ce2_ BK177; replace hn176_178 := NB176_178.out; replace hn178_176 := NB178_176.out; replace hc176 := ce2_ BK176; replace hc178 := ce2_ BK178))
   refine bodyPost_ret (results_ct rfl _ _ gb178 26 #[.int .u64 0, .int .u64 0] (0, 0) _ rfl (bp2_ (bq_ BK178)) Try.underlying26 rfl (by kernel_rfl)) rfl ?_
   exact fi_
  ·rw [if_neg c4] at H
   have c4b0 : decide ((IntKind.u64.wrap (18446744073709551615 - a0_0)) < a1_0) = false := decide_eq_false c4
   clear c4
   by_cases c14 : (IntKind.u64.wrap (a0_0 + a1_0)) = 18446744073709551615
   ·rw [if_pos c14] at H
    have c14b0 : ((IntKind.u64.wrap (a0_0 + a1_0)) == 18446744073709551615) = true := beq_iff_eq.mpr c14
    have c14b1 : ((IntKind.u64.wrap (a0_0 + a1_0)) != 18446744073709551615) = false := bne_eq_false_iff_eq.mpr c14
    clear c14
    simp only [Option.some.injEq, Prod.mk.injEq] at H
    obtain ⟨rfl, rfl, rfl⟩ := H
    go_enter Try.func58, Try.ntmps58
    go_wp2_with (first | ((with_reducible refine gate_dst (N := 2) rfl ?_); (try refine ug_ (by rfl) ?_); refine bx_ #[.int .u64 a0_0, .int .u64 a0_1] 26 ?_; intro gb176 hg w15 BK176 hb; have GW176 := bz_ w hg; have GE176 := GW176; replace HB := bs_ w hb; clear hb hg) | ((with_reducible refine gate_dst (N := 3) rfl ?_); (try refine ug_ (by rfl) ?_); refine bx_ #[.int .u64 a1_0, .int .u64 a1_1] 26 ?_; intro gb177 hg w16 BK177 hb; have GW177 := bz_ w hg; have GE177 := GW177; have NB176_177 := bn_ BK176 hg; have NB177_176 := bm_ BK176 hg; replace BK176 := bb_ BK176 hb; replace HB := bs_ w hb; clear hb hg) | ((with_reducible refine gate_dst (N := 4) rfl ?_); (try refine ug_ (by rfl) ?_); refine bx_ #[.int .u64 0, .int .u64 0] 26 ?_; intro gb178 hg w17 BK178 hb; have GW178 := bz_ w hg; have GE178 := GW178; have NB176_178 := bn_ BK176 hg; have NB178_176 := bm_ BK176 hg; have NB177_178 := bn_ BK177 hg; have NB178_177 := bm_ BK177 hg; replace BK176 := bb_ BK176 hb; replace BK177 := bb_ BK177 hb; replace HB := bs_ w hb; clear hb hg; replace hn177_176 := NB177_176.out; replace hn176_177 := NB176_177.out; replace hn177_178 := NB177_178.out; replace hn178_177 := NB178_177.out; replace hc177 := ce2_ BK177; replace hn176_178 := NB176_178.out; replace hn178_176 := NB178_176.out; replace hc176 := ce2_ BK176; replace hc178 := ce2_ BK178))
    refine bodyPost_ret (results_ct rfl _ _ gb178 26 #[.int .u64 0, .int .u64 0] (0, 0) _ rfl (bp2_ (bq_ BK178)) Try.underlying26 rfl (by kernel_rfl)) rfl ?_
    exact fi_
   ·rw [if_neg c14] at H
    have c14b0 : ((IntKind.u64.wrap (a0_0 + a1_0)) == 18446744073709551615) = false := beq_eq_false_iff_ne.mpr c14
    have c14b1 : ((IntKind.u64.wrap (a0_0 + a1_0)) != 18446744073709551615) = true := bne_iff_ne.mpr c14
    simp only [Option.some.injEq, Prod.mk.injEq] at H
    obtain ⟨rfl, rfl, rfl⟩ := H
    go_enter Try.func58, Try.ntmps58
    go_wp2_with (first | ((with_reducible refine gate_dst (N := 2) rfl ?_); (try refine ug_ (by rfl) ?_); refine bx_ #[.int .u64 a0_0, .int .u64 a0_1] 26 ?_; intro gb176 hg w24 BK176 hb; have GW176 := bz_ w hg; have GE176 := GW176; replace HB := bs_ w hb; clear hb hg) | ((with_reducible refine gate_dst (N := 3) rfl ?_); (try refine ug_ (by rfl) ?_); refine bx_ #[.int .u64 a1_0, .int .u64 a1_1] 26 ?_; intro gb177 hg w25 BK177 hb; have GW177 := bz_ w hg; have GE177 := GW177; have NB176_177 := bn_ BK176 hg; have NB177_176 := bm_ BK176 hg; replace BK176 := bb_ BK176 hb; replace HB := bs_ w hb; clear hb hg) | ((with_reducible refine gate_dst (N := 4) rfl ?_); (try refine ug_ (by rfl) ?_); refine bx_ #[.int .u64 0, .int .u64 0] 26 ?_; intro gb178 hg w26 BK178 hb; have GW178 := bz_ w hg; have GE178 := GW178; have NB176_178 := bn_ BK176 hg; have NB178_176 := bm_ BK176 hg; have NB177_178 := bn_ BK177 hg; have NB178_177 := bm_ BK177 hg; replace BK176 := bb_ BK176 hb; replace BK177 := bb_ BK177 hb; replace HB := bs_ w hb; clear hb hg; replace hn177_176 := NB177_176.out; replace hn176_177 := NB176_177.out; replace hn177_178 := NB177_178.out; replace hn178_177 := NB178_177.out; replace hc177 := ce2_ BK177; replace hn176_178 := NB176_178.out; replace hn178_176 := NB178_176.out; replace hc176 := ce2_ BK176; replace hc178 := ce2_ BK178))
    refine bodyPost_ret (results_ct rfl _ _ gb178 26 #[.int .u64 (IntKind.u64.wrap ((IntKind.u64.wrap (a0_0 + a1_0)) + 1)), .int .u64 (IntKind.u64.wrap (a0_1 + a1_1))] (0, 0) _ rfl (bp2_ (bq_ BK178)) Try.underlying26 rfl (by kernel_rfl)) rfl ?_
    exact fi_
 ·rw [if_neg c3] at H
  have c3b0 : decide ((IntKind.u64.wrap (18446744073709551615 - a0_1)) < a1_1) = false := decide_eq_false c3
  clear c3
  by_cases c33 : a1_0 > (IntKind.u64.wrap (18446744073709551615 - a0_0))
  ·rw [if_pos c33] at H
   have c33b0 : decide ((IntKind.u64.wrap (18446744073709551615 - a0_0)) < a1_0) = true := decide_eq_true c33
   clear c33
   simp only [Option.some.injEq, Prod.mk.injEq] at H
   obtain ⟨rfl, rfl, rfl⟩ := H
   go_enter Try.func58, Try.ntmps58
   go_wp2_with (first | ((with_reducible refine gate_dst (N := 2) rfl ?_); (try refine ug_ (by rfl) ?_); refine bx_ #[.int .u64 a0_0, .int .u64 a0_1] 26 ?_; intro gb176 hg w34 BK176 hb; have GW176 := bz_ w hg; have GE176 := GW176; replace HB := bs_ w hb; clear hb hg) | ((with_reducible refine gate_dst (N := 3) rfl ?_); (try refine ug_ (by rfl) ?_); refine bx_ #[.int .u64 a1_0, .int .u64 a1_1] 26 ?_; intro gb177 hg w35 BK177 hb; have GW177 := bz_ w hg; have GE177 := GW177; have NB176_177 := bn_ BK176 hg; have NB177_176 := bm_ BK176 hg; replace BK176 := bb_ BK176 hb; replace HB := bs_ w hb; clear hb hg) | ((with_reducible refine gate_dst (N := 4) rfl ?_); (try refine ug_ (by rfl) ?_); refine bx_ #[.int .u64 0, .int .u64 0] 26 ?_; intro gb178 hg w36 BK178 hb; have GW178 := bz_ w hg; have GE178 := GW178; have NB176_178 := bn_ BK176 hg; have NB178_176 := bm_ BK176 hg; have NB177_178 := bn_ BK177 hg; have NB178_177 := bm_ BK177 hg; replace BK176 := bb_ BK176 hb; replace BK177 := bb_ BK177 hb; replace HB := bs_ w hb; clear hb hg; replace hn177_176 := NB177_176.out; replace hn176_177 := NB176_177.out; replace hn177_178 := NB177_178.out; replace hn178_177 := NB178_177.out; replace hc177 := ce2_ BK177; replace hn176_178 := NB176_178.out; replace hn178_176 := NB178_176.out; replace hc176 := ce2_ BK176; replace hc178 := ce2_ BK178))
   refine bodyPost_ret (results_ct rfl _ _ gb178 26 #[.int .u64 0, .int .u64 0] (0, 0) _ rfl (bp2_ (bq_ BK178)) Try.underlying26 rfl (by kernel_rfl)) rfl ?_
   exact fi_
  ·rw [if_neg c33] at H
   have c33b0 : decide ((IntKind.u64.wrap (18446744073709551615 - a0_0)) < a1_0) = false := decide_eq_false c33
   clear c33
   simp only [Option.some.injEq, Prod.mk.injEq] at H
   obtain ⟨rfl, rfl, rfl⟩ := H
   go_enter Try.func58, Try.ntmps58
   go_wp2_with (first | ((with_reducible refine gate_dst (N := 2) rfl ?_); (try refine ug_ (by rfl) ?_); refine bx_ #[.int .u64 a0_0, .int .u64 a0_1] 26 ?_; intro gb176 hg w43 BK176 hb; have GW176 := bz_ w hg; have GE176 := GW176; replace HB := bs_ w hb; clear hb hg) | ((with_reducible refine gate_dst (N := 3) rfl ?_); (try refine ug_ (by rfl) ?_); refine bx_ #[.int .u64 a1_0, .int .u64 a1_1] 26 ?_; intro gb177 hg w44 BK177 hb; have GW177 := bz_ w hg; have GE177 := GW177; have NB176_177 := bn_ BK176 hg; have NB177_176 := bm_ BK176 hg; replace BK176 := bb_ BK176 hb; replace HB := bs_ w hb; clear hb hg) | ((with_reducible refine gate_dst (N := 4) rfl ?_); (try refine ug_ (by rfl) ?_); refine bx_ #[.int .u64 0, .int .u64 0] 26 ?_; intro gb178 hg w45 BK178 hb; have GW178 := bz_ w hg; have GE178 := GW178; have NB176_178 := bn_ BK176 hg; have NB178_176 := bm_ BK176 hg; have NB177_178 := bn_ BK177 hg; have NB178_177 := bm_ BK177 hg; replace BK176 := bb_ BK176 hb; replace BK177 := bb_ BK177 hb; replace HB := bs_ w hb; clear hb hg; replace hn177_176 := NB177_176.out; replace hn176_177 := NB176_177.out; replace hn177_178 := NB177_178.out; replace hn178_177 := NB178_177.out; replace hc177 := ce2_ BK177; replace hn176_178 := NB176_178.out; replace hn178_176 := NB178_176.out; replace hc176 := ce2_ BK176; replace hc178 := ce2_ BK178))
   refine bodyPost_ret (results_ct rfl _ _ gb178 26 #[.int .u64 (IntKind.u64.wrap (IntKind.u64.wrap (a0_0 + a1_0))), .int .u64 (IntKind.u64.wrap (a0_1 + a1_1))] (0, 0) _ rfl (bp2_ (bq_ BK178)) Try.underlying26 rfl (by kernel_rfl)) rfl ?_
   exact fi_

/-! ### spigotref37_sum: function 39 -/
def spigotref37_sum.f (a0_0 : Int) (a0_1 : Int) (a1_0 : Int) (a1_1 : Int) : Option (Int × Int) := (spigotref01_Add.f a0_0 a0_1 a1_0 a1_1).bind fun bt182 => (some (bt182.1, bt182.2.1))
set_option maxHeartbeats 8000000 in
set_option maxRecDepth 100000 in
theorem spigotref37_sum.calls (a0_0 : Int) (a0_1 : Int) (a1_0 : Int) (a1_1 : Int) (r1 : Int) (r2 : Int) (w : World) (h : spigotref37_sum.f a0_0 a0_1 a1_0 a1_1 = some (r1, r2)) :
  Calls Try.prog 39 #[.agg #[.int .u64 a0_0, .int .u64 a0_1], .agg #[.int .u64 a1_0, .int .u64 a1_1]] w fun e w' => e = .returned (.agg #[.int .u64 r1, .int .u64 r2]) ∧ Below w.heap.size w w' := by
 have hu26 := Try.underlying26
 have HB := Aside0.mk (Below.refl w.heap.size w)
 have H : ((spigotref01_Add.f a0_0 a0_1 a1_0 a1_1).bind fun bt182 => (some (bt182.1, bt182.2.1))) = some (r1, r2) := h
 clear h
 have H0_ := bo_ H; clear H; obtain ⟨⟨t182, t183, t184⟩, A3, H⟩ := H0_
 replace H : (some (t182, t183)) = some (r1, r2) := H
 simp only [Option.some.injEq, Prod.mk.injEq] at H
 obtain ⟨rfl, rfl⟩ := H
 go_enter Try.func39, Try.ntmps39
 go_wp2_with (first | ((with_reducible refine gate_dst (N := 2) rfl ?_); refine bx_ #[.int .u64 a0_0, .int .u64 a0_1] 26 ?_; intro gb179 hg w4 BK179 hb; have GW179 := bz_ w hg; replace HB := bs_ w hb; clear hb hg) | ((with_reducible refine gate_dst (N := 3) rfl ?_); refine bx_ #[.int .u64 a1_0, .int .u64 a1_1] 26 ?_; intro gb180 hg w5 BK180 hb; have GW180 := bz_ w hg; have NB179_180 := bn_ BK179 hg; have NB180_179 := bm_ BK179 hg; replace BK179 := bb_ BK179 hb; replace HB := bs_ w hb; clear hb hg) | ((with_reducible refine gate_dst (N := 4) rfl ?_); refine bx_ #[.int .u64 0, .int .u64 0] 26 ?_; intro gb181 hg w6 BK181 hb; have GW181 := bz_ w hg; have NB179_181 := bn_ BK179 hg; have NB181_179 := bm_ BK179 hg; have NB180_181 := bn_ BK180 hg; have NB181_180 := bm_ BK180 hg; replace BK179 := bb_ BK179 hb; replace BK180 := bb_ BK180 hb; replace HB := bs_ w hb; clear hb hg; replace hn179_180 := NB179_180.out; replace hn180_179 := NB180_179.out; replace hn179_181 := NB179_181.out; replace hn181_179 := NB181_179.out; replace hc179 := ce2_ BK179; replace hn180_181 := NB180_181.out; replace hn181_180 := NB181_180.out; replace hc180 := ce2_ BK180) | ((with_reducible refine gate_callee (f := 58) rfl ?_); refine goesA_ (some 10) Try.func58 #[.agg #[.int .u64 a0_0, .int .u64 a0_1], .agg #[.int .u64 a1_0, .int .u64 a1_1]] ?_; (with_reducible refine (spigotref01_Add.calls a0_0 a0_1 a1_0 a1_1 t182 t183 t184 _ A3.out).mono ?_); rintro e w12 ⟨rfl, hb⟩; refine ⟨_, rfl, ?_⟩; replace BK179 := bb_ BK179 hb; replace BK180 := bb_ BK180 hb; replace BK181 := bb_ BK181 hb; replace HB := bs_ w hb; clear hb) | ((with_reducible refine gate_dst (N := 5) rfl ?_); refine bx_ #[.int .u64 0, .int .u64 0] 26 ?_; intro gb185 hg w13 BK185 hb; have GW185 := bz_ w hg; have NB179_185 := bn_ BK179 hg; have NB185_179 := bm_ BK179 hg; have NB180_185 := bn_ BK180 hg; have NB185_180 := bm_ BK180 hg; have NB181_185 := bn_ BK181 hg; have NB185_181 := bm_ BK181 hg; replace BK179 := bb_ BK179 hb; replace BK180 := bb_ BK180 hb; replace BK181 := bb_ BK181 hb; replace HB := bs_ w hb; clear hb hg; replace hn185_179 := NB185_179.out; replace hn179_185 := NB179_185.out; replace hn185_180 := NB185_180.out; replace hn180_185 := NB180_185.out; replace hn185_181 := NB185_181.out; replace hn181_185 := NB181_185.out; replace hc185 := ce2_ BK185; replace hc181 := ce2_ BK181))
 refine bodyPost_ret (results_cell_row rfl _ _ gb181 26 #[.int .u64 t182, .int .u64 t183] (0, 0) _ rfl (blk_put (cs := #[.int .u64 t182, .int .u64 0]) (blk_put (cs := #[.int .u64 0, .int .u64 0]) (bt_ BK181) 0 _ rfl) 1 _ rfl) Try.underlying26 rfl (by kernel_rfl)) rfl ?_
 exact fi_

/-! ### spigotref37_tokens: function 40 -/
def spigotref37_tokens.f (a0_0 : Int) (a0_1 : Int) (a0_2 : Int) (a1 : Int) : Option (Int × Int) := (spigotref01_Mul.f (IntKind.u64.wrap (a1)) (IntKind.u64.wrap (a0_2))).bind fun bt188 => (some (bt188.1, bt188.2))
set_option maxHeartbeats 8000000 in
set_option maxRecDepth 100000 in
theorem spigotref37_tokens.calls (a0_0 : Int) (a0_1 : Int) (a0_2 : Int) (a1 : Int) (r1 : Int) (r2 : Int) (w : World) (h : spigotref37_tokens.f a0_0 a0_1 a0_2 a1 = some (r1, r2)) :
  Calls Try.prog 40 #[.agg #[.int .i64 a0_0, .int .i64 a0_1, .int .i64 a0_2], .int .i64 a1] w fun e w' => e = .returned (.agg #[.int .u64 r1, .int .u64 r2]) ∧ Below w.heap.size w w' := by
 have hu23 := Try.underlying23
 have hu26 := Try.underlying26
 have HB := Aside0.mk (Below.refl w.heap.size w)
 have H : ((spigotref01_Mul.f (IntKind.u64.wrap (a1)) (IntKind.u64.wrap (a0_2))).bind fun bt188 => (some (bt188.1, bt188.2))) = some (r1, r2) := h
 clear h
 have H0_ := bo_ H; clear H; obtain ⟨⟨t188, t189⟩, A3, H⟩ := H0_
 replace H : (some (t188, t189)) = some (r1, r2) := H
 simp only [Option.some.injEq, Prod.mk.injEq] at H
 obtain ⟨rfl, rfl⟩ := H
 go_enter Try.func40, Try.ntmps40
 go_wp2_with (first | ((with_reducible refine gate_dst (N := 2) rfl ?_); refine bx_ #[.int .i64 a0_0, .int .i64 a0_1, .int .i64 a0_2] 23 ?_; intro gb186 hg w4 BK186 hb; have GW186 := bz_ w hg; replace HB := bs_ w hb; clear hb hg) | ((with_reducible refine gate_dst (N := 4) rfl ?_); refine bx_ #[.int .u64 0, .int .u64 0] 26 ?_; intro gb187 hg w5 BK187 hb; have GW187 := bz_ w hg; have NB186_187 := bn_ BK186 hg; have NB187_186 := bm_ BK186 hg; replace BK186 := bb_ BK186 hb; replace HB := bs_ w hb; clear hb hg; replace hn186_187 := NB186_187.out; replace hn187_186 := NB187_186.out; replace hc186 := ce3_ BK186) | ((with_reducible refine gate_callee (f := 56) rfl ?_); refine goesA_ (some 10) Try.func56 #[.int .u64 (IntKind.u64.wrap (a1)), .int .u64 (IntKind.u64.wrap (a0_2))] ?_; (with_reducible refine (spigotref01_Mul.calls (IntKind.u64.wrap (a1)) (IntKind.u64.wrap (a0_2)) t188 t189 _ A3.out).mono ?_); rintro e w8 ⟨rfl, hb⟩; refine ⟨_, rfl, ?_⟩; replace BK186 := bb_ BK186 hb; replace BK187 := bb_ BK187 hb; replace HB := bs_ w hb; clear hb; replace hc187 := ce2_ BK187))
 refine bodyPost_ret (results_cell_row rfl _ _ gb187 26 #[.int .u64 t188, .int .u64 t189] (0, 0) _ rfl (bp2_ (bq_ BK187)) Try.underlying26 rfl (by kernel_rfl)) rfl ?_
 exact fi_

end Go.Proofs.Ytnijohomnajngaa.X
