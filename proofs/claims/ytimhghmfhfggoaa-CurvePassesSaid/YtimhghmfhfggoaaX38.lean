-- written by xprint.py, a program of this session over the kit's print
import Derived.Test.YtimhghmfhfggoaaX0
import Derived.Test.YtimhghmfhfggoaaX10
namespace Go.Proofs.Ytimhghmfhfggoaa.X
open Go.RowKit Go.Proofs.YtimhghmfhfggoaaW.PrintWords Go.Proofs.YtimhghmfhfggoaaW.PrintLast Go.Proofs.YtimhghmfhfggoaaW.PrintMore
attribute [local go_sem] max2_int min2_int max_two min_two max_three min_three max_four min_four   -- for this text's walks alone
set_option linter.unusedVariables false
set_option linter.unusedSimpArgs false

def spigotref03_Full.f (a0_0 : Int) (a0_1 : Int) (a0_2 : Int) (a1 : Int) : Option (Int × Int × Int × Int × Int × Int × Int) := (spigotref03_CheckLimit.f a0_0 a0_1 a0_2).bind fun t434 => (if t434 = 0 then (some (a0_0, a0_1, a0_2, a0_0, 0, a1, 0)) else ((spigotref03_CheckLimit.f a0_0 a0_1 a0_2).bind fun t435 => (some (0, 0, 0, 0, 0, 0, t435))))
set_option maxHeartbeats 8000000 in
set_option maxRecDepth 100000 in
theorem spigotref03_Full.calls (a0_0 : Int) (a0_1 : Int) (a0_2 : Int) (a1 : Int) (r1 : Int) (r2 : Int) (r3 : Int) (r4 : Int) (r5 : Int) (r6 : Int) (r7 : Int) (w : World) (h : spigotref03_Full.f a0_0 a0_1 a0_2 a1 = some (r1, r2, r3, r4, r5, r6, r7)) :
  Calls Try.prog 43 #[.agg #[.int .i64 a0_0, .int .i64 a0_1, .int .i64 a0_2], .int .u64 a1] w fun e w' => e = .returned (.tuple #[.agg #[.int .i64 r1, .int .i64 r2, .int .i64 r3, .int .i64 r4, .int .i64 r5, .int .u64 r6], .int .i64 r7]) ∧ Below w.heap.size w w' := by
 have hu49 := Try.underlying49
 have hu51 := Try.underlying51
 have HB := Aside0.mk (Below.refl w.heap.size w)
 have H : ((spigotref03_CheckLimit.f a0_0 a0_1 a0_2).bind fun t434 => (if t434 = 0 then (some (a0_0, a0_1, a0_2, a0_0, 0, a1, 0)) else ((spigotref03_CheckLimit.f a0_0 a0_1 a0_2).bind fun t435 => (some (0, 0, 0, 0, 0, 0, t435))))) = some (r1, r2, r3, r4, r5, r6, r7) := h
 clear h
 have H0_ := bo_ H; clear H; obtain ⟨t434, A3, H⟩ := H0_
 try dsimp only at H
 by_cases c4 : t434 = 0
 ·rw [if_pos c4] at H
  have c4b0 : (t434 == 0) = true := beq_iff_eq.mpr c4
  have c4b1 : (t434 != 0) = false := bne_eq_false_iff_eq.mpr c4
  clear c4
  simp only [Option.some.injEq, Prod.mk.injEq] at H
  obtain ⟨rfl, rfl, rfl, rfl, rfl, rfl, rfl⟩ := H
  go_enter Try.func43, Try.ntmps43
  go_wp2_with (first | ((with_reducible refine gate_dst (N := 2) rfl ?_); refine bx_ #[.int .i64 a0_0, .int .i64 a0_1, .int .i64 a0_2] 49 ?_; intro gb432 hg w5 BK432 hb; have GW432 := bz_ w hg; have GE432 := GW432; replace HB := bs_ w hb; clear hb hg) | ((with_reducible refine gate_dst (N := 4) rfl ?_); refine bx_ #[.int .i64 0, .int .i64 0, .int .i64 0, .int .i64 0, .int .i64 0, .int .u64 0] 51 ?_; intro gb433 hg w6 BK433 hb; have GW433 := bz_ w hg; have GE433 := GW433; have NB432_433 := bn_ BK432 hg; have NB433_432 := bm_ BK432 hg; replace BK432 := bb_ BK432 hb; replace HB := bs_ w hb; clear hb hg; replace hn432_433 := NB432_433.out; replace hn433_432 := NB433_432.out; replace hc432 := ce3_ BK432) | ((with_reducible refine gate_callee (f := 34) rfl ?_); refine goesA_ (some 7) Try.func34 #[.agg #[.int .i64 a0_0, .int .i64 a0_1, .int .i64 a0_2]] ?_; (with_reducible refine (spigotref03_CheckLimit.calls a0_0 a0_1 a0_2 t434 _ A3.out).mono ?_); rintro e w9 ⟨rfl, hb⟩; refine ⟨_, rfl, ?_⟩; replace BK432 := bb_ BK432 hb; replace BK433 := bb_ BK433 hb; replace HB := bs_ w hb; clear hb; replace hc432 := ce3_ BK432; replace hc433 := ce6_ BK433))
  refine bodyPost_ret (results_ct rfl _ _ gb433 51 #[.int .i64 a0_0, .int .i64 a0_1, .int .i64 a0_2, .int .i64 a0_0, .int .i64 0, .int .u64 a1] (0, 0) _ rfl (bp6_ (bq_ BK433)) Try.underlying51 rfl (by kernel_rfl)) rfl ?_
  exact fi_
 ·rw [if_neg c4] at H
  have c4b0 : (t434 == 0) = false := beq_eq_false_iff_ne.mpr c4
  have c4b1 : (t434 != 0) = true := bne_iff_ne.mpr c4
  have H0_ := bo_ H; clear H; obtain ⟨t435, A12, H⟩ := H0_
  replace H : (some (0, 0, 0, 0, 0, 0, t435)) = some (r1, r2, r3, r4, r5, r6, r7) := H
  simp only [Option.some.injEq, Prod.mk.injEq] at H
  obtain ⟨rfl, rfl, rfl, rfl, rfl, rfl, rfl⟩ := H
  go_enter Try.func43, Try.ntmps43
  go_wp2_with (first | ((with_reducible refine gate_dst (N := 2) rfl ?_); refine bx_ #[.int .i64 a0_0, .int .i64 a0_1, .int .i64 a0_2] 49 ?_; intro gb432 hg w13 BK432 hb; have GW432 := bz_ w hg; have GE432 := GW432; replace HB := bs_ w hb; clear hb hg) | ((with_reducible refine gate_dst (N := 4) rfl ?_); refine bx_ #[.int .i64 0, .int .i64 0, .int .i64 0, .int .i64 0, .int .i64 0, .int .u64 0] 51 ?_; intro gb433 hg w14 BK433 hb; have GW433 := bz_ w hg; have GE433 := GW433; have NB432_433 := bn_ BK432 hg; have NB433_432 := bm_ BK432 hg; replace BK432 := bb_ BK432 hb; replace HB := bs_ w hb; clear hb hg; replace hn432_433 := NB432_433.out; replace hn433_432 := NB433_432.out; replace hc432 := ce3_ BK432) | ((with_reducible refine gate_callee (f := 34) rfl ?_); refine goesA_ (some 7) Try.func34 #[.agg #[.int .i64 a0_0, .int .i64 a0_1, .int .i64 a0_2]] ?_; (with_reducible refine (spigotref03_CheckLimit.calls a0_0 a0_1 a0_2 t434 _ A3.out).mono ?_); rintro e w17 ⟨rfl, hb⟩; refine ⟨_, rfl, ?_⟩; replace BK432 := bb_ BK432 hb; replace BK433 := bb_ BK433 hb; replace HB := bs_ w hb; clear hb; replace hc432 := ce3_ BK432) | ((with_reducible refine gate_callee (f := 34) rfl ?_); refine goesA_ (some 11) Try.func34 #[.agg #[.int .i64 a0_0, .int .i64 a0_1, .int .i64 a0_2]] ?_; (with_reducible refine (spigotref03_CheckLimit.calls a0_0 a0_1 a0_2 t435 _ A12.out).mono ?_); rintro e w19 ⟨rfl, hb⟩; refine ⟨_, rfl, ?_⟩; replace BK432 := bb_ BK432 hb; replace BK433 := bb_ BK433 hb; replace HB := bs_ w hb; clear hb; replace hc433 := ce6_ BK433))
  refine bodyPost_ret (results_ct rfl _ _ gb433 51 #[.int .i64 0, .int .i64 0, .int .i64 0, .int .i64 0, .int .i64 0, .int .u64 0] (0, 0) _ rfl (bp6_ (bq_ BK433)) Try.underlying51 rfl (by kernel_rfl)) rfl ?_
  exact fi_

def spigotref03_Check.f (a0_0 : Int) (a0_1 : Int) (a0_2 : Int) (a0_3 : Int) (a0_4 : Int) (a0_5 : Int) : Option (Int) := (spigotref03_CheckLimit.f a0_0 a0_1 a0_2).bind fun t437 => (if t437 = 0 then (if a0_3 < 0 then (some 8) else (if a0_3 > a0_0 then (some 8) else (if a0_4 < 0 then (some 8) else (if a0_4 ≥ a0_2 then (some 8) else (if a0_3 = a0_0 then (if a0_4 = 0 then (some 0) else (some 8)) else (some 0)))))) else (some 8))
set_option maxHeartbeats 8000000 in
set_option maxRecDepth 100000 in
theorem spigotref03_Check.calls (a0_0 : Int) (a0_1 : Int) (a0_2 : Int) (a0_3 : Int) (a0_4 : Int) (a0_5 : Int) (r : Int) (w : World) (h : spigotref03_Check.f a0_0 a0_1 a0_2 a0_3 a0_4 a0_5 = some r) :
  Calls Try.prog 85 #[.agg #[.int .i64 a0_0, .int .i64 a0_1, .int .i64 a0_2, .int .i64 a0_3, .int .i64 a0_4, .int .u64 a0_5]] w fun e w' => e = .returned (.int .i64 r) ∧ Below w.heap.size w w' := by
 have hu51 := Try.underlying51
 have hu49 := Try.underlying49
 have HB := Aside0.mk (Below.refl w.heap.size w)
 have H : ((spigotref03_CheckLimit.f a0_0 a0_1 a0_2).bind fun t437 => (if t437 = 0 then (if a0_3 < 0 then (some 8) else (if a0_3 > a0_0 then (some 8) else (if a0_4 < 0 then (some 8) else (if a0_4 ≥ a0_2 then (some 8) else (if a0_3 = a0_0 then (if a0_4 = 0 then (some 0) else (some 8)) else (some 0)))))) else (some 8))) = some r := h
 clear h
 have H0_ := bo_ H; clear H; obtain ⟨t437, A2, H⟩ := H0_
 try dsimp only at H
 by_cases c3 : t437 = 0
 ·rw [if_pos c3] at H
  have c3b0 : (t437 == 0) = true := beq_iff_eq.mpr c3
  have c3b1 : (t437 != 0) = false := bne_eq_false_iff_eq.mpr c3
  clear c3
  by_cases c4 : a0_3 < 0
  ·rw [if_pos c4] at H
   have c4b0 : decide (a0_3 < 0) = true := decide_eq_true c4
   clear c4
   obtain rfl := Option.some.inj H
   go_enter Try.func85, Try.ntmps85
   go_wp2_with (first | ((with_reducible refine gate_dst (N := 1) rfl ?_); (try refine ug_ (by rfl) ?_); refine bx_ #[.int .i64 a0_0, .int .i64 a0_1, .int .i64 a0_2, .int .i64 a0_3, .int .i64 a0_4, .int .u64 a0_5] 51 ?_; intro gb436 hg w5 BK436 hb; have GW436 := bz_ w hg; have GE436 := GW436; replace HB := bs_ w hb; clear hb hg; replace hc436 := ce6_ BK436) | ((with_reducible refine gate_callee (f := 34) rfl ?_); (try refine ug_ (by rfl) ?_); refine goesA_ (some 5) Try.func34 #[.agg #[.int .i64 a0_0, .int .i64 a0_1, .int .i64 a0_2]] ?_; (with_reducible refine (spigotref03_CheckLimit.calls a0_0 a0_1 a0_2 t437 _ A2.out).mono ?_); rintro e w7 ⟨rfl, hb⟩; refine ⟨_, rfl, ?_⟩; replace BK436 := bb_ BK436 hb; replace HB := bs_ w hb; clear hb; replace hc436 := ce6_ BK436))
   go_ret
   exact fi_
  ·rw [if_neg c4] at H
   have c4b0 : decide (a0_3 < 0) = false := decide_eq_false c4
   clear c4
   by_cases c9 : a0_3 > a0_0
   ·rw [if_pos c9] at H
    have c9b0 : decide (a0_0 < a0_3) = true := decide_eq_true c9
    clear c9
    obtain rfl := Option.some.inj H
    go_enter Try.func85, Try.ntmps85
    go_wp2_with (first | ((with_reducible refine gate_dst (N := 1) rfl ?_); (try refine ug_ (by rfl) ?_); refine bx_ #[.int .i64 a0_0, .int .i64 a0_1, .int .i64 a0_2, .int .i64 a0_3, .int .i64 a0_4, .int .u64 a0_5] 51 ?_; intro gb436 hg w10 BK436 hb; have GW436 := bz_ w hg; have GE436 := GW436; replace HB := bs_ w hb; clear hb hg; replace hc436 := ce6_ BK436) | ((with_reducible refine gate_callee (f := 34) rfl ?_); (try refine ug_ (by rfl) ?_); refine goesA_ (some 5) Try.func34 #[.agg #[.int .i64 a0_0, .int .i64 a0_1, .int .i64 a0_2]] ?_; (with_reducible refine (spigotref03_CheckLimit.calls a0_0 a0_1 a0_2 t437 _ A2.out).mono ?_); rintro e w12 ⟨rfl, hb⟩; refine ⟨_, rfl, ?_⟩; replace BK436 := bb_ BK436 hb; replace HB := bs_ w hb; clear hb; replace hc436 := ce6_ BK436))
    go_ret
    exact fi_
   ·rw [if_neg c9] at H
    have c9b0 : decide (a0_0 < a0_3) = false := decide_eq_false c9
    clear c9
    by_cases c14 : a0_4 < 0
    ·rw [if_pos c14] at H
     have c14b0 : decide (a0_4 < 0) = true := decide_eq_true c14
     clear c14
     obtain rfl := Option.some.inj H
     go_enter Try.func85, Try.ntmps85
     go_wp2_with (first | ((with_reducible refine gate_dst (N := 1) rfl ?_); (try refine ug_ (by rfl) ?_); refine bx_ #[.int .i64 a0_0, .int .i64 a0_1, .int .i64 a0_2, .int .i64 a0_3, .int .i64 a0_4, .int .u64 a0_5] 51 ?_; intro gb436 hg w15 BK436 hb; have GW436 := bz_ w hg; have GE436 := GW436; replace HB := bs_ w hb; clear hb hg; replace hc436 := ce6_ BK436) | ((with_reducible refine gate_callee (f := 34) rfl ?_); (try refine ug_ (by rfl) ?_); refine goesA_ (some 5) Try.func34 #[.agg #[.int .i64 a0_0, .int .i64 a0_1, .int .i64 a0_2]] ?_; (with_reducible refine (spigotref03_CheckLimit.calls a0_0 a0_1 a0_2 t437 _ A2.out).mono ?_); rintro e w17 ⟨rfl, hb⟩; refine ⟨_, rfl, ?_⟩; replace BK436 := bb_ BK436 hb; replace HB := bs_ w hb; clear hb; replace hc436 := ce6_ BK436))
     go_ret
     exact fi_
    ·rw [if_neg c14] at H
     have c14b0 : decide (a0_4 < 0) = false := decide_eq_false c14
     clear c14
     by_cases c19 : a0_4 ≥ a0_2
     ·rw [if_pos c19] at H
      have c19b0 : decide (a0_2 ≤ a0_4) = true := decide_eq_true c19
      clear c19
      obtain rfl := Option.some.inj H
      go_enter Try.func85, Try.ntmps85
      go_wp2_with (first | ((with_reducible refine gate_dst (N := 1) rfl ?_); (try refine ug_ (by rfl) ?_); refine bx_ #[.int .i64 a0_0, .int .i64 a0_1, .int .i64 a0_2, .int .i64 a0_3, .int .i64 a0_4, .int .u64 a0_5] 51 ?_; intro gb436 hg w20 BK436 hb; have GW436 := bz_ w hg; have GE436 := GW436; replace HB := bs_ w hb; clear hb hg; replace hc436 := ce6_ BK436) | ((with_reducible refine gate_callee (f := 34) rfl ?_); (try refine ug_ (by rfl) ?_); refine goesA_ (some 5) Try.func34 #[.agg #[.int .i64 a0_0, .int .i64 a0_1, .int .i64 a0_2]] ?_; (with_reducible refine (spigotref03_CheckLimit.calls a0_0 a0_1 a0_2 t437 _ A2.out).mono ?_); rintro e w22 ⟨rfl, hb⟩; refine ⟨_, rfl, ?_⟩; replace BK436 := bb_ BK436 hb; replace HB := bs_ w hb; clear hb; replace hc436 := ce6_ BK436))
      go_ret
      exact fi_
     ·rw [if_neg c19] at H
      have c19b0 : decide (a0_2 ≤ a0_4) = false := decide_eq_false c19
      clear c19
      by_cases c24 : a0_3 = a0_0
      ·rw [if_pos c24] at H
       have c24b0 : (a0_3 == a0_0) = true := beq_iff_eq.mpr c24
       have c24b1 : (a0_3 != a0_0) = false := bne_eq_false_iff_eq.mpr c24
       clear c24
       by_cases c25 : a0_4 = 0
       ·rw [if_pos c25] at H
        have c25b0 : (a0_4 == 0) = true := beq_iff_eq.mpr c25
        have c25b1 : (a0_4 != 0) = false := bne_eq_false_iff_eq.mpr c25
        clear c25
        obtain rfl := Option.some.inj H
        go_enter Try.func85, Try.ntmps85
        go_wp2_with (first | ((with_reducible refine gate_dst (N := 1) rfl ?_); (try refine ug_ (by rfl) ?_); refine bx_ #[.int .i64 a0_0, .int .i64 a0_1, .int .i64 a0_2, .int .i64 a0_3, .int .i64 a0_4, .int .u64 a0_5] 51 ?_; intro gb436 hg w26 BK436 hb; have GW436 := bz_ w hg; have GE436 := GW436; replace HB := bs_ w hb; clear hb hg; replace hc436 := ce6_ BK436) | ((with_reducible refine gate_callee (f := 34) rfl ?_); (try refine ug_ (by rfl) ?_); refine goesA_ (some 5) Try.func34 #[.agg #[.int .i64 a0_0, .int .i64 a0_1, .int .i64 a0_2]] ?_; (with_reducible refine (spigotref03_CheckLimit.calls a0_0 a0_1 a0_2 t437 _ A2.out).mono ?_); rintro e w28 ⟨rfl, hb⟩; refine ⟨_, rfl, ?_⟩; replace BK436 := bb_ BK436 hb; replace HB := bs_ w hb; clear hb; replace hc436 := ce6_ BK436))
        go_ret
        exact fi_
       ·rw [if_neg c25] at H
        have c25b0 : (a0_4 == 0) = false := beq_eq_false_iff_ne.mpr c25
        have c25b1 : (a0_4 != 0) = true := bne_iff_ne.mpr c25
        obtain rfl := Option.some.inj H
        go_enter Try.func85, Try.ntmps85
        go_wp2_with (first | ((with_reducible refine gate_dst (N := 1) rfl ?_); (try refine ug_ (by rfl) ?_); refine bx_ #[.int .i64 a0_0, .int .i64 a0_1, .int .i64 a0_2, .int .i64 a0_3, .int .i64 a0_4, .int .u64 a0_5] 51 ?_; intro gb436 hg w30 BK436 hb; have GW436 := bz_ w hg; have GE436 := GW436; replace HB := bs_ w hb; clear hb hg; replace hc436 := ce6_ BK436) | ((with_reducible refine gate_callee (f := 34) rfl ?_); (try refine ug_ (by rfl) ?_); refine goesA_ (some 5) Try.func34 #[.agg #[.int .i64 a0_0, .int .i64 a0_1, .int .i64 a0_2]] ?_; (with_reducible refine (spigotref03_CheckLimit.calls a0_0 a0_1 a0_2 t437 _ A2.out).mono ?_); rintro e w32 ⟨rfl, hb⟩; refine ⟨_, rfl, ?_⟩; replace BK436 := bb_ BK436 hb; replace HB := bs_ w hb; clear hb; replace hc436 := ce6_ BK436))
        go_ret
        exact fi_
      ·rw [if_neg c24] at H
       have c24b0 : (a0_3 == a0_0) = false := beq_eq_false_iff_ne.mpr c24
       have c24b1 : (a0_3 != a0_0) = true := bne_iff_ne.mpr c24
       obtain rfl := Option.some.inj H
       go_enter Try.func85, Try.ntmps85
       go_wp2_with (first | ((with_reducible refine gate_dst (N := 1) rfl ?_); (try refine ug_ (by rfl) ?_); refine bx_ #[.int .i64 a0_0, .int .i64 a0_1, .int .i64 a0_2, .int .i64 a0_3, .int .i64 a0_4, .int .u64 a0_5] 51 ?_; intro gb436 hg w34 BK436 hb; have GW436 := bz_ w hg; have GE436 := GW436; replace HB := bs_ w hb; clear hb hg; replace hc436 := ce6_ BK436) | ((with_reducible refine gate_callee (f := 34) rfl ?_); (try refine ug_ (by rfl) ?_); refine goesA_ (some 5) Try.func34 #[.agg #[.int .i64 a0_0, .int .i64 a0_1, .int .i64 a0_2]] ?_; (with_reducible refine (spigotref03_CheckLimit.calls a0_0 a0_1 a0_2 t437 _ A2.out).mono ?_); rintro e w36 ⟨rfl, hb⟩; refine ⟨_, rfl, ?_⟩; replace BK436 := bb_ BK436 hb; replace HB := bs_ w hb; clear hb; replace hc436 := ce6_ BK436))
       go_ret
       exact fi_
 ·rw [if_neg c3] at H
  have c3b0 : (t437 == 0) = false := beq_eq_false_iff_ne.mpr c3
  have c3b1 : (t437 != 0) = true := bne_iff_ne.mpr c3
  obtain rfl := Option.some.inj H
  go_enter Try.func85, Try.ntmps85
  go_wp2_with (first | ((with_reducible refine gate_dst (N := 1) rfl ?_); (try refine ug_ (by rfl) ?_); refine bx_ #[.int .i64 a0_0, .int .i64 a0_1, .int .i64 a0_2, .int .i64 a0_3, .int .i64 a0_4, .int .u64 a0_5] 51 ?_; intro gb436 hg w38 BK436 hb; have GW436 := bz_ w hg; have GE436 := GW436; replace HB := bs_ w hb; clear hb hg; replace hc436 := ce6_ BK436) | ((with_reducible refine gate_callee (f := 34) rfl ?_); (try refine ug_ (by rfl) ?_); refine goesA_ (some 5) Try.func34 #[.agg #[.int .i64 a0_0, .int .i64 a0_1, .int .i64 a0_2]] ?_; (with_reducible refine (spigotref03_CheckLimit.calls a0_0 a0_1 a0_2 t437 _ A2.out).mono ?_); rintro e w40 ⟨rfl, hb⟩; refine ⟨_, rfl, ?_⟩; replace BK436 := bb_ BK436 hb; replace HB := bs_ w hb; clear hb))
  go_ret
  exact fi_

end Go.Proofs.Ytimhghmfhfggoaa.X
