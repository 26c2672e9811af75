-- written by xprint.py, a program of this session over the kit's print
import Derived.Test.YtimhghmfhfggoaaX0
import Derived.Test.YtimhghmfhfggoaaX3
namespace Go.Proofs.Ytimhghmfhfggoaa.X
open Go.RowKit Go.Proofs.YtimhghmfhfggoaaW.PrintWords Go.Proofs.YtimhghmfhfggoaaW.PrintLast Go.Proofs.YtimhghmfhfggoaaW.PrintMore
attribute [local go_sem] max2_int min2_int max_two min_two max_three min_three max_four min_four   -- for this text's walks alone
set_option linter.unusedVariables false
set_option linter.unusedSimpArgs false

def bucket_Full.f (a0_0 : Int) (a0_1 : Int) (a0_2 : Int) (a1 : Int) : Option (Int × Int × Int × Int × Int × Int × Int) := (bucket_CheckLimit.f a0_0 a0_1 a0_2).bind fun t219 => (if t219 = 0 then (some (a0_0, a0_1, a0_2, a0_0, 0, a1, 0)) else (some (0, 0, 0, 0, 0, 0, t219)))
set_option maxHeartbeats 8000000 in
set_option maxRecDepth 100000 in
theorem bucket_Full.calls (a0_0 : Int) (a0_1 : Int) (a0_2 : Int) (a1 : Int) (r1 : Int) (r2 : Int) (r3 : Int) (r4 : Int) (r5 : Int) (r6 : Int) (r7 : Int) (w : World) (h : bucket_Full.f a0_0 a0_1 a0_2 a1 = some (r1, r2, r3, r4, r5, r6, r7)) :
  Calls Try.prog 39 #[.agg #[.int .i64 a0_0, .int .i64 a0_1, .int .i64 a0_2], .int .u64 a1] w fun e w' => e = .returned (.tuple #[.agg #[.int .i64 r1, .int .i64 r2, .int .i64 r3, .int .i64 r4, .int .i64 r5, .int .u64 r6], .int .i64 r7]) ∧ Below w.heap.size w w' := by
 have hu49 := Try.underlying49
 have hu51 := Try.underlying51
 have HB := Aside0.mk (Below.refl w.heap.size w)
 have H : ((bucket_CheckLimit.f a0_0 a0_1 a0_2).bind fun t219 => (if t219 = 0 then (some (a0_0, a0_1, a0_2, a0_0, 0, a1, 0)) else (some (0, 0, 0, 0, 0, 0, t219)))) = some (r1, r2, r3, r4, r5, r6, r7) := h
 clear h
 have H0_ := bo_ H; clear H; obtain ⟨t219, A3, H⟩ := H0_
 replace H : (if t219 = 0 then (some (a0_0, a0_1, a0_2, a0_0, 0, a1, 0)) else (some (0, 0, 0, 0, 0, 0, t219))) = some (r1, r2, r3, r4, r5, r6, r7) := H
 by_cases c4 : t219 = 0
 ·rw [if_pos c4] at H
  have c4b0 : (t219 == 0) = true := beq_iff_eq.mpr c4
  have c4b1 : (t219 != 0) = false := bne_eq_false_iff_eq.mpr c4
  clear c4
  simp only [Option.some.injEq, Prod.mk.injEq] at H
  obtain ⟨rfl, rfl, rfl, rfl, rfl, rfl, rfl⟩ := H
  go_enter Try.func39, Try.ntmps39
  go_wp2_with (first | ((with_reducible refine gate_dst (N := 2) rfl ?_); refine bx_ #[.int .i64 a0_0, .int .i64 a0_1, .int .i64 a0_2] 49 ?_; intro gb217 hg w5 BK217 hb; have GW217 := bz_ w hg; have GE217 := GW217; replace HB := bs_ w hb; clear hb hg) | ((with_reducible refine gate_dst (N := 4) rfl ?_); refine bx_ #[.int .i64 0, .int .i64 0, .int .i64 0, .int .i64 0, .int .i64 0, .int .u64 0] 51 ?_; intro gb218 hg w6 BK218 hb; have GW218 := bz_ w hg; have GE218 := GW218; have NB217_218 := bn_ BK217 hg; have NB218_217 := bm_ BK217 hg; replace BK217 := bb_ BK217 hb; replace HB := bs_ w hb; clear hb hg; replace hn217_218 := NB217_218.out; replace hn218_217 := NB218_217.out; replace hc217 := ce3_ BK217) | ((with_reducible refine gate_callee (f := 33) rfl ?_); refine goesA_ (some 8) Try.func33 #[.agg #[.int .i64 a0_0, .int .i64 a0_1, .int .i64 a0_2]] ?_; (with_reducible refine (bucket_CheckLimit.calls a0_0 a0_1 a0_2 t219 _ A3.out).mono ?_); rintro e w9 ⟨rfl, hb⟩; refine ⟨_, rfl, ?_⟩; replace BK217 := bb_ BK217 hb; replace BK218 := bb_ BK218 hb; replace HB := bs_ w hb; clear hb; replace hc217 := ce3_ BK217; replace hc218 := ce6_ BK218))
  refine bodyPost_ret (results_ct rfl _ _ gb218 51 #[.int .i64 a0_0, .int .i64 a0_1, .int .i64 a0_2, .int .i64 a0_0, .int .i64 0, .int .u64 a1] (0, 0) _ rfl (bp6_ (bq_ BK218)) Try.underlying51 rfl (by kernel_rfl)) rfl ?_
  exact fi_
 ·rw [if_neg c4] at H
  have c4b0 : (t219 == 0) = false := beq_eq_false_iff_ne.mpr c4
  have c4b1 : (t219 != 0) = true := bne_iff_ne.mpr c4
  simp only [Option.some.injEq, Prod.mk.injEq] at H
  obtain ⟨rfl, rfl, rfl, rfl, rfl, rfl, rfl⟩ := H
  go_enter Try.func39, Try.ntmps39
  go_wp2_with (first | ((with_reducible refine gate_dst (N := 2) rfl ?_); refine bx_ #[.int .i64 a0_0, .int .i64 a0_1, .int .i64 a0_2] 49 ?_; intro gb217 hg w12 BK217 hb; have GW217 := bz_ w hg; have GE217 := GW217; replace HB := bs_ w hb; clear hb hg) | ((with_reducible refine gate_dst (N := 4) rfl ?_); refine bx_ #[.int .i64 0, .int .i64 0, .int .i64 0, .int .i64 0, .int .i64 0, .int .u64 0] 51 ?_; intro gb218 hg w13 BK218 hb; have GW218 := bz_ w hg; have GE218 := GW218; have NB217_218 := bn_ BK217 hg; have NB218_217 := bm_ BK217 hg; replace BK217 := bb_ BK217 hb; replace HB := bs_ w hb; clear hb hg; replace hn217_218 := NB217_218.out; replace hn218_217 := NB218_217.out; replace hc217 := ce3_ BK217) | ((with_reducible refine gate_callee (f := 33) rfl ?_); refine goesA_ (some 8) Try.func33 #[.agg #[.int .i64 a0_0, .int .i64 a0_1, .int .i64 a0_2]] ?_; (with_reducible refine (bucket_CheckLimit.calls a0_0 a0_1 a0_2 t219 _ A3.out).mono ?_); rintro e w16 ⟨rfl, hb⟩; refine ⟨_, rfl, ?_⟩; replace BK217 := bb_ BK217 hb; replace BK218 := bb_ BK218 hb; replace HB := bs_ w hb; clear hb; replace hc218 := ce6_ BK218))
  refine bodyPost_ret (results_ct rfl _ _ gb218 51 #[.int .i64 0, .int .i64 0, .int .i64 0, .int .i64 0, .int .i64 0, .int .u64 0] (0, 0) _ rfl (bp6_ (bq_ BK218)) Try.underlying51 rfl (by kernel_rfl)) rfl ?_
  exact fi_

def bucket_Check.f (a0_0 : Int) (a0_1 : Int) (a0_2 : Int) (a0_3 : Int) (a0_4 : Int) (a0_5 : Int) : Option (Int) := (bucket_CheckLimit.f a0_0 a0_1 a0_2).bind fun t221 => (if t221 = 0 then (if a0_3 < 0 then (some 8) else (if (wrap64 (a0_0 - a0_3)) < 0 then (some 8) else (if a0_4 < 0 then (some 8) else (if a0_4 ≥ a0_2 then (some 8) else (if (wrap64 (a0_0 - a0_3)) = 0 then (if a0_4 > 0 then (some 8) else (some 0)) else (some 0)))))) else (some t221))
set_option maxHeartbeats 8000000 in
set_option maxRecDepth 100000 in
theorem bucket_Check.calls (a0_0 : Int) (a0_1 : Int) (a0_2 : Int) (a0_3 : Int) (a0_4 : Int) (a0_5 : Int) (r : Int) (w : World) (h : bucket_Check.f a0_0 a0_1 a0_2 a0_3 a0_4 a0_5 = some r) :
  Calls Try.prog 41 #[.agg #[.int .i64 a0_0, .int .i64 a0_1, .int .i64 a0_2, .int .i64 a0_3, .int .i64 a0_4, .int .u64 a0_5]] w fun e w' => e = .returned (.int .i64 r) ∧ Below w.heap.size w w' := by
 have hu51 := Try.underlying51
 have hu49 := Try.underlying49
 have HB := Aside0.mk (Below.refl w.heap.size w)
 have H : ((bucket_CheckLimit.f a0_0 a0_1 a0_2).bind fun t221 => (if t221 = 0 then (if a0_3 < 0 then (some 8) else (if (wrap64 (a0_0 - a0_3)) < 0 then (some 8) else (if a0_4 < 0 then (some 8) else (if a0_4 ≥ a0_2 then (some 8) else (if (wrap64 (a0_0 - a0_3)) = 0 then (if a0_4 > 0 then (some 8) else (some 0)) else (some 0)))))) else (some t221))) = some r := h
 clear h
 have H0_ := bo_ H; clear H; obtain ⟨t221, A2, H⟩ := H0_
 try dsimp only at H
 by_cases c3 : t221 = 0
 ·rw [if_pos c3] at H
  have c3b0 : (t221 == 0) = true := beq_iff_eq.mpr c3
  have c3b1 : (t221 != 0) = false := bne_eq_false_iff_eq.mpr c3
  clear c3
  by_cases c4 : a0_3 < 0
  ·rw [if_pos c4] at H
   have c4b0 : decide (a0_3 < 0) = true := decide_eq_true c4
   clear c4
   obtain rfl := Option.some.inj H
   go_enter Try.func41, Try.ntmps41
   go_wp2_with (first | ((with_reducible refine gate_dst (N := 1) rfl ?_); (try refine ug_ (by rfl) ?_); refine bx_ #[.int .i64 a0_0, .int .i64 a0_1, .int .i64 a0_2, .int .i64 a0_3, .int .i64 a0_4, .int .u64 a0_5] 51 ?_; intro gb220 hg w5 BK220 hb; have GW220 := bz_ w hg; have GE220 := GW220; replace HB := bs_ w hb; clear hb hg; replace hc220 := ce6_ BK220) | ((with_reducible refine gate_callee (f := 33) rfl ?_); (try refine ug_ (by rfl) ?_); refine goesA_ (some 7) Try.func33 #[.agg #[.int .i64 a0_0, .int .i64 a0_1, .int .i64 a0_2]] ?_; (with_reducible refine (bucket_CheckLimit.calls a0_0 a0_1 a0_2 t221 _ A2.out).mono ?_); rintro e w7 ⟨rfl, hb⟩; refine ⟨_, rfl, ?_⟩; replace BK220 := bb_ BK220 hb; replace HB := bs_ w hb; clear hb; replace hc220 := ce6_ BK220))
   go_ret
   exact fi_
  ·rw [if_neg c4] at H
   have c4b0 : decide (a0_3 < 0) = false := decide_eq_false c4
   clear c4
   by_cases c9 : (wrap64 (a0_0 - a0_3)) < 0
   ·rw [if_pos c9] at H
    have c9b0 : decide ((wrap64 (a0_0 - a0_3)) < 0) = true := decide_eq_true c9
    clear c9
    obtain rfl := Option.some.inj H
    go_enter Try.func41, Try.ntmps41
    go_wp2_with (first | ((with_reducible refine gate_dst (N := 1) rfl ?_); (try refine ug_ (by rfl) ?_); refine bx_ #[.int .i64 a0_0, .int .i64 a0_1, .int .i64 a0_2, .int .i64 a0_3, .int .i64 a0_4, .int .u64 a0_5] 51 ?_; intro gb220 hg w10 BK220 hb; have GW220 := bz_ w hg; have GE220 := GW220; replace HB := bs_ w hb; clear hb hg; replace hc220 := ce6_ BK220) | ((with_reducible refine gate_callee (f := 33) rfl ?_); (try refine ug_ (by rfl) ?_); refine goesA_ (some 7) Try.func33 #[.agg #[.int .i64 a0_0, .int .i64 a0_1, .int .i64 a0_2]] ?_; (with_reducible refine (bucket_CheckLimit.calls a0_0 a0_1 a0_2 t221 _ A2.out).mono ?_); rintro e w12 ⟨rfl, hb⟩; refine ⟨_, rfl, ?_⟩; replace BK220 := bb_ BK220 hb; replace HB := bs_ w hb; clear hb; replace hc220 := ce6_ BK220))
    go_ret
    exact fi_
   ·rw [if_neg c9] at H
    have c9b0 : decide ((wrap64 (a0_0 - a0_3)) < 0) = false := decide_eq_false c9
    clear c9
    by_cases c14 : a0_4 < 0
    ·rw [if_pos c14] at H
     have c14b0 : decide (a0_4 < 0) = true := decide_eq_true c14
     clear c14
     obtain rfl := Option.some.inj H
     go_enter Try.func41, Try.ntmps41
     go_wp2_with (first | ((with_reducible refine gate_dst (N := 1) rfl ?_); (try refine ug_ (by rfl) ?_); refine bx_ #[.int .i64 a0_0, .int .i64 a0_1, .int .i64 a0_2, .int .i64 a0_3, .int .i64 a0_4, .int .u64 a0_5] 51 ?_; intro gb220 hg w15 BK220 hb; have GW220 := bz_ w hg; have GE220 := GW220; replace HB := bs_ w hb; clear hb hg; replace hc220 := ce6_ BK220) | ((with_reducible refine gate_callee (f := 33) rfl ?_); (try refine ug_ (by rfl) ?_); refine goesA_ (some 7) Try.func33 #[.agg #[.int .i64 a0_0, .int .i64 a0_1, .int .i64 a0_2]] ?_; (with_reducible refine (bucket_CheckLimit.calls a0_0 a0_1 a0_2 t221 _ A2.out).mono ?_); rintro e w17 ⟨rfl, hb⟩; refine ⟨_, rfl, ?_⟩; replace BK220 := bb_ BK220 hb; replace HB := bs_ w hb; clear hb; replace hc220 := ce6_ BK220))
     go_ret
     exact fi_
    ·rw [if_neg c14] at H
     have c14b0 : decide (a0_4 < 0) = false := decide_eq_false c14
     clear c14
     by_cases c19 : a0_4 ≥ a0_2
     ·rw [if_pos c19] at H
      have c19b0 : decide (a0_2 ≤ a0_4) = true := decide_eq_true c19
      clear c19
      obtain rfl := Option.some.inj H
      go_enter Try.func41, Try.ntmps41
      go_wp2_with (first | ((with_reducible refine gate_dst (N := 1) rfl ?_); (try refine ug_ (by rfl) ?_); refine bx_ #[.int .i64 a0_0, .int .i64 a0_1, .int .i64 a0_2, .int .i64 a0_3, .int .i64 a0_4, .int .u64 a0_5] 51 ?_; intro gb220 hg w20 BK220 hb; have GW220 := bz_ w hg; have GE220 := GW220; replace HB := bs_ w hb; clear hb hg; replace hc220 := ce6_ BK220) | ((with_reducible refine gate_callee (f := 33) rfl ?_); (try refine ug_ (by rfl) ?_); refine goesA_ (some 7) Try.func33 #[.agg #[.int .i64 a0_0, .int .i64 a0_1, .int .i64 a0_2]] ?_; (with_reducible refine (bucket_CheckLimit.calls a0_0 a0_1 a0_2 t221 _ A2.out).mono ?_); rintro e w22 ⟨rfl, hb⟩; refine ⟨_, rfl, ?_⟩; replace BK220 := bb_ BK220 hb; replace HB := bs_ w hb; clear hb; replace hc220 := ce6_ BK220))
      go_ret
      exact fi_
     ·rw [if_neg c19] at H
      have c19b0 : decide (a0_2 ≤ a0_4) = false := decide_eq_false c19
      clear c19
      by_cases c24 : (wrap64 (a0_0 - a0_3)) = 0
      ·rw [if_pos c24] at H
       have c24b0 : ((wrap64 (a0_0 - a0_3)) == 0) = true := beq_iff_eq.mpr c24
       have c24b1 : ((wrap64 (a0_0 - a0_3)) != 0) = false := bne_eq_false_iff_eq.mpr c24
       clear c24
       by_cases c25 : a0_4 > 0
       ·rw [if_pos c25] at H
        have c25b0 : decide (0 < a0_4) = true := decide_eq_true c25
        clear c25
        obtain rfl := Option.some.inj H
        go_enter Try.func41, Try.ntmps41
        go_wp2_with (first | ((with_reducible refine gate_dst (N := 1) rfl ?_); (try refine ug_ (by rfl) ?_); refine bx_ #[.int .i64 a0_0, .int .i64 a0_1, .int .i64 a0_2, .int .i64 a0_3, .int .i64 a0_4, .int .u64 a0_5] 51 ?_; intro gb220 hg w26 BK220 hb; have GW220 := bz_ w hg; have GE220 := GW220; replace HB := bs_ w hb; clear hb hg; replace hc220 := ce6_ BK220) | ((with_reducible refine gate_callee (f := 33) rfl ?_); (try refine ug_ (by rfl) ?_); refine goesA_ (some 7) Try.func33 #[.agg #[.int .i64 a0_0, .int .i64 a0_1, .int .i64 a0_2]] ?_; (with_reducible refine (bucket_CheckLimit.calls a0_0 a0_1 a0_2 t221 _ A2.out).mono ?_); rintro e w28 ⟨rfl, hb⟩; refine ⟨_, rfl, ?_⟩; replace BK220 := bb_ BK220 hb; replace HB := bs_ w hb; clear hb; replace hc220 := ce6_ BK220))
        go_ret
        exact fi_
       ·rw [if_neg c25] at H
        have c25b0 : decide (0 < a0_4) = false := decide_eq_false c25
        clear c25
        obtain rfl := Option.some.inj H
        go_enter Try.func41, Try.ntmps41
        go_wp2_with (first | ((with_reducible refine gate_dst (N := 1) rfl ?_); (try refine ug_ (by rfl) ?_); refine bx_ #[.int .i64 a0_0, .int .i64 a0_1, .int .i64 a0_2, .int .i64 a0_3, .int .i64 a0_4, .int .u64 a0_5] 51 ?_; intro gb220 hg w30 BK220 hb; have GW220 := bz_ w hg; have GE220 := GW220; replace HB := bs_ w hb; clear hb hg; replace hc220 := ce6_ BK220) | ((with_reducible refine gate_callee (f := 33) rfl ?_); (try refine ug_ (by rfl) ?_); refine goesA_ (some 7) Try.func33 #[.agg #[.int .i64 a0_0, .int .i64 a0_1, .int .i64 a0_2]] ?_; (with_reducible refine (bucket_CheckLimit.calls a0_0 a0_1 a0_2 t221 _ A2.out).mono ?_); rintro e w32 ⟨rfl, hb⟩; refine ⟨_, rfl, ?_⟩; replace BK220 := bb_ BK220 hb; replace HB := bs_ w hb; clear hb; replace hc220 := ce6_ BK220))
        go_ret
        exact fi_
      ·rw [if_neg c24] at H
       have c24b0 : ((wrap64 (a0_0 - a0_3)) == 0) = false := beq_eq_false_iff_ne.mpr c24
       have c24b1 : ((wrap64 (a0_0 - a0_3)) != 0) = true := bne_iff_ne.mpr c24
       obtain rfl := Option.some.inj H
       go_enter Try.func41, Try.ntmps41
       go_wp2_with (first | ((with_reducible refine gate_dst (N := 1) rfl ?_); (try refine ug_ (by rfl) ?_); refine bx_ #[.int .i64 a0_0, .int .i64 a0_1, .int .i64 a0_2, .int .i64 a0_3, .int .i64 a0_4, .int .u64 a0_5] 51 ?_; intro gb220 hg w34 BK220 hb; have GW220 := bz_ w hg; have GE220 := GW220; replace HB := bs_ w hb; clear hb hg; replace hc220 := ce6_ BK220) | ((with_reducible refine gate_callee (f := 33) rfl ?_); (try refine ug_ (by rfl) ?_); refine goesA_ (some 7) Try.func33 #[.agg #[.int .i64 a0_0, .int .i64 a0_1, .int .i64 a0_2]] ?_; (with_reducible refine (bucket_CheckLimit.calls a0_0 a0_1 a0_2 t221 _ A2.out).mono ?_); rintro e w36 ⟨rfl, hb⟩; refine ⟨_, rfl, ?_⟩; replace BK220 := bb_ BK220 hb; replace HB := bs_ w hb; clear hb; replace hc220 := ce6_ BK220))
       go_ret
       exact fi_
 ·rw [if_neg c3] at H
  have c3b0 : (t221 == 0) = false := beq_eq_false_iff_ne.mpr c3
  have c3b1 : (t221 != 0) = true := bne_iff_ne.mpr c3
  obtain rfl := Option.some.inj H
  go_enter Try.func41, Try.ntmps41
  go_wp2_with (first | ((with_reducible refine gate_dst (N := 1) rfl ?_); (try refine ug_ (by rfl) ?_); refine bx_ #[.int .i64 a0_0, .int .i64 a0_1, .int .i64 a0_2, .int .i64 a0_3, .int .i64 a0_4, .int .u64 a0_5] 51 ?_; intro gb220 hg w38 BK220 hb; have GW220 := bz_ w hg; have GE220 := GW220; replace HB := bs_ w hb; clear hb hg; replace hc220 := ce6_ BK220) | ((with_reducible refine gate_callee (f := 33) rfl ?_); (try refine ug_ (by rfl) ?_); refine goesA_ (some 7) Try.func33 #[.agg #[.int .i64 a0_0, .int .i64 a0_1, .int .i64 a0_2]] ?_; (with_reducible refine (bucket_CheckLimit.calls a0_0 a0_1 a0_2 t221 _ A2.out).mono ?_); rintro e w40 ⟨rfl, hb⟩; refine ⟨_, rfl, ?_⟩; replace BK220 := bb_ BK220 hb; replace HB := bs_ w hb; clear hb))
  go_ret
  exact fi_

-- NOT PRINTED: function 81 (slices_IndexFunc_int64)

-- NOT PRINTED: function 69 (slices_ContainsFunc_int64)

def levels_check_1.f (a0 : Int) : Option (Bool) := some (decide (a0 < 0))
set_option maxHeartbeats 8000000 in
set_option maxRecDepth 100000 in
theorem levels_check_1.calls (a0 : Int) (r : Bool) (w : World) (h : levels_check_1.f a0 = some r) :
  Calls Try.prog 70 #[.int .i64 a0] w fun e w' => e = .returned (.bool r) ∧ Drawn0 w w' := by
 have H : (some (decide (a0 < 0))) = some r := h
 clear h
 obtain rfl := Option.some.inj H
 go_enter Try.func70, Try.ntmps70
 go_wp2
 go_ret
 exact ⟨by first | rfl | (simp; done) | (simp [*]; done), by repeat (first | exact Drawn0.refl _ | apply Drawn0.step)⟩

end Go.Proofs.Ytimhghmfhfggoaa.X
