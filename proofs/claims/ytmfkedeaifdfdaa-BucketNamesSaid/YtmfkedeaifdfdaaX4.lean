-- written by xprint.py, a program of this session over the kit's print
import Derived.Test.YtmfkedeaifdfdaaX0
namespace Go.Proofs.Ytmfkedeaifdfdaa.X
open Go.RowKit Go.Proofs.YtmfkedeaifdfdaaW.PrintWords Go.Proofs.YtmfkedeaifdfdaaW.PrintLast Go.Proofs.YtmfkedeaifdfdaaW.PrintMore
attribute [local go_sem] max2_int min2_int max_two min_two max_three min_three max_four min_four   -- for this text's walks alone
set_option linter.unusedVariables false
set_option linter.unusedSimpArgs false

/-! ### bucket_CheckLimit: function 14 -/
def bucket_CheckLimit.f (a0_0 : Int) (a0_1 : Int) (a0_2 : Int) : Option (Int) := if a0_0 < 1 then (some 8) else (if a0_0 > 1000000000 then (some 8) else (if a0_1 < 0 then (some 8) else (if a0_1 > 1000000000 then (some 8) else (if a0_2 < 1 then (some 8) else (if a0_2 > 1000000000 then (some 8) else (some 0))))))
set_option maxHeartbeats 8000000 in
set_option maxRecDepth 100000 in
theorem bucket_CheckLimit.calls (a0_0 : Int) (a0_1 : Int) (a0_2 : Int) (r : Int) (w : World) (h : bucket_CheckLimit.f a0_0 a0_1 a0_2 = some r) :
  Calls Try.prog 14 #[.agg #[.int .i64 a0_0, .int .i64 a0_1, .int .i64 a0_2]] w fun e w' => e = .returned (.int .i64 r) ∧ Below w.heap.size w w' := by
 have hu23 := Try.underlying23
 have HB := Aside0.mk (Below.refl w.heap.size w)
 have H : (if a0_0 < 1 then (some 8) else (if a0_0 > 1000000000 then (some 8) else (if a0_1 < 0 then (some 8) else (if a0_1 > 1000000000 then (some 8) else (if a0_2 < 1 then (some 8) else (if a0_2 > 1000000000 then (some 8) else (some 0))))))) = some r := h
 clear h
 by_cases c2 : a0_0 < 1
 ·rw [if_pos c2] at H
  have c2b0 : decide (a0_0 < 1) = true := decide_eq_true c2
  clear c2
  obtain rfl := Option.some.inj H
  go_enter Try.func14, Try.ntmps14
  go_wp2_with (first | ((with_reducible refine gate_dst (N := 1) rfl ?_); (try refine ug_ (by rfl) ?_); refine bx_ #[.int .i64 a0_0, .int .i64 a0_1, .int .i64 a0_2] 23 ?_; intro gb101 hg w3 BK101 hb; have GW101 := bz_ w hg; have GE101 := GW101; replace HB := bs_ w hb; clear hb hg; replace hc101 := ce3_ BK101))
  go_ret
  exact fi_
 ·rw [if_neg c2] at H
  have c2b0 : decide (a0_0 < 1) = false := decide_eq_false c2
  clear c2
  by_cases c5 : a0_0 > 1000000000
  ·rw [if_pos c5] at H
   have c5b0 : decide (1000000000 < a0_0) = true := decide_eq_true c5
   clear c5
   obtain rfl := Option.some.inj H
   go_enter Try.func14, Try.ntmps14
   go_wp2_with (first | ((with_reducible refine gate_dst (N := 1) rfl ?_); (try refine ug_ (by rfl) ?_); refine bx_ #[.int .i64 a0_0, .int .i64 a0_1, .int .i64 a0_2] 23 ?_; intro gb101 hg w6 BK101 hb; have GW101 := bz_ w hg; have GE101 := GW101; replace HB := bs_ w hb; clear hb hg; replace hc101 := ce3_ BK101))
   go_ret
   exact fi_
  ·rw [if_neg c5] at H
   have c5b0 : decide (1000000000 < a0_0) = false := decide_eq_false c5
   clear c5
   by_cases c8 : a0_1 < 0
   ·rw [if_pos c8] at H
    have c8b0 : decide (a0_1 < 0) = true := decide_eq_true c8
    clear c8
    obtain rfl := Option.some.inj H
    go_enter Try.func14, Try.ntmps14
    go_wp2_with (first | ((with_reducible refine gate_dst (N := 1) rfl ?_); (try refine ug_ (by rfl) ?_); refine bx_ #[.int .i64 a0_0, .int .i64 a0_1, .int .i64 a0_2] 23 ?_; intro gb101 hg w9 BK101 hb; have GW101 := bz_ w hg; have GE101 := GW101; replace HB := bs_ w hb; clear hb hg; replace hc101 := ce3_ BK101))
    go_ret
    exact fi_
   ·rw [if_neg c8] at H
    have c8b0 : decide (a0_1 < 0) = false := decide_eq_false c8
    clear c8
    by_cases c11 : a0_1 > 1000000000
    ·rw [if_pos c11] at H
     have c11b0 : decide (1000000000 < a0_1) = true := decide_eq_true c11
     clear c11
     obtain rfl := Option.some.inj H
     go_enter Try.func14, Try.ntmps14
     go_wp2_with (first | ((with_reducible refine gate_dst (N := 1) rfl ?_); (try refine ug_ (by rfl) ?_); refine bx_ #[.int .i64 a0_0, .int .i64 a0_1, .int .i64 a0_2] 23 ?_; intro gb101 hg w12 BK101 hb; have GW101 := bz_ w hg; have GE101 := GW101; replace HB := bs_ w hb; clear hb hg; replace hc101 := ce3_ BK101))
     go_ret
     exact fi_
    ·rw [if_neg c11] at H
     have c11b0 : decide (1000000000 < a0_1) = false := decide_eq_false c11
     clear c11
     by_cases c14 : a0_2 < 1
     ·rw [if_pos c14] at H
      have c14b0 : decide (a0_2 < 1) = true := decide_eq_true c14
      clear c14
      obtain rfl := Option.some.inj H
      go_enter Try.func14, Try.ntmps14
      go_wp2_with (first | ((with_reducible refine gate_dst (N := 1) rfl ?_); (try refine ug_ (by rfl) ?_); refine bx_ #[.int .i64 a0_0, .int .i64 a0_1, .int .i64 a0_2] 23 ?_; intro gb101 hg w15 BK101 hb; have GW101 := bz_ w hg; have GE101 := GW101; replace HB := bs_ w hb; clear hb hg; replace hc101 := ce3_ BK101))
      go_ret
      exact fi_
     ·rw [if_neg c14] at H
      have c14b0 : decide (a0_2 < 1) = false := decide_eq_false c14
      clear c14
      by_cases c17 : a0_2 > 1000000000
      ·rw [if_pos c17] at H
       have c17b0 : decide (1000000000 < a0_2) = true := decide_eq_true c17
       clear c17
       obtain rfl := Option.some.inj H
       go_enter Try.func14, Try.ntmps14
       go_wp2_with (first | ((with_reducible refine gate_dst (N := 1) rfl ?_); (try refine ug_ (by rfl) ?_); refine bx_ #[.int .i64 a0_0, .int .i64 a0_1, .int .i64 a0_2] 23 ?_; intro gb101 hg w18 BK101 hb; have GW101 := bz_ w hg; have GE101 := GW101; replace HB := bs_ w hb; clear hb hg; replace hc101 := ce3_ BK101))
       go_ret
       exact fi_
      ·rw [if_neg c17] at H
       have c17b0 : decide (1000000000 < a0_2) = false := decide_eq_false c17
       clear c17
       obtain rfl := Option.some.inj H
       go_enter Try.func14, Try.ntmps14
       go_wp2_with (first | ((with_reducible refine gate_dst (N := 1) rfl ?_); (try refine ug_ (by rfl) ?_); refine bx_ #[.int .i64 a0_0, .int .i64 a0_1, .int .i64 a0_2] 23 ?_; intro gb101 hg w20 BK101 hb; have GW101 := bz_ w hg; have GE101 := GW101; replace HB := bs_ w hb; clear hb hg; replace hc101 := ce3_ BK101))
       go_ret
       exact fi_

/-! ### bucket_Full: function 10 -/
def bucket_Full.f (a0_0 : Int) (a0_1 : Int) (a0_2 : Int) (a1 : Int) : Option (Int × Int × Int × Int × Int × Int × Int) := (bucket_CheckLimit.f a0_0 a0_1 a0_2).bind fun t104 => (if t104 = 0 then (some (a0_0, a0_1, a0_2, a0_0, 0, a1, 0)) else (some (0, 0, 0, 0, 0, 0, t104)))
set_option maxHeartbeats 8000000 in
set_option maxRecDepth 100000 in
theorem bucket_Full.calls (a0_0 : Int) (a0_1 : Int) (a0_2 : Int) (a1 : Int) (r1 : Int) (r2 : Int) (r3 : Int) (r4 : Int) (r5 : Int) (r6 : Int) (r7 : Int) (w : World) (h : bucket_Full.f a0_0 a0_1 a0_2 a1 = some (r1, r2, r3, r4, r5, r6, r7)) :
  Calls Try.prog 10 #[.agg #[.int .i64 a0_0, .int .i64 a0_1, .int .i64 a0_2], .int .u64 a1] w fun e w' => e = .returned (.tuple #[.agg #[.int .i64 r1, .int .i64 r2, .int .i64 r3, .int .i64 r4, .int .i64 r5, .int .u64 r6], .int .i64 r7]) ∧ Below w.heap.size w w' := by
 have hu23 := Try.underlying23
 have hu26 := Try.underlying26
 have HB := Aside0.mk (Below.refl w.heap.size w)
 have H : ((bucket_CheckLimit.f a0_0 a0_1 a0_2).bind fun t104 => (if t104 = 0 then (some (a0_0, a0_1, a0_2, a0_0, 0, a1, 0)) else (some (0, 0, 0, 0, 0, 0, t104)))) = some (r1, r2, r3, r4, r5, r6, r7) := h
 clear h
 obtain ⟨t104, A3, H⟩ := bo_ H
 replace H : (if t104 = 0 then (some (a0_0, a0_1, a0_2, a0_0, 0, a1, 0)) else (some (0, 0, 0, 0, 0, 0, t104))) = some (r1, r2, r3, r4, r5, r6, r7) := H
 by_cases c4 : t104 = 0
 ·rw [if_pos c4] at H
  have c4b0 : (t104 == 0) = true := beq_iff_eq.mpr c4
  have c4b1 : (t104 != 0) = false := bne_eq_false_iff_eq.mpr c4
  clear c4
  simp only [Option.some.injEq, Prod.mk.injEq] at H
  obtain ⟨rfl, rfl, rfl, rfl, rfl, rfl, rfl⟩ := H
  go_enter Try.func10, Try.ntmps10
  go_wp2_with (first | ((with_reducible refine gate_dst (N := 2) rfl ?_); refine bx_ #[.int .i64 a0_0, .int .i64 a0_1, .int .i64 a0_2] 23 ?_; intro gb102 hg w5 BK102 hb; have GW102 := bz_ w hg; have GE102 := GW102; replace HB := bs_ w hb; clear hb hg) | ((with_reducible refine gate_dst (N := 4) rfl ?_); refine bx_ #[.int .i64 0, .int .i64 0, .int .i64 0, .int .i64 0, .int .i64 0, .int .u64 0] 26 ?_; intro gb103 hg w6 BK103 hb; have GW103 := bz_ w hg; have GE103 := GW103; have NB102_103 := bn_ BK102 hg; have NB103_102 := bm_ BK102 hg; replace BK102 := bb_ BK102 hb; replace HB := bs_ w hb; clear hb hg; replace hn102_103 := NB102_103.out; replace hn103_102 := NB103_102.out; replace hc102 := ce3_ BK102) | ((with_reducible refine gate_callee (f := 14) rfl ?_); refine goesA_ (some 8) Try.func14 #[.agg #[.int .i64 a0_0, .int .i64 a0_1, .int .i64 a0_2]] ?_; (with_reducible refine (bucket_CheckLimit.calls a0_0 a0_1 a0_2 t104 _ A3.out).mono ?_); rintro e w9 ⟨rfl, hb⟩; refine ⟨_, rfl, ?_⟩; replace BK102 := bb_ BK102 hb; replace BK103 := bb_ BK103 hb; replace HB := bs_ w hb; clear hb; replace hc102 := ce3_ BK102; replace hc103 := ce6_ BK103))
  refine bodyPost_ret (results_ct rfl _ _ gb103 26 #[.int .i64 a0_0, .int .i64 a0_1, .int .i64 a0_2, .int .i64 a0_0, .int .i64 0, .int .u64 a1] (0, 0) _ rfl (bp6_ (bq_ BK103)) Try.underlying26 rfl (by kernel_rfl)) rfl ?_
  exact fi_
 ·rw [if_neg c4] at H
  have c4b0 : (t104 == 0) = false := beq_eq_false_iff_ne.mpr c4
  have c4b1 : (t104 != 0) = true := bne_iff_ne.mpr c4
  simp only [Option.some.injEq, Prod.mk.injEq] at H
  obtain ⟨rfl, rfl, rfl, rfl, rfl, rfl, rfl⟩ := H
  go_enter Try.func10, Try.ntmps10
  go_wp2_with (first | ((with_reducible refine gate_dst (N := 2) rfl ?_); refine bx_ #[.int .i64 a0_0, .int .i64 a0_1, .int .i64 a0_2] 23 ?_; intro gb102 hg w12 BK102 hb; have GW102 := bz_ w hg; have GE102 := GW102; replace HB := bs_ w hb; clear hb hg) | ((with_reducible refine gate_dst (N := 4) rfl ?_); refine bx_ #[.int .i64 0, .int .i64 0, .int .i64 0, .int .i64 0, .int .i64 0, .int .u64 0] 26 ?_; intro gb103 hg w13 BK103 hb; have GW103 := bz_ w hg; have GE103 := GW103; have NB102_103 := bn_ BK102 hg; have NB103_102 := bm_ BK102 hg; replace BK102 := bb_ BK102 hb; replace HB := bs_ w hb; clear hb hg; replace hn102_103 := NB102_103.out; replace hn103_102 := NB103_102.out; replace hc102 := ce3_ BK102) | ((with_reducible refine gate_callee (f := 14) rfl ?_); refine goesA_ (some 8) Try.func14 #[.agg #[.int .i64 a0_0, .int .i64 a0_1, .int .i64 a0_2]] ?_; (with_reducible refine (bucket_CheckLimit.calls a0_0 a0_1 a0_2 t104 _ A3.out).mono ?_); rintro e w16 ⟨rfl, hb⟩; refine ⟨_, rfl, ?_⟩; replace BK102 := bb_ BK102 hb; replace BK103 := bb_ BK103 hb; replace HB := bs_ w hb; clear hb; replace hc103 := ce6_ BK103))
  refine bodyPost_ret (results_ct rfl _ _ gb103 26 #[.int .i64 0, .int .i64 0, .int .i64 0, .int .i64 0, .int .i64 0, .int .u64 0] (0, 0) _ rfl (bp6_ (bq_ BK103)) Try.underlying26 rfl (by kernel_rfl)) rfl ?_
  exact fi_

/-! ### spigotref03_CheckLimit: function 15 -/
def spigotref03_CheckLimit.f (a0_0 : Int) (a0_1 : Int) (a0_2 : Int) : Option (Int) := if a0_0 < 1 then (some 8) else (if a0_0 > 1000000000 then (some 8) else (if a0_1 < 0 then (some 8) else (if a0_1 > 1000000000 then (some 8) else (if a0_2 < 1 then (some 8) else (if a0_2 > 1000000000 then (some 8) else (some 0))))))
set_option maxHeartbeats 8000000 in
set_option maxRecDepth 100000 in
theorem spigotref03_CheckLimit.calls (a0_0 : Int) (a0_1 : Int) (a0_2 : Int) (r : Int) (w : World) (h : spigotref03_CheckLimit.f a0_0 a0_1 a0_2 = some r) :
  Calls Try.prog 15 #[.agg #[.int .i64 a0_0, .int .i64 a0_1, .int .i64 a0_2]] w fun e w' => e = .returned (.int .i64 r) ∧ Below w.heap.size w w' := by
 have hu23 := Try.underlying23
 have HB := Aside0.mk (Below.refl w.heap.size w)
 have H : (if a0_0 < 1 then (some 8) else (if a0_0 > 1000000000 then (some 8) else (if a0_1 < 0 then (some 8) else (if a0_1 > 1000000000 then (some 8) else (if a0_2 < 1 then (some 8) else (if a0_2 > 1000000000 then (some 8) else (some 0))))))) = some r := h
 clear h
 by_cases c2 : a0_0 < 1
 ·rw [if_pos c2] at H
  have c2b0 : decide (a0_0 < 1) = true := decide_eq_true c2
  clear c2
  obtain rfl := Option.some.inj H
  go_enter Try.func15, Try.ntmps15
  go_wp2_with (first | ((with_reducible refine gate_dst (N := 1) rfl ?_); (try refine ug_ (by rfl) ?_); refine bx_ #[.int .i64 a0_0, .int .i64 a0_1, .int .i64 a0_2] 23 ?_; intro gb105 hg w3 BK105 hb; have GW105 := bz_ w hg; have GE105 := GW105; replace HB := bs_ w hb; clear hb hg; replace hc105 := ce3_ BK105))
  go_ret
  exact fi_
 ·rw [if_neg c2] at H
  have c2b0 : decide (a0_0 < 1) = false := decide_eq_false c2
  clear c2
  by_cases c5 : a0_0 > 1000000000
  ·rw [if_pos c5] at H
   have c5b0 : decide (1000000000 < a0_0) = true := decide_eq_true c5
   clear c5
   obtain rfl := Option.some.inj H
   go_enter Try.func15, Try.ntmps15
   go_wp2_with (first | ((with_reducible refine gate_dst (N := 1) rfl ?_); (try refine ug_ (by rfl) ?_); refine bx_ #[.int .i64 a0_0, .int .i64 a0_1, .int .i64 a0_2] 23 ?_; intro gb105 hg w6 BK105 hb; have GW105 := bz_ w hg; have GE105 := GW105; replace HB := bs_ w hb; clear hb hg; replace hc105 := ce3_ BK105))
   go_ret
   exact fi_
  ·rw [if_neg c5] at H
   have c5b0 : decide (1000000000 < a0_0) = false := decide_eq_false c5
   clear c5
   by_cases c8 : a0_1 < 0
   ·rw [if_pos c8] at H
    have c8b0 : decide (a0_1 < 0) = true := decide_eq_true c8
    clear c8
    obtain rfl := Option.some.inj H
    go_enter Try.func15, Try.ntmps15
    go_wp2_with (first | ((with_reducible refine gate_dst (N := 1) rfl ?_); (try refine ug_ (by rfl) ?_); refine bx_ #[.int .i64 a0_0, .int .i64 a0_1, .int .i64 a0_2] 23 ?_; intro gb105 hg w9 BK105 hb; have GW105 := bz_ w hg; have GE105 := GW105; replace HB := bs_ w hb; clear hb hg; replace hc105 := ce3_ BK105))
    go_ret
    exact fi_
   ·rw [if_neg c8] at H
    have c8b0 : decide (a0_1 < 0) = false := decide_eq_false c8
    clear c8
    by_cases c11 : a0_1 > 1000000000
    ·rw [if_pos c11] at H
     have c11b0 : decide (1000000000 < a0_1) = true := decide_eq_true c11
     clear c11
     obtain rfl := Option.some.inj H
     go_enter Try.func15, Try.ntmps15
     go_wp2_with (first | ((with_reducible refine gate_dst (N := 1) rfl ?_); (try refine ug_ (by rfl) ?_); refine bx_ #[.int .i64 a0_0, .int .i64 a0_1, .int .i64 a0_2] 23 ?_; intro gb105 hg w12 BK105 hb; have GW105 := bz_ w hg; have GE105 := GW105; replace HB := bs_ w hb; clear hb hg; replace hc105 := ce3_ BK105))
     go_ret
     exact fi_
    ·rw [if_neg c11] at H
     have c11b0 : decide (1000000000 < a0_1) = false := decide_eq_false c11
     clear c11
     by_cases c14 : a0_2 < 1
     ·rw [if_pos c14] at H
      have c14b0 : decide (a0_2 < 1) = true := decide_eq_true c14
      clear c14
      obtain rfl := Option.some.inj H
      go_enter Try.func15, Try.ntmps15
      go_wp2_with (first | ((with_reducible refine gate_dst (N := 1) rfl ?_); (try refine ug_ (by rfl) ?_); refine bx_ #[.int .i64 a0_0, .int .i64 a0_1, .int .i64 a0_2] 23 ?_; intro gb105 hg w15 BK105 hb; have GW105 := bz_ w hg; have GE105 := GW105; replace HB := bs_ w hb; clear hb hg; replace hc105 := ce3_ BK105))
      go_ret
      exact fi_
     ·rw [if_neg c14] at H
      have c14b0 : decide (a0_2 < 1) = false := decide_eq_false c14
      clear c14
      by_cases c17 : a0_2 > 1000000000
      ·rw [if_pos c17] at H
       have c17b0 : decide (1000000000 < a0_2) = true := decide_eq_true c17
       clear c17
       obtain rfl := Option.some.inj H
       go_enter Try.func15, Try.ntmps15
       go_wp2_with (first | ((with_reducible refine gate_dst (N := 1) rfl ?_); (try refine ug_ (by rfl) ?_); refine bx_ #[.int .i64 a0_0, .int .i64 a0_1, .int .i64 a0_2] 23 ?_; intro gb105 hg w18 BK105 hb; have GW105 := bz_ w hg; have GE105 := GW105; replace HB := bs_ w hb; clear hb hg; replace hc105 := ce3_ BK105))
       go_ret
       exact fi_
      ·rw [if_neg c17] at H
       have c17b0 : decide (1000000000 < a0_2) = false := decide_eq_false c17
       clear c17
       obtain rfl := Option.some.inj H
       go_enter Try.func15, Try.ntmps15
       go_wp2_with (first | ((with_reducible refine gate_dst (N := 1) rfl ?_); (try refine ug_ (by rfl) ?_); refine bx_ #[.int .i64 a0_0, .int .i64 a0_1, .int .i64 a0_2] 23 ?_; intro gb105 hg w20 BK105 hb; have GW105 := bz_ w hg; have GE105 := GW105; replace HB := bs_ w hb; clear hb hg; replace hc105 := ce3_ BK105))
       go_ret
       exact fi_

/-! ### spigotref03_Full: function 11 -/
def spigotref03_Full.f (a0_0 : Int) (a0_1 : Int) (a0_2 : Int) (a1 : Int) : Option (Int × Int × Int × Int × Int × Int × Int) := (spigotref03_CheckLimit.f a0_0 a0_1 a0_2).bind fun t108 => (if t108 = 0 then (some (a0_0, a0_1, a0_2, a0_0, 0, a1, 0)) else ((spigotref03_CheckLimit.f a0_0 a0_1 a0_2).bind fun t109 => (some (0, 0, 0, 0, 0, 0, t109))))
set_option maxHeartbeats 8000000 in
set_option maxRecDepth 100000 in
theorem spigotref03_Full.calls (a0_0 : Int) (a0_1 : Int) (a0_2 : Int) (a1 : Int) (r1 : Int) (r2 : Int) (r3 : Int) (r4 : Int) (r5 : Int) (r6 : Int) (r7 : Int) (w : World) (h : spigotref03_Full.f a0_0 a0_1 a0_2 a1 = some (r1, r2, r3, r4, r5, r6, r7)) :
  Calls Try.prog 11 #[.agg #[.int .i64 a0_0, .int .i64 a0_1, .int .i64 a0_2], .int .u64 a1] w fun e w' => e = .returned (.tuple #[.agg #[.int .i64 r1, .int .i64 r2, .int .i64 r3, .int .i64 r4, .int .i64 r5, .int .u64 r6], .int .i64 r7]) ∧ Below w.heap.size w w' := by
 have hu23 := Try.underlying23
 have hu26 := Try.underlying26
 have HB := Aside0.mk (Below.refl w.heap.size w)
 have H : ((spigotref03_CheckLimit.f a0_0 a0_1 a0_2).bind fun t108 => (if t108 = 0 then (some (a0_0, a0_1, a0_2, a0_0, 0, a1, 0)) else ((spigotref03_CheckLimit.f a0_0 a0_1 a0_2).bind fun t109 => (some (0, 0, 0, 0, 0, 0, t109))))) = some (r1, r2, r3, r4, r5, r6, r7) := h
 clear h
 obtain ⟨t108, A3, H⟩ := bo_ H
 try dsimp only at H
 by_cases c4 : t108 = 0
 ·rw [if_pos c4] at H
  have c4b0 : (t108 == 0) = true := beq_iff_eq.mpr c4
  have c4b1 : (t108 != 0) = false := bne_eq_false_iff_eq.mpr c4
  clear c4
  simp only [Option.some.injEq, Prod.mk.injEq] at H
  obtain ⟨rfl, rfl, rfl, rfl, rfl, rfl, rfl⟩ := H
  go_enter Try.func11, Try.ntmps11
  go_wp2_with (first | ((with_reducible refine gate_dst (N := 2) rfl ?_); refine bx_ #[.int .i64 a0_0, .int .i64 a0_1, .int .i64 a0_2] 23 ?_; intro gb106 hg w5 BK106 hb; have GW106 := bz_ w hg; have GE106 := GW106; replace HB := bs_ w hb; clear hb hg) | ((with_reducible refine gate_dst (N := 4) rfl ?_); refine bx_ #[.int .i64 0, .int .i64 0, .int .i64 0, .int .i64 0, .int .i64 0, .int .u64 0] 26 ?_; intro gb107 hg w6 BK107 hb; have GW107 := bz_ w hg; have GE107 := GW107; have NB106_107 := bn_ BK106 hg; have NB107_106 := bm_ BK106 hg; replace BK106 := bb_ BK106 hb; replace HB := bs_ w hb; clear hb hg; replace hn106_107 := NB106_107.out; replace hn107_106 := NB107_106.out; replace hc106 := ce3_ BK106) | ((with_reducible refine gate_callee (f := 15) rfl ?_); refine goesA_ (some 7) Try.func15 #[.agg #[.int .i64 a0_0, .int .i64 a0_1, .int .i64 a0_2]] ?_; (with_reducible refine (spigotref03_CheckLimit.calls a0_0 a0_1 a0_2 t108 _ A3.out).mono ?_); rintro e w9 ⟨rfl, hb⟩; refine ⟨_, rfl, ?_⟩; replace BK106 := bb_ BK106 hb; replace BK107 := bb_ BK107 hb; replace HB := bs_ w hb; clear hb; replace hc106 := ce3_ BK106; replace hc107 := ce6_ BK107))
  refine bodyPost_ret (results_ct rfl _ _ gb107 26 #[.int .i64 a0_0, .int .i64 a0_1, .int .i64 a0_2, .int .i64 a0_0, .int .i64 0, .int .u64 a1] (0, 0) _ rfl (bp6_ (bq_ BK107)) Try.underlying26 rfl (by kernel_rfl)) rfl ?_
  exact fi_
 ·rw [if_neg c4] at H
  have c4b0 : (t108 == 0) = false := beq_eq_false_iff_ne.mpr c4
  have c4b1 : (t108 != 0) = true := bne_iff_ne.mpr c4
  obtain ⟨t109, A12, H⟩ := bo_ H
  replace H : (some (0, 0, 0, 0, 0, 0, t109)) = some (r1, r2, r3, r4, r5, r6, r7) := H
  simp only [Option.some.injEq, Prod.mk.injEq] at H
  obtain ⟨rfl, rfl, rfl, rfl, rfl, rfl, rfl⟩ := H
  go_enter Try.func11, Try.ntmps11
  go_wp2_with (first | ((with_reducible refine gate_dst (N := 2) rfl ?_); refine bx_ #[.int .i64 a0_0, .int .i64 a0_1, .int .i64 a0_2] 23 ?_; intro gb106 hg w13 BK106 hb; have GW106 := bz_ w hg; have GE106 := GW106; replace HB := bs_ w hb; clear hb hg) | ((with_reducible refine gate_dst (N := 4) rfl ?_); refine bx_ #[.int .i64 0, .int .i64 0, .int .i64 0, .int .i64 0, .int .i64 0, .int .u64 0] 26 ?_; intro gb107 hg w14 BK107 hb; have GW107 := bz_ w hg; have GE107 := GW107; have NB106_107 := bn_ BK106 hg; have NB107_106 := bm_ BK106 hg; replace BK106 := bb_ BK106 hb; replace HB := bs_ w hb; clear hb hg; replace hn106_107 := NB106_107.out; replace hn107_106 := NB107_106.out; replace hc106 := ce3_ BK106) | ((with_reducible refine gate_callee (f := 15) rfl ?_); refine goesA_ (some 7) Try.func15 #[.agg #[.int .i64 a0_0, .int .i64 a0_1, .int .i64 a0_2]] ?_; (with_reducible refine (spigotref03_CheckLimit.calls a0_0 a0_1 a0_2 t108 _ A3.out).mono ?_); rintro e w17 ⟨rfl, hb⟩; refine ⟨_, rfl, ?_⟩; replace BK106 := bb_ BK106 hb; replace BK107 := bb_ BK107 hb; replace HB := bs_ w hb; clear hb; replace hc106 := ce3_ BK106) | ((with_reducible refine gate_callee (f := 15) rfl ?_); refine goesA_ (some 11) Try.func15 #[.agg #[.int .i64 a0_0, .int .i64 a0_1, .int .i64 a0_2]] ?_; (with_reducible refine (spigotref03_CheckLimit.calls a0_0 a0_1 a0_2 t109 _ A12.out).mono ?_); rintro e w19 ⟨rfl, hb⟩; refine ⟨_, rfl, ?_⟩; replace BK106 := bb_ BK106 hb; replace BK107 := bb_ BK107 hb; replace HB := bs_ w hb; clear hb; replace hc107 := ce6_ BK107))
  refine bodyPost_ret (results_ct rfl _ _ gb107 26 #[.int .i64 0, .int .i64 0, .int .i64 0, .int .i64 0, .int .i64 0, .int .u64 0] (0, 0) _ rfl (bp6_ (bq_ BK107)) Try.underlying26 rfl (by kernel_rfl)) rfl ?_
  exact fi_

end Go.Proofs.Ytmfkedeaifdfdaa.X
