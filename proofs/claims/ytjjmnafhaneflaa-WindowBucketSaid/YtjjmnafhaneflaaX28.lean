-- written by xprint.py, a program of this session over the kit's print
import Derived.Test.YtjjmnafhaneflaaX0
namespace Go.Proofs.Ytjjmnafhaneflaa.X
open Go.RowKit Go.Proofs.YtjjmnafhaneflaaW.PrintWords Go.Proofs.YtjjmnafhaneflaaW.PrintLast Go.Proofs.YtjjmnafhaneflaaW.PrintMore
attribute [local go_sem] max2_int min2_int max_two min_two max_three min_three max_four min_four   -- for this text's walks alone
set_option linter.unusedVariables false
set_option linter.unusedSimpArgs false

-- NOT PRINTED: function 7 (spigotlaw38_WindowNames)

/-! ### bucket_CheckLimit: function 47 -/
def bucket_CheckLimit.f (a0_0 : Int) (a0_1 : Int) (a0_2 : Int) : Option (Int) := if a0_0 < 1 then (some 8) else (if a0_0 > 1000000000 then (some 8) else (if a0_1 < 0 then (some 8) else (if a0_1 > 1000000000 then (some 8) else (if a0_2 < 1 then (some 8) else (if a0_2 > 1000000000 then (some 8) else (some 0))))))
set_option maxHeartbeats 8000000 in
set_option maxRecDepth 100000 in
theorem bucket_CheckLimit.calls (a0_0 : Int) (a0_1 : Int) (a0_2 : Int) (r : Int) (w : World) (h : bucket_CheckLimit.f a0_0 a0_1 a0_2 = some r) :
  Calls Try.prog 47 #[.agg #[.int .i64 a0_0, .int .i64 a0_1, .int .i64 a0_2]] w fun e w' => e = .returned (.int .i64 r) ∧ Below w.heap.size w w' := by
 have hu43 := Try.underlying43
 have HB := Aside0.mk (Below.refl w.heap.size w)
 have H : (if a0_0 < 1 then (some 8) else (if a0_0 > 1000000000 then (some 8) else (if a0_1 < 0 then (some 8) else (if a0_1 > 1000000000 then (some 8) else (if a0_2 < 1 then (some 8) else (if a0_2 > 1000000000 then (some 8) else (some 0))))))) = some r := h
 clear h
 by_cases c2 : a0_0 < 1
 ·rw [if_pos c2] at H
  have c2b0 : decide (a0_0 < 1) = true := decide_eq_true c2
  clear c2
  obtain rfl := Option.some.inj H
  go_enter Try.func47, Try.ntmps47
  go_wp2_with (first | ((with_reducible refine gate_dst (N := 1) rfl ?_); (try refine ug_ (by rfl) ?_); refine bx_ #[.int .i64 a0_0, .int .i64 a0_1, .int .i64 a0_2] 43 ?_; intro gb450 hg w3 BK450 hb; have GW450 := bz_ w hg; have GE450 := GW450; replace HB := bs_ w hb; clear hb hg; replace hc450 := ce3_ BK450))
  go_ret
  exact fi_
 ·rw [if_neg c2] at H
  have c2b0 : decide (a0_0 < 1) = false := decide_eq_false c2
  clear c2
  by_cases c5 : a0_0 > 1000000000
  ·rw [if_pos c5] at H
   have c5b0 : decide (1000000000 < a0_0) = true := decide_eq_true c5
   clear c5
   obtain rfl := Option.some.inj H
   go_enter Try.func47, Try.ntmps47
   go_wp2_with (first | ((with_reducible refine gate_dst (N := 1) rfl ?_); (try refine ug_ (by rfl) ?_); refine bx_ #[.int .i64 a0_0, .int .i64 a0_1, .int .i64 a0_2] 43 ?_; intro gb450 hg w6 BK450 hb; have GW450 := bz_ w hg; have GE450 := GW450; replace HB := bs_ w hb; clear hb hg; replace hc450 := ce3_ BK450))
   go_ret
   exact fi_
  ·rw [if_neg c5] at H
   have c5b0 : decide (1000000000 < a0_0) = false := decide_eq_false c5
   clear c5
   by_cases c8 : a0_1 < 0
   ·rw [if_pos c8] at H
    have c8b0 : decide (a0_1 < 0) = true := decide_eq_true c8
    clear c8
    obtain rfl := Option.some.inj H
    go_enter Try.func47, Try.ntmps47
    go_wp2_with (first | ((with_reducible refine gate_dst (N := 1) rfl ?_); (try refine ug_ (by rfl) ?_); refine bx_ #[.int .i64 a0_0, .int .i64 a0_1, .int .i64 a0_2] 43 ?_; intro gb450 hg w9 BK450 hb; have GW450 := bz_ w hg; have GE450 := GW450; replace HB := bs_ w hb; clear hb hg; replace hc450 := ce3_ BK450))
    go_ret
    exact fi_
   ·rw [if_neg c8] at H
    have c8b0 : decide (a0_1 < 0) = false := decide_eq_false c8
    clear c8
    by_cases c11 : a0_1 > 1000000000
    ·rw [if_pos c11] at H
     have c11b0 : decide (1000000000 < a0_1) = true := decide_eq_true c11
     clear c11
     obtain rfl := Option.some.inj H
     go_enter Try.func47, Try.ntmps47
     go_wp2_with (first | ((with_reducible refine gate_dst (N := 1) rfl ?_); (try refine ug_ (by rfl) ?_); refine bx_ #[.int .i64 a0_0, .int .i64 a0_1, .int .i64 a0_2] 43 ?_; intro gb450 hg w12 BK450 hb; have GW450 := bz_ w hg; have GE450 := GW450; replace HB := bs_ w hb; clear hb hg; replace hc450 := ce3_ BK450))
     go_ret
     exact fi_
    ·rw [if_neg c11] at H
     have c11b0 : decide (1000000000 < a0_1) = false := decide_eq_false c11
     clear c11
     by_cases c14 : a0_2 < 1
     ·rw [if_pos c14] at H
      have c14b0 : decide (a0_2 < 1) = true := decide_eq_true c14
      clear c14
      obtain rfl := Option.some.inj H
      go_enter Try.func47, Try.ntmps47
      go_wp2_with (first | ((with_reducible refine gate_dst (N := 1) rfl ?_); (try refine ug_ (by rfl) ?_); refine bx_ #[.int .i64 a0_0, .int .i64 a0_1, .int .i64 a0_2] 43 ?_; intro gb450 hg w15 BK450 hb; have GW450 := bz_ w hg; have GE450 := GW450; replace HB := bs_ w hb; clear hb hg; replace hc450 := ce3_ BK450))
      go_ret
      exact fi_
     ·rw [if_neg c14] at H
      have c14b0 : decide (a0_2 < 1) = false := decide_eq_false c14
      clear c14
      by_cases c17 : a0_2 > 1000000000
      ·rw [if_pos c17] at H
       have c17b0 : decide (1000000000 < a0_2) = true := decide_eq_true c17
       clear c17
       obtain rfl := Option.some.inj H
       go_enter Try.func47, Try.ntmps47
       go_wp2_with (first | ((with_reducible refine gate_dst (N := 1) rfl ?_); (try refine ug_ (by rfl) ?_); refine bx_ #[.int .i64 a0_0, .int .i64 a0_1, .int .i64 a0_2] 43 ?_; intro gb450 hg w18 BK450 hb; have GW450 := bz_ w hg; have GE450 := GW450; replace HB := bs_ w hb; clear hb hg; replace hc450 := ce3_ BK450))
       go_ret
       exact fi_
      ·rw [if_neg c17] at H
       have c17b0 : decide (1000000000 < a0_2) = false := decide_eq_false c17
       clear c17
       obtain rfl := Option.some.inj H
       go_enter Try.func47, Try.ntmps47
       go_wp2_with (first | ((with_reducible refine gate_dst (N := 1) rfl ?_); (try refine ug_ (by rfl) ?_); refine bx_ #[.int .i64 a0_0, .int .i64 a0_1, .int .i64 a0_2] 43 ?_; intro gb450 hg w20 BK450 hb; have GW450 := bz_ w hg; have GE450 := GW450; replace HB := bs_ w hb; clear hb hg; replace hc450 := ce3_ BK450))
       go_ret
       exact fi_

/-! ### bucket_Full: function 42 -/
def bucket_Full.f (a0_0 : Int) (a0_1 : Int) (a0_2 : Int) (a1 : Int) : Option (Int × Int × Int × Int × Int × Int × Int) := (bucket_CheckLimit.f a0_0 a0_1 a0_2).bind fun t453 => (if t453 = 0 then (some (a0_0, a0_1, a0_2, a0_0, 0, a1, 0)) else (some (0, 0, 0, 0, 0, 0, t453)))
set_option maxHeartbeats 8000000 in
set_option maxRecDepth 100000 in
theorem bucket_Full.calls (a0_0 : Int) (a0_1 : Int) (a0_2 : Int) (a1 : Int) (r1 : Int) (r2 : Int) (r3 : Int) (r4 : Int) (r5 : Int) (r6 : Int) (r7 : Int) (w : World) (h : bucket_Full.f a0_0 a0_1 a0_2 a1 = some (r1, r2, r3, r4, r5, r6, r7)) :
  Calls Try.prog 42 #[.agg #[.int .i64 a0_0, .int .i64 a0_1, .int .i64 a0_2], .int .u64 a1] w fun e w' => e = .returned (.tuple #[.agg #[.int .i64 r1, .int .i64 r2, .int .i64 r3, .int .i64 r4, .int .i64 r5, .int .u64 r6], .int .i64 r7]) ∧ Below w.heap.size w w' := by
 have hu43 := Try.underlying43
 have hu74 := Try.underlying74
 have HB := Aside0.mk (Below.refl w.heap.size w)
 have H : ((bucket_CheckLimit.f a0_0 a0_1 a0_2).bind fun t453 => (if t453 = 0 then (some (a0_0, a0_1, a0_2, a0_0, 0, a1, 0)) else (some (0, 0, 0, 0, 0, 0, t453)))) = some (r1, r2, r3, r4, r5, r6, r7) := h
 clear h
 obtain ⟨t453, A3, H⟩ := bo_ H
 replace H : (if t453 = 0 then (some (a0_0, a0_1, a0_2, a0_0, 0, a1, 0)) else (some (0, 0, 0, 0, 0, 0, t453))) = some (r1, r2, r3, r4, r5, r6, r7) := H
 by_cases c4 : t453 = 0
 ·rw [if_pos c4] at H
  have c4b0 : (t453 == 0) = true := beq_iff_eq.mpr c4
  have c4b1 : (t453 != 0) = false := bne_eq_false_iff_eq.mpr c4
  clear c4
  simp only [Option.some.injEq, Prod.mk.injEq] at H
  obtain ⟨rfl, rfl, rfl, rfl, rfl, rfl, rfl⟩ := H
  go_enter Try.func42, Try.ntmps42
  go_wp2_with (first | ((with_reducible refine gate_dst (N := 2) rfl ?_); refine bx_ #[.int .i64 a0_0, .int .i64 a0_1, .int .i64 a0_2] 43 ?_; intro gb451 hg w5 BK451 hb; have GW451 := bz_ w hg; have GE451 := GW451; replace HB := bs_ w hb; clear hb hg) | ((with_reducible refine gate_dst (N := 4) rfl ?_); refine bx_ #[.int .i64 0, .int .i64 0, .int .i64 0, .int .i64 0, .int .i64 0, .int .u64 0] 74 ?_; intro gb452 hg w6 BK452 hb; have GW452 := bz_ w hg; have GE452 := GW452; have NB451_452 := bn_ BK451 hg; have NB452_451 := bm_ BK451 hg; replace BK451 := bb_ BK451 hb; replace HB := bs_ w hb; clear hb hg; replace hn451_452 := NB451_452.out; replace hn452_451 := NB452_451.out; replace hc451 := ce3_ BK451) | ((with_reducible refine gate_callee (f := 47) rfl ?_); refine goesA_ (some 8) Try.func47 #[.agg #[.int .i64 a0_0, .int .i64 a0_1, .int .i64 a0_2]] ?_; (with_reducible refine (bucket_CheckLimit.calls a0_0 a0_1 a0_2 t453 _ A3.out).mono ?_); rintro e w9 ⟨rfl, hb⟩; refine ⟨_, rfl, ?_⟩; replace BK451 := bb_ BK451 hb; replace BK452 := bb_ BK452 hb; replace HB := bs_ w hb; clear hb; replace hc451 := ce3_ BK451; replace hc452 := ce6_ BK452))
  refine bodyPost_ret (results_ct rfl _ _ gb452 74 #[.int .i64 a0_0, .int .i64 a0_1, .int .i64 a0_2, .int .i64 a0_0, .int .i64 0, .int .u64 a1] (0, 0) _ rfl (bp6_ (bq_ BK452)) Try.underlying74 rfl (by kernel_rfl)) rfl ?_
  exact fi_
 ·rw [if_neg c4] at H
  have c4b0 : (t453 == 0) = false := beq_eq_false_iff_ne.mpr c4
  have c4b1 : (t453 != 0) = true := bne_iff_ne.mpr c4
  simp only [Option.some.injEq, Prod.mk.injEq] at H
  obtain ⟨rfl, rfl, rfl, rfl, rfl, rfl, rfl⟩ := H
  go_enter Try.func42, Try.ntmps42
  go_wp2_with (first | ((with_reducible refine gate_dst (N := 2) rfl ?_); refine bx_ #[.int .i64 a0_0, .int .i64 a0_1, .int .i64 a0_2] 43 ?_; intro gb451 hg w12 BK451 hb; have GW451 := bz_ w hg; have GE451 := GW451; replace HB := bs_ w hb; clear hb hg) | ((with_reducible refine gate_dst (N := 4) rfl ?_); refine bx_ #[.int .i64 0, .int .i64 0, .int .i64 0, .int .i64 0, .int .i64 0, .int .u64 0] 74 ?_; intro gb452 hg w13 BK452 hb; have GW452 := bz_ w hg; have GE452 := GW452; have NB451_452 := bn_ BK451 hg; have NB452_451 := bm_ BK451 hg; replace BK451 := bb_ BK451 hb; replace HB := bs_ w hb; clear hb hg; replace hn451_452 := NB451_452.out; replace hn452_451 := NB452_451.out; replace hc451 := ce3_ BK451) | ((with_reducible refine gate_callee (f := 47) rfl ?_); refine goesA_ (some 8) Try.func47 #[.agg #[.int .i64 a0_0, .int .i64 a0_1, .int .i64 a0_2]] ?_; (with_reducible refine (bucket_CheckLimit.calls a0_0 a0_1 a0_2 t453 _ A3.out).mono ?_); rintro e w16 ⟨rfl, hb⟩; refine ⟨_, rfl, ?_⟩; replace BK451 := bb_ BK451 hb; replace BK452 := bb_ BK452 hb; replace HB := bs_ w hb; clear hb; replace hc452 := ce6_ BK452))
  refine bodyPost_ret (results_ct rfl _ _ gb452 74 #[.int .i64 0, .int .i64 0, .int .i64 0, .int .i64 0, .int .i64 0, .int .u64 0] (0, 0) _ rfl (bp6_ (bq_ BK452)) Try.underlying74 rfl (by kernel_rfl)) rfl ?_
  exact fi_

/-! ### bucket_Check: function 48 -/
def bucket_Check.f (a0_0 : Int) (a0_1 : Int) (a0_2 : Int) (a0_3 : Int) (a0_4 : Int) (a0_5 : Int) : Option (Int) := (bucket_CheckLimit.f a0_0 a0_1 a0_2).bind fun t455 => (if t455 = 0 then (if a0_3 < 0 then (some 8) else (if (wrap64 (a0_0 - a0_3)) < 0 then (some 8) else (if a0_4 < 0 then (some 8) else (if a0_4 ≥ a0_2 then (some 8) else (if (wrap64 (a0_0 - a0_3)) = 0 then (if a0_4 > 0 then (some 8) else (some 0)) else (some 0)))))) else (some t455))
set_option maxHeartbeats 8000000 in
set_option maxRecDepth 100000 in
theorem bucket_Check.calls (a0_0 : Int) (a0_1 : Int) (a0_2 : Int) (a0_3 : Int) (a0_4 : Int) (a0_5 : Int) (r : Int) (w : World) (h : bucket_Check.f a0_0 a0_1 a0_2 a0_3 a0_4 a0_5 = some r) :
  Calls Try.prog 48 #[.agg #[.int .i64 a0_0, .int .i64 a0_1, .int .i64 a0_2, .int .i64 a0_3, .int .i64 a0_4, .int .u64 a0_5]] w fun e w' => e = .returned (.int .i64 r) ∧ Below w.heap.size w w' := by
 have hu74 := Try.underlying74
 have hu43 := Try.underlying43
 have HB := Aside0.mk (Below.refl w.heap.size w)
 have H : ((bucket_CheckLimit.f a0_0 a0_1 a0_2).bind fun t455 => (if t455 = 0 then (if a0_3 < 0 then (some 8) else (if (wrap64 (a0_0 - a0_3)) < 0 then (some 8) else (if a0_4 < 0 then (some 8) else (if a0_4 ≥ a0_2 then (some 8) else (if (wrap64 (a0_0 - a0_3)) = 0 then (if a0_4 > 0 then (some 8) else (some 0)) else (some 0)))))) else (some t455))) = some r := h
 clear h
 obtain ⟨t455, A2, H⟩ := bo_ H
 try dsimp only at H
 by_cases c3 : t455 = 0
 ·rw [if_pos c3] at H
  have c3b0 : (t455 == 0) = true := beq_iff_eq.mpr c3
  have c3b1 : (t455 != 0) = false := bne_eq_false_iff_eq.mpr c3
  clear c3
  by_cases c4 : a0_3 < 0
  ·rw [if_pos c4] at H
   have c4b0 : decide (a0_3 < 0) = true := decide_eq_true c4
   clear c4
   obtain rfl := Option.some.inj H
   go_enter Try.func48, Try.ntmps48
   go_wp2_with (first | ((with_reducible refine gate_dst (N := 1) rfl ?_); (try refine ug_ (by rfl) ?_); refine bx_ #[.int .i64 a0_0, .int .i64 a0_1, .int .i64 a0_2, .int .i64 a0_3, .int .i64 a0_4, .int .u64 a0_5] 74 ?_; intro gb454 hg w5 BK454 hb; have GW454 := bz_ w hg; have GE454 := GW454; replace HB := bs_ w hb; clear hb hg; replace hc454 := ce6_ BK454) | ((with_reducible refine gate_callee (f := 47) rfl ?_); (try refine ug_ (by rfl) ?_); refine goesA_ (some 7) Try.func47 #[.agg #[.int .i64 a0_0, .int .i64 a0_1, .int .i64 a0_2]] ?_; (with_reducible refine (bucket_CheckLimit.calls a0_0 a0_1 a0_2 t455 _ A2.out).mono ?_); rintro e w7 ⟨rfl, hb⟩; refine ⟨_, rfl, ?_⟩; replace BK454 := bb_ BK454 hb; replace HB := bs_ w hb; clear hb; replace hc454 := ce6_ BK454))
   go_ret
   exact fi_
  ·rw [if_neg c4] at H
   have c4b0 : decide (a0_3 < 0) = false := decide_eq_false c4
   clear c4
   by_cases c9 : (wrap64 (a0_0 - a0_3)) < 0
   ·rw [if_pos c9] at H
    have c9b0 : decide ((wrap64 (a0_0 - a0_3)) < 0) = true := decide_eq_true c9
    clear c9
    obtain rfl := Option.some.inj H
    go_enter Try.func48, Try.ntmps48
    go_wp2_with (first | ((with_reducible refine gate_dst (N := 1) rfl ?_); (try refine ug_ (by rfl) ?_); refine bx_ #[.int .i64 a0_0, .int .i64 a0_1, .int .i64 a0_2, .int .i64 a0_3, .int .i64 a0_4, .int .u64 a0_5] 74 ?_; intro gb454 hg w10 BK454 hb; have GW454 := bz_ w hg; have GE454 := GW454; replace HB := bs_ w hb; clear hb hg; replace hc454 := ce6_ BK454) | ((with_reducible refine gate_callee (f := 47) rfl ?_); (try refine ug_ (by rfl) ?_); refine goesA_ (some 7) Try.func47 #[.agg #[.int .i64 a0_0, .int .i64 a0_1, .int .i64 a0_2]] ?_; (with_reducible refine (bucket_CheckLimit.calls a0_0 a0_1 a0_2 t455 _ A2.out).mono ?_); rintro e w12 ⟨rfl, hb⟩; refine ⟨_, rfl, ?_⟩; replace BK454 := bb_ BK454 hb; replace HB := bs_ w hb; clear hb; replace hc454 := ce6_ BK454))
    go_ret
    exact fi_
   ·rw [if_neg c9] at H
    have c9b0 : decide ((wrap64 (a0_0 - a0_3)) < 0) = false := decide_eq_false c9
    clear c9
    by_cases c14 : a0_4 < 0
    ·rw [if_pos c14] at H
     have c14b0 : decide (a0_4 < 0) = true := decide_eq_true c14
     clear c14
     obtain rfl := Option.some.inj H
     go_enter Try.func48, Try.ntmps48
     go_wp2_with (first | ((with_reducible refine gate_dst (N := 1) rfl ?_); (try refine ug_ (by rfl) ?_); refine bx_ #[.int .i64 a0_0, .int .i64 a0_1, .int .i64 a0_2, .int .i64 a0_3, .int .i64 a0_4, .int .u64 a0_5] 74 ?_; intro gb454 hg w15 BK454 hb; have GW454 := bz_ w hg; have GE454 := GW454; replace HB := bs_ w hb; clear hb hg; replace hc454 := ce6_ BK454) | ((with_reducible refine gate_callee (f := 47) rfl ?_); (try refine ug_ (by rfl) ?_); refine goesA_ (some 7) Try.func47 #[.agg #[.int .i64 a0_0, .int .i64 a0_1, .int .i64 a0_2]] ?_; (with_reducible refine (bucket_CheckLimit.calls a0_0 a0_1 a0_2 t455 _ A2.out).mono ?_); rintro e w17 ⟨rfl, hb⟩; refine ⟨_, rfl, ?_⟩; replace BK454 := bb_ BK454 hb; replace HB := bs_ w hb; clear hb; replace hc454 := ce6_ BK454))
     go_ret
     exact fi_
    ·rw [if_neg c14] at H
     have c14b0 : decide (a0_4 < 0) = false := decide_eq_false c14
     clear c14
     by_cases c19 : a0_4 ≥ a0_2
     ·rw [if_pos c19] at H
      have c19b0 : decide (a0_2 ≤ a0_4) = true := decide_eq_true c19
      clear c19
      obtain rfl := Option.some.inj H
      go_enter Try.func48, Try.ntmps48
      go_wp2_with (first | ((with_reducible refine gate_dst (N := 1) rfl ?_); (try refine ug_ (by rfl) ?_); refine bx_ #[.int .i64 a0_0, .int .i64 a0_1, .int .i64 a0_2, .int .i64 a0_3, .int .i64 a0_4, .int .u64 a0_5] 74 ?_; intro gb454 hg w20 BK454 hb; have GW454 := bz_ w hg; have GE454 := GW454; replace HB := bs_ w hb; clear hb hg; replace hc454 := ce6_ BK454) | ((with_reducible refine gate_callee (f := 47) rfl ?_); (try refine ug_ (by rfl) ?_); refine goesA_ (some 7) Try.func47 #[.agg #[.int .i64 a0_0, .int .i64 a0_1, .int .i64 a0_2]] ?_; (with_reducible refine (bucket_CheckLimit.calls a0_0 a0_1 a0_2 t455 _ A2.out).mono ?_); rintro e w22 ⟨rfl, hb⟩; refine ⟨_, rfl, ?_⟩; replace BK454 := bb_ BK454 hb; replace HB := bs_ w hb; clear hb; replace hc454 := ce6_ BK454))
      go_ret
      exact fi_
     ·rw [if_neg c19] at H
      have c19b0 : decide (a0_2 ≤ a0_4) = false := decide_eq_false c19
      clear c19
      by_cases c24 : (wrap64 (a0_0 - a0_3)) = 0
      ·rw [if_pos c24] at H
       have c24b0 : ((wrap64 (a0_0 - a0_3)) == 0) = true := beq_iff_eq.mpr c24
       have c24b1 : ((wrap64 (a0_0 - a0_3)) != 0) = false := bne_eq_false_iff_eq.mpr c24
       clear c24
       by_cases c25 : a0_4 > 0
       ·rw [if_pos c25] at H
        have c25b0 : decide (0 < a0_4) = true := decide_eq_true c25
        clear c25
        obtain rfl := Option.some.inj H
        go_enter Try.func48, Try.ntmps48
        go_wp2_with (first | ((with_reducible refine gate_dst (N := 1) rfl ?_); (try refine ug_ (by rfl) ?_); refine bx_ #[.int .i64 a0_0, .int .i64 a0_1, .int .i64 a0_2, .int .i64 a0_3, .int .i64 a0_4, .int .u64 a0_5] 74 ?_; intro gb454 hg w26 BK454 hb; have GW454 := bz_ w hg; have GE454 := GW454; replace HB := bs_ w hb; clear hb hg; replace hc454 := ce6_ BK454) | ((with_reducible refine gate_callee (f := 47) rfl ?_); (try refine ug_ (by rfl) ?_); refine goesA_ (some 7) Try.func47 #[.agg #[.int .i64 a0_0, .int .i64 a0_1, .int .i64 a0_2]] ?_; (with_reducible refine (bucket_CheckLimit.calls a0_0 a0_1 a0_2 t455 _ A2.out).mono ?_); rintro e w28 ⟨rfl, hb⟩; refine ⟨_, rfl, ?_⟩; replace BK454 := bb_ BK454 hb; replace HB := bs_ w hb; clear hb; replace hc454 := ce6_ BK454))
        go_ret
        exact fi_
       ·rw [if_neg c25] at H
        have c25b0 : decide (0 < a0_4) = false := decide_eq_false c25
        clear c25
        obtain rfl := Option.some.inj H
        go_enter Try.func48, Try.ntmps48
        go_wp2_with (first | ((with_reducible refine gate_dst (N := 1) rfl ?_); (try refine ug_ (by rfl) ?_); refine bx_ #[.int .i64 a0_0, .int .i64 a0_1, .int .i64 a0_2, .int .i64 a0_3, .int .i64 a0_4, .int .u64 a0_5] 74 ?_; intro gb454 hg w30 BK454 hb; have GW454 := bz_ w hg; have GE454 := GW454; replace HB := bs_ w hb; clear hb hg; replace hc454 := ce6_ BK454) | ((with_reducible refine gate_callee (f := 47) rfl ?_); (try refine ug_ (by rfl) ?_); refine goesA_ (some 7) Try.func47 #[.agg #[.int .i64 a0_0, .int .i64 a0_1, .int .i64 a0_2]] ?_; (with_reducible refine (bucket_CheckLimit.calls a0_0 a0_1 a0_2 t455 _ A2.out).mono ?_); rintro e w32 ⟨rfl, hb⟩; refine ⟨_, rfl, ?_⟩; replace BK454 := bb_ BK454 hb; replace HB := bs_ w hb; clear hb; replace hc454 := ce6_ BK454))
        go_ret
        exact fi_
      ·rw [if_neg c24] at H
       have c24b0 : ((wrap64 (a0_0 - a0_3)) == 0) = false := beq_eq_false_iff_ne.mpr c24
       have c24b1 : ((wrap64 (a0_0 - a0_3)) != 0) = true := bne_iff_ne.mpr c24
       obtain rfl := Option.some.inj H
       go_enter Try.func48, Try.ntmps48
       go_wp2_with (first | ((with_reducible refine gate_dst (N := 1) rfl ?_); (try refine ug_ (by rfl) ?_); refine bx_ #[.int .i64 a0_0, .int .i64 a0_1, .int .i64 a0_2, .int .i64 a0_3, .int .i64 a0_4, .int .u64 a0_5] 74 ?_; intro gb454 hg w34 BK454 hb; have GW454 := bz_ w hg; have GE454 := GW454; replace HB := bs_ w hb; clear hb hg; replace hc454 := ce6_ BK454) | ((with_reducible refine gate_callee (f := 47) rfl ?_); (try refine ug_ (by rfl) ?_); refine goesA_ (some 7) Try.func47 #[.agg #[.int .i64 a0_0, .int .i64 a0_1, .int .i64 a0_2]] ?_; (with_reducible refine (bucket_CheckLimit.calls a0_0 a0_1 a0_2 t455 _ A2.out).mono ?_); rintro e w36 ⟨rfl, hb⟩; refine ⟨_, rfl, ?_⟩; replace BK454 := bb_ BK454 hb; replace HB := bs_ w hb; clear hb; replace hc454 := ce6_ BK454))
       go_ret
       exact fi_
 ·rw [if_neg c3] at H
  have c3b0 : (t455 == 0) = false := beq_eq_false_iff_ne.mpr c3
  have c3b1 : (t455 != 0) = true := bne_iff_ne.mpr c3
  obtain rfl := Option.some.inj H
  go_enter Try.func48, Try.ntmps48
  go_wp2_with (first | ((with_reducible refine gate_dst (N := 1) rfl ?_); (try refine ug_ (by rfl) ?_); refine bx_ #[.int .i64 a0_0, .int .i64 a0_1, .int .i64 a0_2, .int .i64 a0_3, .int .i64 a0_4, .int .u64 a0_5] 74 ?_; intro gb454 hg w38 BK454 hb; have GW454 := bz_ w hg; have GE454 := GW454; replace HB := bs_ w hb; clear hb hg; replace hc454 := ce6_ BK454) | ((with_reducible refine gate_callee (f := 47) rfl ?_); (try refine ug_ (by rfl) ?_); refine goesA_ (some 7) Try.func47 #[.agg #[.int .i64 a0_0, .int .i64 a0_1, .int .i64 a0_2]] ?_; (with_reducible refine (bucket_CheckLimit.calls a0_0 a0_1 a0_2 t455 _ A2.out).mono ?_); rintro e w40 ⟨rfl, hb⟩; refine ⟨_, rfl, ?_⟩; replace BK454 := bb_ BK454 hb; replace HB := bs_ w hb; clear hb))
  go_ret
  exact fi_

/-! ### bits_Add64: function 55 -/
def bits_Add64.f (a0 : Int) (a1 : Int) (a2 : Int) : Option (Int × Int) := if 0 ≤ a0 ∧ 0 ≤ a1 ∧ 0 ≤ a2 ∧ a2 ≤ 1 then some ((a0 + a1 + a2) % 18446744073709551616, (a0 + a1 + a2) / 18446744073709551616) else none
theorem bits_Add64.calls (a0 : Int) (a1 : Int) (a2 : Int) (r1 : Int) (r2 : Int) (w : World) (h : bits_Add64.f a0 a1 a2 = some (r1, r2)) :
    CallsX Try.prog 55 #[.int .u64 a0, .int .u64 a1, .int .u64 a2] w fun e w' => e = .returned (.tuple #[.int .u64 r1, .int .u64 r2]) ∧ Drawn0 w w' := by
  unfold bits_Add64.f at h
  split at h
  case isFalse => cases h
  rename_i hu
  obtain ⟨h0, h1, h2, h3⟩ := hu
  simp only [Option.some.injEq, Prod.mk.injEq] at h
  obtain ⟨rfl, rfl⟩ := h
  refine ⟨_, w, ?_, rfl, Drawn0.refl _⟩
  rw [run_callFunc_extern Try.func55 (by kernel_rfl) (by kernel_rfl) (by kernel_rfl) (e := add64Entry) (by kernel_rfl), run_add64 a0 a1 a2 h0 h1 h2 h3]
  rfl

end Go.Proofs.Ytjjmnafhaneflaa.X
