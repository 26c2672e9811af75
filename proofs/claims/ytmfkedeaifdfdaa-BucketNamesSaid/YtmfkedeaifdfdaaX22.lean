-- written by xprint.py, a program of this session over the kit's print
import Derived.Test.YtmfkedeaifdfdaaX0
import Derived.Test.YtmfkedeaifdfdaaX1
import Derived.Test.YtmfkedeaifdfdaaX2
import Derived.Test.YtmfkedeaifdfdaaX4
import Derived.Test.YtmfkedeaifdfdaaX10
import Derived.Test.YtmfkedeaifdfdaaX16
import Derived.Test.YtmfkedeaifdfdaaX18
import Derived.Test.YtmfkedeaifdfdaaX20
namespace Go.Proofs.Ytmfkedeaifdfdaa.X
open Go.RowKit Go.Proofs.YtmfkedeaifdfdaaW.PrintWords Go.Proofs.YtmfkedeaifdfdaaW.PrintLast Go.Proofs.YtmfkedeaifdfdaaW.PrintMore
attribute [local go_sem] max2_int min2_int max_two min_two max_three min_three max_four min_four   -- for this text's walks alone
set_option linter.unusedVariables false
set_option linter.unusedSimpArgs false

attribute [local go_sem high] eqA23 eqA26
/-! ### spigotlaw03_given: function 24 -/
def spigotlaw03_given.f  : Option (Int × Int × Int × Int × Int × Int) := (bucket_Full.f 10 3 2 0).bind fun bt349 => ((bucket_Charge.f bt349.1 bt349.2.1 bt349.2.2.1 bt349.2.2.2.1 bt349.2.2.2.2.1 bt349.2.2.2.2.2.1 9).bind fun bt357 => (some (bt357.1, bt357.2.1, bt357.2.2.1, bt357.2.2.2.1, bt357.2.2.2.2.1, bt357.2.2.2.2.2.1)))
set_option maxHeartbeats 8000000 in
set_option maxRecDepth 100000 in
theorem spigotlaw03_given.calls  (r1 : Int) (r2 : Int) (r3 : Int) (r4 : Int) (r5 : Int) (r6 : Int) (w : World) (h : spigotlaw03_given.f  = some (r1, r2, r3, r4, r5, r6)) :
  Calls Try.prog 24 #[] w fun e w' => e = .returned (.agg #[.int .i64 r1, .int .i64 r2, .int .i64 r3, .int .i64 r4, .int .i64 r5, .int .u64 r6]) ∧ Below w.heap.size w w' := by
 have hu26 := Try.underlying26
 have hu23 := Try.underlying23
 have HB := Aside0.mk (Below.refl w.heap.size w)
 have H : ((bucket_Full.f 10 3 2 0).bind fun bt349 => ((bucket_Charge.f bt349.1 bt349.2.1 bt349.2.2.1 bt349.2.2.2.1 bt349.2.2.2.2.1 bt349.2.2.2.2.2.1 9).bind fun bt357 => (some (bt357.1, bt357.2.1, bt357.2.2.1, bt357.2.2.2.1, bt357.2.2.2.2.1, bt357.2.2.2.2.2.1)))) = some (r1, r2, r3, r4, r5, r6) := h
 clear h
 obtain ⟨⟨t349, t350, t351, t352, t353, t354, t355⟩, A1, H⟩ := bo_ H
 try dsimp only at H
 obtain ⟨⟨t357, t358, t359, t360, t361, t362, t363⟩, A2, H⟩ := bo_ H
 replace H : (some (t357, t358, t359, t360, t361, t362)) = some (r1, r2, r3, r4, r5, r6) := H
 simp only [Option.some.injEq, Prod.mk.injEq] at H
 obtain ⟨rfl, rfl, rfl, rfl, rfl, rfl⟩ := H
 go_enter Try.func24, Try.ntmps24
 go_wp2_with (first | ((with_reducible refine gate_dst (N := 0) rfl ?_); refine bx_ #[.int .i64 0, .int .i64 0, .int .i64 0, .int .i64 0, .int .i64 0, .int .u64 0] 26 ?_; intro gb348 hg w3 BK348 hb; have GW348 := bz_ w hg; replace HB := bs_ w hb; clear hb hg) | ((with_reducible refine gate_callee (f := 10) rfl ?_); refine goesA_ (some 5) Try.func10 #[.agg #[.int .i64 10, .int .i64 3, .int .i64 2], .int .u64 0] ?_; (with_reducible refine (bucket_Full.calls 10 3 2 0 t349 t350 t351 t352 t353 t354 t355 _ A1.out).mono ?_); rintro e w4 ⟨rfl, hb⟩; refine ⟨_, rfl, ?_⟩; replace BK348 := bb_ BK348 hb; replace HB := bs_ w hb; clear hb) | ((with_reducible refine gate_dst (N := 1) rfl ?_); refine bx_ #[.int .i64 0, .int .i64 0, .int .i64 0, .int .i64 0, .int .i64 0, .int .u64 0] 26 ?_; intro gb356 hg w5 BK356 hb; have GW356 := bz_ w hg; have NB348_356 := bn_ BK348 hg; have NB356_348 := bm_ BK348 hg; replace BK348 := bb_ BK348 hb; replace HB := bs_ w hb; clear hb hg; replace hn356_348 := NB356_348.out; replace hn348_356 := NB348_356.out; replace hc356 := ce6_ BK356) | ((with_reducible refine gate_callee (f := 18) rfl ?_); refine goesA_ (some 10) Try.func18 #[.agg #[.int .i64 t349, .int .i64 t350, .int .i64 t351, .int .i64 t352, .int .i64 t353, .int .u64 t354], .int .i64 9] ?_; (with_reducible refine (bucket_Charge.calls t349 t350 t351 t352 t353 t354 9 t357 t358 t359 t360 t361 t362 t363 _ A2.out).mono ?_); rintro e w8 ⟨rfl, hb⟩; refine ⟨_, rfl, ?_⟩; replace BK348 := bf_ BK348 hb; replace BK356 := Aside0.mk (blk_below (g := gb356) (o := .cells #[.int .i64 t349, .int .i64 t350, .int .i64 t351, .int .i64 t352, .int .i64 t353, .int .u64 t354] 26 (0, 0)) (bp6_ (bq_ BK356)) hb); replace HB := bs_ w hb; clear hb; replace hc356 := ce6_ BK356; replace hc348 := ce6_ BK348))
 refine bodyPost_ret (results_cell_row rfl _ _ gb348 26 #[.int .i64 t357, .int .i64 t358, .int .i64 t359, .int .i64 t360, .int .i64 t361, .int .u64 t362] (0, 0) _ rfl (blk_put (cs := #[.int .i64 t357, .int .i64 t358, .int .i64 t359, .int .i64 t360, .int .i64 t361, .int .u64 0]) (blk_put (cs := #[.int .i64 t357, .int .i64 t358, .int .i64 t359, .int .i64 t360, .int .i64 0, .int .u64 0]) (blk_put (cs := #[.int .i64 t357, .int .i64 t358, .int .i64 t359, .int .i64 0, .int .i64 0, .int .u64 0]) (blk_put (cs := #[.int .i64 t357, .int .i64 t358, .int .i64 0, .int .i64 0, .int .i64 0, .int .u64 0]) (blk_put (cs := #[.int .i64 t357, .int .i64 0, .int .i64 0, .int .i64 0, .int .i64 0, .int .u64 0]) (blk_put (cs := #[.int .i64 0, .int .i64 0, .int .i64 0, .int .i64 0, .int .i64 0, .int .u64 0]) (bt_ BK348) 0 _ rfl) 1 _ rfl) 2 _ rfl) 3 _ rfl) 4 _ rfl) 5 _ rfl) Try.underlying26 rfl (by kernel_rfl)) rfl ?_
 exact fi_

/-! ### spigotlaw03_holds: function 25 -/
def spigotlaw03_holds.f (k : Nat) (a0_0 : Int) (a0_1 : Int) (a0_2 : Int) (a0_3 : Int) (a0_4 : Int) (a0_5 : Int) (a1 : Int) (a2 : Int) (a3 : Int) : Option (Bool) := (bucket_Refill.f k a0_0 a0_1 a0_2 a0_3 a0_4 a0_5 a1).bind fun bt365 => (if bt365.2.2.2.2.2.2 = 0 then (if bt365.2.2.2.1 = a2 then (if bt365.2.2.2.2.1 = a3 then (if bt365.2.2.2.2.2.1 = a1 then (some (bt365.1 == a0_0 && (bt365.2.1 == a0_1 && (bt365.2.2.1 == a0_2)))) else (some false)) else (some false)) else (some false)) else (some false))
theorem spigotlaw03_holds.mono : ∀ a0 a1 a2 a3 a4 a5 a6 a7 a8 k, LeO (spigotlaw03_holds.f k a0 a1 a2 a3 a4 a5 a6 a7 a8) (spigotlaw03_holds.f (k + 1) a0 a1 a2 a3 a4 a5 a6 a7 a8) := by
  intro a0 a1 a2 a3 a4 a5 a6 a7 a8 k
  unfold spigotlaw03_holds.f
  repeat' first
      | (with_reducible exact bucket_Refill.mono _ _ _ _ _ _ _ _)
      | (with_reducible exact LeO.refl _)
      | (with_reducible exact LeO.none _)
      | (with_reducible refine LeO.ite ?_ ?_)
      | (with_reducible refine LeO.bind ?_ (fun _ => ?_))
      | exact bucket_Refill.mono _ _ _ _ _ _ _ _
      | exact LeO.none _
      | refine LeO.ite ?_ ?_
      | refine LeO.bind ?_ (fun _ => ?_)
set_option maxHeartbeats 8000000 in
set_option maxRecDepth 100000 in
theorem spigotlaw03_holds.calls (k : Nat) (a0_0 : Int) (a0_1 : Int) (a0_2 : Int) (a0_3 : Int) (a0_4 : Int) (a0_5 : Int) (a1 : Int) (a2 : Int) (a3 : Int) (r : Bool) (w : World) (h : spigotlaw03_holds.f k a0_0 a0_1 a0_2 a0_3 a0_4 a0_5 a1 a2 a3 = some r) :
  Calls Try.prog 25 #[.agg #[.int .i64 a0_0, .int .i64 a0_1, .int .i64 a0_2, .int .i64 a0_3, .int .i64 a0_4, .int .u64 a0_5], .int .u64 a1, .int .i64 a2, .int .i64 a3] w fun e w' => e = .returned (.bool r) ∧ Below w.heap.size w w' := by
 have hu26 := Try.underlying26
 have hu23 := Try.underlying23
 have HB := Aside0.mk (Below.refl w.heap.size w)
 have H : ((bucket_Refill.f k a0_0 a0_1 a0_2 a0_3 a0_4 a0_5 a1).bind fun bt365 => (if bt365.2.2.2.2.2.2 = 0 then (if bt365.2.2.2.1 = a2 then (if bt365.2.2.2.2.1 = a3 then (if bt365.2.2.2.2.2.1 = a1 then (some (bt365.1 == a0_0 && (bt365.2.1 == a0_1 && (bt365.2.2.1 == a0_2)))) else (some false)) else (some false)) else (some false)) else (some false))) = some r := h
 clear h
 obtain ⟨⟨t365, t366, t367, t368, t369, t370, t371⟩, A5, H⟩ := bo_ H
 try dsimp only at H
 by_cases c6 : t371 = 0
 ·rw [if_pos c6] at H
  have c6b0 : (t371 == 0) = true := beq_iff_eq.mpr c6
  have c6b1 : (t371 != 0) = false := bne_eq_false_iff_eq.mpr c6
  clear c6
  by_cases c7 : t368 = a2
  ·rw [if_pos c7] at H
   have c7b0 : (t368 == a2) = true := beq_iff_eq.mpr c7
   have c7b1 : (t368 != a2) = false := bne_eq_false_iff_eq.mpr c7
   clear c7
   by_cases c8 : t369 = a3
   ·rw [if_pos c8] at H
    have c8b0 : (t369 == a3) = true := beq_iff_eq.mpr c8
    have c8b1 : (t369 != a3) = false := bne_eq_false_iff_eq.mpr c8
    clear c8
    by_cases c9 : t370 = a1
    ·rw [if_pos c9] at H
     have c9b0 : (t370 == a1) = true := beq_iff_eq.mpr c9
     have c9b1 : (t370 != a1) = false := bne_eq_false_iff_eq.mpr c9
     clear c9
     obtain rfl := Option.some.inj H
     go_enter Try.func25, Try.ntmps25
     go_wp2_with (first | ((with_reducible refine gate_dst (N := 4) rfl ?_); (try refine ug_ (by rfl) ?_); refine bx_ #[.int .i64 a0_0, .int .i64 a0_1, .int .i64 a0_2, .int .i64 a0_3, .int .i64 a0_4, .int .u64 a0_5] 26 ?_; intro gb364 hg w10 BK364 hb; have GW364 := bz_ w hg; have GE364 := GW364; replace HB := bs_ w hb; clear hb hg; replace hc364 := ce6_ BK364) | ((with_reducible refine gate_callee (f := 12) rfl ?_); (try refine ug_ (by rfl) ?_); refine goesA_ (some 14) Try.func12 #[.agg #[.int .i64 a0_0, .int .i64 a0_1, .int .i64 a0_2, .int .i64 a0_3, .int .i64 a0_4, .int .u64 a0_5], .int .u64 a1] ?_; (with_reducible refine (bucket_Refill.calls k a0_0 a0_1 a0_2 a0_3 a0_4 a0_5 a1 t365 t366 t367 t368 t369 t370 t371 _ A5.out).mono ?_); rintro e w12 ⟨rfl, hb⟩; refine ⟨_, rfl, ?_⟩; replace BK364 := bb_ BK364 hb; replace HB := bs_ w hb; clear hb) | ((with_reducible refine gate_dst (N := 9) rfl ?_); (try refine ug_ (by rfl) ?_); refine bx_ #[.int .i64 0, .int .i64 0, .int .i64 0, .int .i64 0, .int .i64 0, .int .u64 0] 26 ?_; intro gb372 hg w13 BK372 hb; have GW372 := bz_ w hg; have GE372 := GW372; have NB364_372 := bn_ BK364 hg; have NB372_364 := bm_ BK364 hg; replace BK364 := bb_ BK364 hb; replace HB := bs_ w hb; clear hb hg; replace hn372_364 := NB372_364.out; replace hn364_372 := NB364_372.out; replace hc372 := ce6_ BK372; replace hc364 := ce6_ BK364))
     go_ret
     exact fi_
    ·rw [if_neg c9] at H
     have c9b0 : (t370 == a1) = false := beq_eq_false_iff_ne.mpr c9
     have c9b1 : (t370 != a1) = true := bne_iff_ne.mpr c9
     obtain rfl := Option.some.inj H
     go_enter Try.func25, Try.ntmps25
     go_wp2_with (first | ((with_reducible refine gate_dst (N := 4) rfl ?_); (try refine ug_ (by rfl) ?_); refine bx_ #[.int .i64 a0_0, .int .i64 a0_1, .int .i64 a0_2, .int .i64 a0_3, .int .i64 a0_4, .int .u64 a0_5] 26 ?_; intro gb364 hg w17 BK364 hb; have GW364 := bz_ w hg; have GE364 := GW364; replace HB := bs_ w hb; clear hb hg; replace hc364 := ce6_ BK364) | ((with_reducible refine gate_callee (f := 12) rfl ?_); (try refine ug_ (by rfl) ?_); refine goesA_ (some 14) Try.func12 #[.agg #[.int .i64 a0_0, .int .i64 a0_1, .int .i64 a0_2, .int .i64 a0_3, .int .i64 a0_4, .int .u64 a0_5], .int .u64 a1] ?_; (with_reducible refine (bucket_Refill.calls k a0_0 a0_1 a0_2 a0_3 a0_4 a0_5 a1 t365 t366 t367 t368 t369 t370 t371 _ A5.out).mono ?_); rintro e w19 ⟨rfl, hb⟩; refine ⟨_, rfl, ?_⟩; replace BK364 := bb_ BK364 hb; replace HB := bs_ w hb; clear hb) | ((with_reducible refine gate_dst (N := 9) rfl ?_); (try refine ug_ (by rfl) ?_); refine bx_ #[.int .i64 0, .int .i64 0, .int .i64 0, .int .i64 0, .int .i64 0, .int .u64 0] 26 ?_; intro gb372 hg w20 BK372 hb; have GW372 := bz_ w hg; have GE372 := GW372; have NB364_372 := bn_ BK364 hg; have NB372_364 := bm_ BK364 hg; replace BK364 := bb_ BK364 hb; replace HB := bs_ w hb; clear hb hg; replace hn372_364 := NB372_364.out; replace hn364_372 := NB364_372.out; replace hc372 := ce6_ BK372))
     go_ret
     exact fi_
   ·rw [if_neg c8] at H
    have c8b0 : (t369 == a3) = false := beq_eq_false_iff_ne.mpr c8
    have c8b1 : (t369 != a3) = true := bne_iff_ne.mpr c8
    obtain rfl := Option.some.inj H
    go_enter Try.func25, Try.ntmps25
    go_wp2_with (first | ((with_reducible refine gate_dst (N := 4) rfl ?_); (try refine ug_ (by rfl) ?_); refine bx_ #[.int .i64 a0_0, .int .i64 a0_1, .int .i64 a0_2, .int .i64 a0_3, .int .i64 a0_4, .int .u64 a0_5] 26 ?_; intro gb364 hg w23 BK364 hb; have GW364 := bz_ w hg; have GE364 := GW364; replace HB := bs_ w hb; clear hb hg; replace hc364 := ce6_ BK364) | ((with_reducible refine gate_callee (f := 12) rfl ?_); (try refine ug_ (by rfl) ?_); refine goesA_ (some 14) Try.func12 #[.agg #[.int .i64 a0_0, .int .i64 a0_1, .int .i64 a0_2, .int .i64 a0_3, .int .i64 a0_4, .int .u64 a0_5], .int .u64 a1] ?_; (with_reducible refine (bucket_Refill.calls k a0_0 a0_1 a0_2 a0_3 a0_4 a0_5 a1 t365 t366 t367 t368 t369 t370 t371 _ A5.out).mono ?_); rintro e w25 ⟨rfl, hb⟩; refine ⟨_, rfl, ?_⟩; replace BK364 := bb_ BK364 hb; replace HB := bs_ w hb; clear hb) | ((with_reducible refine gate_dst (N := 9) rfl ?_); (try refine ug_ (by rfl) ?_); refine bx_ #[.int .i64 0, .int .i64 0, .int .i64 0, .int .i64 0, .int .i64 0, .int .u64 0] 26 ?_; intro gb372 hg w26 BK372 hb; have GW372 := bz_ w hg; have GE372 := GW372; have NB364_372 := bn_ BK364 hg; have NB372_364 := bm_ BK364 hg; replace BK364 := bb_ BK364 hb; replace HB := bs_ w hb; clear hb hg; replace hn372_364 := NB372_364.out; replace hn364_372 := NB364_372.out; replace hc372 := ce6_ BK372))
    go_ret
    exact fi_
  ·rw [if_neg c7] at H
   have c7b0 : (t368 == a2) = false := beq_eq_false_iff_ne.mpr c7
   have c7b1 : (t368 != a2) = true := bne_iff_ne.mpr c7
   obtain rfl := Option.some.inj H
   go_enter Try.func25, Try.ntmps25
   go_wp2_with (first | ((with_reducible refine gate_dst (N := 4) rfl ?_); (try refine ug_ (by rfl) ?_); refine bx_ #[.int .i64 a0_0, .int .i64 a0_1, .int .i64 a0_2, .int .i64 a0_3, .int .i64 a0_4, .int .u64 a0_5] 26 ?_; intro gb364 hg w29 BK364 hb; have GW364 := bz_ w hg; have GE364 := GW364; replace HB := bs_ w hb; clear hb hg; replace hc364 := ce6_ BK364) | ((with_reducible refine gate_callee (f := 12) rfl ?_); (try refine ug_ (by rfl) ?_); refine goesA_ (some 14) Try.func12 #[.agg #[.int .i64 a0_0, .int .i64 a0_1, .int .i64 a0_2, .int .i64 a0_3, .int .i64 a0_4, .int .u64 a0_5], .int .u64 a1] ?_; (with_reducible refine (bucket_Refill.calls k a0_0 a0_1 a0_2 a0_3 a0_4 a0_5 a1 t365 t366 t367 t368 t369 t370 t371 _ A5.out).mono ?_); rintro e w31 ⟨rfl, hb⟩; refine ⟨_, rfl, ?_⟩; replace BK364 := bb_ BK364 hb; replace HB := bs_ w hb; clear hb) | ((with_reducible refine gate_dst (N := 9) rfl ?_); (try refine ug_ (by rfl) ?_); refine bx_ #[.int .i64 0, .int .i64 0, .int .i64 0, .int .i64 0, .int .i64 0, .int .u64 0] 26 ?_; intro gb372 hg w32 BK372 hb; have GW372 := bz_ w hg; have GE372 := GW372; have NB364_372 := bn_ BK364 hg; have NB372_364 := bm_ BK364 hg; replace BK364 := bb_ BK364 hb; replace HB := bs_ w hb; clear hb hg; replace hn372_364 := NB372_364.out; replace hn364_372 := NB364_372.out; replace hc372 := ce6_ BK372))
   go_ret
   exact fi_
 ·rw [if_neg c6] at H
  have c6b0 : (t371 == 0) = false := beq_eq_false_iff_ne.mpr c6
  have c6b1 : (t371 != 0) = true := bne_iff_ne.mpr c6
  obtain rfl := Option.some.inj H
  go_enter Try.func25, Try.ntmps25
  go_wp2_with (first | ((with_reducible refine gate_dst (N := 4) rfl ?_); (try refine ug_ (by rfl) ?_); refine bx_ #[.int .i64 a0_0, .int .i64 a0_1, .int .i64 a0_2, .int .i64 a0_3, .int .i64 a0_4, .int .u64 a0_5] 26 ?_; intro gb364 hg w35 BK364 hb; have GW364 := bz_ w hg; have GE364 := GW364; replace HB := bs_ w hb; clear hb hg; replace hc364 := ce6_ BK364) | ((with_reducible refine gate_callee (f := 12) rfl ?_); (try refine ug_ (by rfl) ?_); refine goesA_ (some 14) Try.func12 #[.agg #[.int .i64 a0_0, .int .i64 a0_1, .int .i64 a0_2, .int .i64 a0_3, .int .i64 a0_4, .int .u64 a0_5], .int .u64 a1] ?_; (with_reducible refine (bucket_Refill.calls k a0_0 a0_1 a0_2 a0_3 a0_4 a0_5 a1 t365 t366 t367 t368 t369 t370 t371 _ A5.out).mono ?_); rintro e w37 ⟨rfl, hb⟩; refine ⟨_, rfl, ?_⟩; replace BK364 := bb_ BK364 hb; replace HB := bs_ w hb; clear hb) | ((with_reducible refine gate_dst (N := 9) rfl ?_); (try refine ug_ (by rfl) ?_); refine bx_ #[.int .i64 0, .int .i64 0, .int .i64 0, .int .i64 0, .int .i64 0, .int .u64 0] 26 ?_; intro gb372 hg w38 BK372 hb; have GW372 := bz_ w hg; have GE372 := GW372; have NB364_372 := bn_ BK364 hg; have NB372_364 := bm_ BK364 hg; replace BK364 := bb_ BK364 hb; replace HB := bs_ w hb; clear hb hg; replace hn372_364 := NB372_364.out; replace hn364_372 := NB364_372.out; replace hc372 := ce6_ BK372))
  go_ret
  exact fi_

/-! ### spigotlaw03_waits: function 26 -/
def spigotlaw03_waits.f (k : Nat) (a0_0 : Int) (a0_1 : Int) (a0_2 : Int) (a0_3 : Int) (a0_4 : Int) (a0_5 : Int) (a1 : Int) (a2 : Int) : Option (Bool) := (bucket_Wait.f k a0_0 a0_1 a0_2 a0_3 a0_4 a0_5 a1).bind fun bt374 => (if bt374.2 = 0 then (some (bt374.1 == a2)) else (some false))
theorem spigotlaw03_waits.mono : ∀ a0 a1 a2 a3 a4 a5 a6 a7 k, LeO (spigotlaw03_waits.f k a0 a1 a2 a3 a4 a5 a6 a7) (spigotlaw03_waits.f (k + 1) a0 a1 a2 a3 a4 a5 a6 a7) := by
  intro a0 a1 a2 a3 a4 a5 a6 a7 k
  unfold spigotlaw03_waits.f
  repeat' first
      | (with_reducible exact bucket_Wait.mono _ _ _ _ _ _ _ _)
      | (with_reducible exact LeO.refl _)
      | (with_reducible exact LeO.none _)
      | (with_reducible refine LeO.ite ?_ ?_)
      | (with_reducible refine LeO.bind ?_ (fun _ => ?_))
      | exact bucket_Wait.mono _ _ _ _ _ _ _ _
      | exact LeO.none _
      | refine LeO.ite ?_ ?_
      | refine LeO.bind ?_ (fun _ => ?_)
set_option maxHeartbeats 8000000 in
set_option maxRecDepth 100000 in
theorem spigotlaw03_waits.calls (k : Nat) (a0_0 : Int) (a0_1 : Int) (a0_2 : Int) (a0_3 : Int) (a0_4 : Int) (a0_5 : Int) (a1 : Int) (a2 : Int) (r : Bool) (w : World) (h : spigotlaw03_waits.f k a0_0 a0_1 a0_2 a0_3 a0_4 a0_5 a1 a2 = some r) :
  Calls Try.prog 26 #[.agg #[.int .i64 a0_0, .int .i64 a0_1, .int .i64 a0_2, .int .i64 a0_3, .int .i64 a0_4, .int .u64 a0_5], .int .i64 a1, .int .u64 a2] w fun e w' => e = .returned (.bool r) ∧ Below w.heap.size w w' := by
 have hu26 := Try.underlying26
 have HB := Aside0.mk (Below.refl w.heap.size w)
 have H : ((bucket_Wait.f k a0_0 a0_1 a0_2 a0_3 a0_4 a0_5 a1).bind fun bt374 => (if bt374.2 = 0 then (some (bt374.1 == a2)) else (some false))) = some r := h
 clear h
 obtain ⟨⟨t374, t375⟩, A4, H⟩ := bo_ H
 replace H : (if t375 = 0 then (some (t374 == a2)) else (some false)) = some r := H
 by_cases c5 : t375 = 0
 ·rw [if_pos c5] at H
  have c5b0 : (t375 == 0) = true := beq_iff_eq.mpr c5
  have c5b1 : (t375 != 0) = false := bne_eq_false_iff_eq.mpr c5
  clear c5
  obtain rfl := Option.some.inj H
  go_enter Try.func26, Try.ntmps26
  go_wp2_with (first | ((with_reducible refine gate_dst (N := 3) rfl ?_); (try refine ug_ (by rfl) ?_); refine bx_ #[.int .i64 a0_0, .int .i64 a0_1, .int .i64 a0_2, .int .i64 a0_3, .int .i64 a0_4, .int .u64 a0_5] 26 ?_; intro gb373 hg w6 BK373 hb; have GW373 := bz_ w hg; have GE373 := GW373; replace HB := bs_ w hb; clear hb hg; replace hc373 := ce6_ BK373) | ((with_reducible refine gate_callee (f := 20) rfl ?_); (try refine ug_ (by rfl) ?_); refine goesA_ (some 12) Try.func20 #[.agg #[.int .i64 a0_0, .int .i64 a0_1, .int .i64 a0_2, .int .i64 a0_3, .int .i64 a0_4, .int .u64 a0_5], .int .i64 a1] ?_; (with_reducible refine (bucket_Wait.calls k a0_0 a0_1 a0_2 a0_3 a0_4 a0_5 a1 t374 t375 _ A4.out).mono ?_); rintro e w8 ⟨rfl, hb⟩; refine ⟨_, rfl, ?_⟩; replace BK373 := bb_ BK373 hb; replace HB := bs_ w hb; clear hb))
  go_ret
  exact fi_
 ·rw [if_neg c5] at H
  have c5b0 : (t375 == 0) = false := beq_eq_false_iff_ne.mpr c5
  have c5b1 : (t375 != 0) = true := bne_iff_ne.mpr c5
  obtain rfl := Option.some.inj H
  go_enter Try.func26, Try.ntmps26
  go_wp2_with (first | ((with_reducible refine gate_dst (N := 3) rfl ?_); (try refine ug_ (by rfl) ?_); refine bx_ #[.int .i64 a0_0, .int .i64 a0_1, .int .i64 a0_2, .int .i64 a0_3, .int .i64 a0_4, .int .u64 a0_5] 26 ?_; intro gb373 hg w9 BK373 hb; have GW373 := bz_ w hg; have GE373 := GW373; replace HB := bs_ w hb; clear hb hg; replace hc373 := ce6_ BK373) | ((with_reducible refine gate_callee (f := 20) rfl ?_); (try refine ug_ (by rfl) ?_); refine goesA_ (some 12) Try.func20 #[.agg #[.int .i64 a0_0, .int .i64 a0_1, .int .i64 a0_2, .int .i64 a0_3, .int .i64 a0_4, .int .u64 a0_5], .int .i64 a1] ?_; (with_reducible refine (bucket_Wait.calls k a0_0 a0_1 a0_2 a0_3 a0_4 a0_5 a1 t374 t375 _ A4.out).mono ?_); rintro e w11 ⟨rfl, hb⟩; refine ⟨_, rfl, ?_⟩; replace BK373 := bb_ BK373 hb; replace HB := bs_ w hb; clear hb))
  go_ret
  exact fi_

/-! ### spigotlaw03_alive: function 27 -/
def spigotlaw03_alive.f (k : Nat)  : Option (Bool) := (spigotlaw03_given.f).bind fun bt376 => ((bucket_Change.f k bt376.1 bt376.2.1 bt376.2.2.1 bt376.2.2.2.1 bt376.2.2.2.2.1 bt376.2.2.2.2.2 4 1 1 3).bind fun bt383 => (if bt376.2.2.2.1 = 1 then ((spigotlaw03_holds.f k bt376.1 bt376.2.1 bt376.2.2.1 bt376.2.2.2.1 bt376.2.2.2.2.1 bt376.2.2.2.2.2 3 5 1).bind fun t391 => (if t391 = true then ((spigotlaw03_holds.f k bt376.1 bt376.2.1 bt376.2.2.1 bt376.2.2.2.1 bt376.2.2.2.2.1 bt376.2.2.2.2.2 4 7 0).bind fun t392 => (if t392 = true then ((spigotlaw03_holds.f k bt376.1 bt376.2.1 bt376.2.2.1 bt376.2.2.2.1 bt376.2.2.2.2.1 bt376.2.2.2.2.2 6 10 0).bind fun t393 => (if t393 = true then ((spigotlaw03_waits.f k bt376.1 bt376.2.1 bt376.2.2.1 bt376.2.2.2.1 bt376.2.2.2.2.1 bt376.2.2.2.2.2 5 3).bind fun t394 => (if t394 = true then ((spigotlaw03_waits.f k bt376.1 bt376.2.1 bt376.2.2.1 bt376.2.2.2.1 bt376.2.2.2.2.1 bt376.2.2.2.2.2 11 18446744073709551615).bind fun t395 => (if t395 = true then (if bt383.2.2.2.2.2.2 = 0 then (some ((bt383.1 == 4 && (bt383.2.1 == 1 && (bt383.2.2.1 == 1))) && (bt383.2.2.2.1 == 4 && (bt383.2.2.2.2.1 == 0 && (bt383.2.2.2.2.2.1 == 3))))) else (none)) else (none))) else (none))) else (none))) else (none))) else (none))) else (none)))
theorem spigotlaw03_alive.mono : ∀ k, LeO (spigotlaw03_alive.f k ) (spigotlaw03_alive.f (k + 1) ) := by
  intro  k
  unfold spigotlaw03_alive.f
  repeat' first
      | (with_reducible exact bucket_Change.mono _ _ _ _ _ _ _ _ _ _ _)
      | (with_reducible exact spigotlaw03_holds.mono _ _ _ _ _ _ _ _ _ _)
      | (with_reducible exact spigotlaw03_waits.mono _ _ _ _ _ _ _ _ _)
      | (with_reducible exact LeO.refl _)
      | (with_reducible exact LeO.none _)
      | (with_reducible refine LeO.ite ?_ ?_)
      | (with_reducible refine LeO.bind ?_ (fun _ => ?_))
      | exact bucket_Change.mono _ _ _ _ _ _ _ _ _ _ _
      | exact spigotlaw03_holds.mono _ _ _ _ _ _ _ _ _ _
      | exact spigotlaw03_waits.mono _ _ _ _ _ _ _ _ _
      | exact LeO.none _
      | refine LeO.ite ?_ ?_
      | refine LeO.bind ?_ (fun _ => ?_)
set_option maxHeartbeats 8000000 in
set_option maxRecDepth 100000 in
theorem spigotlaw03_alive.calls (k : Nat)  (r : Bool) (w : World) (h : spigotlaw03_alive.f k  = some r) :
  Calls Try.prog 27 #[] w fun e w' => e = .returned (.bool r) ∧ Below w.heap.size w w' := by
 have hu26 := Try.underlying26
 have hu23 := Try.underlying23
 have HB := Aside0.mk (Below.refl w.heap.size w)
 have H : ((spigotlaw03_given.f).bind fun bt376 => ((bucket_Change.f k bt376.1 bt376.2.1 bt376.2.2.1 bt376.2.2.2.1 bt376.2.2.2.2.1 bt376.2.2.2.2.2 4 1 1 3).bind fun bt383 => (if bt376.2.2.2.1 = 1 then ((spigotlaw03_holds.f k bt376.1 bt376.2.1 bt376.2.2.1 bt376.2.2.2.1 bt376.2.2.2.2.1 bt376.2.2.2.2.2 3 5 1).bind fun t391 => (if t391 = true then ((spigotlaw03_holds.f k bt376.1 bt376.2.1 bt376.2.2.1 bt376.2.2.2.1 bt376.2.2.2.2.1 bt376.2.2.2.2.2 4 7 0).bind fun t392 => (if t392 = true then ((spigotlaw03_holds.f k bt376.1 bt376.2.1 bt376.2.2.1 bt376.2.2.2.1 bt376.2.2.2.2.1 bt376.2.2.2.2.2 6 10 0).bind fun t393 => (if t393 = true then ((spigotlaw03_waits.f k bt376.1 bt376.2.1 bt376.2.2.1 bt376.2.2.2.1 bt376.2.2.2.2.1 bt376.2.2.2.2.2 5 3).bind fun t394 => (if t394 = true then ((spigotlaw03_waits.f k bt376.1 bt376.2.1 bt376.2.2.1 bt376.2.2.2.1 bt376.2.2.2.2.1 bt376.2.2.2.2.2 11 18446744073709551615).bind fun t395 => (if t395 = true then (if bt383.2.2.2.2.2.2 = 0 then (some ((bt383.1 == 4 && (bt383.2.1 == 1 && (bt383.2.2.1 == 1))) && (bt383.2.2.2.1 == 4 && (bt383.2.2.2.2.1 == 0 && (bt383.2.2.2.2.2.1 == 3))))) else (none)) else (none))) else (none))) else (none))) else (none))) else (none))) else (none)))) = some r := h
 clear h
 obtain ⟨⟨t376, t377, t378, t379, t380, t381⟩, A1, H⟩ := bo_ H
 try dsimp only at H
 obtain ⟨⟨t383, t384, t385, t386, t387, t388, t389⟩, A2, H⟩ := bo_ H
 try dsimp only at H
 by_cases c3 : t379 = 1
 rotate_left
 ·rw [if_neg c3] at H; exact absurd H (by simp)
 rw [if_pos c3] at H
 have c3b0 : (t379 == 1) = true := beq_iff_eq.mpr c3
 have c3b1 : (t379 != 1) = false := bne_eq_false_iff_eq.mpr c3
 clear c3
 obtain ⟨t391, A4, H⟩ := bo_ H
 try dsimp only at H
 by_cases c5 : t391 = true
 ·subst c5
  rw [if_pos rfl] at H
  try dsimp only at H
  obtain ⟨t392, A6, H⟩ := bo_ H
  try dsimp only at H
  by_cases c7 : t392 = true
  ·subst c7
   rw [if_pos rfl] at H
   try dsimp only at H
   obtain ⟨t393, A8, H⟩ := bo_ H
   try dsimp only at H
   by_cases c9 : t393 = true
   ·subst c9
    rw [if_pos rfl] at H
    try dsimp only at H
    obtain ⟨t394, A10, H⟩ := bo_ H
    try dsimp only at H
    by_cases c11 : t394 = true
    ·subst c11
     rw [if_pos rfl] at H
     try dsimp only at H
     obtain ⟨t395, A12, H⟩ := bo_ H
     try dsimp only at H
     by_cases c13 : t395 = true
     ·subst c13
      rw [if_pos rfl] at H
      try dsimp only at H
      by_cases c14 : t389 = 0
      rotate_left
      ·rw [if_neg c14] at H; exact absurd H (by simp)
      rw [if_pos c14] at H
      have c14b0 : (t389 == 0) = true := beq_iff_eq.mpr c14
      have c14b1 : (t389 != 0) = false := bne_eq_false_iff_eq.mpr c14
      clear c14
      obtain rfl := Option.some.inj H
      go_enter Try.func27, Try.ntmps27
      go_wp2_with (first | ((with_reducible refine gate_callee (f := 24) rfl ?_); (try refine ug_ (by rfl) ?_); refine goesA_ (some 4) Try.func24 #[] ?_; (with_reducible refine (spigotlaw03_given.calls  t376 t377 t378 t379 t380 t381 _ A1.out).mono ?_); rintro e w15 ⟨rfl, hb⟩; refine ⟨_, rfl, ?_⟩; replace HB := bs_ w hb; clear hb) | ((with_reducible refine gate_dst (N := 1) rfl ?_); (try refine ug_ (by rfl) ?_); refine bx_ #[.int .i64 0, .int .i64 0, .int .i64 0, .int .i64 0, .int .i64 0, .int .u64 0] 26 ?_; intro gb382 hg w16 BK382 hb; have GW382 := bz_ w hg; replace HB := bs_ w hb; clear hb hg; replace hc382 := ce6_ BK382) | ((with_reducible refine gate_callee (f := 22) rfl ?_); (try refine ug_ (by rfl) ?_); refine goesA_ (some 8) Try.func22 #[.agg #[.int .i64 t376, .int .i64 t377, .int .i64 t378, .int .i64 t379, .int .i64 t380, .int .u64 t381], .agg #[.int .i64 4, .int .i64 1, .int .i64 1], .int .u64 3] ?_; (with_reducible refine (bucket_Change.calls k t376 t377 t378 t379 t380 t381 4 1 1 3 t383 t384 t385 t386 t387 t388 t389 _ A2.out).mono ?_); rintro e w18 ⟨rfl, hb⟩; refine ⟨_, rfl, ?_⟩; replace BK382 := Aside0.mk (blk_below (g := gb382) (o := .cells #[.int .i64 t376, .int .i64 t377, .int .i64 t378, .int .i64 t379, .int .i64 t380, .int .u64 t381] 26 (0, 0)) (bp6_ (bq_ BK382)) hb); replace HB := bs_ w hb; clear hb) | ((with_reducible refine gate_dst (N := 2) rfl ?_); (try refine ug_ (by rfl) ?_); refine bx_ #[.int .i64 0, .int .i64 0, .int .i64 0, .int .i64 0, .int .i64 0, .int .u64 0] 26 ?_; intro gb390 hg w19 BK390 hb; have GW390 := bz_ w hg; have NB382_390 := bn_ BK382 hg; have NB390_382 := bm_ BK382 hg; replace BK382 := bb_ BK382 hb; replace HB := bs_ w hb; clear hb hg; replace hn390_382 := NB390_382.out; replace hn382_390 := NB382_390.out; replace hc390 := ce6_ BK390; replace hc382 := ce6_ BK382) | (go_at_call 25; (with_reducible refine (spigotlaw03_holds.calls k t376 t377 t378 t379 t380 t381 3 5 1 true _ A4.out).mono ?_); rintro e w23 ⟨rfl, hb⟩; replace BK382 := bf_ BK382 hb; replace BK390 := Aside0.mk (blk_below (g := gb390) (o := .cells #[.int .i64 t383, .int .i64 t384, .int .i64 t385, .int .i64 t386, .int .i64 t387, .int .u64 t388] 26 (0, 0)) (bp6_ (bq_ BK390)) hb); replace HB := bs_ w hb; clear hb; replace hc382 := ce6_ BK382) | (go_at_call 25; (with_reducible refine (spigotlaw03_holds.calls k t376 t377 t378 t379 t380 t381 4 7 0 true _ A6.out).mono ?_); rintro e w25 ⟨rfl, hb⟩; replace BK382 := bb_ BK382 hb; replace BK390 := bb_ BK390 hb; replace HB := bs_ w hb; clear hb; replace hc382 := ce6_ BK382) | (go_at_call 25; (with_reducible refine (spigotlaw03_holds.calls k t376 t377 t378 t379 t380 t381 6 10 0 true _ A8.out).mono ?_); rintro e w27 ⟨rfl, hb⟩; replace BK382 := bb_ BK382 hb; replace BK390 := bb_ BK390 hb; replace HB := bs_ w hb; clear hb; replace hc382 := ce6_ BK382) | (go_at_call 26; (with_reducible refine (spigotlaw03_waits.calls k t376 t377 t378 t379 t380 t381 5 3 true _ A10.out).mono ?_); rintro e w29 ⟨rfl, hb⟩; replace BK382 := bb_ BK382 hb; replace BK390 := bb_ BK390 hb; replace HB := bs_ w hb; clear hb; replace hc382 := ce6_ BK382) | (go_at_call 26; (with_reducible refine (spigotlaw03_waits.calls k t376 t377 t378 t379 t380 t381 11 18446744073709551615 true _ A12.out).mono ?_); rintro e w31 ⟨rfl, hb⟩; replace BK382 := bb_ BK382 hb; replace BK390 := bb_ BK390 hb; replace HB := bs_ w hb; clear hb; replace hc390 := ce6_ BK390))
      go_ret
      exact fi_
     ·replace c13 := Bool.eq_false_iff.mpr c13
      subst c13
      replace H : (none) = some r := by rw [if_neg (show ¬ (false = true) by decide)] at H; exact H
      exact absurd H (by simp)
    ·replace c11 := Bool.eq_false_iff.mpr c11
     subst c11
     replace H : (none) = some r := by rw [if_neg (show ¬ (false = true) by decide)] at H; exact H
     exact absurd H (by simp)
   ·replace c9 := Bool.eq_false_iff.mpr c9
    subst c9
    replace H : (none) = some r := by rw [if_neg (show ¬ (false = true) by decide)] at H; exact H
    exact absurd H (by simp)
  ·replace c7 := Bool.eq_false_iff.mpr c7
   subst c7
   replace H : (none) = some r := by rw [if_neg (show ¬ (false = true) by decide)] at H; exact H
   exact absurd H (by simp)
 ·replace c5 := Bool.eq_false_iff.mpr c5
  subst c5
  replace H : (none) = some r := by rw [if_neg (show ¬ (false = true) by decide)] at H; exact H
  exact absurd H (by simp)

end Go.Proofs.Ytmfkedeaifdfdaa.X
