-- written by xprint.py, a program of this session over the kit's print
import Derived.Test.YtnijohomnajngaaX0
import Derived.Test.YtnijohomnajngaaX16
import Derived.Test.YtnijohomnajngaaX19
import Derived.Test.YtnijohomnajngaaX20
import Derived.Test.YtnijohomnajngaaX22
import Derived.Test.YtnijohomnajngaaX24
import Derived.Test.YtnijohomnajngaaX26
namespace Go.Proofs.Ytnijohomnajngaa.X
open Go.RowKit Go.Proofs.YtnijohomnajngaaW.PrintWords Go.Proofs.YtnijohomnajngaaW.PrintLast Go.Proofs.YtnijohomnajngaaW.PrintMore
attribute [local go_sem] max2_int min2_int max_two min_two max_three min_three max_four min_four   -- for this text's walks alone
set_option linter.unusedVariables false
set_option linter.unusedSimpArgs false

/-! ### gcra_Level: function 19 -/
def gcra_Level.f (k : Nat) (a0_0 : Int) (a0_1 : Int) (a0_2 : Int) (a0_3 : Int) (a0_4 : Int) (a0_5 : Int) (a1 : Int) : Option (Int × Int) := (gcra_Check.f k a0_0 a0_1 a0_2 a0_3 a0_4 a0_5).bind fun t410 => (if t410 = 0 then ((gcra_moved.f k a0_0 a0_1 a0_2 a0_3 a0_4 a0_5 a1).bind fun bt411 => ((gcra_holds.f k bt411.1 bt411.2.1 bt411.2.2.1 bt411.2.2.2.1 bt411.2.2.2.2.1 bt411.2.2.2.2.2).bind fun bt417 => (some (bt417.1, bt417.2.2)))) else (some (0, t410)))
theorem gcra_Level.mono : ∀ a0 a1 a2 a3 a4 a5 a6 k, LeO (gcra_Level.f k a0 a1 a2 a3 a4 a5 a6) (gcra_Level.f (k + 1) a0 a1 a2 a3 a4 a5 a6) := by
  intro a0 a1 a2 a3 a4 a5 a6 k
  unfold gcra_Level.f
  repeat' first
      | (with_reducible exact gcra_Check.mono _ _ _ _ _ _ _)
      | (with_reducible exact gcra_holds.mono _ _ _ _ _ _ _)
      | (with_reducible exact gcra_moved.mono _ _ _ _ _ _ _ _)
      | (with_reducible exact LeO.refl _)
      | (with_reducible exact LeO.none _)
      | (with_reducible refine LeO.ite ?_ ?_)
      | (with_reducible refine LeO.bind ?_ (fun _ => ?_))
      | exact gcra_Check.mono _ _ _ _ _ _ _
      | exact gcra_holds.mono _ _ _ _ _ _ _
      | exact gcra_moved.mono _ _ _ _ _ _ _ _
      | exact LeO.none _
      | refine LeO.ite ?_ ?_
      | refine LeO.bind ?_ (fun _ => ?_)
set_option maxHeartbeats 8000000 in
set_option maxRecDepth 100000 in
theorem gcra_Level.calls (k : Nat) (a0_0 : Int) (a0_1 : Int) (a0_2 : Int) (a0_3 : Int) (a0_4 : Int) (a0_5 : Int) (a1 : Int) (r1 : Int) (r2 : Int) (w : World) (h : gcra_Level.f k a0_0 a0_1 a0_2 a0_3 a0_4 a0_5 a1 = some (r1, r2)) :
  Calls Try.prog 19 #[.agg #[.int .i64 a0_0, .int .i64 a0_1, .int .i64 a0_2, .int .u64 a0_3, .int .u64 a0_4, .int .u64 a0_5], .int .u64 a1] w fun e w' => e = .returned (.tuple #[.int .i64 r1, .int .i64 r2]) ∧ Below w.heap.size w w' := by
 have hu28 := Try.underlying28
 have HB := Aside0.mk (Below.refl w.heap.size w)
 have H : ((gcra_Check.f k a0_0 a0_1 a0_2 a0_3 a0_4 a0_5).bind fun t410 => (if t410 = 0 then ((gcra_moved.f k a0_0 a0_1 a0_2 a0_3 a0_4 a0_5 a1).bind fun bt411 => ((gcra_holds.f k bt411.1 bt411.2.1 bt411.2.2.1 bt411.2.2.2.1 bt411.2.2.2.2.1 bt411.2.2.2.2.2).bind fun bt417 => (some (bt417.1, bt417.2.2)))) else (some (0, t410)))) = some (r1, r2) := h
 clear h
 have H0_ := bo_ H; clear H; obtain ⟨t410, A3, H⟩ := H0_
 try dsimp only at H
 by_cases c4 : t410 = 0
 ·rw [if_pos c4] at H
  have c4b0 : (t410 == 0) = true := beq_iff_eq.mpr c4
  have c4b1 : (t410 != 0) = false := bne_eq_false_iff_eq.mpr c4
  clear c4
  have H0_ := bo_ H; clear H; obtain ⟨⟨t411, t412, t413, t414, t415, t416⟩, A5, H⟩ := H0_
  replace H : ((gcra_holds.f k t411 t412 t413 t414 t415 t416).bind fun bt417 => (some (bt417.1, bt417.2.2))) = some (r1, r2) := H
  have H0_ := bo_ H; clear H; obtain ⟨⟨t417, t418, t419⟩, A6, H⟩ := H0_
  replace H : (some (t417, t419)) = some (r1, r2) := H
  simp only [Option.some.injEq, Prod.mk.injEq] at H
  obtain ⟨rfl, rfl⟩ := H
  go_enter Try.func19, Try.ntmps19
  go_wp2_with (first | ((with_reducible refine gate_dst (N := 2) rfl ?_); refine bx_ #[.int .i64 a0_0, .int .i64 a0_1, .int .i64 a0_2, .int .u64 a0_3, .int .u64 a0_4, .int .u64 a0_5] 28 ?_; intro gb409 hg w7 BK409 hb; have GW409 := bz_ w hg; have GE409 := GW409; replace HB := bs_ w hb; clear hb hg; replace hc409 := ce6_ BK409) | ((with_reducible refine gate_callee (f := 15) rfl ?_); refine goesA_ (some 11) Try.func15 #[.agg #[.int .i64 a0_0, .int .i64 a0_1, .int .i64 a0_2, .int .u64 a0_3, .int .u64 a0_4, .int .u64 a0_5]] ?_; (with_reducible refine (gcra_Check.calls k a0_0 a0_1 a0_2 a0_3 a0_4 a0_5 t410 _ A3.out).mono ?_); rintro e w9 ⟨rfl, hb⟩; refine ⟨_, rfl, ?_⟩; replace BK409 := bb_ BK409 hb; replace HB := bs_ w hb; clear hb; replace hc409 := ce6_ BK409) | ((with_reducible refine gate_callee (f := 47) rfl ?_); refine goesA_ (some 18) Try.func47 #[.agg #[.int .i64 a0_0, .int .i64 a0_1, .int .i64 a0_2, .int .u64 a0_3, .int .u64 a0_4, .int .u64 a0_5], .int .u64 a1] ?_; (with_reducible refine (gcra_moved.calls k a0_0 a0_1 a0_2 a0_3 a0_4 a0_5 a1 t411 t412 t413 t414 t415 t416 _ A5.out).mono ?_); rintro e w11 ⟨rfl, hb⟩; refine ⟨_, rfl, ?_⟩; replace BK409 := bb_ BK409 hb; replace HB := bs_ w hb; clear hb) | ((with_reducible refine gate_callee (f := 43) rfl ?_); refine goesA_ (some 19) Try.func43 #[.agg #[.int .i64 t411, .int .i64 t412, .int .i64 t413, .int .u64 t414, .int .u64 t415, .int .u64 t416]] ?_; (with_reducible refine (gcra_holds.calls k t411 t412 t413 t414 t415 t416 t417 t418 t419 _ A6.out).mono ?_); rintro e w12 ⟨rfl, hb⟩; refine ⟨_, rfl, ?_⟩; replace BK409 := bb_ BK409 hb; replace HB := bs_ w hb; clear hb))
  go_ret2
  exact fi_
 ·rw [if_neg c4] at H
  have c4b0 : (t410 == 0) = false := beq_eq_false_iff_ne.mpr c4
  have c4b1 : (t410 != 0) = true := bne_iff_ne.mpr c4
  simp only [Option.some.injEq, Prod.mk.injEq] at H
  obtain ⟨rfl, rfl⟩ := H
  go_enter Try.func19, Try.ntmps19
  go_wp2_with (first | ((with_reducible refine gate_dst (N := 2) rfl ?_); refine bx_ #[.int .i64 a0_0, .int .i64 a0_1, .int .i64 a0_2, .int .u64 a0_3, .int .u64 a0_4, .int .u64 a0_5] 28 ?_; intro gb409 hg w13 BK409 hb; have GW409 := bz_ w hg; have GE409 := GW409; replace HB := bs_ w hb; clear hb hg; replace hc409 := ce6_ BK409) | ((with_reducible refine gate_callee (f := 15) rfl ?_); refine goesA_ (some 11) Try.func15 #[.agg #[.int .i64 a0_0, .int .i64 a0_1, .int .i64 a0_2, .int .u64 a0_3, .int .u64 a0_4, .int .u64 a0_5]] ?_; (with_reducible refine (gcra_Check.calls k a0_0 a0_1 a0_2 a0_3 a0_4 a0_5 t410 _ A3.out).mono ?_); rintro e w15 ⟨rfl, hb⟩; refine ⟨_, rfl, ?_⟩; replace BK409 := bb_ BK409 hb; replace HB := bs_ w hb; clear hb))
  go_ret2
  exact fi_

/-! ### spigotref37_Level: function 20 -/
def spigotref37_Level.f (k : Nat) (a0_0 : Int) (a0_1 : Int) (a0_2 : Int) (a0_3 : Int) (a0_4 : Int) (a0_5 : Int) (a1 : Int) : Option (Int × Int) := (spigotref37_Check.f k a0_0 a0_1 a0_2 a0_3 a0_4 a0_5).bind fun t421 => (if t421 = 0 then ((spigotref37_raised.f k a0_0 a0_1 a0_2 a0_3 a0_4 a0_5 a1).bind fun bt422 => ((spigotref37_Bucket.f k bt422.1 bt422.2.1 bt422.2.2.1 bt422.2.2.2.1 bt422.2.2.2.2.1 bt422.2.2.2.2.2).bind fun bt428 => (some (bt428.2.2.2.1, 0)))) else (some (0, t421)))
theorem spigotref37_Level.mono : ∀ a0 a1 a2 a3 a4 a5 a6 k, LeO (spigotref37_Level.f k a0 a1 a2 a3 a4 a5 a6) (spigotref37_Level.f (k + 1) a0 a1 a2 a3 a4 a5 a6) := by
  intro a0 a1 a2 a3 a4 a5 a6 k
  unfold spigotref37_Level.f
  repeat' first
      | (with_reducible exact spigotref37_Bucket.mono _ _ _ _ _ _ _)
      | (with_reducible exact spigotref37_Check.mono _ _ _ _ _ _ _)
      | (with_reducible exact spigotref37_raised.mono _ _ _ _ _ _ _ _)
      | (with_reducible exact LeO.refl _)
      | (with_reducible exact LeO.none _)
      | (with_reducible refine LeO.ite ?_ ?_)
      | (with_reducible refine LeO.bind ?_ (fun _ => ?_))
      | exact spigotref37_Bucket.mono _ _ _ _ _ _ _
      | exact spigotref37_Check.mono _ _ _ _ _ _ _
      | exact spigotref37_raised.mono _ _ _ _ _ _ _ _
      | exact LeO.none _
      | refine LeO.ite ?_ ?_
      | refine LeO.bind ?_ (fun _ => ?_)
set_option maxHeartbeats 8000000 in
set_option maxRecDepth 100000 in
theorem spigotref37_Level.calls (k : Nat) (a0_0 : Int) (a0_1 : Int) (a0_2 : Int) (a0_3 : Int) (a0_4 : Int) (a0_5 : Int) (a1 : Int) (r1 : Int) (r2 : Int) (w : World) (h : spigotref37_Level.f k a0_0 a0_1 a0_2 a0_3 a0_4 a0_5 a1 = some (r1, r2)) :
  Calls Try.prog 20 #[.agg #[.int .i64 a0_0, .int .i64 a0_1, .int .i64 a0_2, .int .u64 a0_3, .int .u64 a0_4, .int .u64 a0_5], .int .u64 a1] w fun e w' => e = .returned (.tuple #[.int .i64 r1, .int .i64 r2]) ∧ Below w.heap.size w w' := by
 have hu28 := Try.underlying28
 have hu30 := Try.underlying30
 have HB := Aside0.mk (Below.refl w.heap.size w)
 have H : ((spigotref37_Check.f k a0_0 a0_1 a0_2 a0_3 a0_4 a0_5).bind fun t421 => (if t421 = 0 then ((spigotref37_raised.f k a0_0 a0_1 a0_2 a0_3 a0_4 a0_5 a1).bind fun bt422 => ((spigotref37_Bucket.f k bt422.1 bt422.2.1 bt422.2.2.1 bt422.2.2.2.1 bt422.2.2.2.2.1 bt422.2.2.2.2.2).bind fun bt428 => (some (bt428.2.2.2.1, 0)))) else (some (0, t421)))) = some (r1, r2) := h
 clear h
 have H0_ := bo_ H; clear H; obtain ⟨t421, A3, H⟩ := H0_
 try dsimp only at H
 by_cases c4 : t421 = 0
 ·rw [if_pos c4] at H
  have c4b0 : (t421 == 0) = true := beq_iff_eq.mpr c4
  have c4b1 : (t421 != 0) = false := bne_eq_false_iff_eq.mpr c4
  clear c4
  have H0_ := bo_ H; clear H; obtain ⟨⟨t422, t423, t424, t425, t426, t427⟩, A5, H⟩ := H0_
  replace H : ((spigotref37_Bucket.f k t422 t423 t424 t425 t426 t427).bind fun bt428 => (some (bt428.2.2.2.1, 0))) = some (r1, r2) := H
  have H0_ := bo_ H; clear H; obtain ⟨⟨t428, t429, t430, t431, t432, t433, t434⟩, A6, H⟩ := H0_
  replace H : (some (t431, 0)) = some (r1, r2) := H
  simp only [Option.some.injEq, Prod.mk.injEq] at H
  obtain ⟨rfl, rfl⟩ := H
  go_enter Try.func20, Try.ntmps20
  go_wp2_with (first | ((with_reducible refine gate_dst (N := 2) rfl ?_); refine bx_ #[.int .i64 a0_0, .int .i64 a0_1, .int .i64 a0_2, .int .u64 a0_3, .int .u64 a0_4, .int .u64 a0_5] 28 ?_; intro gb420 hg w7 BK420 hb; have GW420 := bz_ w hg; have GE420 := GW420; replace HB := bs_ w hb; clear hb hg; replace hc420 := ce6_ BK420) | ((with_reducible refine gate_callee (f := 16) rfl ?_); refine goesA_ (some 10) Try.func16 #[.agg #[.int .i64 a0_0, .int .i64 a0_1, .int .i64 a0_2, .int .u64 a0_3, .int .u64 a0_4, .int .u64 a0_5]] ?_; (with_reducible refine (spigotref37_Check.calls k a0_0 a0_1 a0_2 a0_3 a0_4 a0_5 t421 _ A3.out).mono ?_); rintro e w9 ⟨rfl, hb⟩; refine ⟨_, rfl, ?_⟩; replace BK420 := bb_ BK420 hb; replace HB := bs_ w hb; clear hb; replace hc420 := ce6_ BK420) | ((with_reducible refine gate_callee (f := 49) rfl ?_); refine goesA_ (some 17) Try.func49 #[.agg #[.int .i64 a0_0, .int .i64 a0_1, .int .i64 a0_2, .int .u64 a0_3, .int .u64 a0_4, .int .u64 a0_5], .int .u64 a1] ?_; (with_reducible refine (spigotref37_raised.calls k a0_0 a0_1 a0_2 a0_3 a0_4 a0_5 a1 t422 t423 t424 t425 t426 t427 _ A5.out).mono ?_); rintro e w11 ⟨rfl, hb⟩; refine ⟨_, rfl, ?_⟩; replace BK420 := bb_ BK420 hb; replace HB := bs_ w hb; clear hb) | ((with_reducible refine gate_callee (f := 14) rfl ?_); refine goesA_ (some 18) Try.func14 #[.agg #[.int .i64 t422, .int .i64 t423, .int .i64 t424, .int .u64 t425, .int .u64 t426, .int .u64 t427]] ?_; (with_reducible refine (spigotref37_Bucket.calls k t422 t423 t424 t425 t426 t427 t428 t429 t430 t431 t432 t433 t434 _ A6.out).mono ?_); rintro e w12 ⟨rfl, hb⟩; refine ⟨_, rfl, ?_⟩; replace BK420 := bb_ BK420 hb; replace HB := bs_ w hb; clear hb) | ((with_reducible refine gate_dst (N := 7) rfl ?_); refine bx_ #[.int .i64 0, .int .i64 0, .int .i64 0, .int .i64 0, .int .i64 0, .int .u64 0] 30 ?_; intro gb435 hg w13 BK435 hb; have GW435 := bz_ w hg; have NB420_435 := bn_ BK420 hg; have NB435_420 := bm_ BK420 hg; replace BK420 := bb_ BK420 hb; replace HB := bs_ w hb; clear hb hg; replace hn435_420 := NB435_420.out; replace hn420_435 := NB420_435.out; replace hc435 := ce6_ BK435))
  go_ret2
  exact fi_
 ·rw [if_neg c4] at H
  have c4b0 : (t421 == 0) = false := beq_eq_false_iff_ne.mpr c4
  have c4b1 : (t421 != 0) = true := bne_iff_ne.mpr c4
  simp only [Option.some.injEq, Prod.mk.injEq] at H
  obtain ⟨rfl, rfl⟩ := H
  go_enter Try.func20, Try.ntmps20
  go_wp2_with (first | ((with_reducible refine gate_dst (N := 2) rfl ?_); refine bx_ #[.int .i64 a0_0, .int .i64 a0_1, .int .i64 a0_2, .int .u64 a0_3, .int .u64 a0_4, .int .u64 a0_5] 28 ?_; intro gb420 hg w16 BK420 hb; have GW420 := bz_ w hg; have GE420 := GW420; replace HB := bs_ w hb; clear hb hg; replace hc420 := ce6_ BK420) | ((with_reducible refine gate_callee (f := 16) rfl ?_); refine goesA_ (some 10) Try.func16 #[.agg #[.int .i64 a0_0, .int .i64 a0_1, .int .i64 a0_2, .int .u64 a0_3, .int .u64 a0_4, .int .u64 a0_5]] ?_; (with_reducible refine (spigotref37_Check.calls k a0_0 a0_1 a0_2 a0_3 a0_4 a0_5 t421 _ A3.out).mono ?_); rintro e w18 ⟨rfl, hb⟩; refine ⟨_, rfl, ?_⟩; replace BK420 := bb_ BK420 hb; replace HB := bs_ w hb; clear hb))
  go_ret2
  exact fi_

end Go.Proofs.Ytnijohomnajngaa.X
