-- written by xprint.py, a program of this session over the kit's print
import Derived.Test.YtnijohomnajngaaX0
import Derived.Test.YtnijohomnajngaaX22
import Derived.Test.YtnijohomnajngaaX26
namespace Go.Proofs.Ytnijohomnajngaa.X
open Go.RowKit Go.Proofs.YtnijohomnajngaaW.PrintWords Go.Proofs.YtnijohomnajngaaW.PrintLast Go.Proofs.YtnijohomnajngaaW.PrintMore
attribute [local go_sem] max2_int min2_int max_two min_two max_three min_three max_four min_four   -- for this text's walks alone
set_option linter.unusedVariables false
set_option linter.unusedSimpArgs false

/-! ### gcra_Bucket: function 13 -/
def gcra_Bucket.f (k : Nat) (a0_0 : Int) (a0_1 : Int) (a0_2 : Int) (a0_3 : Int) (a0_4 : Int) (a0_5 : Int) : Option (Int × Int × Int × Int × Int × Int × Int) := (gcra_Check.f k a0_0 a0_1 a0_2 a0_3 a0_4 a0_5).bind fun t268 => (if t268 = 0 then ((gcra_holds.f k a0_0 a0_1 a0_2 a0_3 a0_4 a0_5).bind fun bt269 => (if bt269.2.2 = 0 then (some (a0_0, a0_1, a0_2, bt269.1, bt269.2.1, a0_5, 0)) else (some (0, 0, 0, 0, 0, 0, bt269.2.2)))) else (some (0, 0, 0, 0, 0, 0, t268)))
theorem gcra_Bucket.mono : ∀ a0 a1 a2 a3 a4 a5 k, LeO (gcra_Bucket.f k a0 a1 a2 a3 a4 a5) (gcra_Bucket.f (k + 1) a0 a1 a2 a3 a4 a5) := by
  intro a0 a1 a2 a3 a4 a5 k
  unfold gcra_Bucket.f
  repeat' first
      | (with_reducible exact gcra_Check.mono _ _ _ _ _ _ _)
      | (with_reducible exact gcra_holds.mono _ _ _ _ _ _ _)
      | (with_reducible exact LeO.refl _)
      | (with_reducible exact LeO.none _)
      | (with_reducible refine LeO.ite ?_ ?_)
      | (with_reducible refine LeO.bind ?_ (fun _ => ?_))
      | exact gcra_Check.mono _ _ _ _ _ _ _
      | exact gcra_holds.mono _ _ _ _ _ _ _
      | exact LeO.none _
      | refine LeO.ite ?_ ?_
      | refine LeO.bind ?_ (fun _ => ?_)
set_option maxHeartbeats 8000000 in
set_option maxRecDepth 100000 in
theorem gcra_Bucket.calls (k : Nat) (a0_0 : Int) (a0_1 : Int) (a0_2 : Int) (a0_3 : Int) (a0_4 : Int) (a0_5 : Int) (r1 : Int) (r2 : Int) (r3 : Int) (r4 : Int) (r5 : Int) (r6 : Int) (r7 : Int) (w : World) (h : gcra_Bucket.f k a0_0 a0_1 a0_2 a0_3 a0_4 a0_5 = some (r1, r2, r3, r4, r5, r6, r7)) :
  Calls Try.prog 13 #[.agg #[.int .i64 a0_0, .int .i64 a0_1, .int .i64 a0_2, .int .u64 a0_3, .int .u64 a0_4, .int .u64 a0_5]] w fun e w' => e = .returned (.tuple #[.agg #[.int .i64 r1, .int .i64 r2, .int .i64 r3, .int .i64 r4, .int .i64 r5, .int .u64 r6], .int .i64 r7]) ∧ Below w.heap.size w w' := by
 have hu28 := Try.underlying28
 have hu30 := Try.underlying30
 have hu23 := Try.underlying23
 have HB := Aside0.mk (Below.refl w.heap.size w)
 have H : ((gcra_Check.f k a0_0 a0_1 a0_2 a0_3 a0_4 a0_5).bind fun t268 => (if t268 = 0 then ((gcra_holds.f k a0_0 a0_1 a0_2 a0_3 a0_4 a0_5).bind fun bt269 => (if bt269.2.2 = 0 then (some (a0_0, a0_1, a0_2, bt269.1, bt269.2.1, a0_5, 0)) else (some (0, 0, 0, 0, 0, 0, bt269.2.2)))) else (some (0, 0, 0, 0, 0, 0, t268)))) = some (r1, r2, r3, r4, r5, r6, r7) := h
 clear h
 obtain ⟨t268, A2, H⟩ := bo_ H
 try dsimp only at H
 by_cases c3 : t268 = 0
 ·rw [if_pos c3] at H
  have c3b0 : (t268 == 0) = true := beq_iff_eq.mpr c3
  have c3b1 : (t268 != 0) = false := bne_eq_false_iff_eq.mpr c3
  clear c3
  obtain ⟨⟨t269, t270, t271⟩, A4, H⟩ := bo_ H
  replace H : (if t271 = 0 then (some (a0_0, a0_1, a0_2, t269, t270, a0_5, 0)) else (some (0, 0, 0, 0, 0, 0, t271))) = some (r1, r2, r3, r4, r5, r6, r7) := H
  by_cases c5 : t271 = 0
  ·rw [if_pos c5] at H
   have c5b0 : (t271 == 0) = true := beq_iff_eq.mpr c5
   have c5b1 : (t271 != 0) = false := bne_eq_false_iff_eq.mpr c5
   clear c5
   simp only [Option.some.injEq, Prod.mk.injEq] at H
   obtain ⟨rfl, rfl, rfl, rfl, rfl, rfl, rfl⟩ := H
   go_enter Try.func13, Try.ntmps13
   go_wp2_with (first | ((with_reducible refine gate_dst (N := 1) rfl ?_); refine bx_ #[.int .i64 a0_0, .int .i64 a0_1, .int .i64 a0_2, .int .u64 a0_3, .int .u64 a0_4, .int .u64 a0_5] 28 ?_; intro gb266 hg w6 BK266 hb; have GW266 := bz_ w hg; have GE266 := GW266; replace HB := bs_ w hb; clear hb hg) | ((with_reducible refine gate_dst (N := 2) rfl ?_); refine bx_ #[.int .i64 0, .int .i64 0, .int .i64 0, .int .i64 0, .int .i64 0, .int .u64 0] 30 ?_; intro gb267 hg w7 BK267 hb; have GW267 := bz_ w hg; have GE267 := GW267; have NB266_267 := bn_ BK266 hg; have NB267_266 := bm_ BK266 hg; replace BK266 := bb_ BK266 hb; replace HB := bs_ w hb; clear hb hg; have hnb8 := NB266_267.out; have hnc8 := NB267_266.out; obtain ⟨_, _, _, _, _, _, _, _, _, _, _, _⟩ := ce6_ BK266) | ((with_reducible refine gate_callee (f := 15) rfl ?_); refine goesA_ (some 9) Try.func15 #[.agg #[.int .i64 a0_0, .int .i64 a0_1, .int .i64 a0_2, .int .u64 a0_3, .int .u64 a0_4, .int .u64 a0_5]] ?_; (with_reducible refine (gcra_Check.calls k a0_0 a0_1 a0_2 a0_3 a0_4 a0_5 t268 _ A2.out).mono ?_); rintro e w10 ⟨rfl, hb⟩; refine ⟨_, rfl, ?_⟩; replace BK266 := bb_ BK266 hb; replace BK267 := bb_ BK267 hb; replace HB := bs_ w hb; clear hb; obtain ⟨_, _, _, _, _, _, _, _, _, _, _, _⟩ := ce6_ BK266) | ((with_reducible refine gate_callee (f := 43) rfl ?_); refine goesA_ (some 16) Try.func43 #[.agg #[.int .i64 a0_0, .int .i64 a0_1, .int .i64 a0_2, .int .u64 a0_3, .int .u64 a0_4, .int .u64 a0_5]] ?_; (with_reducible refine (gcra_holds.calls k a0_0 a0_1 a0_2 a0_3 a0_4 a0_5 t269 t270 t271 _ A4.out).mono ?_); rintro e w12 ⟨rfl, hb⟩; refine ⟨_, rfl, ?_⟩; replace BK266 := bb_ BK266 hb; replace BK267 := bb_ BK267 hb; replace HB := bs_ w hb; clear hb; obtain ⟨_, _, _, _, _, _, _, _, _, _, _, _⟩ := ce6_ BK266; obtain ⟨_, _, _, _, _, _, _, _, _, _, _, _⟩ := ce6_ BK267))
   refine bodyPost_ret (results_ct rfl _ _ gb267 30 #[.int .i64 a0_0, .int .i64 a0_1, .int .i64 a0_2, .int .i64 t269, .int .i64 t270, .int .u64 a0_5] (0, 0) _ rfl (bp6_ (bq_ BK267)) Try.underlying30 rfl (by kernel_rfl)) rfl ?_
   exact fi_
  ·rw [if_neg c5] at H
   have c5b0 : (t271 == 0) = false := beq_eq_false_iff_ne.mpr c5
   have c5b1 : (t271 != 0) = true := bne_iff_ne.mpr c5
   simp only [Option.some.injEq, Prod.mk.injEq] at H
   obtain ⟨rfl, rfl, rfl, rfl, rfl, rfl, rfl⟩ := H
   go_enter Try.func13, Try.ntmps13
   go_wp2_with (first | ((with_reducible refine gate_dst (N := 1) rfl ?_); refine bx_ #[.int .i64 a0_0, .int .i64 a0_1, .int .i64 a0_2, .int .u64 a0_3, .int .u64 a0_4, .int .u64 a0_5] 28 ?_; intro gb266 hg w15 BK266 hb; have GW266 := bz_ w hg; have GE266 := GW266; replace HB := bs_ w hb; clear hb hg) | ((with_reducible refine gate_dst (N := 2) rfl ?_); refine bx_ #[.int .i64 0, .int .i64 0, .int .i64 0, .int .i64 0, .int .i64 0, .int .u64 0] 30 ?_; intro gb267 hg w16 BK267 hb; have GW267 := bz_ w hg; have GE267 := GW267; have NB266_267 := bn_ BK266 hg; have NB267_266 := bm_ BK266 hg; replace BK266 := bb_ BK266 hb; replace HB := bs_ w hb; clear hb hg; have hnb17 := NB266_267.out; have hnc17 := NB267_266.out; obtain ⟨_, _, _, _, _, _, _, _, _, _, _, _⟩ := ce6_ BK266) | ((with_reducible refine gate_callee (f := 15) rfl ?_); refine goesA_ (some 9) Try.func15 #[.agg #[.int .i64 a0_0, .int .i64 a0_1, .int .i64 a0_2, .int .u64 a0_3, .int .u64 a0_4, .int .u64 a0_5]] ?_; (with_reducible refine (gcra_Check.calls k a0_0 a0_1 a0_2 a0_3 a0_4 a0_5 t268 _ A2.out).mono ?_); rintro e w19 ⟨rfl, hb⟩; refine ⟨_, rfl, ?_⟩; replace BK266 := bb_ BK266 hb; replace BK267 := bb_ BK267 hb; replace HB := bs_ w hb; clear hb; obtain ⟨_, _, _, _, _, _, _, _, _, _, _, _⟩ := ce6_ BK266) | ((with_reducible refine gate_callee (f := 43) rfl ?_); refine goesA_ (some 16) Try.func43 #[.agg #[.int .i64 a0_0, .int .i64 a0_1, .int .i64 a0_2, .int .u64 a0_3, .int .u64 a0_4, .int .u64 a0_5]] ?_; (with_reducible refine (gcra_holds.calls k a0_0 a0_1 a0_2 a0_3 a0_4 a0_5 t269 t270 t271 _ A4.out).mono ?_); rintro e w21 ⟨rfl, hb⟩; refine ⟨_, rfl, ?_⟩; replace BK266 := bb_ BK266 hb; replace BK267 := bb_ BK267 hb; replace HB := bs_ w hb; clear hb; obtain ⟨_, _, _, _, _, _, _, _, _, _, _, _⟩ := ce6_ BK267))
   refine bodyPost_ret (results_ct rfl _ _ gb267 30 #[.int .i64 0, .int .i64 0, .int .i64 0, .int .i64 0, .int .i64 0, .int .u64 0] (0, 0) _ rfl (bp6_ (bq_ BK267)) Try.underlying30 rfl (by kernel_rfl)) rfl ?_
   exact fi_
 ·rw [if_neg c3] at H
  have c3b0 : (t268 == 0) = false := beq_eq_false_iff_ne.mpr c3
  have c3b1 : (t268 != 0) = true := bne_iff_ne.mpr c3
  simp only [Option.some.injEq, Prod.mk.injEq] at H
  obtain ⟨rfl, rfl, rfl, rfl, rfl, rfl, rfl⟩ := H
  go_enter Try.func13, Try.ntmps13
  go_wp2_with (first | ((with_reducible refine gate_dst (N := 1) rfl ?_); refine bx_ #[.int .i64 a0_0, .int .i64 a0_1, .int .i64 a0_2, .int .u64 a0_3, .int .u64 a0_4, .int .u64 a0_5] 28 ?_; intro gb266 hg w23 BK266 hb; have GW266 := bz_ w hg; have GE266 := GW266; replace HB := bs_ w hb; clear hb hg) | ((with_reducible refine gate_dst (N := 2) rfl ?_); refine bx_ #[.int .i64 0, .int .i64 0, .int .i64 0, .int .i64 0, .int .i64 0, .int .u64 0] 30 ?_; intro gb267 hg w24 BK267 hb; have GW267 := bz_ w hg; have GE267 := GW267; have NB266_267 := bn_ BK266 hg; have NB267_266 := bm_ BK266 hg; replace BK266 := bb_ BK266 hb; replace HB := bs_ w hb; clear hb hg; have hnb25 := NB266_267.out; have hnc25 := NB267_266.out; obtain ⟨_, _, _, _, _, _, _, _, _, _, _, _⟩ := ce6_ BK266) | ((with_reducible refine gate_callee (f := 15) rfl ?_); refine goesA_ (some 9) Try.func15 #[.agg #[.int .i64 a0_0, .int .i64 a0_1, .int .i64 a0_2, .int .u64 a0_3, .int .u64 a0_4, .int .u64 a0_5]] ?_; (with_reducible refine (gcra_Check.calls k a0_0 a0_1 a0_2 a0_3 a0_4 a0_5 t268 _ A2.out).mono ?_); rintro e w27 ⟨rfl, hb⟩; refine ⟨_, rfl, ?_⟩; replace BK266 := bb_ BK266 hb; replace BK267 := bb_ BK267 hb; replace HB := bs_ w hb; clear hb; obtain ⟨_, _, _, _, _, _, _, _, _, _, _, _⟩ := ce6_ BK267))
  refine bodyPost_ret (results_ct rfl _ _ gb267 30 #[.int .i64 0, .int .i64 0, .int .i64 0, .int .i64 0, .int .i64 0, .int .u64 0] (0, 0) _ rfl (bp6_ (bq_ BK267)) Try.underlying30 rfl (by kernel_rfl)) rfl ?_
  exact fi_

end Go.Proofs.Ytnijohomnajngaa.X
