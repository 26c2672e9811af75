-- written by xprint.py, a program of this session over the kit's print
import Derived.Test.YtnijohomnajngaaX0
import Derived.Test.YtnijohomnajngaaX9
import Derived.Test.YtnijohomnajngaaX49
namespace Go.Proofs.Ytnijohomnajngaa.X
open Go.RowKit Go.Proofs.YtnijohomnajngaaW.PrintWords Go.Proofs.YtnijohomnajngaaW.PrintLast Go.Proofs.YtnijohomnajngaaW.PrintMore
attribute [local go_sem] max2_int min2_int max_two min_two max_three min_three max_four min_four   -- for this text's walks alone
set_option linter.unusedVariables false
set_option linter.unusedSimpArgs false

/-! ### bucket_Refill: function 27 -/
def bucket_Refill.f (k : Nat) (a0_0 : Int) (a0_1 : Int) (a0_2 : Int) (a0_3 : Int) (a0_4 : Int) (a0_5 : Int) (a1 : Int) : Option (Int × Int × Int × Int × Int × Int × Int) := (bucket_Check.f a0_0 a0_1 a0_2 a0_3 a0_4 a0_5).bind fun t814 => (if t814 = 0 then ((bucket_fill.f k a0_0 a0_1 a0_2 a0_3 a0_4 a0_5 a1).bind fun bt815 => (some (bt815.1, bt815.2.1, bt815.2.2.1, bt815.2.2.2.1, bt815.2.2.2.2.1, bt815.2.2.2.2.2, 0))) else (some (0, 0, 0, 0, 0, 0, t814)))
theorem bucket_Refill.mono : ∀ a0 a1 a2 a3 a4 a5 a6 k, LeO (bucket_Refill.f k a0 a1 a2 a3 a4 a5 a6) (bucket_Refill.f (k + 1) a0 a1 a2 a3 a4 a5 a6) := by
  intro a0 a1 a2 a3 a4 a5 a6 k
  unfold bucket_Refill.f
  repeat' first
      | (with_reducible exact bucket_fill.mono _ _ _ _ _ _ _ _)
      | (with_reducible exact LeO.refl _)
      | (with_reducible exact LeO.none _)
      | (with_reducible refine LeO.ite ?_ ?_)
      | (with_reducible refine LeO.bind ?_ (fun _ => ?_))
      | exact bucket_fill.mono _ _ _ _ _ _ _ _
      | exact LeO.none _
      | refine LeO.ite ?_ ?_
      | refine LeO.bind ?_ (fun _ => ?_)
set_option maxHeartbeats 8000000 in
set_option maxRecDepth 100000 in
theorem bucket_Refill.calls (k : Nat) (a0_0 : Int) (a0_1 : Int) (a0_2 : Int) (a0_3 : Int) (a0_4 : Int) (a0_5 : Int) (a1 : Int) (r1 : Int) (r2 : Int) (r3 : Int) (r4 : Int) (r5 : Int) (r6 : Int) (r7 : Int) (w : World) (h : bucket_Refill.f k a0_0 a0_1 a0_2 a0_3 a0_4 a0_5 a1 = some (r1, r2, r3, r4, r5, r6, r7)) :
  Calls Try.prog 27 #[.agg #[.int .i64 a0_0, .int .i64 a0_1, .int .i64 a0_2, .int .i64 a0_3, .int .i64 a0_4, .int .u64 a0_5], .int .u64 a1] w fun e w' => e = .returned (.tuple #[.agg #[.int .i64 r1, .int .i64 r2, .int .i64 r3, .int .i64 r4, .int .i64 r5, .int .u64 r6], .int .i64 r7]) ∧ Below w.heap.size w w' := by
 have hu30 := Try.underlying30
 have HB := Aside0.mk (Below.refl w.heap.size w)
 have H : ((bucket_Check.f a0_0 a0_1 a0_2 a0_3 a0_4 a0_5).bind fun t814 => (if t814 = 0 then ((bucket_fill.f k a0_0 a0_1 a0_2 a0_3 a0_4 a0_5 a1).bind fun bt815 => (some (bt815.1, bt815.2.1, bt815.2.2.1, bt815.2.2.2.1, bt815.2.2.2.2.1, bt815.2.2.2.2.2, 0))) else (some (0, 0, 0, 0, 0, 0, t814)))) = some (r1, r2, r3, r4, r5, r6, r7) := h
 clear h
 obtain ⟨t814, A3, H⟩ := bo_ H
 try dsimp only at H
 by_cases c4 : t814 = 0
 ·rw [if_pos c4] at H
  have c4b0 : (t814 == 0) = true := beq_iff_eq.mpr c4
  have c4b1 : (t814 != 0) = false := bne_eq_false_iff_eq.mpr c4
  clear c4
  obtain ⟨⟨t815, t816, t817, t818, t819, t820⟩, A5, H⟩ := bo_ H
  replace H : (some (t815, t816, t817, t818, t819, t820, 0)) = some (r1, r2, r3, r4, r5, r6, r7) := H
  simp only [Option.some.injEq, Prod.mk.injEq] at H
  obtain ⟨rfl, rfl, rfl, rfl, rfl, rfl, rfl⟩ := H
  go_enter Try.func27, Try.ntmps27
  go_wp2_with (first | ((with_reducible refine gate_dst (N := 2) rfl ?_); refine bx_ #[.int .i64 a0_0, .int .i64 a0_1, .int .i64 a0_2, .int .i64 a0_3, .int .i64 a0_4, .int .u64 a0_5] 30 ?_; intro gb812 hg w6 BK812 hb; have GW812 := bz_ w hg; have GE812 := GW812; replace HB := bs_ w hb; clear hb hg) | ((with_reducible refine gate_dst (N := 4) rfl ?_); refine bx_ #[.int .i64 0, .int .i64 0, .int .i64 0, .int .i64 0, .int .i64 0, .int .u64 0] 30 ?_; intro gb813 hg w7 BK813 hb; have GW813 := bz_ w hg; have GE813 := GW813; have NB812_813 := bn_ BK812 hg; have NB813_812 := bm_ BK812 hg; replace BK812 := bb_ BK812 hb; replace HB := bs_ w hb; clear hb hg; have hnb8 := NB812_813.out; have hnc8 := NB813_812.out; obtain ⟨_, _, _, _, _, _, _, _, _, _, _, _⟩ := ce6_ BK812) | ((with_reducible refine gate_callee (f := 34) rfl ?_); refine goesA_ (some 8) Try.func34 #[.agg #[.int .i64 a0_0, .int .i64 a0_1, .int .i64 a0_2, .int .i64 a0_3, .int .i64 a0_4, .int .u64 a0_5]] ?_; (with_reducible refine (bucket_Check.calls a0_0 a0_1 a0_2 a0_3 a0_4 a0_5 t814 _ A3.out).mono ?_); rintro e w10 ⟨rfl, hb⟩; refine ⟨_, rfl, ?_⟩; replace BK812 := bb_ BK812 hb; replace BK813 := bb_ BK813 hb; replace HB := bs_ w hb; clear hb; obtain ⟨_, _, _, _, _, _, _, _, _, _, _, _⟩ := ce6_ BK812) | ((with_reducible refine gate_callee (f := 53) rfl ?_); refine goesA_ (some 15) Try.func53 #[.agg #[.int .i64 a0_0, .int .i64 a0_1, .int .i64 a0_2, .int .i64 a0_3, .int .i64 a0_4, .int .u64 a0_5], .int .u64 a1] ?_; (with_reducible refine (bucket_fill.calls k a0_0 a0_1 a0_2 a0_3 a0_4 a0_5 a1 t815 t816 t817 t818 t819 t820 _ A5.out).mono ?_); rintro e w12 ⟨rfl, hb⟩; refine ⟨_, rfl, ?_⟩; replace BK812 := bb_ BK812 hb; replace BK813 := bb_ BK813 hb; replace HB := bs_ w hb; clear hb; obtain ⟨_, _, _, _, _, _, _, _, _, _, _, _⟩ := ce6_ BK813))
  refine bodyPost_ret (results_ct rfl _ _ gb813 30 #[.int .i64 t815, .int .i64 t816, .int .i64 t817, .int .i64 t818, .int .i64 t819, .int .u64 t820] (0, 0) _ rfl (bp6_ (bq_ BK813)) Try.underlying30 rfl (by kernel_rfl)) rfl ?_
  exact fi_
 ·rw [if_neg c4] at H
  have c4b0 : (t814 == 0) = false := beq_eq_false_iff_ne.mpr c4
  have c4b1 : (t814 != 0) = true := bne_iff_ne.mpr c4
  simp only [Option.some.injEq, Prod.mk.injEq] at H
  obtain ⟨rfl, rfl, rfl, rfl, rfl, rfl, rfl⟩ := H
  go_enter Try.func27, Try.ntmps27
  go_wp2_with (first | ((with_reducible refine gate_dst (N := 2) rfl ?_); refine bx_ #[.int .i64 a0_0, .int .i64 a0_1, .int .i64 a0_2, .int .i64 a0_3, .int .i64 a0_4, .int .u64 a0_5] 30 ?_; intro gb812 hg w14 BK812 hb; have GW812 := bz_ w hg; have GE812 := GW812; replace HB := bs_ w hb; clear hb hg) | ((with_reducible refine gate_dst (N := 4) rfl ?_); refine bx_ #[.int .i64 0, .int .i64 0, .int .i64 0, .int .i64 0, .int .i64 0, .int .u64 0] 30 ?_; intro gb813 hg w15 BK813 hb; have GW813 := bz_ w hg; have GE813 := GW813; have NB812_813 := bn_ BK812 hg; have NB813_812 := bm_ BK812 hg; replace BK812 := bb_ BK812 hb; replace HB := bs_ w hb; clear hb hg; have hnb16 := NB812_813.out; have hnc16 := NB813_812.out; obtain ⟨_, _, _, _, _, _, _, _, _, _, _, _⟩ := ce6_ BK812) | ((with_reducible refine gate_callee (f := 34) rfl ?_); refine goesA_ (some 8) Try.func34 #[.agg #[.int .i64 a0_0, .int .i64 a0_1, .int .i64 a0_2, .int .i64 a0_3, .int .i64 a0_4, .int .u64 a0_5]] ?_; (with_reducible refine (bucket_Check.calls a0_0 a0_1 a0_2 a0_3 a0_4 a0_5 t814 _ A3.out).mono ?_); rintro e w18 ⟨rfl, hb⟩; refine ⟨_, rfl, ?_⟩; replace BK812 := bb_ BK812 hb; replace BK813 := bb_ BK813 hb; replace HB := bs_ w hb; clear hb; obtain ⟨_, _, _, _, _, _, _, _, _, _, _, _⟩ := ce6_ BK813))
  refine bodyPost_ret (results_ct rfl _ _ gb813 30 #[.int .i64 0, .int .i64 0, .int .i64 0, .int .i64 0, .int .i64 0, .int .u64 0] (0, 0) _ rfl (bp6_ (bq_ BK813)) Try.underlying30 rfl (by kernel_rfl)) rfl ?_
  exact fi_

/-! ### bucket_Charge: function 28 -/
def bucket_Charge.f (a0_0 : Int) (a0_1 : Int) (a0_2 : Int) (a0_3 : Int) (a0_4 : Int) (a0_5 : Int) (a1 : Int) : Option (Int × Int × Int × Int × Int × Int × Int) := (bucket_Check.f a0_0 a0_1 a0_2 a0_3 a0_4 a0_5).bind fun t823 => (if t823 = 0 then (if a1 < 0 then (some (0, 0, 0, 0, 0, 0, 2)) else (if a1 > a0_3 then (some (0, 0, 0, 0, 0, 0, 20)) else (some (a0_0, a0_1, a0_2, wrap64 (a0_3 - a1), a0_4, a0_5, 0)))) else (some (0, 0, 0, 0, 0, 0, t823)))
set_option maxHeartbeats 8000000 in
set_option maxRecDepth 100000 in
theorem bucket_Charge.calls (a0_0 : Int) (a0_1 : Int) (a0_2 : Int) (a0_3 : Int) (a0_4 : Int) (a0_5 : Int) (a1 : Int) (r1 : Int) (r2 : Int) (r3 : Int) (r4 : Int) (r5 : Int) (r6 : Int) (r7 : Int) (w : World) (h : bucket_Charge.f a0_0 a0_1 a0_2 a0_3 a0_4 a0_5 a1 = some (r1, r2, r3, r4, r5, r6, r7)) :
  Calls Try.prog 28 #[.agg #[.int .i64 a0_0, .int .i64 a0_1, .int .i64 a0_2, .int .i64 a0_3, .int .i64 a0_4, .int .u64 a0_5], .int .i64 a1] w fun e w' => e = .returned (.tuple #[.agg #[.int .i64 r1, .int .i64 r2, .int .i64 r3, .int .i64 r4, .int .i64 r5, .int .u64 r6], .int .i64 r7]) ∧ Below w.heap.size w w' := by
 have hu30 := Try.underlying30
 have HB := Aside0.mk (Below.refl w.heap.size w)
 have H : ((bucket_Check.f a0_0 a0_1 a0_2 a0_3 a0_4 a0_5).bind fun t823 => (if t823 = 0 then (if a1 < 0 then (some (0, 0, 0, 0, 0, 0, 2)) else (if a1 > a0_3 then (some (0, 0, 0, 0, 0, 0, 20)) else (some (a0_0, a0_1, a0_2, wrap64 (a0_3 - a1), a0_4, a0_5, 0)))) else (some (0, 0, 0, 0, 0, 0, t823)))) = some (r1, r2, r3, r4, r5, r6, r7) := h
 clear h
 obtain ⟨t823, A3, H⟩ := bo_ H
 try dsimp only at H
 by_cases c4 : t823 = 0
 ·rw [if_pos c4] at H
  have c4b0 : (t823 == 0) = true := beq_iff_eq.mpr c4
  have c4b1 : (t823 != 0) = false := bne_eq_false_iff_eq.mpr c4
  clear c4
  by_cases c5 : a1 < 0
  ·rw [if_pos c5] at H
   have c5b0 : decide (a1 < 0) = true := decide_eq_true c5
   clear c5
   simp only [Option.some.injEq, Prod.mk.injEq] at H
   obtain ⟨rfl, rfl, rfl, rfl, rfl, rfl, rfl⟩ := H
   go_enter Try.func28, Try.ntmps28
   go_wp2_with (first | ((with_reducible refine gate_dst (N := 2) rfl ?_); refine bx_ #[.int .i64 a0_0, .int .i64 a0_1, .int .i64 a0_2, .int .i64 a0_3, .int .i64 a0_4, .int .u64 a0_5] 30 ?_; intro gb821 hg w6 BK821 hb; have GW821 := bz_ w hg; have GE821 := GW821; replace HB := bs_ w hb; clear hb hg) | ((with_reducible refine gate_dst (N := 4) rfl ?_); refine bx_ #[.int .i64 0, .int .i64 0, .int .i64 0, .int .i64 0, .int .i64 0, .int .u64 0] 30 ?_; intro gb822 hg w7 BK822 hb; have GW822 := bz_ w hg; have GE822 := GW822; have NB821_822 := bn_ BK821 hg; have NB822_821 := bm_ BK821 hg; replace BK821 := bb_ BK821 hb; replace HB := bs_ w hb; clear hb hg; have hnb8 := NB821_822.out; have hnc8 := NB822_821.out; obtain ⟨_, _, _, _, _, _, _, _, _, _, _, _⟩ := ce6_ BK821) | ((with_reducible refine gate_callee (f := 34) rfl ?_); refine goesA_ (some 8) Try.func34 #[.agg #[.int .i64 a0_0, .int .i64 a0_1, .int .i64 a0_2, .int .i64 a0_3, .int .i64 a0_4, .int .u64 a0_5]] ?_; (with_reducible refine (bucket_Check.calls a0_0 a0_1 a0_2 a0_3 a0_4 a0_5 t823 _ A3.out).mono ?_); rintro e w10 ⟨rfl, hb⟩; refine ⟨_, rfl, ?_⟩; replace BK821 := bb_ BK821 hb; replace BK822 := bb_ BK822 hb; replace HB := bs_ w hb; clear hb; obtain ⟨_, _, _, _, _, _, _, _, _, _, _, _⟩ := ce6_ BK822))
   refine bodyPost_ret (results_ct rfl _ _ gb822 30 #[.int .i64 0, .int .i64 0, .int .i64 0, .int .i64 0, .int .i64 0, .int .u64 0] (0, 0) _ rfl (bp6_ (bq_ BK822)) Try.underlying30 rfl (by kernel_rfl)) rfl ?_
   exact fi_
  ·rw [if_neg c5] at H
   have c5b0 : decide (a1 < 0) = false := decide_eq_false c5
   clear c5
   by_cases c12 : a1 > a0_3
   ·rw [if_pos c12] at H
    have c12b0 : decide (a0_3 < a1) = true := decide_eq_true c12
    clear c12
    simp only [Option.some.injEq, Prod.mk.injEq] at H
    obtain ⟨rfl, rfl, rfl, rfl, rfl, rfl, rfl⟩ := H
    go_enter Try.func28, Try.ntmps28
    go_wp2_with (first | ((with_reducible refine gate_dst (N := 2) rfl ?_); refine bx_ #[.int .i64 a0_0, .int .i64 a0_1, .int .i64 a0_2, .int .i64 a0_3, .int .i64 a0_4, .int .u64 a0_5] 30 ?_; intro gb821 hg w13 BK821 hb; have GW821 := bz_ w hg; have GE821 := GW821; replace HB := bs_ w hb; clear hb hg) | ((with_reducible refine gate_dst (N := 4) rfl ?_); refine bx_ #[.int .i64 0, .int .i64 0, .int .i64 0, .int .i64 0, .int .i64 0, .int .u64 0] 30 ?_; intro gb822 hg w14 BK822 hb; have GW822 := bz_ w hg; have GE822 := GW822; have NB821_822 := bn_ BK821 hg; have NB822_821 := bm_ BK821 hg; replace BK821 := bb_ BK821 hb; replace HB := bs_ w hb; clear hb hg; have hnb15 := NB821_822.out; have hnc15 := NB822_821.out; obtain ⟨_, _, _, _, _, _, _, _, _, _, _, _⟩ := ce6_ BK821) | ((with_reducible refine gate_callee (f := 34) rfl ?_); refine goesA_ (some 8) Try.func34 #[.agg #[.int .i64 a0_0, .int .i64 a0_1, .int .i64 a0_2, .int .i64 a0_3, .int .i64 a0_4, .int .u64 a0_5]] ?_; (with_reducible refine (bucket_Check.calls a0_0 a0_1 a0_2 a0_3 a0_4 a0_5 t823 _ A3.out).mono ?_); rintro e w17 ⟨rfl, hb⟩; refine ⟨_, rfl, ?_⟩; replace BK821 := bb_ BK821 hb; replace BK822 := bb_ BK822 hb; replace HB := bs_ w hb; clear hb; obtain ⟨_, _, _, _, _, _, _, _, _, _, _, _⟩ := ce6_ BK821; obtain ⟨_, _, _, _, _, _, _, _, _, _, _, _⟩ := ce6_ BK822))
    refine bodyPost_ret (results_ct rfl _ _ gb822 30 #[.int .i64 0, .int .i64 0, .int .i64 0, .int .i64 0, .int .i64 0, .int .u64 0] (0, 0) _ rfl (bp6_ (bq_ BK822)) Try.underlying30 rfl (by kernel_rfl)) rfl ?_
    exact fi_
   ·rw [if_neg c12] at H
    have c12b0 : decide (a0_3 < a1) = false := decide_eq_false c12
    clear c12
    simp only [Option.some.injEq, Prod.mk.injEq] at H
    obtain ⟨rfl, rfl, rfl, rfl, rfl, rfl, rfl⟩ := H
    go_enter Try.func28, Try.ntmps28
    go_wp2_with (first | ((with_reducible refine gate_dst (N := 2) rfl ?_); refine bx_ #[.int .i64 a0_0, .int .i64 a0_1, .int .i64 a0_2, .int .i64 a0_3, .int .i64 a0_4, .int .u64 a0_5] 30 ?_; intro gb821 hg w20 BK821 hb; have GW821 := bz_ w hg; have GE821 := GW821; replace HB := bs_ w hb; clear hb hg) | ((with_reducible refine gate_dst (N := 4) rfl ?_); refine bx_ #[.int .i64 0, .int .i64 0, .int .i64 0, .int .i64 0, .int .i64 0, .int .u64 0] 30 ?_; intro gb822 hg w21 BK822 hb; have GW822 := bz_ w hg; have GE822 := GW822; have NB821_822 := bn_ BK821 hg; have NB822_821 := bm_ BK821 hg; replace BK821 := bb_ BK821 hb; replace HB := bs_ w hb; clear hb hg; have hnb22 := NB821_822.out; have hnc22 := NB822_821.out; obtain ⟨_, _, _, _, _, _, _, _, _, _, _, _⟩ := ce6_ BK821) | ((with_reducible refine gate_callee (f := 34) rfl ?_); refine goesA_ (some 8) Try.func34 #[.agg #[.int .i64 a0_0, .int .i64 a0_1, .int .i64 a0_2, .int .i64 a0_3, .int .i64 a0_4, .int .u64 a0_5]] ?_; (with_reducible refine (bucket_Check.calls a0_0 a0_1 a0_2 a0_3 a0_4 a0_5 t823 _ A3.out).mono ?_); rintro e w24 ⟨rfl, hb⟩; refine ⟨_, rfl, ?_⟩; replace BK821 := bb_ BK821 hb; replace BK822 := bb_ BK822 hb; replace HB := bs_ w hb; clear hb; obtain ⟨_, _, _, _, _, _, _, _, _, _, _, _⟩ := ce6_ BK821; obtain ⟨_, _, _, _, _, _, _, _, _, _, _, _⟩ := ce6_ BK822))
    refine bodyPost_ret (results_ct rfl _ _ gb822 30 #[.int .i64 a0_0, .int .i64 a0_1, .int .i64 a0_2, .int .i64 (wrap64 (a0_3 - a1)), .int .i64 a0_4, .int .u64 a0_5] (0, 0) _ rfl (blk_put (cs := #[.int .i64 a0_0, .int .i64 a0_1, .int .i64 a0_2, .int .i64 (wrap64 (a0_3 - a1)), .int .i64 a0_4, .int .u64 0]) (blk_put (cs := #[.int .i64 a0_0, .int .i64 a0_1, .int .i64 a0_2, .int .i64 (wrap64 (a0_3 - a1)), .int .i64 0, .int .u64 0]) (blk_put (cs := #[.int .i64 a0_0, .int .i64 a0_1, .int .i64 a0_2, .int .i64 0, .int .i64 0, .int .u64 0]) (blk_put (cs := #[.int .i64 a0_0, .int .i64 a0_1, .int .i64 0, .int .i64 0, .int .i64 0, .int .u64 0]) (blk_put (cs := #[.int .i64 a0_0, .int .i64 0, .int .i64 0, .int .i64 0, .int .i64 0, .int .u64 0]) (blk_put (cs := #[.int .i64 0, .int .i64 0, .int .i64 0, .int .i64 0, .int .i64 0, .int .u64 0]) (bt_ BK822) 0 _ rfl) 1 _ rfl) 2 _ rfl) 3 _ rfl) 4 _ rfl) 5 _ rfl) Try.underlying30 rfl (by kernel_rfl)) rfl ?_
    exact fi_
 ·rw [if_neg c4] at H
  have c4b0 : (t823 == 0) = false := beq_eq_false_iff_ne.mpr c4
  have c4b1 : (t823 != 0) = true := bne_iff_ne.mpr c4
  simp only [Option.some.injEq, Prod.mk.injEq] at H
  obtain ⟨rfl, rfl, rfl, rfl, rfl, rfl, rfl⟩ := H
  go_enter Try.func28, Try.ntmps28
  go_wp2_with (first | ((with_reducible refine gate_dst (N := 2) rfl ?_); refine bx_ #[.int .i64 a0_0, .int .i64 a0_1, .int .i64 a0_2, .int .i64 a0_3, .int .i64 a0_4, .int .u64 a0_5] 30 ?_; intro gb821 hg w27 BK821 hb; have GW821 := bz_ w hg; have GE821 := GW821; replace HB := bs_ w hb; clear hb hg) | ((with_reducible refine gate_dst (N := 4) rfl ?_); refine bx_ #[.int .i64 0, .int .i64 0, .int .i64 0, .int .i64 0, .int .i64 0, .int .u64 0] 30 ?_; intro gb822 hg w28 BK822 hb; have GW822 := bz_ w hg; have GE822 := GW822; have NB821_822 := bn_ BK821 hg; have NB822_821 := bm_ BK821 hg; replace BK821 := bb_ BK821 hb; replace HB := bs_ w hb; clear hb hg; have hnb29 := NB821_822.out; have hnc29 := NB822_821.out; obtain ⟨_, _, _, _, _, _, _, _, _, _, _, _⟩ := ce6_ BK821) | ((with_reducible refine gate_callee (f := 34) rfl ?_); refine goesA_ (some 8) Try.func34 #[.agg #[.int .i64 a0_0, .int .i64 a0_1, .int .i64 a0_2, .int .i64 a0_3, .int .i64 a0_4, .int .u64 a0_5]] ?_; (with_reducible refine (bucket_Check.calls a0_0 a0_1 a0_2 a0_3 a0_4 a0_5 t823 _ A3.out).mono ?_); rintro e w31 ⟨rfl, hb⟩; refine ⟨_, rfl, ?_⟩; replace BK821 := bb_ BK821 hb; replace BK822 := bb_ BK822 hb; replace HB := bs_ w hb; clear hb; obtain ⟨_, _, _, _, _, _, _, _, _, _, _, _⟩ := ce6_ BK822))
  refine bodyPost_ret (results_ct rfl _ _ gb822 30 #[.int .i64 0, .int .i64 0, .int .i64 0, .int .i64 0, .int .i64 0, .int .u64 0] (0, 0) _ rfl (bp6_ (bq_ BK822)) Try.underlying30 rfl (by kernel_rfl)) rfl ?_
  exact fi_

end Go.Proofs.Ytnijohomnajngaa.X
