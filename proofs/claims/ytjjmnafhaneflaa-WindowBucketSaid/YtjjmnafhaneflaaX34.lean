-- written by xprint.py, a program of this session over the kit's print
import Derived.Test.YtjjmnafhaneflaaX0
import Derived.Test.YtjjmnafhaneflaaX28
import Derived.Test.YtjjmnafhaneflaaX33
namespace Go.Proofs.Ytjjmnafhaneflaa.X
open Go.RowKit Go.Proofs.YtjjmnafhaneflaaW.PrintWords Go.Proofs.YtjjmnafhaneflaaW.PrintLast Go.Proofs.YtjjmnafhaneflaaW.PrintMore
attribute [local go_sem] max2_int min2_int max_two min_two max_three min_three max_four min_four   -- for this text's walks alone
set_option linter.unusedVariables false
set_option linter.unusedSimpArgs false

/-! ### bucket_Refill: function 43 -/
def bucket_Refill.f (k : Nat) (a0_0 : Int) (a0_1 : Int) (a0_2 : Int) (a0_3 : Int) (a0_4 : Int) (a0_5 : Int) (a1 : Int) : Option (Int × Int × Int × Int × Int × Int × Int) := (bucket_Check.f a0_0 a0_1 a0_2 a0_3 a0_4 a0_5).bind fun t495 => (if t495 = 0 then ((bucket_fill.f k a0_0 a0_1 a0_2 a0_3 a0_4 a0_5 a1).bind fun bt496 => (some (bt496.1, bt496.2.1, bt496.2.2.1, bt496.2.2.2.1, bt496.2.2.2.2.1, bt496.2.2.2.2.2, 0))) else (some (0, 0, 0, 0, 0, 0, t495)))
theorem bucket_Refill.mono : ∀ a0 a1 a2 a3 a4 a5 a6 k, LeO (bucket_Refill.f k a0 a1 a2 a3 a4 a5 a6) (bucket_Refill.f (k + 1) a0 a1 a2 a3 a4 a5 a6) := by
  intro a0 a1 a2 a3 a4 a5 a6 k
  unfold bucket_Refill.f
  repeat' first
      | (with_reducible exact bucket_fill.mono _ _ _ _ _ _ _ _)
      | (with_reducible exact LeO.refl _)
      | (with_reducible exact LeO.none _)
      | (with_reducible refine LeO.ite ?_ ?_)
      | (with_reducible refine LeO.bind ?_ (fun _ => ?_))
      | exact bucket_fill.mono _ _ _ _ _ _ _ _
      | exact LeO.none _
      | refine LeO.ite ?_ ?_
      | refine LeO.bind ?_ (fun _ => ?_)
set_option maxHeartbeats 8000000 in
set_option maxRecDepth 100000 in
theorem bucket_Refill.calls (k : Nat) (a0_0 : Int) (a0_1 : Int) (a0_2 : Int) (a0_3 : Int) (a0_4 : Int) (a0_5 : Int) (a1 : Int) (r1 : Int) (r2 : Int) (r3 : Int) (r4 : Int) (r5 : Int) (r6 : Int) (r7 : Int) (w : World) (h : bucket_Refill.f k a0_0 a0_1 a0_2 a0_3 a0_4 a0_5 a1 = some (r1, r2, r3, r4, r5, r6, r7)) :
  Calls Try.prog 43 #[.agg #[.int .i64 a0_0, .int .i64 a0_1, .int .i64 a0_2, .int .i64 a0_3, .int .i64 a0_4, .int .u64 a0_5], .int .u64 a1] w fun e w' => e = .returned (.tuple #[.agg #[.int .i64 r1, .int .i64 r2, .int .i64 r3, .int .i64 r4, .int .i64 r5, .int .u64 r6], .int .i64 r7]) ∧ Below w.heap.size w w' := by
 have hu74 := Try.underlying74
 have HB := Aside0.mk (Below.refl w.heap.size w)
 have H : ((bucket_Check.f a0_0 a0_1 a0_2 a0_3 a0_4 a0_5).bind fun t495 => (if t495 = 0 then ((bucket_fill.f k a0_0 a0_1 a0_2 a0_3 a0_4 a0_5 a1).bind fun bt496 => (some (bt496.1, bt496.2.1, bt496.2.2.1, bt496.2.2.2.1, bt496.2.2.2.2.1, bt496.2.2.2.2.2, 0))) else (some (0, 0, 0, 0, 0, 0, t495)))) = some (r1, r2, r3, r4, r5, r6, r7) := h
 clear h
 obtain ⟨t495, A3, H⟩ := bo_ H
 try dsimp only at H
 by_cases c4 : t495 = 0
 ·rw [if_pos c4] at H
  have c4b0 : (t495 == 0) = true := beq_iff_eq.mpr c4
  have c4b1 : (t495 != 0) = false := bne_eq_false_iff_eq.mpr c4
  clear c4
  obtain ⟨⟨t496, t497, t498, t499, t500, t501⟩, A5, H⟩ := bo_ H
  replace H : (some (t496, t497, t498, t499, t500, t501, 0)) = some (r1, r2, r3, r4, r5, r6, r7) := H
  simp only [Option.some.injEq, Prod.mk.injEq] at H
  obtain ⟨rfl, rfl, rfl, rfl, rfl, rfl, rfl⟩ := H
  go_enter Try.func43, Try.ntmps43
  go_wp2_with (first | ((with_reducible refine gate_dst (N := 2) rfl ?_); refine bx_ #[.int .i64 a0_0, .int .i64 a0_1, .int .i64 a0_2, .int .i64 a0_3, .int .i64 a0_4, .int .u64 a0_5] 74 ?_; intro gb493 hg w6 BK493 hb; have GW493 := bz_ w hg; have GE493 := GW493; replace HB := bs_ w hb; clear hb hg) | ((with_reducible refine gate_dst (N := 4) rfl ?_); refine bx_ #[.int .i64 0, .int .i64 0, .int .i64 0, .int .i64 0, .int .i64 0, .int .u64 0] 74 ?_; intro gb494 hg w7 BK494 hb; have GW494 := bz_ w hg; have GE494 := GW494; have NB493_494 := bn_ BK493 hg; have NB494_493 := bm_ BK493 hg; replace BK493 := bb_ BK493 hb; replace HB := bs_ w hb; clear hb hg; replace hn493_494 := NB493_494.out; replace hn494_493 := NB494_493.out; replace hc493 := ce6_ BK493) | ((with_reducible refine gate_callee (f := 48) rfl ?_); refine goesA_ (some 8) Try.func48 #[.agg #[.int .i64 a0_0, .int .i64 a0_1, .int .i64 a0_2, .int .i64 a0_3, .int .i64 a0_4, .int .u64 a0_5]] ?_; (with_reducible refine (bucket_Check.calls a0_0 a0_1 a0_2 a0_3 a0_4 a0_5 t495 _ A3.out).mono ?_); rintro e w10 ⟨rfl, hb⟩; refine ⟨_, rfl, ?_⟩; replace BK493 := bb_ BK493 hb; replace BK494 := bb_ BK494 hb; replace HB := bs_ w hb; clear hb; replace hc493 := ce6_ BK493) | ((with_reducible refine gate_callee (f := 49) rfl ?_); refine goesA_ (some 15) Try.func49 #[.agg #[.int .i64 a0_0, .int .i64 a0_1, .int .i64 a0_2, .int .i64 a0_3, .int .i64 a0_4, .int .u64 a0_5], .int .u64 a1] ?_; (with_reducible refine (bucket_fill.calls k a0_0 a0_1 a0_2 a0_3 a0_4 a0_5 a1 t496 t497 t498 t499 t500 t501 _ A5.out).mono ?_); rintro e w12 ⟨rfl, hb⟩; refine ⟨_, rfl, ?_⟩; replace BK493 := bb_ BK493 hb; replace BK494 := bb_ BK494 hb; replace HB := bs_ w hb; clear hb; replace hc494 := ce6_ BK494))
  refine bodyPost_ret (results_ct rfl _ _ gb494 74 #[.int .i64 t496, .int .i64 t497, .int .i64 t498, .int .i64 t499, .int .i64 t500, .int .u64 t501] (0, 0) _ rfl (bp6_ (bq_ BK494)) Try.underlying74 rfl (by kernel_rfl)) rfl ?_
  exact fi_
 ·rw [if_neg c4] at H
  have c4b0 : (t495 == 0) = false := beq_eq_false_iff_ne.mpr c4
  have c4b1 : (t495 != 0) = true := bne_iff_ne.mpr c4
  simp only [Option.some.injEq, Prod.mk.injEq] at H
  obtain ⟨rfl, rfl, rfl, rfl, rfl, rfl, rfl⟩ := H
  go_enter Try.func43, Try.ntmps43
  go_wp2_with (first | ((with_reducible refine gate_dst (N := 2) rfl ?_); refine bx_ #[.int .i64 a0_0, .int .i64 a0_1, .int .i64 a0_2, .int .i64 a0_3, .int .i64 a0_4, .int .u64 a0_5] 74 ?_; intro gb493 hg w14 BK493 hb; have GW493 := bz_ w hg; have GE493 := GW493; replace HB := bs_ w hb; clear hb hg) | ((with_reducible refine gate_dst (N := 4) rfl ?_); refine bx_ #[.int .i64 0, .int .i64 0, .int .i64 0, .int .i64 0, .int .i64 0, .int .u64 0] 74 ?_; intro gb494 hg w15 BK494 hb; have GW494 := bz_ w hg; have GE494 := GW494; have NB493_494 := bn_ BK493 hg; have NB494_493 := bm_ BK493 hg; replace BK493 := bb_ BK493 hb; replace HB := bs_ w hb; clear hb hg; replace hn493_494 := NB493_494.out; replace hn494_493 := NB494_493.out; replace hc493 := ce6_ BK493) | ((with_reducible refine gate_callee (f := 48) rfl ?_); refine goesA_ (some 8) Try.func48 #[.agg #[.int .i64 a0_0, .int .i64 a0_1, .int .i64 a0_2, .int .i64 a0_3, .int .i64 a0_4, .int .u64 a0_5]] ?_; (with_reducible refine (bucket_Check.calls a0_0 a0_1 a0_2 a0_3 a0_4 a0_5 t495 _ A3.out).mono ?_); rintro e w18 ⟨rfl, hb⟩; refine ⟨_, rfl, ?_⟩; replace BK493 := bb_ BK493 hb; replace BK494 := bb_ BK494 hb; replace HB := bs_ w hb; clear hb; replace hc494 := ce6_ BK494))
  refine bodyPost_ret (results_ct rfl _ _ gb494 74 #[.int .i64 0, .int .i64 0, .int .i64 0, .int .i64 0, .int .i64 0, .int .u64 0] (0, 0) _ rfl (bp6_ (bq_ BK494)) Try.underlying74 rfl (by kernel_rfl)) rfl ?_
  exact fi_

/-! ### bucket_Charge: function 44 -/
def bucket_Charge.f (a0_0 : Int) (a0_1 : Int) (a0_2 : Int) (a0_3 : Int) (a0_4 : Int) (a0_5 : Int) (a1 : Int) : Option (Int × Int × Int × Int × Int × Int × Int) := (bucket_Check.f a0_0 a0_1 a0_2 a0_3 a0_4 a0_5).bind fun t504 => (if t504 = 0 then (if a1 < 0 then (some (0, 0, 0, 0, 0, 0, 2)) else (if a1 > a0_3 then (some (0, 0, 0, 0, 0, 0, 20)) else (some (a0_0, a0_1, a0_2, wrap64 (a0_3 - a1), a0_4, a0_5, 0)))) else (some (0, 0, 0, 0, 0, 0, t504)))
set_option maxHeartbeats 8000000 in
set_option maxRecDepth 100000 in
theorem bucket_Charge.calls (a0_0 : Int) (a0_1 : Int) (a0_2 : Int) (a0_3 : Int) (a0_4 : Int) (a0_5 : Int) (a1 : Int) (r1 : Int) (r2 : Int) (r3 : Int) (r4 : Int) (r5 : Int) (r6 : Int) (r7 : Int) (w : World) (h : bucket_Charge.f a0_0 a0_1 a0_2 a0_3 a0_4 a0_5 a1 = some (r1, r2, r3, r4, r5, r6, r7)) :
  Calls Try.prog 44 #[.agg #[.int .i64 a0_0, .int .i64 a0_1, .int .i64 a0_2, .int .i64 a0_3, .int .i64 a0_4, .int .u64 a0_5], .int .i64 a1] w fun e w' => e = .returned (.tuple #[.agg #[.int .i64 r1, .int .i64 r2, .int .i64 r3, .int .i64 r4, .int .i64 r5, .int .u64 r6], .int .i64 r7]) ∧ Below w.heap.size w w' := by
 have hu74 := Try.underlying74
 have HB := Aside0.mk (Below.refl w.heap.size w)
 have H : ((bucket_Check.f a0_0 a0_1 a0_2 a0_3 a0_4 a0_5).bind fun t504 => (if t504 = 0 then (if a1 < 0 then (some (0, 0, 0, 0, 0, 0, 2)) else (if a1 > a0_3 then (some (0, 0, 0, 0, 0, 0, 20)) else (some (a0_0, a0_1, a0_2, wrap64 (a0_3 - a1), a0_4, a0_5, 0)))) else (some (0, 0, 0, 0, 0, 0, t504)))) = some (r1, r2, r3, r4, r5, r6, r7) := h
 clear h
 obtain ⟨t504, A3, H⟩ := bo_ H
 try dsimp only at H
 by_cases c4 : t504 = 0
 ·rw [if_pos c4] at H
  have c4b0 : (t504 == 0) = true := beq_iff_eq.mpr c4
  have c4b1 : (t504 != 0) = false := bne_eq_false_iff_eq.mpr c4
  clear c4
  by_cases c5 : a1 < 0
  ·rw [if_pos c5] at H
   have c5b0 : decide (a1 < 0) = true := decide_eq_true c5
   clear c5
   simp only [Option.some.injEq, Prod.mk.injEq] at H
   obtain ⟨rfl, rfl, rfl, rfl, rfl, rfl, rfl⟩ := H
   go_enter Try.func44, Try.ntmps44
   go_wp2_with (first | ((with_reducible refine gate_dst (N := 2) rfl ?_); refine bx_ #[.int .i64 a0_0, .int .i64 a0_1, .int .i64 a0_2, .int .i64 a0_3, .int .i64 a0_4, .int .u64 a0_5] 74 ?_; intro gb502 hg w6 BK502 hb; have GW502 := bz_ w hg; have GE502 := GW502; replace HB := bs_ w hb; clear hb hg) | ((with_reducible refine gate_dst (N := 4) rfl ?_); refine bx_ #[.int .i64 0, .int .i64 0, .int .i64 0, .int .i64 0, .int .i64 0, .int .u64 0] 74 ?_; intro gb503 hg w7 BK503 hb; have GW503 := bz_ w hg; have GE503 := GW503; have NB502_503 := bn_ BK502 hg; have NB503_502 := bm_ BK502 hg; replace BK502 := bb_ BK502 hb; replace HB := bs_ w hb; clear hb hg; replace hn502_503 := NB502_503.out; replace hn503_502 := NB503_502.out; replace hc502 := ce6_ BK502) | ((with_reducible refine gate_callee (f := 48) rfl ?_); refine goesA_ (some 8) Try.func48 #[.agg #[.int .i64 a0_0, .int .i64 a0_1, .int .i64 a0_2, .int .i64 a0_3, .int .i64 a0_4, .int .u64 a0_5]] ?_; (with_reducible refine (bucket_Check.calls a0_0 a0_1 a0_2 a0_3 a0_4 a0_5 t504 _ A3.out).mono ?_); rintro e w10 ⟨rfl, hb⟩; refine ⟨_, rfl, ?_⟩; replace BK502 := bb_ BK502 hb; replace BK503 := bb_ BK503 hb; replace HB := bs_ w hb; clear hb; replace hc503 := ce6_ BK503))
   refine bodyPost_ret (results_ct rfl _ _ gb503 74 #[.int .i64 0, .int .i64 0, .int .i64 0, .int .i64 0, .int .i64 0, .int .u64 0] (0, 0) _ rfl (bp6_ (bq_ BK503)) Try.underlying74 rfl (by kernel_rfl)) rfl ?_
   exact fi_
  ·rw [if_neg c5] at H
   have c5b0 : decide (a1 < 0) = false := decide_eq_false c5
   clear c5
   by_cases c12 : a1 > a0_3
   ·rw [if_pos c12] at H
    have c12b0 : decide (a0_3 < a1) = true := decide_eq_true c12
    clear c12
    simp only [Option.some.injEq, Prod.mk.injEq] at H
    obtain ⟨rfl, rfl, rfl, rfl, rfl, rfl, rfl⟩ := H
    go_enter Try.func44, Try.ntmps44
    go_wp2_with (first | ((with_reducible refine gate_dst (N := 2) rfl ?_); refine bx_ #[.int .i64 a0_0, .int .i64 a0_1, .int .i64 a0_2, .int .i64 a0_3, .int .i64 a0_4, .int .u64 a0_5] 74 ?_; intro gb502 hg w13 BK502 hb; have GW502 := bz_ w hg; have GE502 := GW502; replace HB := bs_ w hb; clear hb hg) | ((with_reducible refine gate_dst (N := 4) rfl ?_); refine bx_ #[.int .i64 0, .int .i64 0, .int .i64 0, .int .i64 0, .int .i64 0, .int .u64 0] 74 ?_; intro gb503 hg w14 BK503 hb; have GW503 := bz_ w hg; have GE503 := GW503; have NB502_503 := bn_ BK502 hg; have NB503_502 := bm_ BK502 hg; replace BK502 := bb_ BK502 hb; replace HB := bs_ w hb; clear hb hg; replace hn502_503 := NB502_503.out; replace hn503_502 := NB503_502.out; replace hc502 := ce6_ BK502) | ((with_reducible refine gate_callee (f := 48) rfl ?_); refine goesA_ (some 8) Try.func48 #[.agg #[.int .i64 a0_0, .int .i64 a0_1, .int .i64 a0_2, .int .i64 a0_3, .int .i64 a0_4, .int .u64 a0_5]] ?_; (with_reducible refine (bucket_Check.calls a0_0 a0_1 a0_2 a0_3 a0_4 a0_5 t504 _ A3.out).mono ?_); rintro e w17 ⟨rfl, hb⟩; refine ⟨_, rfl, ?_⟩; replace BK502 := bb_ BK502 hb; replace BK503 := bb_ BK503 hb; replace HB := bs_ w hb; clear hb; replace hc502 := ce6_ BK502; replace hc503 := ce6_ BK503))
    refine bodyPost_ret (results_ct rfl _ _ gb503 74 #[.int .i64 0, .int .i64 0, .int .i64 0, .int .i64 0, .int .i64 0, .int .u64 0] (0, 0) _ rfl (bp6_ (bq_ BK503)) Try.underlying74 rfl (by kernel_rfl)) rfl ?_
    exact fi_
   ·rw [if_neg c12] at H
    have c12b0 : decide (a0_3 < a1) = false := decide_eq_false c12
    clear c12
    simp only [Option.some.injEq, Prod.mk.injEq] at H
    obtain ⟨rfl, rfl, rfl, rfl, rfl, rfl, rfl⟩ := H
    go_enter Try.func44, Try.ntmps44
    go_wp2_with (first | ((with_reducible refine gate_dst (N := 2) rfl ?_); refine bx_ #[.int .i64 a0_0, .int .i64 a0_1, .int .i64 a0_2, .int .i64 a0_3, .int .i64 a0_4, .int .u64 a0_5] 74 ?_; intro gb502 hg w20 BK502 hb; have GW502 := bz_ w hg; have GE502 := GW502; replace HB := bs_ w hb; clear hb hg) | ((with_reducible refine gate_dst (N := 4) rfl ?_); refine bx_ #[.int .i64 0, .int .i64 0, .int .i64 0, .int .i64 0, .int .i64 0, .int .u64 0] 74 ?_; intro gb503 hg w21 BK503 hb; have GW503 := bz_ w hg; have GE503 := GW503; have NB502_503 := bn_ BK502 hg; have NB503_502 := bm_ BK502 hg; replace BK502 := bb_ BK502 hb; replace HB := bs_ w hb; clear hb hg; replace hn502_503 := NB502_503.out; replace hn503_502 := NB503_502.out; replace hc502 := ce6_ BK502) | ((with_reducible refine gate_callee (f := 48) rfl ?_); refine goesA_ (some 8) Try.func48 #[.agg #[.int .i64 a0_0, .int .i64 a0_1, .int .i64 a0_2, .int .i64 a0_3, .int .i64 a0_4, .int .u64 a0_5]] ?_; (with_reducible refine (bucket_Check.calls a0_0 a0_1 a0_2 a0_3 a0_4 a0_5 t504 _ A3.out).mono ?_); rintro e w24 ⟨rfl, hb⟩; refine ⟨_, rfl, ?_⟩; replace BK502 := bb_ BK502 hb; replace BK503 := bb_ BK503 hb; replace HB := bs_ w hb; clear hb; replace hc502 := ce6_ BK502; replace hc503 := ce6_ BK503))
    refine bodyPost_ret (results_ct rfl _ _ gb503 74 #[.int .i64 a0_0, .int .i64 a0_1, .int .i64 a0_2, .int .i64 (wrap64 (a0_3 - a1)), .int .i64 a0_4, .int .u64 a0_5] (0, 0) _ rfl (blk_put (cs := #[.int .i64 a0_0, .int .i64 a0_1, .int .i64 a0_2, .int .i64 (wrap64 (a0_3 - a1)), .int .i64 a0_4, .int .u64 0]) (blk_put (cs := #[.int .i64 a0_0, .int .i64 a0_1, .int .i64 a0_2, .int .i64 (wrap64 (a0_3 - a1)), .int .i64 0, .int .u64 0]) (blk_put (cs := #[.int .i64 a0_0, .int .i64 a0_1, .int .i64 a0_2, .int .i64 0, .int .i64 0, .int .u64 0]) (blk_put (cs := #[.int .i64 a0_0, .int .i64 a0_1, .int .i64 0, .int .i64 0, .int .i64 0, .int .u64 0]) (blk_put (cs := #[.int .i64 a0_0, .int .i64 0, .int .i64 0, .int .i64 0, .int .i64 0, .int .u64 0]) (blk_put (cs := #[.int .i64 0, .int .i64 0, .int .i64 0, .int .i64 0, .int .i64 0, .int .u64 0]) (bt_ BK503) 0 _ rfl) 1 _ rfl) 2 _ rfl) 3 _ rfl) 4 _ rfl) 5 _ rfl) Try.underlying74 rfl (by kernel_rfl)) rfl ?_
    exact fi_
 ·rw [if_neg c4] at H
  have c4b0 : (t504 == 0) = false := beq_eq_false_iff_ne.mpr c4
  have c4b1 : (t504 != 0) = true := bne_iff_ne.mpr c4
  simp only [Option.some.injEq, Prod.mk.injEq] at H
  obtain ⟨rfl, rfl, rfl, rfl, rfl, rfl, rfl⟩ := H
  go_enter Try.func44, Try.ntmps44
  go_wp2_with (first | ((with_reducible refine gate_dst (N := 2) rfl ?_); refine bx_ #[.int .i64 a0_0, .int .i64 a0_1, .int .i64 a0_2, .int .i64 a0_3, .int .i64 a0_4, .int .u64 a0_5] 74 ?_; intro gb502 hg w27 BK502 hb; have GW502 := bz_ w hg; have GE502 := GW502; replace HB := bs_ w hb; clear hb hg) | ((with_reducible refine gate_dst (N := 4) rfl ?_); refine bx_ #[.int .i64 0, .int .i64 0, .int .i64 0, .int .i64 0, .int .i64 0, .int .u64 0] 74 ?_; intro gb503 hg w28 BK503 hb; have GW503 := bz_ w hg; have GE503 := GW503; have NB502_503 := bn_ BK502 hg; have NB503_502 := bm_ BK502 hg; replace BK502 := bb_ BK502 hb; replace HB := bs_ w hb; clear hb hg; replace hn502_503 := NB502_503.out; replace hn503_502 := NB503_502.out; replace hc502 := ce6_ BK502) | ((with_reducible refine gate_callee (f := 48) rfl ?_); refine goesA_ (some 8) Try.func48 #[.agg #[.int .i64 a0_0, .int .i64 a0_1, .int .i64 a0_2, .int .i64 a0_3, .int .i64 a0_4, .int .u64 a0_5]] ?_; (with_reducible refine (bucket_Check.calls a0_0 a0_1 a0_2 a0_3 a0_4 a0_5 t504 _ A3.out).mono ?_); rintro e w31 ⟨rfl, hb⟩; refine ⟨_, rfl, ?_⟩; replace BK502 := bb_ BK502 hb; replace BK503 := bb_ BK503 hb; replace HB := bs_ w hb; clear hb; replace hc503 := ce6_ BK503))
  refine bodyPost_ret (results_ct rfl _ _ gb503 74 #[.int .i64 0, .int .i64 0, .int .i64 0, .int .i64 0, .int .i64 0, .int .u64 0] (0, 0) _ rfl (bp6_ (bq_ BK503)) Try.underlying74 rfl (by kernel_rfl)) rfl ?_
  exact fi_

end Go.Proofs.Ytjjmnafhaneflaa.X
