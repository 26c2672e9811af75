-- written by xprint.py, a program of this session over the kit's print
import Derived.Test.YtmfkedeaifdfdaaX0
import Derived.Test.YtmfkedeaifdfdaaX5
import Derived.Test.YtmfkedeaifdfdaaX10
namespace Go.Proofs.Ytmfkedeaifdfdaa.X
open Go.RowKit Go.Proofs.YtmfkedeaifdfdaaW.PrintWords Go.Proofs.YtmfkedeaifdfdaaW.PrintLast Go.Proofs.YtmfkedeaifdfdaaW.PrintMore
attribute [local go_sem] max2_int min2_int max_two min_two max_three min_three max_four min_four   -- for this text's walks alone
set_option linter.unusedVariables false
set_option linter.unusedSimpArgs false

/-! ### bucket_Charge: function 18 -/
def bucket_Charge.f (a0_0 : Int) (a0_1 : Int) (a0_2 : Int) (a0_3 : Int) (a0_4 : Int) (a0_5 : Int) (a1 : Int) : Option (Int × Int × Int × Int × Int × Int × Int) := (bucket_Check.f a0_0 a0_1 a0_2 a0_3 a0_4 a0_5).bind fun t240 => (if t240 = 0 then (if a1 < 0 then (some (0, 0, 0, 0, 0, 0, 2)) else (if a1 > a0_3 then (some (0, 0, 0, 0, 0, 0, 20)) else (some (a0_0, a0_1, a0_2, wrap64 (a0_3 - a1), a0_4, a0_5, 0)))) else (some (0, 0, 0, 0, 0, 0, t240)))
set_option maxHeartbeats 8000000 in
set_option maxRecDepth 100000 in
theorem bucket_Charge.calls (a0_0 : Int) (a0_1 : Int) (a0_2 : Int) (a0_3 : Int) (a0_4 : Int) (a0_5 : Int) (a1 : Int) (r1 : Int) (r2 : Int) (r3 : Int) (r4 : Int) (r5 : Int) (r6 : Int) (r7 : Int) (w : World) (h : bucket_Charge.f a0_0 a0_1 a0_2 a0_3 a0_4 a0_5 a1 = some (r1, r2, r3, r4, r5, r6, r7)) :
  Calls Try.prog 18 #[.agg #[.int .i64 a0_0, .int .i64 a0_1, .int .i64 a0_2, .int .i64 a0_3, .int .i64 a0_4, .int .u64 a0_5], .int .i64 a1] w fun e w' => e = .returned (.tuple #[.agg #[.int .i64 r1, .int .i64 r2, .int .i64 r3, .int .i64 r4, .int .i64 r5, .int .u64 r6], .int .i64 r7]) ∧ Below w.heap.size w w' := by
 have hu26 := Try.underlying26
 have HB := Aside0.mk (Below.refl w.heap.size w)
 have H : ((bucket_Check.f a0_0 a0_1 a0_2 a0_3 a0_4 a0_5).bind fun t240 => (if t240 = 0 then (if a1 < 0 then (some (0, 0, 0, 0, 0, 0, 2)) else (if a1 > a0_3 then (some (0, 0, 0, 0, 0, 0, 20)) else (some (a0_0, a0_1, a0_2, wrap64 (a0_3 - a1), a0_4, a0_5, 0)))) else (some (0, 0, 0, 0, 0, 0, t240)))) = some (r1, r2, r3, r4, r5, r6, r7) := h
 clear h
 obtain ⟨t240, A3, H⟩ := bo_ H
 try dsimp only at H
 by_cases c4 : t240 = 0
 ·rw [if_pos c4] at H
  have c4b0 : (t240 == 0) = true := beq_iff_eq.mpr c4
  have c4b1 : (t240 != 0) = false := bne_eq_false_iff_eq.mpr c4
  clear c4
  by_cases c5 : a1 < 0
  ·rw [if_pos c5] at H
   have c5b0 : decide (a1 < 0) = true := decide_eq_true c5
   clear c5
   simp only [Option.some.injEq, Prod.mk.injEq] at H
   obtain ⟨rfl, rfl, rfl, rfl, rfl, rfl, rfl⟩ := H
   go_enter Try.func18, Try.ntmps18
   go_wp2_with (first | ((with_reducible refine gate_dst (N := 2) rfl ?_); refine bx_ #[.int .i64 a0_0, .int .i64 a0_1, .int .i64 a0_2, .int .i64 a0_3, .int .i64 a0_4, .int .u64 a0_5] 26 ?_; intro gb238 hg w6 BK238 hb; have GW238 := bz_ w hg; have GE238 := GW238; replace HB := bs_ w hb; clear hb hg) | ((with_reducible refine gate_dst (N := 4) rfl ?_); refine bx_ #[.int .i64 0, .int .i64 0, .int .i64 0, .int .i64 0, .int .i64 0, .int .u64 0] 26 ?_; intro gb239 hg w7 BK239 hb; have GW239 := bz_ w hg; have GE239 := GW239; have NB238_239 := bn_ BK238 hg; have NB239_238 := bm_ BK238 hg; replace BK238 := bb_ BK238 hb; replace HB := bs_ w hb; clear hb hg; replace hn238_239 := NB238_239.out; replace hn239_238 := NB239_238.out; replace hc238 := ce6_ BK238) | ((with_reducible refine gate_callee (f := 16) rfl ?_); refine goesA_ (some 8) Try.func16 #[.agg #[.int .i64 a0_0, .int .i64 a0_1, .int .i64 a0_2, .int .i64 a0_3, .int .i64 a0_4, .int .u64 a0_5]] ?_; (with_reducible refine (bucket_Check.calls a0_0 a0_1 a0_2 a0_3 a0_4 a0_5 t240 _ A3.out).mono ?_); rintro e w10 ⟨rfl, hb⟩; refine ⟨_, rfl, ?_⟩; replace BK238 := bb_ BK238 hb; replace BK239 := bb_ BK239 hb; replace HB := bs_ w hb; clear hb; replace hc239 := ce6_ BK239))
   refine bodyPost_ret (results_ct rfl _ _ gb239 26 #[.int .i64 0, .int .i64 0, .int .i64 0, .int .i64 0, .int .i64 0, .int .u64 0] (0, 0) _ rfl (bp6_ (bq_ BK239)) Try.underlying26 rfl (by kernel_rfl)) rfl ?_
   exact fi_
  ·rw [if_neg c5] at H
   have c5b0 : decide (a1 < 0) = false := decide_eq_false c5
   clear c5
   by_cases c12 : a1 > a0_3
   ·rw [if_pos c12] at H
    have c12b0 : decide (a0_3 < a1) = true := decide_eq_true c12
    clear c12
    simp only [Option.some.injEq, Prod.mk.injEq] at H
    obtain ⟨rfl, rfl, rfl, rfl, rfl, rfl, rfl⟩ := H
    go_enter Try.func18, Try.ntmps18
    go_wp2_with (first | ((with_reducible refine gate_dst (N := 2) rfl ?_); refine bx_ #[.int .i64 a0_0, .int .i64 a0_1, .int .i64 a0_2, .int .i64 a0_3, .int .i64 a0_4, .int .u64 a0_5] 26 ?_; intro gb238 hg w13 BK238 hb; have GW238 := bz_ w hg; have GE238 := GW238; replace HB := bs_ w hb; clear hb hg) | ((with_reducible refine gate_dst (N := 4) rfl ?_); refine bx_ #[.int .i64 0, .int .i64 0, .int .i64 0, .int .i64 0, .int .i64 0, .int .u64 0] 26 ?_; intro gb239 hg w14 BK239 hb; have GW239 := bz_ w hg; have GE239 := GW239; have NB238_239 := bn_ BK238 hg; have NB239_238 := bm_ BK238 hg; replace BK238 := bb_ BK238 hb; replace HB := bs_ w hb; clear hb hg; replace hn238_239 := NB238_239.out; replace hn239_238 := NB239_238.out; replace hc238 := ce6_ BK238) | ((with_reducible refine gate_callee (f := 16) rfl ?_); refine goesA_ (some 8) Try.func16 #[.agg #[.int .i64 a0_0, .int .i64 a0_1, .int .i64 a0_2, .int .i64 a0_3, .int .i64 a0_4, .int .u64 a0_5]] ?_; (with_reducible refine (bucket_Check.calls a0_0 a0_1 a0_2 a0_3 a0_4 a0_5 t240 _ A3.out).mono ?_); rintro e w17 ⟨rfl, hb⟩; refine ⟨_, rfl, ?_⟩; replace BK238 := bb_ BK238 hb; replace BK239 := bb_ BK239 hb; replace HB := bs_ w hb; clear hb; replace hc238 := ce6_ BK238; replace hc239 := ce6_ BK239))
    refine bodyPost_ret (results_ct rfl _ _ gb239 26 #[.int .i64 0, .int .i64 0, .int .i64 0, .int .i64 0, .int .i64 0, .int .u64 0] (0, 0) _ rfl (bp6_ (bq_ BK239)) Try.underlying26 rfl (by kernel_rfl)) rfl ?_
    exact fi_
   ·rw [if_neg c12] at H
    have c12b0 : decide (a0_3 < a1) = false := decide_eq_false c12
    clear c12
    simp only [Option.some.injEq, Prod.mk.injEq] at H
    obtain ⟨rfl, rfl, rfl, rfl, rfl, rfl, rfl⟩ := H
    go_enter Try.func18, Try.ntmps18
    go_wp2_with (first | ((with_reducible refine gate_dst (N := 2) rfl ?_); refine bx_ #[.int .i64 a0_0, .int .i64 a0_1, .int .i64 a0_2, .int .i64 a0_3, .int .i64 a0_4, .int .u64 a0_5] 26 ?_; intro gb238 hg w20 BK238 hb; have GW238 := bz_ w hg; have GE238 := GW238; replace HB := bs_ w hb; clear hb hg) | ((with_reducible refine gate_dst (N := 4) rfl ?_); refine bx_ #[.int .i64 0, .int .i64 0, .int .i64 0, .int .i64 0, .int .i64 0, .int .u64 0] 26 ?_; intro gb239 hg w21 BK239 hb; have GW239 := bz_ w hg; have GE239 := GW239; have NB238_239 := bn_ BK238 hg; have NB239_238 := bm_ BK238 hg; replace BK238 := bb_ BK238 hb; replace HB := bs_ w hb; clear hb hg; replace hn238_239 := NB238_239.out; replace hn239_238 := NB239_238.out; replace hc238 := ce6_ BK238) | ((with_reducible refine gate_callee (f := 16) rfl ?_); refine goesA_ (some 8) Try.func16 #[.agg #[.int .i64 a0_0, .int .i64 a0_1, .int .i64 a0_2, .int .i64 a0_3, .int .i64 a0_4, .int .u64 a0_5]] ?_; (with_reducible refine (bucket_Check.calls a0_0 a0_1 a0_2 a0_3 a0_4 a0_5 t240 _ A3.out).mono ?_); rintro e w24 ⟨rfl, hb⟩; refine ⟨_, rfl, ?_⟩; replace BK238 := bb_ BK238 hb; replace BK239 := bb_ BK239 hb; replace HB := bs_ w hb; clear hb; replace hc238 := ce6_ BK238; replace hc239 := ce6_ BK239))
    refine bodyPost_ret (results_ct rfl _ _ gb239 26 #[.int .i64 a0_0, .int .i64 a0_1, .int .i64 a0_2, .int .i64 (wrap64 (a0_3 - a1)), .int .i64 a0_4, .int .u64 a0_5] (0, 0) _ rfl (blk_put (cs := #[.int .i64 a0_0, .int .i64 a0_1, .int .i64 a0_2, .int .i64 (wrap64 (a0_3 - a1)), .int .i64 a0_4, .int .u64 0]) (blk_put (cs := #[.int .i64 a0_0, .int .i64 a0_1, .int .i64 a0_2, .int .i64 (wrap64 (a0_3 - a1)), .int .i64 0, .int .u64 0]) (blk_put (cs := #[.int .i64 a0_0, .int .i64 a0_1, .int .i64 a0_2, .int .i64 0, .int .i64 0, .int .u64 0]) (blk_put (cs := #[.int .i64 a0_0, .int .i64 a0_1, .int .i64 0, .int .i64 0, .int .i64 0, .int .u64 0]) (blk_put (cs := #[.int .i64 a0_0, .int .i64 0, .int .i64 0, .int .i64 0, .int .i64 0, .int .u64 0]) (blk_put (cs := #[.int .i64 0, .int .i64 0, .int .i64 0, .int .i64 0, .int .i64 0, .int .u64 0]) (bt_ BK239) 0 _ rfl) 1 _ rfl) 2 _ rfl) 3 _ rfl) 4 _ rfl) 5 _ rfl) Try.underlying26 rfl (by kernel_rfl)) rfl ?_
    exact fi_
 ·rw [if_neg c4] at H
  have c4b0 : (t240 == 0) = false := beq_eq_false_iff_ne.mpr c4
  have c4b1 : (t240 != 0) = true := bne_iff_ne.mpr c4
  simp only [Option.some.injEq, Prod.mk.injEq] at H
  obtain ⟨rfl, rfl, rfl, rfl, rfl, rfl, rfl⟩ := H
  go_enter Try.func18, Try.ntmps18
  go_wp2_with (first | ((with_reducible refine gate_dst (N := 2) rfl ?_); refine bx_ #[.int .i64 a0_0, .int .i64 a0_1, .int .i64 a0_2, .int .i64 a0_3, .int .i64 a0_4, .int .u64 a0_5] 26 ?_; intro gb238 hg w27 BK238 hb; have GW238 := bz_ w hg; have GE238 := GW238; replace HB := bs_ w hb; clear hb hg) | ((with_reducible refine gate_dst (N := 4) rfl ?_); refine bx_ #[.int .i64 0, .int .i64 0, .int .i64 0, .int .i64 0, .int .i64 0, .int .u64 0] 26 ?_; intro gb239 hg w28 BK239 hb; have GW239 := bz_ w hg; have GE239 := GW239; have NB238_239 := bn_ BK238 hg; have NB239_238 := bm_ BK238 hg; replace BK238 := bb_ BK238 hb; replace HB := bs_ w hb; clear hb hg; replace hn238_239 := NB238_239.out; replace hn239_238 := NB239_238.out; replace hc238 := ce6_ BK238) | ((with_reducible refine gate_callee (f := 16) rfl ?_); refine goesA_ (some 8) Try.func16 #[.agg #[.int .i64 a0_0, .int .i64 a0_1, .int .i64 a0_2, .int .i64 a0_3, .int .i64 a0_4, .int .u64 a0_5]] ?_; (with_reducible refine (bucket_Check.calls a0_0 a0_1 a0_2 a0_3 a0_4 a0_5 t240 _ A3.out).mono ?_); rintro e w31 ⟨rfl, hb⟩; refine ⟨_, rfl, ?_⟩; replace BK238 := bb_ BK238 hb; replace BK239 := bb_ BK239 hb; replace HB := bs_ w hb; clear hb; replace hc239 := ce6_ BK239))
  refine bodyPost_ret (results_ct rfl _ _ gb239 26 #[.int .i64 0, .int .i64 0, .int .i64 0, .int .i64 0, .int .i64 0, .int .u64 0] (0, 0) _ rfl (bp6_ (bq_ BK239)) Try.underlying26 rfl (by kernel_rfl)) rfl ?_
  exact fi_

/-! ### spigotref03_Charge: function 19 -/
def spigotref03_Charge.f (a0_0 : Int) (a0_1 : Int) (a0_2 : Int) (a0_3 : Int) (a0_4 : Int) (a0_5 : Int) (a1 : Int) : Option (Int × Int × Int × Int × Int × Int × Int) := (spigotref03_Check.f a0_0 a0_1 a0_2 a0_3 a0_4 a0_5).bind fun t243 => (if t243 = 0 then (if a1 < 0 then (some (0, 0, 0, 0, 0, 0, 2)) else (if a0_3 < a1 then (some (0, 0, 0, 0, 0, 0, 20)) else (some (a0_0, a0_1, a0_2, wrap64 (a0_3 - a1), a0_4, a0_5, 0)))) else ((spigotref03_Check.f a0_0 a0_1 a0_2 a0_3 a0_4 a0_5).bind fun t244 => (some (0, 0, 0, 0, 0, 0, t244))))
set_option maxHeartbeats 8000000 in
set_option maxRecDepth 100000 in
theorem spigotref03_Charge.calls (a0_0 : Int) (a0_1 : Int) (a0_2 : Int) (a0_3 : Int) (a0_4 : Int) (a0_5 : Int) (a1 : Int) (r1 : Int) (r2 : Int) (r3 : Int) (r4 : Int) (r5 : Int) (r6 : Int) (r7 : Int) (w : World) (h : spigotref03_Charge.f a0_0 a0_1 a0_2 a0_3 a0_4 a0_5 a1 = some (r1, r2, r3, r4, r5, r6, r7)) :
  Calls Try.prog 19 #[.agg #[.int .i64 a0_0, .int .i64 a0_1, .int .i64 a0_2, .int .i64 a0_3, .int .i64 a0_4, .int .u64 a0_5], .int .i64 a1] w fun e w' => e = .returned (.tuple #[.agg #[.int .i64 r1, .int .i64 r2, .int .i64 r3, .int .i64 r4, .int .i64 r5, .int .u64 r6], .int .i64 r7]) ∧ Below w.heap.size w w' := by
 have hu26 := Try.underlying26
 have HB := Aside0.mk (Below.refl w.heap.size w)
 have H : ((spigotref03_Check.f a0_0 a0_1 a0_2 a0_3 a0_4 a0_5).bind fun t243 => (if t243 = 0 then (if a1 < 0 then (some (0, 0, 0, 0, 0, 0, 2)) else (if a0_3 < a1 then (some (0, 0, 0, 0, 0, 0, 20)) else (some (a0_0, a0_1, a0_2, wrap64 (a0_3 - a1), a0_4, a0_5, 0)))) else ((spigotref03_Check.f a0_0 a0_1 a0_2 a0_3 a0_4 a0_5).bind fun t244 => (some (0, 0, 0, 0, 0, 0, t244))))) = some (r1, r2, r3, r4, r5, r6, r7) := h
 clear h
 obtain ⟨t243, A3, H⟩ := bo_ H
 try dsimp only at H
 by_cases c4 : t243 = 0
 ·rw [if_pos c4] at H
  have c4b0 : (t243 == 0) = true := beq_iff_eq.mpr c4
  have c4b1 : (t243 != 0) = false := bne_eq_false_iff_eq.mpr c4
  clear c4
  by_cases c5 : a1 < 0
  ·rw [if_pos c5] at H
   have c5b0 : decide (a1 < 0) = true := decide_eq_true c5
   clear c5
   simp only [Option.some.injEq, Prod.mk.injEq] at H
   obtain ⟨rfl, rfl, rfl, rfl, rfl, rfl, rfl⟩ := H
   go_enter Try.func19, Try.ntmps19
   go_wp2_with (first | ((with_reducible refine gate_dst (N := 2) rfl ?_); refine bx_ #[.int .i64 a0_0, .int .i64 a0_1, .int .i64 a0_2, .int .i64 a0_3, .int .i64 a0_4, .int .u64 a0_5] 26 ?_; intro gb241 hg w6 BK241 hb; have GW241 := bz_ w hg; have GE241 := GW241; replace HB := bs_ w hb; clear hb hg) | ((with_reducible refine gate_dst (N := 4) rfl ?_); refine bx_ #[.int .i64 0, .int .i64 0, .int .i64 0, .int .i64 0, .int .i64 0, .int .u64 0] 26 ?_; intro gb242 hg w7 BK242 hb; have GW242 := bz_ w hg; have GE242 := GW242; have NB241_242 := bn_ BK241 hg; have NB242_241 := bm_ BK241 hg; replace BK241 := bb_ BK241 hb; replace HB := bs_ w hb; clear hb hg; replace hn241_242 := NB241_242.out; replace hn242_241 := NB242_241.out; replace hc241 := ce6_ BK241) | ((with_reducible refine gate_callee (f := 17) rfl ?_); refine goesA_ (some 7) Try.func17 #[.agg #[.int .i64 a0_0, .int .i64 a0_1, .int .i64 a0_2, .int .i64 a0_3, .int .i64 a0_4, .int .u64 a0_5]] ?_; (with_reducible refine (spigotref03_Check.calls a0_0 a0_1 a0_2 a0_3 a0_4 a0_5 t243 _ A3.out).mono ?_); rintro e w10 ⟨rfl, hb⟩; refine ⟨_, rfl, ?_⟩; replace BK241 := bb_ BK241 hb; replace BK242 := bb_ BK242 hb; replace HB := bs_ w hb; clear hb; replace hc242 := ce6_ BK242))
   refine bodyPost_ret (results_ct rfl _ _ gb242 26 #[.int .i64 0, .int .i64 0, .int .i64 0, .int .i64 0, .int .i64 0, .int .u64 0] (0, 0) _ rfl (bp6_ (bq_ BK242)) Try.underlying26 rfl (by kernel_rfl)) rfl ?_
   exact fi_
  ·rw [if_neg c5] at H
   have c5b0 : decide (a1 < 0) = false := decide_eq_false c5
   clear c5
   by_cases c12 : a0_3 < a1
   ·rw [if_pos c12] at H
    have c12b0 : decide (a0_3 < a1) = true := decide_eq_true c12
    clear c12
    simp only [Option.some.injEq, Prod.mk.injEq] at H
    obtain ⟨rfl, rfl, rfl, rfl, rfl, rfl, rfl⟩ := H
    go_enter Try.func19, Try.ntmps19
    go_wp2_with (first | ((with_reducible refine gate_dst (N := 2) rfl ?_); refine bx_ #[.int .i64 a0_0, .int .i64 a0_1, .int .i64 a0_2, .int .i64 a0_3, .int .i64 a0_4, .int .u64 a0_5] 26 ?_; intro gb241 hg w13 BK241 hb; have GW241 := bz_ w hg; have GE241 := GW241; replace HB := bs_ w hb; clear hb hg) | ((with_reducible refine gate_dst (N := 4) rfl ?_); refine bx_ #[.int .i64 0, .int .i64 0, .int .i64 0, .int .i64 0, .int .i64 0, .int .u64 0] 26 ?_; intro gb242 hg w14 BK242 hb; have GW242 := bz_ w hg; have GE242 := GW242; have NB241_242 := bn_ BK241 hg; have NB242_241 := bm_ BK241 hg; replace BK241 := bb_ BK241 hb; replace HB := bs_ w hb; clear hb hg; replace hn241_242 := NB241_242.out; replace hn242_241 := NB242_241.out; replace hc241 := ce6_ BK241) | ((with_reducible refine gate_callee (f := 17) rfl ?_); refine goesA_ (some 7) Try.func17 #[.agg #[.int .i64 a0_0, .int .i64 a0_1, .int .i64 a0_2, .int .i64 a0_3, .int .i64 a0_4, .int .u64 a0_5]] ?_; (with_reducible refine (spigotref03_Check.calls a0_0 a0_1 a0_2 a0_3 a0_4 a0_5 t243 _ A3.out).mono ?_); rintro e w17 ⟨rfl, hb⟩; refine ⟨_, rfl, ?_⟩; replace BK241 := bb_ BK241 hb; replace BK242 := bb_ BK242 hb; replace HB := bs_ w hb; clear hb; replace hc241 := ce6_ BK241; replace hc242 := ce6_ BK242))
    refine bodyPost_ret (results_ct rfl _ _ gb242 26 #[.int .i64 0, .int .i64 0, .int .i64 0, .int .i64 0, .int .i64 0, .int .u64 0] (0, 0) _ rfl (bp6_ (bq_ BK242)) Try.underlying26 rfl (by kernel_rfl)) rfl ?_
    exact fi_
   ·rw [if_neg c12] at H
    have c12b0 : decide (a0_3 < a1) = false := decide_eq_false c12
    clear c12
    simp only [Option.some.injEq, Prod.mk.injEq] at H
    obtain ⟨rfl, rfl, rfl, rfl, rfl, rfl, rfl⟩ := H
    go_enter Try.func19, Try.ntmps19
    go_wp2_with (first | ((with_reducible refine gate_dst (N := 2) rfl ?_); refine bx_ #[.int .i64 a0_0, .int .i64 a0_1, .int .i64 a0_2, .int .i64 a0_3, .int .i64 a0_4, .int .u64 a0_5] 26 ?_; intro gb241 hg w20 BK241 hb; have GW241 := bz_ w hg; have GE241 := GW241; replace HB := bs_ w hb; clear hb hg) | ((with_reducible refine gate_dst (N := 4) rfl ?_); refine bx_ #[.int .i64 0, .int .i64 0, .int .i64 0, .int .i64 0, .int .i64 0, .int .u64 0] 26 ?_; intro gb242 hg w21 BK242 hb; have GW242 := bz_ w hg; have GE242 := GW242; have NB241_242 := bn_ BK241 hg; have NB242_241 := bm_ BK241 hg; replace BK241 := bb_ BK241 hb; replace HB := bs_ w hb; clear hb hg; replace hn241_242 := NB241_242.out; replace hn242_241 := NB242_241.out; replace hc241 := ce6_ BK241) | ((with_reducible refine gate_callee (f := 17) rfl ?_); refine goesA_ (some 7) Try.func17 #[.agg #[.int .i64 a0_0, .int .i64 a0_1, .int .i64 a0_2, .int .i64 a0_3, .int .i64 a0_4, .int .u64 a0_5]] ?_; (with_reducible refine (spigotref03_Check.calls a0_0 a0_1 a0_2 a0_3 a0_4 a0_5 t243 _ A3.out).mono ?_); rintro e w24 ⟨rfl, hb⟩; refine ⟨_, rfl, ?_⟩; replace BK241 := bb_ BK241 hb; replace BK242 := bb_ BK242 hb; replace HB := bs_ w hb; clear hb; replace hc241 := ce6_ BK241; replace hc242 := ce6_ BK242))
    refine bodyPost_ret (results_ct rfl _ _ gb242 26 #[.int .i64 a0_0, .int .i64 a0_1, .int .i64 a0_2, .int .i64 (wrap64 (a0_3 - a1)), .int .i64 a0_4, .int .u64 a0_5] (0, 0) _ rfl (blk_put (cs := #[.int .i64 a0_0, .int .i64 a0_1, .int .i64 a0_2, .int .i64 (wrap64 (a0_3 - a1)), .int .i64 a0_4, .int .u64 0]) (blk_put (cs := #[.int .i64 a0_0, .int .i64 a0_1, .int .i64 a0_2, .int .i64 (wrap64 (a0_3 - a1)), .int .i64 0, .int .u64 0]) (blk_put (cs := #[.int .i64 a0_0, .int .i64 a0_1, .int .i64 a0_2, .int .i64 0, .int .i64 0, .int .u64 0]) (blk_put (cs := #[.int .i64 a0_0, .int .i64 a0_1, .int .i64 0, .int .i64 0, .int .i64 0, .int .u64 0]) (blk_put (cs := #[.int .i64 a0_0, .int .i64 0, .int .i64 0, .int .i64 0, .int .i64 0, .int .u64 0]) (blk_put (cs := #[.int .i64 0, .int .i64 0, .int .i64 0, .int .i64 0, .int .i64 0, .int .u64 0]) (bt_ BK242) 0 _ rfl) 1 _ rfl) 2 _ rfl) 3 _ rfl) 4 _ rfl) 5 _ rfl) Try.underlying26 rfl (by kernel_rfl)) rfl ?_
    exact fi_
 ·rw [if_neg c4] at H
  have c4b0 : (t243 == 0) = false := beq_eq_false_iff_ne.mpr c4
  have c4b1 : (t243 != 0) = true := bne_iff_ne.mpr c4
  obtain ⟨t244, A27, H⟩ := bo_ H
  replace H : (some (0, 0, 0, 0, 0, 0, t244)) = some (r1, r2, r3, r4, r5, r6, r7) := H
  simp only [Option.some.injEq, Prod.mk.injEq] at H
  obtain ⟨rfl, rfl, rfl, rfl, rfl, rfl, rfl⟩ := H
  go_enter Try.func19, Try.ntmps19
  go_wp2_with (first | ((with_reducible refine gate_dst (N := 2) rfl ?_); refine bx_ #[.int .i64 a0_0, .int .i64 a0_1, .int .i64 a0_2, .int .i64 a0_3, .int .i64 a0_4, .int .u64 a0_5] 26 ?_; intro gb241 hg w28 BK241 hb; have GW241 := bz_ w hg; have GE241 := GW241; replace HB := bs_ w hb; clear hb hg) | ((with_reducible refine gate_dst (N := 4) rfl ?_); refine bx_ #[.int .i64 0, .int .i64 0, .int .i64 0, .int .i64 0, .int .i64 0, .int .u64 0] 26 ?_; intro gb242 hg w29 BK242 hb; have GW242 := bz_ w hg; have GE242 := GW242; have NB241_242 := bn_ BK241 hg; have NB242_241 := bm_ BK241 hg; replace BK241 := bb_ BK241 hb; replace HB := bs_ w hb; clear hb hg; replace hn241_242 := NB241_242.out; replace hn242_241 := NB242_241.out; replace hc241 := ce6_ BK241) | ((with_reducible refine gate_callee (f := 17) rfl ?_); refine goesA_ (some 7) Try.func17 #[.agg #[.int .i64 a0_0, .int .i64 a0_1, .int .i64 a0_2, .int .i64 a0_3, .int .i64 a0_4, .int .u64 a0_5]] ?_; (with_reducible refine (spigotref03_Check.calls a0_0 a0_1 a0_2 a0_3 a0_4 a0_5 t243 _ A3.out).mono ?_); rintro e w32 ⟨rfl, hb⟩; refine ⟨_, rfl, ?_⟩; replace BK241 := bb_ BK241 hb; replace BK242 := bb_ BK242 hb; replace HB := bs_ w hb; clear hb; replace hc241 := ce6_ BK241) | ((with_reducible refine gate_callee (f := 17) rfl ?_); refine goesA_ (some 11) Try.func17 #[.agg #[.int .i64 a0_0, .int .i64 a0_1, .int .i64 a0_2, .int .i64 a0_3, .int .i64 a0_4, .int .u64 a0_5]] ?_; (with_reducible refine (spigotref03_Check.calls a0_0 a0_1 a0_2 a0_3 a0_4 a0_5 t244 _ A27.out).mono ?_); rintro e w34 ⟨rfl, hb⟩; refine ⟨_, rfl, ?_⟩; replace BK241 := bb_ BK241 hb; replace BK242 := bb_ BK242 hb; replace HB := bs_ w hb; clear hb; replace hc242 := ce6_ BK242))
  refine bodyPost_ret (results_ct rfl _ _ gb242 26 #[.int .i64 0, .int .i64 0, .int .i64 0, .int .i64 0, .int .i64 0, .int .u64 0] (0, 0) _ rfl (bp6_ (bq_ BK242)) Try.underlying26 rfl (by kernel_rfl)) rfl ?_
  exact fi_

/-! ### bits_Sub64: function 49 -/
def bits_Sub64.f (a0 : Int) (a1 : Int) (a2 : Int) : Option (Int × Int) := if 0 ≤ a0 ∧ 0 ≤ a1 ∧ a1 < 18446744073709551616 ∧ 0 ≤ a2 ∧ a2 ≤ 1 then some ((a0 - a1 - a2) % 18446744073709551616, if a0 < a1 + a2 then 1 else 0) else none
def bits_Sub64.entry : Array Value → Sem Value := fun args => do
  let (x, y, b) ← Extern.MathBitsCarry.three "Sub64" args
  pure (Extern.MathBitsCarry.pair ((x + Extern.MathBitsCarry.m64 - y - b) % Extern.MathBitsCarry.m64) (if x < y + b then 1 else 0))
theorem bits_Sub64.run (x y b : Nat) (hb : b ≤ 1) (w : World) :
    (bits_Sub64.entry #[.int .u64 x, .int .u64 y, .int .u64 b]).run Try.prog w =
      .ok (.tuple #[.int .u64 (((x + 18446744073709551616 - y - b) % 18446744073709551616 : Nat) : Int), .int .u64 ((if x < y + b then 1 else 0 : Nat) : Int)]) w := by
  have : b = 0 ∨ b = 1 := by omega
  rcases this with rfl | rfl <;> rfl
theorem bits_Sub64.calls (a0 : Int) (a1 : Int) (a2 : Int) (r1 : Int) (r2 : Int) (w : World) (h : bits_Sub64.f a0 a1 a2 = some (r1, r2)) :
    CallsX Try.prog 49 #[.int .u64 a0, .int .u64 a1, .int .u64 a2] w fun e w' => e = .returned (.tuple #[.int .u64 r1, .int .u64 r2]) ∧ Drawn0 w w' := by
  unfold bits_Sub64.f at h
  split at h
  case isFalse => cases h
  rename_i hu
  obtain ⟨h0, h1, h1', h2, h3⟩ := hu
  simp only [Option.some.injEq, Prod.mk.injEq] at h
  obtain ⟨rfl, rfl⟩ := h
  refine ⟨_, w, ?_, rfl, Drawn0.refl _⟩
  obtain ⟨x, rfl⟩ := Int.eq_ofNat_of_zero_le h0
  obtain ⟨y, rfl⟩ := Int.eq_ofNat_of_zero_le h1
  obtain ⟨b, rfl⟩ := Int.eq_ofNat_of_zero_le h2
  have e1 : ((x : Int) - y - b) % 18446744073709551616 = (((x + 18446744073709551616 - y - b) % 18446744073709551616 : Nat) : Int) := by omega
  have e2 : (if (x : Int) < y + b then 1 else 0 : Int) = ((if x < y + b then 1 else 0 : Nat) : Int) := by split <;> split <;> omega
  rw [e1, e2, run_callFunc_extern Try.func49 (by kernel_rfl) (by kernel_rfl) (by kernel_rfl) (e := bits_Sub64.entry) (by kernel_rfl), bits_Sub64.run x y b (by omega)]
  rfl

/-! ### wide_Sub: function 36 -/
def wide_Sub.f (a0_0 : Int) (a0_1 : Int) (a1_0 : Int) (a1_1 : Int) : Option (Int × Int × Int) := (bits_Sub64.f a0_1 a1_1 0).bind fun bt248 => ((bits_Sub64.f a0_0 a1_0 bt248.2).bind fun bt250 => (if bt250.2 = 0 then (some (bt250.1, bt248.1, 0)) else (some (0, 0, 16))))
set_option maxHeartbeats 8000000 in
set_option maxRecDepth 100000 in
theorem wide_Sub.calls (a0_0 : Int) (a0_1 : Int) (a1_0 : Int) (a1_1 : Int) (r1 : Int) (r2 : Int) (r3 : Int) (w : World) (h : wide_Sub.f a0_0 a0_1 a1_0 a1_1 = some (r1, r2, r3)) :
  Calls Try.prog 36 #[.agg #[.int .u64 a0_0, .int .u64 a0_1], .agg #[.int .u64 a1_0, .int .u64 a1_1]] w fun e w' => e = .returned (.tuple #[.agg #[.int .u64 r1, .int .u64 r2], .int .i64 r3]) ∧ Below w.heap.size w w' := by
 have hu60 := Try.underlying60
 have HB := Aside0.mk (Below.refl w.heap.size w)
 have H : ((bits_Sub64.f a0_1 a1_1 0).bind fun bt248 => ((bits_Sub64.f a0_0 a1_0 bt248.2).bind fun bt250 => (if bt250.2 = 0 then (some (bt250.1, bt248.1, 0)) else (some (0, 0, 16))))) = some (r1, r2, r3) := h
 clear h
 obtain ⟨⟨t248, t249⟩, A3, H⟩ := bo_ H
 replace H : ((bits_Sub64.f a0_0 a1_0 t249).bind fun bt250 => (if bt250.2 = 0 then (some (bt250.1, t248, 0)) else (some (0, 0, 16)))) = some (r1, r2, r3) := H
 obtain ⟨⟨t250, t251⟩, A4, H⟩ := bo_ H
 replace H : (if t251 = 0 then (some (t250, t248, 0)) else (some (0, 0, 16))) = some (r1, r2, r3) := H
 by_cases c5 : t251 = 0
 ·rw [if_pos c5] at H
  have c5b0 : (t251 == 0) = true := beq_iff_eq.mpr c5
  have c5b1 : (t251 != 0) = false := bne_eq_false_iff_eq.mpr c5
  clear c5
  simp only [Option.some.injEq, Prod.mk.injEq] at H
  obtain ⟨rfl, rfl, rfl⟩ := H
  go_enter Try.func36, Try.ntmps36
  go_wp2_with (first | ((with_reducible refine gate_dst (N := 2) rfl ?_); refine bx_ #[.int .u64 a0_0, .int .u64 a0_1] 60 ?_; intro gb245 hg w6 BK245 hb; have GW245 := bz_ w hg; have GE245 := GW245; replace HB := bs_ w hb; clear hb hg) | ((with_reducible refine gate_dst (N := 3) rfl ?_); refine bx_ #[.int .u64 a1_0, .int .u64 a1_1] 60 ?_; intro gb246 hg w7 BK246 hb; have GW246 := bz_ w hg; have GE246 := GW246; have NB245_246 := bn_ BK245 hg; have NB246_245 := bm_ BK245 hg; replace BK245 := bb_ BK245 hb; replace HB := bs_ w hb; clear hb hg) | ((with_reducible refine gate_dst (N := 4) rfl ?_); refine bx_ #[.int .u64 0, .int .u64 0] 60 ?_; intro gb247 hg w8 BK247 hb; have GW247 := bz_ w hg; have GE247 := GW247; have NB245_247 := bn_ BK245 hg; have NB247_245 := bm_ BK245 hg; have NB246_247 := bn_ BK246 hg; have NB247_246 := bm_ BK246 hg; replace BK245 := bb_ BK245 hb; replace BK246 := bb_ BK246 hb; replace HB := bs_ w hb; clear hb hg; replace hn245_246 := NB245_246.out; replace hn246_245 := NB246_245.out; replace hn245_247 := NB245_247.out; replace hn247_245 := NB247_245.out; replace hc245 := ce2_ BK245; replace hn246_247 := NB246_247.out; replace hn247_246 := NB247_246.out; replace hc246 := ce2_ BK246) | ((with_reducible refine gate_callee (f := 49) rfl ?_); refine goesXL_ (some 15) rfl rfl #[.int .u64 a0_1, .int .u64 a1_1, .int .u64 0] rfl (by (try simp only [List.map_toArray, List.map_cons, List.map_nil]); first | done | rfl | (simp only [List.length_drop, List.length_take]; rfl)) ?_; (with_reducible refine (bits_Sub64.calls a0_1 a1_1 0 t248 t249 _ A3.out).mono ?_); rintro e w' ⟨rfl, ⟨nd, rfl⟩⟩; refine ⟨_, rfl, ?_⟩; (try ((first | generalize hq_ : World.drewN w8 _ = w8 | (rw [drewN_self w8]; generalize hq_ : World.drewN w8 _ = w8)); replace BK245 : Aside0 (w8.heap[gb245]? = some (.cells #[.int .u64 a0_0, .int .u64 a0_1] 60 (0, 0))) := ⟨by rw [← hq_]; exact (bq_ BK245)⟩; replace BK246 : Aside0 (w8.heap[gb246]? = some (.cells #[.int .u64 a1_0, .int .u64 a1_1] 60 (0, 0))) := ⟨by rw [← hq_]; exact (bq_ BK246)⟩; replace BK247 : Aside0 (w8.heap[gb247]? = some (.cells #[.int .u64 0, .int .u64 0] 60 (0, 0))) := ⟨by rw [← hq_]; exact (bq_ BK247)⟩; replace HB : Aside0 (Below w.heap.size w w8) := ⟨by rw [← hq_]; exact bh_⟩; clear hq_)); replace hc245 := ce2_ BK245; replace hc246 := ce2_ BK246) | ((with_reducible refine gate_callee (f := 49) rfl ?_); refine goesXL_ (some 24) rfl rfl #[.int .u64 a0_0, .int .u64 a1_0, .int .u64 t249] rfl (by (try simp only [List.map_toArray, List.map_cons, List.map_nil]); first | done | rfl | (simp only [List.length_drop, List.length_take]; rfl)) ?_; (with_reducible refine (bits_Sub64.calls a0_0 a1_0 t249 t250 t251 _ A4.out).mono ?_); rintro e w' ⟨rfl, ⟨nd, rfl⟩⟩; refine ⟨_, rfl, ?_⟩; (try ((first | generalize hq_ : World.drewN w8 _ = w8 | (rw [drewN_self w8]; generalize hq_ : World.drewN w8 _ = w8)); replace BK245 : Aside0 (w8.heap[gb245]? = some (.cells #[.int .u64 a0_0, .int .u64 a0_1] 60 (0, 0))) := ⟨by rw [← hq_]; exact (bq_ BK245)⟩; replace BK246 : Aside0 (w8.heap[gb246]? = some (.cells #[.int .u64 a1_0, .int .u64 a1_1] 60 (0, 0))) := ⟨by rw [← hq_]; exact (bq_ BK246)⟩; replace BK247 : Aside0 (w8.heap[gb247]? = some (.cells #[.int .u64 0, .int .u64 0] 60 (0, 0))) := ⟨by rw [← hq_]; exact (bq_ BK247)⟩; replace HB : Aside0 (Below w.heap.size w w8) := ⟨by rw [← hq_]; exact bh_⟩; clear hq_)); replace hc247 := ce2_ BK247))
  refine bodyPost_ret (results_ct rfl _ _ gb247 60 #[.int .u64 t250, .int .u64 t248] (0, 0) _ rfl (bp2_ (bq_ BK247)) Try.underlying60 rfl (by kernel_rfl)) rfl ?_
  exact fi_
 ·rw [if_neg c5] at H
  have c5b0 : (t251 == 0) = false := beq_eq_false_iff_ne.mpr c5
  have c5b1 : (t251 != 0) = true := bne_iff_ne.mpr c5
  simp only [Option.some.injEq, Prod.mk.injEq] at H
  obtain ⟨rfl, rfl, rfl⟩ := H
  go_enter Try.func36, Try.ntmps36
  go_wp2_with (first | ((with_reducible refine gate_dst (N := 2) rfl ?_); refine bx_ #[.int .u64 a0_0, .int .u64 a0_1] 60 ?_; intro gb245 hg w17 BK245 hb; have GW245 := bz_ w hg; have GE245 := GW245; replace HB := bs_ w hb; clear hb hg) | ((with_reducible refine gate_dst (N := 3) rfl ?_); refine bx_ #[.int .u64 a1_0, .int .u64 a1_1] 60 ?_; intro gb246 hg w18 BK246 hb; have GW246 := bz_ w hg; have GE246 := GW246; have NB245_246 := bn_ BK245 hg; have NB246_245 := bm_ BK245 hg; replace BK245 := bb_ BK245 hb; replace HB := bs_ w hb; clear hb hg) | ((with_reducible refine gate_dst (N := 4) rfl ?_); refine bx_ #[.int .u64 0, .int .u64 0] 60 ?_; intro gb247 hg w19 BK247 hb; have GW247 := bz_ w hg; have GE247 := GW247; have NB245_247 := bn_ BK245 hg; have NB247_245 := bm_ BK245 hg; have NB246_247 := bn_ BK246 hg; have NB247_246 := bm_ BK246 hg; replace BK245 := bb_ BK245 hb; replace BK246 := bb_ BK246 hb; replace HB := bs_ w hb; clear hb hg; replace hn245_246 := NB245_246.out; replace hn246_245 := NB246_245.out; replace hn245_247 := NB245_247.out; replace hn247_245 := NB247_245.out; replace hc245 := ce2_ BK245; replace hn246_247 := NB246_247.out; replace hn247_246 := NB247_246.out; replace hc246 := ce2_ BK246) | ((with_reducible refine gate_callee (f := 49) rfl ?_); refine goesXL_ (some 15) rfl rfl #[.int .u64 a0_1, .int .u64 a1_1, .int .u64 0] rfl (by (try simp only [List.map_toArray, List.map_cons, List.map_nil]); first | done | rfl | (simp only [List.length_drop, List.length_take]; rfl)) ?_; (with_reducible refine (bits_Sub64.calls a0_1 a1_1 0 t248 t249 _ A3.out).mono ?_); rintro e w' ⟨rfl, ⟨nd, rfl⟩⟩; refine ⟨_, rfl, ?_⟩; (try ((first | generalize hq_ : World.drewN w19 _ = w19 | (rw [drewN_self w19]; generalize hq_ : World.drewN w19 _ = w19)); replace BK245 : Aside0 (w19.heap[gb245]? = some (.cells #[.int .u64 a0_0, .int .u64 a0_1] 60 (0, 0))) := ⟨by rw [← hq_]; exact (bq_ BK245)⟩; replace BK246 : Aside0 (w19.heap[gb246]? = some (.cells #[.int .u64 a1_0, .int .u64 a1_1] 60 (0, 0))) := ⟨by rw [← hq_]; exact (bq_ BK246)⟩; replace BK247 : Aside0 (w19.heap[gb247]? = some (.cells #[.int .u64 0, .int .u64 0] 60 (0, 0))) := ⟨by rw [← hq_]; exact (bq_ BK247)⟩; replace HB : Aside0 (Below w.heap.size w w19) := ⟨by rw [← hq_]; exact bh_⟩; clear hq_)); replace hc245 := ce2_ BK245; replace hc246 := ce2_ BK246) | ((with_reducible refine gate_callee (f := 49) rfl ?_); refine goesXL_ (some 24) rfl rfl #[.int .u64 a0_0, .int .u64 a1_0, .int .u64 t249] rfl (by (try simp only [List.map_toArray, List.map_cons, List.map_nil]); first | done | rfl | (simp only [List.length_drop, List.length_take]; rfl)) ?_; (with_reducible refine (bits_Sub64.calls a0_0 a1_0 t249 t250 t251 _ A4.out).mono ?_); rintro e w' ⟨rfl, ⟨nd, rfl⟩⟩; refine ⟨_, rfl, ?_⟩; (try ((first | generalize hq_ : World.drewN w19 _ = w19 | (rw [drewN_self w19]; generalize hq_ : World.drewN w19 _ = w19)); replace BK245 : Aside0 (w19.heap[gb245]? = some (.cells #[.int .u64 a0_0, .int .u64 a0_1] 60 (0, 0))) := ⟨by rw [← hq_]; exact (bq_ BK245)⟩; replace BK246 : Aside0 (w19.heap[gb246]? = some (.cells #[.int .u64 a1_0, .int .u64 a1_1] 60 (0, 0))) := ⟨by rw [← hq_]; exact (bq_ BK246)⟩; replace BK247 : Aside0 (w19.heap[gb247]? = some (.cells #[.int .u64 0, .int .u64 0] 60 (0, 0))) := ⟨by rw [← hq_]; exact (bq_ BK247)⟩; replace HB : Aside0 (Below w.heap.size w w19) := ⟨by rw [← hq_]; exact bh_⟩; clear hq_)); replace hc247 := ce2_ BK247))
  refine bodyPost_ret (results_ct rfl _ _ gb247 60 #[.int .u64 0, .int .u64 0] (0, 0) _ rfl (bp2_ (bq_ BK247)) Try.underlying60 rfl (by kernel_rfl)) rfl ?_
  exact fi_

end Go.Proofs.Ytmfkedeaifdfdaa.X
