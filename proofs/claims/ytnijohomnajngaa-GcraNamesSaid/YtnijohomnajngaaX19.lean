-- written by xprint.py, a program of this session over the kit's print
import Derived.Test.YtnijohomnajngaaX0
import Derived.Test.YtnijohomnajngaaX8
import Derived.Test.YtnijohomnajngaaX16
import Derived.Test.YtnijohomnajngaaX18
namespace Go.Proofs.Ytnijohomnajngaa.X
open Go.RowKit Go.Proofs.YtnijohomnajngaaW.PrintWords Go.Proofs.YtnijohomnajngaaW.PrintLast Go.Proofs.YtnijohomnajngaaW.PrintMore
attribute [local go_sem] max2_int min2_int max_two min_two max_three min_three max_four min_four   -- for this text's walks alone
set_option linter.unusedVariables false
set_option linter.unusedSimpArgs false

/-! ### wide_Div: function 60 -/
def wide_Div.f (k : Nat) (a0_0 : Int) (a0_1 : Int) (a1 : Int) : Option (Int × Int × Int × Int) := if a1 = 0 then (some (0, 0, 0, 26)) else ((bits_Div64.f k 0 a0_0 a1).bind fun bt248 => ((bits_Div64.f k bt248.2 a0_1 a1).bind fun bt250 => (some (bt248.1, bt250.1, bt250.2, 0))))
theorem wide_Div.mono : ∀ a0 a1 a2 k, LeO (wide_Div.f k a0 a1 a2) (wide_Div.f (k + 1) a0 a1 a2) := by
  intro a0 a1 a2 k
  unfold wide_Div.f
  repeat' first
      | (with_reducible exact bits_Div64.mono _ _ _ _)
      | (with_reducible exact LeO.refl _)
      | (with_reducible exact LeO.none _)
      | (with_reducible refine LeO.ite ?_ ?_)
      | (with_reducible refine LeO.bind ?_ (fun _ => ?_))
      | exact bits_Div64.mono _ _ _ _
      | exact LeO.none _
      | refine LeO.ite ?_ ?_
      | refine LeO.bind ?_ (fun _ => ?_)
set_option maxHeartbeats 8000000 in
set_option maxRecDepth 100000 in
theorem wide_Div.calls (k : Nat) (a0_0 : Int) (a0_1 : Int) (a1 : Int) (r1 : Int) (r2 : Int) (r3 : Int) (r4 : Int) (w : World) (h : wide_Div.f k a0_0 a0_1 a1 = some (r1, r2, r3, r4)) :
  Calls Try.prog 60 #[.agg #[.int .u64 a0_0, .int .u64 a0_1], .int .u64 a1] w fun e w' => e = .returned (.tuple #[.agg #[.int .u64 r1, .int .u64 r2], .int .u64 r3, .int .i64 r4]) ∧ Below w.heap.size w w' := by
 have hu26 := Try.underlying26
 have HB := Aside0.mk (Below.refl w.heap.size w)
 have H : (if a1 = 0 then (some (0, 0, 0, 26)) else ((bits_Div64.f k 0 a0_0 a1).bind fun bt248 => ((bits_Div64.f k bt248.2 a0_1 a1).bind fun bt250 => (some (bt248.1, bt250.1, bt250.2, 0))))) = some (r1, r2, r3, r4) := h
 clear h
 by_cases c3 : a1 = 0
 ·rw [if_pos c3] at H
  have c3b0 : (a1 == 0) = true := beq_iff_eq.mpr c3
  have c3b1 : (a1 != 0) = false := bne_eq_false_iff_eq.mpr c3
  clear c3
  simp only [Option.some.injEq, Prod.mk.injEq] at H
  obtain ⟨rfl, rfl, rfl, rfl⟩ := H
  go_enter Try.func60, Try.ntmps60
  go_wp2_with (first | ((with_reducible refine gate_dst (N := 2) rfl ?_); refine bx_ #[.int .u64 a0_0, .int .u64 a0_1] 26 ?_; intro gb246 hg w4 BK246 hb; have GW246 := bz_ w hg; have GE246 := GW246; replace HB := bs_ w hb; clear hb hg) | ((with_reducible refine gate_dst (N := 4) rfl ?_); refine bx_ #[.int .u64 0, .int .u64 0] 26 ?_; intro gb247 hg w5 BK247 hb; have GW247 := bz_ w hg; have GE247 := GW247; have NB246_247 := bn_ BK246 hg; have NB247_246 := bm_ BK246 hg; replace BK246 := bb_ BK246 hb; replace HB := bs_ w hb; clear hb hg; replace hn247_246 := NB247_246.out; replace hn246_247 := NB246_247.out; replace hc247 := ce2_ BK247))
  refine bodyPost_ret (results_ctt rfl _ _ gb247 26 #[.int .u64 0, .int .u64 0] (0, 0) _ rfl (bp2_ (bq_ BK247)) Try.underlying26 rfl (by kernel_rfl)) rfl ?_
  exact fi_
 ·rw [if_neg c3] at H
  have c3b0 : (a1 == 0) = false := beq_eq_false_iff_ne.mpr c3
  have c3b1 : (a1 != 0) = true := bne_iff_ne.mpr c3
  have H0_ := bo_ H; clear H; obtain ⟨⟨t248, t249⟩, A8, H⟩ := H0_
  replace H : ((bits_Div64.f k t249 a0_1 a1).bind fun bt250 => (some (t248, bt250.1, bt250.2, 0))) = some (r1, r2, r3, r4) := H
  have H0_ := bo_ H; clear H; obtain ⟨⟨t250, t251⟩, A9, H⟩ := H0_
  replace H : (some (t248, t250, t251, 0)) = some (r1, r2, r3, r4) := H
  simp only [Option.some.injEq, Prod.mk.injEq] at H
  obtain ⟨rfl, rfl, rfl, rfl⟩ := H
  go_enter Try.func60, Try.ntmps60
  go_wp2_with (first | ((with_reducible refine gate_dst (N := 2) rfl ?_); refine bx_ #[.int .u64 a0_0, .int .u64 a0_1] 26 ?_; intro gb246 hg w10 BK246 hb; have GW246 := bz_ w hg; have GE246 := GW246; replace HB := bs_ w hb; clear hb hg) | ((with_reducible refine gate_dst (N := 4) rfl ?_); refine bx_ #[.int .u64 0, .int .u64 0] 26 ?_; intro gb247 hg w11 BK247 hb; have GW247 := bz_ w hg; have GE247 := GW247; have NB246_247 := bn_ BK246 hg; have NB247_246 := bm_ BK246 hg; replace BK246 := bb_ BK246 hb; replace HB := bs_ w hb; clear hb hg; replace hn246_247 := NB246_247.out; replace hn247_246 := NB247_246.out; replace hc246 := ce2_ BK246) | ((with_reducible refine gate_callee (f := 65) rfl ?_); refine goesA_ (some 17) Try.func65 #[.int .u64 0, .int .u64 a0_0, .int .u64 a1] ?_; (with_reducible refine (bits_Div64.calls k 0 a0_0 a1 t248 t249 _ A8.out).mono ?_); rintro e w' ⟨rfl, ⟨nd, rfl⟩⟩; refine ⟨_, rfl, ?_⟩; (try ((first | generalize hq_ : World.drewN w11 _ = w11 | (rw [drewN_self w11]; generalize hq_ : World.drewN w11 _ = w11)); replace BK246 : Aside0 (w11.heap[gb246]? = some (.cells #[.int .u64 a0_0, .int .u64 a0_1] 26 (0, 0))) := ⟨by rw [← hq_]; exact (bq_ BK246)⟩; replace BK247 : Aside0 (w11.heap[gb247]? = some (.cells #[.int .u64 0, .int .u64 0] 26 (0, 0))) := ⟨by rw [← hq_]; exact (bq_ BK247)⟩; replace HB : Aside0 (Below w.heap.size w w11) := ⟨by rw [← hq_]; exact bh_⟩; clear hq_)); replace hc246 := ce2_ BK246) | ((with_reducible refine gate_callee (f := 65) rfl ?_); refine goesA_ (some 25) Try.func65 #[.int .u64 t249, .int .u64 a0_1, .int .u64 a1] ?_; (with_reducible refine (bits_Div64.calls k t249 a0_1 a1 t250 t251 _ A9.out).mono ?_); rintro e w' ⟨rfl, ⟨nd, rfl⟩⟩; refine ⟨_, rfl, ?_⟩; (try ((first | generalize hq_ : World.drewN w11 _ = w11 | (rw [drewN_self w11]; generalize hq_ : World.drewN w11 _ = w11)); replace BK246 : Aside0 (w11.heap[gb246]? = some (.cells #[.int .u64 a0_0, .int .u64 a0_1] 26 (0, 0))) := ⟨by rw [← hq_]; exact (bq_ BK246)⟩; replace BK247 : Aside0 (w11.heap[gb247]? = some (.cells #[.int .u64 0, .int .u64 0] 26 (0, 0))) := ⟨by rw [← hq_]; exact (bq_ BK247)⟩; replace HB : Aside0 (Below w.heap.size w w11) := ⟨by rw [← hq_]; exact bh_⟩; clear hq_)); replace hc247 := ce2_ BK247))
  refine bodyPost_ret (results_ctt rfl _ _ gb247 26 #[.int .u64 t248, .int .u64 t250] (0, 0) _ rfl (bp2_ (bq_ BK247)) Try.underlying26 rfl (by kernel_rfl)) rfl ?_
  exact fi_

/-! ### gcra_holds: function 43 -/
def gcra_holds.f (k : Nat) (a0_0 : Int) (a0_1 : Int) (a0_2 : Int) (a0_3 : Int) (a0_4 : Int) (a0_5 : Int) : Option (Int × Int × Int) := (gcra_end.f a0_0 a0_1 a0_2 a0_5).bind fun bt253 => (if bt253.2.2 = 0 then ((wide_Sub.f bt253.1 bt253.2.1 a0_3 a0_4).bind fun bt257 => (if bt257.2.2 = 0 then ((wide_Div.f k bt257.1 bt257.2.1 (IntKind.u64.wrap (a0_2))).bind fun bt261 => (some (wrap64 (bt261.2.1), wrap64 (bt261.2.2.1), bt261.2.2.2))) else (some (0, 0, bt257.2.2)))) else (some (0, 0, bt253.2.2)))
theorem gcra_holds.mono : ∀ a0 a1 a2 a3 a4 a5 k, LeO (gcra_holds.f k a0 a1 a2 a3 a4 a5) (gcra_holds.f (k + 1) a0 a1 a2 a3 a4 a5) := by
  intro a0 a1 a2 a3 a4 a5 k
  unfold gcra_holds.f
  repeat' first
      | (with_reducible exact wide_Div.mono _ _ _ _)
      | (with_reducible exact LeO.refl _)
      | (with_reducible exact LeO.none _)
      | (with_reducible refine LeO.ite ?_ ?_)
      | (with_reducible refine LeO.bind ?_ (fun _ => ?_))
      | exact wide_Div.mono _ _ _ _
      | exact LeO.none _
      | refine LeO.ite ?_ ?_
      | refine LeO.bind ?_ (fun _ => ?_)
set_option maxHeartbeats 8000000 in
set_option maxRecDepth 100000 in
theorem gcra_holds.calls (k : Nat) (a0_0 : Int) (a0_1 : Int) (a0_2 : Int) (a0_3 : Int) (a0_4 : Int) (a0_5 : Int) (r1 : Int) (r2 : Int) (r3 : Int) (w : World) (h : gcra_holds.f k a0_0 a0_1 a0_2 a0_3 a0_4 a0_5 = some (r1, r2, r3)) :
  Calls Try.prog 43 #[.agg #[.int .i64 a0_0, .int .i64 a0_1, .int .i64 a0_2, .int .u64 a0_3, .int .u64 a0_4, .int .u64 a0_5]] w fun e w' => e = .returned (.tuple #[.int .i64 r1, .int .i64 r2, .int .i64 r3]) ∧ Below w.heap.size w w' := by
 have hu28 := Try.underlying28
 have hu23 := Try.underlying23
 have hu26 := Try.underlying26
 have HB := Aside0.mk (Below.refl w.heap.size w)
 have H : ((gcra_end.f a0_0 a0_1 a0_2 a0_5).bind fun bt253 => (if bt253.2.2 = 0 then ((wide_Sub.f bt253.1 bt253.2.1 a0_3 a0_4).bind fun bt257 => (if bt257.2.2 = 0 then ((wide_Div.f k bt257.1 bt257.2.1 (IntKind.u64.wrap (a0_2))).bind fun bt261 => (some (wrap64 (bt261.2.1), wrap64 (bt261.2.2.1), bt261.2.2.2))) else (some (0, 0, bt257.2.2)))) else (some (0, 0, bt253.2.2)))) = some (r1, r2, r3) := h
 clear h
 have H0_ := bo_ H; clear H; obtain ⟨⟨t253, t254, t255⟩, A2, H⟩ := H0_
 try dsimp only at H
 by_cases c3 : t255 = 0
 ·rw [if_pos c3] at H
  have c3b0 : (t255 == 0) = true := beq_iff_eq.mpr c3
  have c3b1 : (t255 != 0) = false := bne_eq_false_iff_eq.mpr c3
  clear c3
  have H0_ := bo_ H; clear H; obtain ⟨⟨t257, t258, t259⟩, A4, H⟩ := H0_
  try dsimp only at H
  by_cases c5 : t259 = 0
  ·rw [if_pos c5] at H
   have c5b0 : (t259 == 0) = true := beq_iff_eq.mpr c5
   have c5b1 : (t259 != 0) = false := bne_eq_false_iff_eq.mpr c5
   clear c5
   have H0_ := bo_ H; clear H; obtain ⟨⟨t261, t262, t263, t264⟩, A6, H⟩ := H0_
   replace H : (some (wrap64 (t262), wrap64 (t263), t264)) = some (r1, r2, r3) := H
   simp only [Option.some.injEq, Prod.mk.injEq] at H
   obtain ⟨rfl, rfl, rfl⟩ := H
   go_enter Try.func43, Try.ntmps43
   go_wp2_with (first | ((with_reducible refine gate_dst (N := 1) rfl ?_); refine bx_ #[.int .i64 a0_0, .int .i64 a0_1, .int .i64 a0_2, .int .u64 a0_3, .int .u64 a0_4, .int .u64 a0_5] 28 ?_; intro gb252 hg w7 BK252 hb; have GW252 := bz_ w hg; have GE252 := GW252; replace HB := bs_ w hb; clear hb hg; replace hc252 := ce6_ BK252) | ((with_reducible refine gate_callee (f := 35) rfl ?_); refine goesA_ (some 15) Try.func35 #[.agg #[.int .i64 a0_0, .int .i64 a0_1, .int .i64 a0_2], .int .u64 a0_5] ?_; (with_reducible refine (gcra_end.calls a0_0 a0_1 a0_2 a0_5 t253 t254 t255 _ A2.out).mono ?_); rintro e w9 ⟨rfl, hb⟩; refine ⟨_, rfl, ?_⟩; replace BK252 := bb_ BK252 hb; replace HB := bs_ w hb; clear hb) | ((with_reducible refine gate_dst (N := 5) rfl ?_); refine bx_ #[.int .u64 0, .int .u64 0] 26 ?_; intro gb256 hg w10 BK256 hb; have GW256 := bz_ w hg; have GE256 := GW256; have NB252_256 := bn_ BK252 hg; have NB256_252 := bm_ BK252 hg; replace BK252 := bb_ BK252 hb; replace HB := bs_ w hb; clear hb hg; replace hn256_252 := NB256_252.out; replace hn252_256 := NB252_256.out; replace hc256 := ce2_ BK256; replace hc252 := ce6_ BK252) | ((with_reducible refine gate_callee (f := 38) rfl ?_); refine goesA_ (some 25) Try.func38 #[.agg #[.int .u64 t253, .int .u64 t254], .agg #[.int .u64 a0_3, .int .u64 a0_4]] ?_; (with_reducible refine (wide_Sub.calls t253 t254 a0_3 a0_4 t257 t258 t259 _ A4.out).mono ?_); rintro e w14 ⟨rfl, hb⟩; refine ⟨_, rfl, ?_⟩; replace BK252 := bf_ BK252 hb; replace BK256 := Aside0.mk (blk_below (g := gb256) (o := .cells #[.int .u64 t253, .int .u64 t254] 26 (0, 0)) (bp2_ (bq_ BK256)) hb); replace HB := bs_ w hb; clear hb) | ((with_reducible refine gate_dst (N := 7) rfl ?_); refine bx_ #[.int .u64 0, .int .u64 0] 26 ?_; intro gb260 hg w15 BK260 hb; have GW260 := bz_ w hg; have GE260 := GW260; have NB252_260 := bn_ BK252 hg; have NB260_252 := bm_ BK252 hg; have NB256_260 := bn_ BK256 hg; have NB260_256 := bm_ BK256 hg; replace BK252 := bb_ BK252 hb; replace BK256 := bb_ BK256 hb; replace HB := bs_ w hb; clear hb hg; replace hn260_252 := NB260_252.out; replace hn252_260 := NB252_260.out; replace hn260_256 := NB260_256.out; replace hn256_260 := NB256_260.out; replace hc260 := ce2_ BK260; replace hc252 := ce6_ BK252) | ((with_reducible refine gate_callee (f := 60) rfl ?_); refine goesA_ (some 37) Try.func60 #[.agg #[.int .u64 t257, .int .u64 t258], .int .u64 (IntKind.u64.wrap (a0_2))] ?_; (with_reducible refine (wide_Div.calls k t257 t258 (IntKind.u64.wrap (a0_2)) t261 t262 t263 t264 _ A6.out).mono ?_); rintro e w20 ⟨rfl, hb⟩; refine ⟨_, rfl, ?_⟩; replace BK252 := bf_ BK252 hb; replace BK256 := bf_ BK256 hb; replace BK260 := Aside0.mk (blk_below (g := gb260) (o := .cells #[.int .u64 t257, .int .u64 t258] 26 (0, 0)) (bp2_ (bq_ BK260)) hb); replace HB := bs_ w hb; clear hb) | ((with_reducible refine gate_dst (N := 8) rfl ?_); refine bx_ #[.int .u64 0, .int .u64 0] 26 ?_; intro gb265 hg w21 BK265 hb; have GW265 := bz_ w hg; have NB252_265 := bn_ BK252 hg; have NB265_252 := bm_ BK252 hg; have NB256_265 := bn_ BK256 hg; have NB265_256 := bm_ BK256 hg; have NB260_265 := bn_ BK260 hg; have NB265_260 := bm_ BK260 hg; replace BK252 := bb_ BK252 hb; replace BK256 := bb_ BK256 hb; replace BK260 := bb_ BK260 hb; replace HB := bs_ w hb; clear hb hg; replace hn265_252 := NB265_252.out; replace hn252_265 := NB252_265.out; replace hn265_256 := NB265_256.out; replace hn256_265 := NB256_265.out; replace hn265_260 := NB265_260.out; replace hn260_265 := NB260_265.out; replace hc265 := ce2_ BK265))
   go_ret3
   exact fi_
  ·rw [if_neg c5] at H
   have c5b0 : (t259 == 0) = false := beq_eq_false_iff_ne.mpr c5
   have c5b1 : (t259 != 0) = true := bne_iff_ne.mpr c5
   simp only [Option.some.injEq, Prod.mk.injEq] at H
   obtain ⟨rfl, rfl, rfl⟩ := H
   go_enter Try.func43, Try.ntmps43
   go_wp2_with (first | ((with_reducible refine gate_dst (N := 1) rfl ?_); refine bx_ #[.int .i64 a0_0, .int .i64 a0_1, .int .i64 a0_2, .int .u64 a0_3, .int .u64 a0_4, .int .u64 a0_5] 28 ?_; intro gb252 hg w26 BK252 hb; have GW252 := bz_ w hg; have GE252 := GW252; replace HB := bs_ w hb; clear hb hg; replace hc252 := ce6_ BK252) | ((with_reducible refine gate_callee (f := 35) rfl ?_); refine goesA_ (some 15) Try.func35 #[.agg #[.int .i64 a0_0, .int .i64 a0_1, .int .i64 a0_2], .int .u64 a0_5] ?_; (with_reducible refine (gcra_end.calls a0_0 a0_1 a0_2 a0_5 t253 t254 t255 _ A2.out).mono ?_); rintro e w28 ⟨rfl, hb⟩; refine ⟨_, rfl, ?_⟩; replace BK252 := bb_ BK252 hb; replace HB := bs_ w hb; clear hb) | ((with_reducible refine gate_dst (N := 5) rfl ?_); refine bx_ #[.int .u64 0, .int .u64 0] 26 ?_; intro gb256 hg w29 BK256 hb; have GW256 := bz_ w hg; have GE256 := GW256; have NB252_256 := bn_ BK252 hg; have NB256_252 := bm_ BK252 hg; replace BK252 := bb_ BK252 hb; replace HB := bs_ w hb; clear hb hg; replace hn256_252 := NB256_252.out; replace hn252_256 := NB252_256.out; replace hc256 := ce2_ BK256; replace hc252 := ce6_ BK252) | ((with_reducible refine gate_callee (f := 38) rfl ?_); refine goesA_ (some 25) Try.func38 #[.agg #[.int .u64 t253, .int .u64 t254], .agg #[.int .u64 a0_3, .int .u64 a0_4]] ?_; (with_reducible refine (wide_Sub.calls t253 t254 a0_3 a0_4 t257 t258 t259 _ A4.out).mono ?_); rintro e w33 ⟨rfl, hb⟩; refine ⟨_, rfl, ?_⟩; replace BK252 := bf_ BK252 hb; replace BK256 := Aside0.mk (blk_below (g := gb256) (o := .cells #[.int .u64 t253, .int .u64 t254] 26 (0, 0)) (bp2_ (bq_ BK256)) hb); replace HB := bs_ w hb; clear hb) | ((with_reducible refine gate_dst (N := 7) rfl ?_); refine bx_ #[.int .u64 0, .int .u64 0] 26 ?_; intro gb260 hg w34 BK260 hb; have GW260 := bz_ w hg; have GE260 := GW260; have NB252_260 := bn_ BK252 hg; have NB260_252 := bm_ BK252 hg; have NB256_260 := bn_ BK256 hg; have NB260_256 := bm_ BK256 hg; replace BK252 := bb_ BK252 hb; replace BK256 := bb_ BK256 hb; replace HB := bs_ w hb; clear hb hg; replace hn260_252 := NB260_252.out; replace hn252_260 := NB252_260.out; replace hn260_256 := NB260_256.out; replace hn256_260 := NB256_260.out; replace hc260 := ce2_ BK260))
   go_ret3
   exact fi_
 ·rw [if_neg c3] at H
  have c3b0 : (t255 == 0) = false := beq_eq_false_iff_ne.mpr c3
  have c3b1 : (t255 != 0) = true := bne_iff_ne.mpr c3
  simp only [Option.some.injEq, Prod.mk.injEq] at H
  obtain ⟨rfl, rfl, rfl⟩ := H
  go_enter Try.func43, Try.ntmps43
  go_wp2_with (first | ((with_reducible refine gate_dst (N := 1) rfl ?_); refine bx_ #[.int .i64 a0_0, .int .i64 a0_1, .int .i64 a0_2, .int .u64 a0_3, .int .u64 a0_4, .int .u64 a0_5] 28 ?_; intro gb252 hg w38 BK252 hb; have GW252 := bz_ w hg; have GE252 := GW252; replace HB := bs_ w hb; clear hb hg; replace hc252 := ce6_ BK252) | ((with_reducible refine gate_callee (f := 35) rfl ?_); refine goesA_ (some 15) Try.func35 #[.agg #[.int .i64 a0_0, .int .i64 a0_1, .int .i64 a0_2], .int .u64 a0_5] ?_; (with_reducible refine (gcra_end.calls a0_0 a0_1 a0_2 a0_5 t253 t254 t255 _ A2.out).mono ?_); rintro e w40 ⟨rfl, hb⟩; refine ⟨_, rfl, ?_⟩; replace BK252 := bb_ BK252 hb; replace HB := bs_ w hb; clear hb) | ((with_reducible refine gate_dst (N := 5) rfl ?_); refine bx_ #[.int .u64 0, .int .u64 0] 26 ?_; intro gb256 hg w41 BK256 hb; have GW256 := bz_ w hg; have GE256 := GW256; have NB252_256 := bn_ BK252 hg; have NB256_252 := bm_ BK252 hg; replace BK252 := bb_ BK252 hb; replace HB := bs_ w hb; clear hb hg; replace hn256_252 := NB256_252.out; replace hn252_256 := NB252_256.out; replace hc256 := ce2_ BK256))
  go_ret3
  exact fi_

/-! ### gcra_Bucket: function 13 -/
def gcra_Bucket.f (k : Nat) (a0_0 : Int) (a0_1 : Int) (a0_2 : Int) (a0_3 : Int) (a0_4 : Int) (a0_5 : Int) : Option (Int × Int × Int × Int × Int × Int × Int) := (gcra_Check.f k a0_0 a0_1 a0_2 a0_3 a0_4 a0_5).bind fun t268 => (if t268 = 0 then ((gcra_holds.f k a0_0 a0_1 a0_2 a0_3 a0_4 a0_5).bind fun bt269 => (if bt269.2.2 = 0 then (some (a0_0, a0_1, a0_2, bt269.1, bt269.2.1, a0_5, 0)) else (some (0, 0, 0, 0, 0, 0, bt269.2.2)))) else (some (0, 0, 0, 0, 0, 0, t268)))
theorem gcra_Bucket.mono : ∀ a0 a1 a2 a3 a4 a5 k, LeO (gcra_Bucket.f k a0 a1 a2 a3 a4 a5) (gcra_Bucket.f (k + 1) a0 a1 a2 a3 a4 a5) := by
  intro a0 a1 a2 a3 a4 a5 k
  unfold gcra_Bucket.f
  repeat' first
      | (with_reducible exact gcra_Check.mono _ _ _ _ _ _ _)
      | (with_reducible exact gcra_holds.mono _ _ _ _ _ _ _)
      | (with_reducible exact LeO.refl _)
      | (with_reducible exact LeO.none _)
      | (with_reducible refine LeO.ite ?_ ?_)
      | (with_reducible refine LeO.bind ?_ (fun _ => ?_))
      | exact gcra_Check.mono _ _ _ _ _ _ _
      | exact gcra_holds.mono _ _ _ _ _ _ _
      | exact LeO.none _
      | refine LeO.ite ?_ ?_
      | refine LeO.bind ?_ (fun _ => ?_)
set_option maxHeartbeats 8000000 in
set_option maxRecDepth 100000 in
theorem gcra_Bucket.calls (k : Nat) (a0_0 : Int) (a0_1 : Int) (a0_2 : Int) (a0_3 : Int) (a0_4 : Int) (a0_5 : Int) (r1 : Int) (r2 : Int) (r3 : Int) (r4 : Int) (r5 : Int) (r6 : Int) (r7 : Int) (w : World) (h : gcra_Bucket.f k a0_0 a0_1 a0_2 a0_3 a0_4 a0_5 = some (r1, r2, r3, r4, r5, r6, r7)) :
  Calls Try.prog 13 #[.agg #[.int .i64 a0_0, .int .i64 a0_1, .int .i64 a0_2, .int .u64 a0_3, .int .u64 a0_4, .int .u64 a0_5]] w fun e w' => e = .returned (.tuple #[.agg #[.int .i64 r1, .int .i64 r2, .int .i64 r3, .int .i64 r4, .int .i64 r5, .int .u64 r6], .int .i64 r7]) ∧ Below w.heap.size w w' := by
 have hu28 := Try.underlying28
 have hu30 := Try.underlying30
 have hu23 := Try.underlying23
 have HB := Aside0.mk (Below.refl w.heap.size w)
 have H : ((gcra_Check.f k a0_0 a0_1 a0_2 a0_3 a0_4 a0_5).bind fun t268 => (if t268 = 0 then ((gcra_holds.f k a0_0 a0_1 a0_2 a0_3 a0_4 a0_5).bind fun bt269 => (if bt269.2.2 = 0 then (some (a0_0, a0_1, a0_2, bt269.1, bt269.2.1, a0_5, 0)) else (some (0, 0, 0, 0, 0, 0, bt269.2.2)))) else (some (0, 0, 0, 0, 0, 0, t268)))) = some (r1, r2, r3, r4, r5, r6, r7) := h
 clear h
 have H0_ := bo_ H; clear H; obtain ⟨t268, A2, H⟩ := H0_
 try dsimp only at H
 by_cases c3 : t268 = 0
 ·rw [if_pos c3] at H
  have c3b0 : (t268 == 0) = true := beq_iff_eq.mpr c3
  have c3b1 : (t268 != 0) = false := bne_eq_false_iff_eq.mpr c3
  clear c3
  have H0_ := bo_ H; clear H; obtain ⟨⟨t269, t270, t271⟩, A4, H⟩ := H0_
  replace H : (if t271 = 0 then (some (a0_0, a0_1, a0_2, t269, t270, a0_5, 0)) else (some (0, 0, 0, 0, 0, 0, t271))) = some (r1, r2, r3, r4, r5, r6, r7) := H
  by_cases c5 : t271 = 0
  ·rw [if_pos c5] at H
   have c5b0 : (t271 == 0) = true := beq_iff_eq.mpr c5
   have c5b1 : (t271 != 0) = false := bne_eq_false_iff_eq.mpr c5
   clear c5
   simp only [Option.some.injEq, Prod.mk.injEq] at H
   obtain ⟨rfl, rfl, rfl, rfl, rfl, rfl, rfl⟩ := H
   go_enter Try.func13, Try.ntmps13
   go_wp2_with (first | ((with_reducible refine gate_dst (N := 1) rfl ?_); refine bx_ #[.int .i64 a0_0, .int .i64 a0_1, .int .i64 a0_2, .int .u64 a0_3, .int .u64 a0_4, .int .u64 a0_5] 28 ?_; intro gb266 hg w6 BK266 hb; have GW266 := bz_ w hg; have GE266 := GW266; replace HB := bs_ w hb; clear hb hg) | ((with_reducible refine gate_dst (N := 2) rfl ?_); refine bx_ #[.int .i64 0, .int .i64 0, .int .i64 0, .int .i64 0, .int .i64 0, .int .u64 0] 30 ?_; intro gb267 hg w7 BK267 hb; have GW267 := bz_ w hg; have GE267 := GW267; have NB266_267 := bn_ BK266 hg; have NB267_266 := bm_ BK266 hg; replace BK266 := bb_ BK266 hb; replace HB := bs_ w hb; clear hb hg; replace hn266_267 := NB266_267.out; replace hn267_266 := NB267_266.out; replace hc266 := ce6_ BK266) | ((with_reducible refine gate_callee (f := 15) rfl ?_); refine goesA_ (some 9) Try.func15 #[.agg #[.int .i64 a0_0, .int .i64 a0_1, .int .i64 a0_2, .int .u64 a0_3, .int .u64 a0_4, .int .u64 a0_5]] ?_; (with_reducible refine (gcra_Check.calls k a0_0 a0_1 a0_2 a0_3 a0_4 a0_5 t268 _ A2.out).mono ?_); rintro e w10 ⟨rfl, hb⟩; refine ⟨_, rfl, ?_⟩; replace BK266 := bb_ BK266 hb; replace BK267 := bb_ BK267 hb; replace HB := bs_ w hb; clear hb; replace hc266 := ce6_ BK266) | ((with_reducible refine gate_callee (f := 43) rfl ?_); refine goesA_ (some 16) Try.func43 #[.agg #[.int .i64 a0_0, .int .i64 a0_1, .int .i64 a0_2, .int .u64 a0_3, .int .u64 a0_4, .int .u64 a0_5]] ?_; (with_reducible refine (gcra_holds.calls k a0_0 a0_1 a0_2 a0_3 a0_4 a0_5 t269 t270 t271 _ A4.out).mono ?_); rintro e w12 ⟨rfl, hb⟩; refine ⟨_, rfl, ?_⟩; replace BK266 := bb_ BK266 hb; replace BK267 := bb_ BK267 hb; replace HB := bs_ w hb; clear hb; replace hc266 := ce6_ BK266; replace hc267 := ce6_ BK267))
   refine bodyPost_ret (results_ct rfl _ _ gb267 30 #[.int .i64 a0_0, .int .i64 a0_1, .int .i64 a0_2, .int .i64 t269, .int .i64 t270, .int .u64 a0_5] (0, 0) _ rfl (bp6_ (bq_ BK267)) Try.underlying30 rfl (by kernel_rfl)) rfl ?_
   exact fi_
  ·rw [if_neg c5] at H
   have c5b0 : (t271 == 0) = false := beq_eq_false_iff_ne.mpr c5
   have c5b1 : (t271 != 0) = true := bne_iff_ne.mpr c5
   simp only [Option.some.injEq, Prod.mk.injEq] at H
   obtain ⟨rfl, rfl, rfl, rfl, rfl, rfl, rfl⟩ := H
   go_enter Try.func13, Try.ntmps13
   go_wp2_with (first | ((with_reducible refine gate_dst (N := 1) rfl ?_); refine bx_ #[.int .i64 a0_0, .int .i64 a0_1, .int .i64 a0_2, .int .u64 a0_3, .int .u64 a0_4, .int .u64 a0_5] 28 ?_; intro gb266 hg w15 BK266 hb; have GW266 := bz_ w hg; have GE266 := GW266; replace HB := bs_ w hb; clear hb hg) | ((with_reducible refine gate_dst (N := 2) rfl ?_); refine bx_ #[.int .i64 0, .int .i64 0, .int .i64 0, .int .i64 0, .int .i64 0, .int .u64 0] 30 ?_; intro gb267 hg w16 BK267 hb; have GW267 := bz_ w hg; have GE267 := GW267; have NB266_267 := bn_ BK266 hg; have NB267_266 := bm_ BK266 hg; replace BK266 := bb_ BK266 hb; replace HB := bs_ w hb; clear hb hg; replace hn266_267 := NB266_267.out; replace hn267_266 := NB267_266.out; replace hc266 := ce6_ BK266) | ((with_reducible refine gate_callee (f := 15) rfl ?_); refine goesA_ (some 9) Try.func15 #[.agg #[.int .i64 a0_0, .int .i64 a0_1, .int .i64 a0_2, .int .u64 a0_3, .int .u64 a0_4, .int .u64 a0_5]] ?_; (with_reducible refine (gcra_Check.calls k a0_0 a0_1 a0_2 a0_3 a0_4 a0_5 t268 _ A2.out).mono ?_); rintro e w19 ⟨rfl, hb⟩; refine ⟨_, rfl, ?_⟩; replace BK266 := bb_ BK266 hb; replace BK267 := bb_ BK267 hb; replace HB := bs_ w hb; clear hb; replace hc266 := ce6_ BK266) | ((with_reducible refine gate_callee (f := 43) rfl ?_); refine goesA_ (some 16) Try.func43 #[.agg #[.int .i64 a0_0, .int .i64 a0_1, .int .i64 a0_2, .int .u64 a0_3, .int .u64 a0_4, .int .u64 a0_5]] ?_; (with_reducible refine (gcra_holds.calls k a0_0 a0_1 a0_2 a0_3 a0_4 a0_5 t269 t270 t271 _ A4.out).mono ?_); rintro e w21 ⟨rfl, hb⟩; refine ⟨_, rfl, ?_⟩; replace BK266 := bb_ BK266 hb; replace BK267 := bb_ BK267 hb; replace HB := bs_ w hb; clear hb; replace hc267 := ce6_ BK267))
   refine bodyPost_ret (results_ct rfl _ _ gb267 30 #[.int .i64 0, .int .i64 0, .int .i64 0, .int .i64 0, .int .i64 0, .int .u64 0] (0, 0) _ rfl (bp6_ (bq_ BK267)) Try.underlying30 rfl (by kernel_rfl)) rfl ?_
   exact fi_
 ·rw [if_neg c3] at H
  have c3b0 : (t268 == 0) = false := beq_eq_false_iff_ne.mpr c3
  have c3b1 : (t268 != 0) = true := bne_iff_ne.mpr c3
  simp only [Option.some.injEq, Prod.mk.injEq] at H
  obtain ⟨rfl, rfl, rfl, rfl, rfl, rfl, rfl⟩ := H
  go_enter Try.func13, Try.ntmps13
  go_wp2_with (first | ((with_reducible refine gate_dst (N := 1) rfl ?_); refine bx_ #[.int .i64 a0_0, .int .i64 a0_1, .int .i64 a0_2, .int .u64 a0_3, .int .u64 a0_4, .int .u64 a0_5] 28 ?_; intro gb266 hg w23 BK266 hb; have GW266 := bz_ w hg; have GE266 := GW266; replace HB := bs_ w hb; clear hb hg) | ((with_reducible refine gate_dst (N := 2) rfl ?_); refine bx_ #[.int .i64 0, .int .i64 0, .int .i64 0, .int .i64 0, .int .i64 0, .int .u64 0] 30 ?_; intro gb267 hg w24 BK267 hb; have GW267 := bz_ w hg; have GE267 := GW267; have NB266_267 := bn_ BK266 hg; have NB267_266 := bm_ BK266 hg; replace BK266 := bb_ BK266 hb; replace HB := bs_ w hb; clear hb hg; replace hn266_267 := NB266_267.out; replace hn267_266 := NB267_266.out; replace hc266 := ce6_ BK266) | ((with_reducible refine gate_callee (f := 15) rfl ?_); refine goesA_ (some 9) Try.func15 #[.agg #[.int .i64 a0_0, .int .i64 a0_1, .int .i64 a0_2, .int .u64 a0_3, .int .u64 a0_4, .int .u64 a0_5]] ?_; (with_reducible refine (gcra_Check.calls k a0_0 a0_1 a0_2 a0_3 a0_4 a0_5 t268 _ A2.out).mono ?_); rintro e w27 ⟨rfl, hb⟩; refine ⟨_, rfl, ?_⟩; replace BK266 := bb_ BK266 hb; replace BK267 := bb_ BK267 hb; replace HB := bs_ w hb; clear hb; replace hc267 := ce6_ BK267))
  refine bodyPost_ret (results_ct rfl _ _ gb267 30 #[.int .i64 0, .int .i64 0, .int .i64 0, .int .i64 0, .int .i64 0, .int .u64 0] (0, 0) _ rfl (bp6_ (bq_ BK267)) Try.underlying30 rfl (by kernel_rfl)) rfl ?_
  exact fi_

end Go.Proofs.Ytnijohomnajngaa.X
