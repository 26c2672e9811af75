-- written by xprint.py, a program of this session over the kit's print
import Derived.Test.YtnijohomnajngaaX0
import Derived.Test.YtnijohomnajngaaX5
import Derived.Test.YtnijohomnajngaaX15
namespace Go.Proofs.Ytnijohomnajngaa.X
open Go.RowKit Go.Proofs.YtnijohomnajngaaW.PrintWords Go.Proofs.YtnijohomnajngaaW.PrintLast Go.Proofs.YtnijohomnajngaaW.PrintMore
attribute [local go_sem] max2_int min2_int max_two min_two max_three min_three max_four min_four   -- for this text's walks alone
set_option linter.unusedVariables false
set_option linter.unusedSimpArgs false

/-! ### gcra_moved: function 47 -/
def gcra_moved.f (k : Nat) (a0_0 : Int) (a0_1 : Int) (a0_2 : Int) (a0_3 : Int) (a0_4 : Int) (a0_5 : Int) (a1 : Int) : Option (Int × Int × Int × Int × Int × Int) := (gcra_at.f a0_0 a0_1 a0_2 (mx a0_5 a1)).bind fun bt356 => ((wide_Cmp.f k a0_3 a0_4 bt356.1 bt356.2).bind fun t359 => (if t359 < 0 then (some (a0_0, a0_1, a0_2, bt356.1, bt356.2, mx a0_5 a1)) else (some (a0_0, a0_1, a0_2, a0_3, a0_4, mx a0_5 a1))))
theorem gcra_moved.mono : ∀ a0 a1 a2 a3 a4 a5 a6 k, LeO (gcra_moved.f k a0 a1 a2 a3 a4 a5 a6) (gcra_moved.f (k + 1) a0 a1 a2 a3 a4 a5 a6) := by
  intro a0 a1 a2 a3 a4 a5 a6 k
  unfold gcra_moved.f
  repeat' first
      | (with_reducible exact wide_Cmp.mono _ _ _ _ _)
      | (with_reducible exact LeO.refl _)
      | (with_reducible exact LeO.none _)
      | (with_reducible refine LeO.ite ?_ ?_)
      | (with_reducible refine LeO.bind ?_ (fun _ => ?_))
      | exact wide_Cmp.mono _ _ _ _ _
      | exact LeO.none _
      | refine LeO.ite ?_ ?_
      | refine LeO.bind ?_ (fun _ => ?_)
set_option maxHeartbeats 8000000 in
set_option maxRecDepth 100000 in
theorem gcra_moved.calls (k : Nat) (a0_0 : Int) (a0_1 : Int) (a0_2 : Int) (a0_3 : Int) (a0_4 : Int) (a0_5 : Int) (a1 : Int) (r1 : Int) (r2 : Int) (r3 : Int) (r4 : Int) (r5 : Int) (r6 : Int) (w : World) (h : gcra_moved.f k a0_0 a0_1 a0_2 a0_3 a0_4 a0_5 a1 = some (r1, r2, r3, r4, r5, r6)) :
  Calls Try.prog 47 #[.agg #[.int .i64 a0_0, .int .i64 a0_1, .int .i64 a0_2, .int .u64 a0_3, .int .u64 a0_4, .int .u64 a0_5], .int .u64 a1] w fun e w' => e = .returned (.agg #[.int .i64 r1, .int .i64 r2, .int .i64 r3, .int .u64 r4, .int .u64 r5, .int .u64 r6]) ∧ Below w.heap.size w w' := by
 have hu28 := Try.underlying28
 have hu23 := Try.underlying23
 have hu26 := Try.underlying26
 have HB := Aside0.mk (Below.refl w.heap.size w)
 have H : ((gcra_at.f a0_0 a0_1 a0_2 (mx a0_5 a1)).bind fun bt356 => ((wide_Cmp.f k a0_3 a0_4 bt356.1 bt356.2).bind fun t359 => (if t359 < 0 then (some (a0_0, a0_1, a0_2, bt356.1, bt356.2, mx a0_5 a1)) else (some (a0_0, a0_1, a0_2, a0_3, a0_4, mx a0_5 a1))))) = some (r1, r2, r3, r4, r5, r6) := h
 clear h
 obtain ⟨ji3, hji3⟩ : ∃ j_ : Int, (mx a0_5 a1) = j_ := ⟨_, rfl⟩
 replace H : ((gcra_at.f a0_0 a0_1 a0_2 (ji3)).bind fun bt356 => ((wide_Cmp.f k a0_3 a0_4 bt356.1 bt356.2).bind fun t359 => (if t359 < 0 then (some (a0_0, a0_1, a0_2, bt356.1, bt356.2, ji3)) else (some (a0_0, a0_1, a0_2, a0_3, a0_4, ji3))))) = some (r1, r2, r3, r4, r5, r6) := by first | (rw [hji3] at H; exact H) | (simp only [hji3] at H ⊢; exact H)
 have hji3_ : (if a0_5 < a1 then a1 else a0_5) = ji3 := hji3
 have H0_ := bo_ H; clear H; obtain ⟨⟨t356, t357⟩, A4, H⟩ := H0_
 try dsimp only at H
 have H0_ := bo_ H; clear H; obtain ⟨t359, A5, H⟩ := H0_
 replace H : (if t359 < 0 then (some (a0_0, a0_1, a0_2, t356, t357, ji3)) else (some (a0_0, a0_1, a0_2, a0_3, a0_4, ji3))) = some (r1, r2, r3, r4, r5, r6) := H
 by_cases c6 : t359 < 0
 ·rw [if_pos c6] at H
  have c6b0 : decide (t359 < 0) = true := decide_eq_true c6
  clear c6
  simp only [Option.some.injEq, Prod.mk.injEq] at H
  obtain ⟨rfl, rfl, rfl, rfl, rfl, rfl⟩ := H
  go_enter Try.func47, Try.ntmps47
  go_wp2_with (first | ((with_reducible refine gate_dst (N := 2) rfl ?_); refine bx_ #[.int .i64 a0_0, .int .i64 a0_1, .int .i64 a0_2, .int .u64 a0_3, .int .u64 a0_4, .int .u64 a0_5] 28 ?_; intro gb354 hg w7 BK354 hb; have GW354 := bz_ w hg; have GE354 := GW354; replace HB := bs_ w hb; clear hb hg) | ((with_reducible refine gate_dst (N := 4) rfl ?_); refine bx_ #[.int .i64 0, .int .i64 0, .int .i64 0, .int .u64 0, .int .u64 0, .int .u64 0] 28 ?_; intro gb355 hg w8 BK355 hb; have GW355 := bz_ w hg; have GE355 := GW355; have NB354_355 := bn_ BK354 hg; have NB355_354 := bm_ BK354 hg; replace BK354 := bb_ BK354 hb; replace HB := bs_ w hb; clear hb hg; replace hn354_355 := NB354_355.out; replace hn355_354 := NB355_354.out; replace hc354 := ce6_ BK354) | ((with_reducible refine gate_callee (f := 31) rfl ?_); refine goesL_ (some 15) rfl rfl Try.func31 (by kernel_rfl) rfl #[.agg #[.int .i64 a0_0, .int .i64 a0_1, .int .i64 a0_2], .int .u64 ji3] rfl (by (try simp only [List.map_toArray, List.map_cons, List.map_nil]); first | done | (simp only [hji3]; rfl) | rfl | (simp only [List.length_drop, List.length_take]; rfl)) ?_; (with_reducible refine (gcra_at.calls a0_0 a0_1 a0_2 ji3 t356 t357 _ A4.out).mono ?_); rintro e w11 ⟨rfl, hb⟩; refine ⟨_, rfl, ?_⟩; replace BK354 := Aside0.mk (blk_below (g := gb354) (o := .cells #[.int .i64 a0_0, .int .i64 a0_1, .int .i64 a0_2, .int .u64 a0_3, .int .u64 a0_4, .int .u64 ji3] 28 (0, 0)) (blk_put (cs := #[.int .i64 a0_0, .int .i64 a0_1, .int .i64 a0_2, .int .u64 a0_3, .int .u64 a0_4, .int .u64 a0_5]) (bq_ BK354) 5 _ rfl) hb); replace BK355 := bf_ BK355 hb; replace HB := bs_ w hb; clear hb) | ((with_reducible refine gate_dst (N := 5) rfl ?_); refine bx_ #[.int .u64 0, .int .u64 0] 26 ?_; intro gb358 hg w12 BK358 hb; have GW358 := bz_ w hg; have GE358 := GW358; have NB354_358 := bn_ BK354 hg; have NB358_354 := bm_ BK354 hg; have NB355_358 := bn_ BK355 hg; have NB358_355 := bm_ BK355 hg; replace BK354 := bb_ BK354 hb; replace BK355 := bb_ BK355 hb; replace HB := bs_ w hb; clear hb hg; replace hn358_354 := NB358_354.out; replace hn354_358 := NB354_358.out; replace hn358_355 := NB358_355.out; replace hn355_358 := NB355_358.out; replace hc358 := ce2_ BK358; replace hc354 := ce6_ BK354) | ((with_reducible refine gate_callee (f := 45) rfl ?_); refine goesA_ (some 19) Try.func45 #[.agg #[.int .u64 a0_3, .int .u64 a0_4], .agg #[.int .u64 t356, .int .u64 t357]] ?_; (with_reducible refine (wide_Cmp.calls k a0_3 a0_4 t356 t357 t359 _ A5.out).mono ?_); rintro e w17 ⟨rfl, hb⟩; refine ⟨_, rfl, ?_⟩; replace BK354 := bf_ BK354 hb; replace BK355 := bf_ BK355 hb; replace BK358 := Aside0.mk (blk_below (g := gb358) (o := .cells #[.int .u64 t356, .int .u64 t357] 26 (0, 0)) (bp2_ (bq_ BK358)) hb); replace HB := bs_ w hb; clear hb; replace hc358 := ce2_ BK358; replace hc354 := ce6_ BK354; replace hc355 := ce6_ BK355))
  refine bodyPost_ret (results_cell_row rfl _ _ gb355 28 #[.int .i64 a0_0, .int .i64 a0_1, .int .i64 a0_2, .int .u64 t356, .int .u64 t357, .int .u64 ji3] (0, 0) _ rfl (bp6_ (bt_ BK355)) Try.underlying28 rfl (by kernel_rfl)) rfl ?_
  exact ⟨by first | rfl | (simp [errW_none, errW_some] <;> rfl) | (simp only [← hji3]; first | rfl | (simp [errW_none, errW_some] <;> rfl)) | (simp [*, errW_none, errW_some] <;> rfl), by repeat (first | (with_reducible first | exact HB.out | apply below_alloc | apply pw_below_drewN | apply below_drew1 | refine below_set ?_ GE354.out | refine below_set ?_ GE355.out | refine below_set ?_ GE358.out) | exact HB.out)⟩
 ·rw [if_neg c6] at H
  have c6b0 : decide (t359 < 0) = false := decide_eq_false c6
  clear c6
  simp only [Option.some.injEq, Prod.mk.injEq] at H
  obtain ⟨rfl, rfl, rfl, rfl, rfl, rfl⟩ := H
  go_enter Try.func47, Try.ntmps47
  go_wp2_with (first | ((with_reducible refine gate_dst (N := 2) rfl ?_); refine bx_ #[.int .i64 a0_0, .int .i64 a0_1, .int .i64 a0_2, .int .u64 a0_3, .int .u64 a0_4, .int .u64 a0_5] 28 ?_; intro gb354 hg w21 BK354 hb; have GW354 := bz_ w hg; have GE354 := GW354; replace HB := bs_ w hb; clear hb hg) | ((with_reducible refine gate_dst (N := 4) rfl ?_); refine bx_ #[.int .i64 0, .int .i64 0, .int .i64 0, .int .u64 0, .int .u64 0, .int .u64 0] 28 ?_; intro gb355 hg w22 BK355 hb; have GW355 := bz_ w hg; have GE355 := GW355; have NB354_355 := bn_ BK354 hg; have NB355_354 := bm_ BK354 hg; replace BK354 := bb_ BK354 hb; replace HB := bs_ w hb; clear hb hg; replace hn354_355 := NB354_355.out; replace hn355_354 := NB355_354.out; replace hc354 := ce6_ BK354) | ((with_reducible refine gate_callee (f := 31) rfl ?_); refine goesL_ (some 15) rfl rfl Try.func31 (by kernel_rfl) rfl #[.agg #[.int .i64 a0_0, .int .i64 a0_1, .int .i64 a0_2], .int .u64 ji3] rfl (by (try simp only [List.map_toArray, List.map_cons, List.map_nil]); first | done | (simp only [hji3]; rfl) | rfl | (simp only [List.length_drop, List.length_take]; rfl)) ?_; (with_reducible refine (gcra_at.calls a0_0 a0_1 a0_2 ji3 t356 t357 _ A4.out).mono ?_); rintro e w25 ⟨rfl, hb⟩; refine ⟨_, rfl, ?_⟩; replace BK354 := Aside0.mk (blk_below (g := gb354) (o := .cells #[.int .i64 a0_0, .int .i64 a0_1, .int .i64 a0_2, .int .u64 a0_3, .int .u64 a0_4, .int .u64 ji3] 28 (0, 0)) (blk_put (cs := #[.int .i64 a0_0, .int .i64 a0_1, .int .i64 a0_2, .int .u64 a0_3, .int .u64 a0_4, .int .u64 a0_5]) (bq_ BK354) 5 _ rfl) hb); replace BK355 := bf_ BK355 hb; replace HB := bs_ w hb; clear hb) | ((with_reducible refine gate_dst (N := 5) rfl ?_); refine bx_ #[.int .u64 0, .int .u64 0] 26 ?_; intro gb358 hg w26 BK358 hb; have GW358 := bz_ w hg; have GE358 := GW358; have NB354_358 := bn_ BK354 hg; have NB358_354 := bm_ BK354 hg; have NB355_358 := bn_ BK355 hg; have NB358_355 := bm_ BK355 hg; replace BK354 := bb_ BK354 hb; replace BK355 := bb_ BK355 hb; replace HB := bs_ w hb; clear hb hg; replace hn358_354 := NB358_354.out; replace hn354_358 := NB354_358.out; replace hn358_355 := NB358_355.out; replace hn355_358 := NB355_358.out; replace hc358 := ce2_ BK358; replace hc354 := ce6_ BK354) | ((with_reducible refine gate_callee (f := 45) rfl ?_); refine goesA_ (some 19) Try.func45 #[.agg #[.int .u64 a0_3, .int .u64 a0_4], .agg #[.int .u64 t356, .int .u64 t357]] ?_; (with_reducible refine (wide_Cmp.calls k a0_3 a0_4 t356 t357 t359 _ A5.out).mono ?_); rintro e w31 ⟨rfl, hb⟩; refine ⟨_, rfl, ?_⟩; replace BK354 := bf_ BK354 hb; replace BK355 := bf_ BK355 hb; replace BK358 := Aside0.mk (blk_below (g := gb358) (o := .cells #[.int .u64 t356, .int .u64 t357] 26 (0, 0)) (bp2_ (bq_ BK358)) hb); replace HB := bs_ w hb; clear hb; replace hc354 := ce6_ BK354; replace hc355 := ce6_ BK355))
  refine bodyPost_ret (results_cell_row rfl _ _ gb355 28 #[.int .i64 a0_0, .int .i64 a0_1, .int .i64 a0_2, .int .u64 a0_3, .int .u64 a0_4, .int .u64 ji3] (0, 0) _ rfl (bp6_ (bq_ BK355)) Try.underlying28 rfl (by kernel_rfl)) rfl ?_
  exact ⟨by first | rfl | (simp [errW_none, errW_some] <;> rfl) | (simp only [← hji3]; first | rfl | (simp [errW_none, errW_some] <;> rfl)) | (simp [*, errW_none, errW_some] <;> rfl), by repeat (first | (with_reducible first | exact HB.out | apply below_alloc | apply pw_below_drewN | apply below_drew1 | refine below_set ?_ GE354.out | refine below_set ?_ GE355.out | refine below_set ?_ GE358.out) | exact HB.out)⟩

end Go.Proofs.Ytnijohomnajngaa.X
