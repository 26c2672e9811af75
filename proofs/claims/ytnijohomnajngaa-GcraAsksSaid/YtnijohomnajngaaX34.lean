-- written by xprint.py, a program of this session over the kit's print
import Derived.Test.YtnijohomnajngaaX0
import Derived.Test.YtnijohomnajngaaX9
import Derived.Test.YtnijohomnajngaaX10
import Derived.Test.YtnijohomnajngaaX11
import Derived.Test.YtnijohomnajngaaX22
import Derived.Test.YtnijohomnajngaaX23
import Derived.Test.YtnijohomnajngaaX33
namespace Go.Proofs.Ytnijohomnajngaa.X
open Go.RowKit Go.Proofs.YtnijohomnajngaaW.PrintWords Go.Proofs.YtnijohomnajngaaW.PrintLast Go.Proofs.YtnijohomnajngaaW.PrintMore
attribute [local go_sem] max2_int min2_int max_two min_two max_three min_three max_four min_four   -- for this text's walks alone
set_option linter.unusedVariables false
set_option linter.unusedSimpArgs false

/-! ### gcra_Ask: function 17 -/
def gcra_Ask.f (k : Nat) (a0_0 : Int) (a0_1 : Int) (a0_2 : Int) (a0_3 : Int) (a0_4 : Int) (a0_5 : Int) (a1 : Int) (a2 : Int) : Option (Int × Int × Int × Int × Int × Int × Bool × Int) := (gcra_Check.f k a0_0 a0_1 a0_2 a0_3 a0_4 a0_5).bind fun t362 => (if t362 = 0 then (if a2 < 0 then (some (0, 0, 0, 0, 0, 0, false, 2)) else ((gcra_moved.f k a0_0 a0_1 a0_2 a0_3 a0_4 a0_5 a1).bind fun bt363 => ((gcra_tokens.f bt363.1 bt363.2.1 bt363.2.2.1 a2).bind fun bt369 => ((wide_Add.f bt363.2.2.2.1 bt363.2.2.2.2.1 bt369.1 bt369.2).bind fun bt371 => ((gcra_end.f bt363.1 bt363.2.1 bt363.2.2.1 bt363.2.2.2.2.2).bind fun bt375 => (if bt371.2.2 = 0 then (if bt375.2.2 = 0 then ((wide_Cmp.f k bt371.1 bt371.2.1 bt375.1 bt375.2.1).bind fun t379 => (if t379 > 0 then (some (bt363.1, bt363.2.1, bt363.2.2.1, bt363.2.2.2.1, bt363.2.2.2.2.1, bt363.2.2.2.2.2, false, 0)) else (some (bt363.1, bt363.2.1, bt363.2.2.1, bt371.1, bt371.2.1, bt363.2.2.2.2.2, true, 0)))) else (some (bt363.1, bt363.2.1, bt363.2.2.1, bt363.2.2.2.1, bt363.2.2.2.2.1, bt363.2.2.2.2.2, false, 0))) else (some (bt363.1, bt363.2.1, bt363.2.2.1, bt363.2.2.2.1, bt363.2.2.2.2.1, bt363.2.2.2.2.2, false, 0)))))))) else (some (0, 0, 0, 0, 0, 0, false, t362)))
theorem gcra_Ask.mono : ∀ a0 a1 a2 a3 a4 a5 a6 a7 k, LeO (gcra_Ask.f k a0 a1 a2 a3 a4 a5 a6 a7) (gcra_Ask.f (k + 1) a0 a1 a2 a3 a4 a5 a6 a7) := by
  intro a0 a1 a2 a3 a4 a5 a6 a7 k
  unfold gcra_Ask.f
  repeat' first
      | (with_reducible exact gcra_Check.mono _ _ _ _ _ _ _)
      | (with_reducible exact gcra_moved.mono _ _ _ _ _ _ _ _)
      | (with_reducible exact wide_Cmp.mono _ _ _ _ _)
      | (with_reducible exact LeO.refl _)
      | (with_reducible exact LeO.none _)
      | (with_reducible refine LeO.ite ?_ ?_)
      | (with_reducible refine LeO.bind ?_ (fun _ => ?_))
      | exact gcra_Check.mono _ _ _ _ _ _ _
      | exact gcra_moved.mono _ _ _ _ _ _ _ _
      | exact wide_Cmp.mono _ _ _ _ _
      | exact LeO.none _
      | refine LeO.ite ?_ ?_
      | refine LeO.bind ?_ (fun _ => ?_)
def gcra_Ask.T7 : Bool × List (List Nat × List Nat) := (true, [([], []), ([0], [0]), ([], []), ([2], [2]), ([], []), ([3, 4], [3, 4]), ([1, 5, 5], [1, 5]), ([6], [6]), ([7], [7]), ([7], [7]), ([], []), ([10, 8, 6, 0, 1, 2, 3, 4, 5, 6, 7, 8, 10], [8, 10]), ([9, 11, 0, 1, 2, 3, 4, 5, 6, 7, 8, 9, 10, 11], [9])])
def gcra_Ask.B7 : List Nat := [0, 1, 0, 4, 0, 28, 63, 127, 255, 255, 0, 1535, 4095]
theorem gcra_Ask.tab7 : rtab .any (opsOf Try.f17 7) = gcra_Ask.T7 := by kernel_rfl
theorem gcra_Ask.bits7 : waitsOk gcra_Ask.T7.2 gcra_Ask.B7 = true := by kernel_rfl
set_option maxHeartbeats 8000000 in
set_option maxRecDepth 100000 in
theorem gcra_Ask.calls (k : Nat) (a0_0 : Int) (a0_1 : Int) (a0_2 : Int) (a0_3 : Int) (a0_4 : Int) (a0_5 : Int) (a1 : Int) (a2 : Int) (r1 : Int) (r2 : Int) (r3 : Int) (r4 : Int) (r5 : Int) (r6 : Int) (r7 : Bool) (r8 : Int) (w : World) (h : gcra_Ask.f k a0_0 a0_1 a0_2 a0_3 a0_4 a0_5 a1 a2 = some (r1, r2, r3, r4, r5, r6, r7, r8)) :
  Calls Try.prog 17 #[.agg #[.int .i64 a0_0, .int .i64 a0_1, .int .i64 a0_2, .int .u64 a0_3, .int .u64 a0_4, .int .u64 a0_5], .int .u64 a1, .int .i64 a2] w fun e w' => e = .returned (.tuple #[.agg #[.int .i64 r1, .int .i64 r2, .int .i64 r3, .int .u64 r4, .int .u64 r5, .int .u64 r6], .bool r7, .int .i64 r8]) ∧ Below w.heap.size w w' := by
 have hu28 := Try.underlying28
 have hu26 := Try.underlying26
 have hu23 := Try.underlying23
 have HB := Aside0.mk (Below.refl w.heap.size w)
 have H : ((gcra_Check.f k a0_0 a0_1 a0_2 a0_3 a0_4 a0_5).bind fun t362 => (if t362 = 0 then (if a2 < 0 then (some (0, 0, 0, 0, 0, 0, false, 2)) else ((gcra_moved.f k a0_0 a0_1 a0_2 a0_3 a0_4 a0_5 a1).bind fun bt363 => ((gcra_tokens.f bt363.1 bt363.2.1 bt363.2.2.1 a2).bind fun bt369 => ((wide_Add.f bt363.2.2.2.1 bt363.2.2.2.2.1 bt369.1 bt369.2).bind fun bt371 => ((gcra_end.f bt363.1 bt363.2.1 bt363.2.2.1 bt363.2.2.2.2.2).bind fun bt375 => (if bt371.2.2 = 0 then (if bt375.2.2 = 0 then ((wide_Cmp.f k bt371.1 bt371.2.1 bt375.1 bt375.2.1).bind fun t379 => (if t379 > 0 then (some (bt363.1, bt363.2.1, bt363.2.2.1, bt363.2.2.2.1, bt363.2.2.2.2.1, bt363.2.2.2.2.2, false, 0)) else (some (bt363.1, bt363.2.1, bt363.2.2.1, bt371.1, bt371.2.1, bt363.2.2.2.2.2, true, 0)))) else (some (bt363.1, bt363.2.1, bt363.2.2.1, bt363.2.2.2.1, bt363.2.2.2.2.1, bt363.2.2.2.2.2, false, 0))) else (some (bt363.1, bt363.2.1, bt363.2.2.1, bt363.2.2.2.1, bt363.2.2.2.2.1, bt363.2.2.2.2.2, false, 0)))))))) else (some (0, 0, 0, 0, 0, 0, false, t362)))) = some (r1, r2, r3, r4, r5, r6, r7, r8) := h
 clear h
 replace H := Option.bind_eq_some_iff.mp H
 obtain ⟨t362, A40, H⟩ := H
 try dsimp only at H
 have A4 := Aside0.mk A40
 clear A40
 by_cases c5 : t362 = 0
 ·rw [if_pos c5] at H
  have c5b0 : (t362 == 0) = true := beq_iff_eq.mpr c5
  have c5b1 : (t362 != 0) = false := bne_eq_false_iff_eq.mpr c5
  clear c5
  by_cases c6 : a2 < 0
  ·rw [if_pos c6] at H
   have c6b0 : decide (a2 < 0) = true := decide_eq_true c6
   clear c6
   simp only [Option.some.injEq, Prod.mk.injEq] at H
   obtain ⟨rfl, rfl, rfl, rfl, rfl, rfl, rfl, rfl⟩ := H
   go_enter Try.func17, Try.ntmps17
   go_wp2_with (first | ((with_reducible refine gate_dst (N := 3) rfl ?_); refine box_event ?hg (N := 3) ?hd (cs := #[.int .i64 a0_0, .int .i64 a0_1, .int .i64 a0_2, .int .u64 a0_3, .int .u64 a0_4, .int .u64 a0_5]) (t := 28) ?hr ?_; (case hd => rfl); (case hg => rfl); (case hr => first | (go_simp; done) | (go_simp; rfl)); intro gb360 hg w7 hbox hb; have BK360 := Aside0.mk (hbox); have GW360 := bz_ w hg; have GE360 := GW360; replace HB := bs_ w hb; clear hb hbox hg) | ((with_reducible refine gate_dst (N := 6) rfl ?_); refine box_event ?hg (N := 6) ?hd (cs := #[.int .i64 0, .int .i64 0, .int .i64 0, .int .u64 0, .int .u64 0, .int .u64 0]) (t := 28) ?hr ?_; (case hd => rfl); (case hg => rfl); (case hr => first | (go_simp; done) | (go_simp; rfl)); intro gb361 hg w8 hbox hb; have BK361 := Aside0.mk (hbox); have GW361 := bz_ w hg; have GE361 := GW361; have NB360_361 := bn_ BK360 hg; have NB361_360 := bm_ BK360 hg; replace BK360 := bb_ BK360 hb; replace HB := bs_ w hb; clear hb hbox hg; have hnb9 := NB360_361.out; have hnc9 := NB361_360.out; obtain ⟨hcz10_0, hcz10_1, hcz10_2, hcz10_3, hcz10_4, hcz10_5, hfz10_0, hfz10_1, hfz10_2, hfz10_3, hfz10_4, hfz10_5⟩ := ce6_ BK360) | ((with_reducible refine gate_callee (f := 15) rfl ?_); refine goesA_ (some 15) Try.func15 #[.agg #[.int .i64 a0_0, .int .i64 a0_1, .int .i64 a0_2, .int .u64 a0_3, .int .u64 a0_4, .int .u64 a0_5]] ?_; (with_reducible refine (gcra_Check.calls k a0_0 a0_1 a0_2 a0_3 a0_4 a0_5 t362 _ A4.out).mono ?_); rintro e w11 ⟨rfl, hb⟩; refine ⟨_, rfl, ?_⟩; replace BK360 := bb_ BK360 hb; replace BK361 := bb_ BK361 hb; replace HB := bs_ w hb; (try clear hb); (try clear hb2); (try clear hk); (try clear hi); obtain ⟨hcz12_0, hcz12_1, hcz12_2, hcz12_3, hcz12_4, hcz12_5, hfz12_0, hfz12_1, hfz12_2, hfz12_3, hfz12_4, hfz12_5⟩ := ce6_ BK361))
   refine bodyPost_ret (results_ctt rfl _ _ gb361 28 #[.int .i64 0, .int .i64 0, .int .i64 0, .int .u64 0, .int .u64 0, .int .u64 0] (0, 0) _ rfl (blk_put (cs := #[.int .i64 0, .int .i64 0, .int .i64 0, .int .u64 0, .int .u64 0, .int .u64 0]) (blk_put (cs := #[.int .i64 0, .int .i64 0, .int .i64 0, .int .u64 0, .int .u64 0, .int .u64 0]) (blk_put (cs := #[.int .i64 0, .int .i64 0, .int .i64 0, .int .u64 0, .int .u64 0, .int .u64 0]) (blk_put (cs := #[.int .i64 0, .int .i64 0, .int .i64 0, .int .u64 0, .int .u64 0, .int .u64 0]) (blk_put (cs := #[.int .i64 0, .int .i64 0, .int .i64 0, .int .u64 0, .int .u64 0, .int .u64 0]) (blk_put (cs := #[.int .i64 0, .int .i64 0, .int .i64 0, .int .u64 0, .int .u64 0, .int .u64 0]) (bq_ BK361) 0 _ rfl) 1 _ rfl) 2 _ rfl) 3 _ rfl) 4 _ rfl) 5 _ rfl) Try.underlying28 rfl (by kernel_rfl)) rfl ?_
   exact ⟨by first | rfl | (simp [errW_none, errW_some] <;> rfl) | (simp [*, errW_none, errW_some] <;> rfl), by repeat (first | (with_reducible first | exact HB.out | apply below_alloc | apply pw_below_drewN | apply below_drew1 | refine below_set ?_ GE360.out | refine below_set ?_ GE361.out) | exact HB.out)⟩
  ·rw [if_neg c6] at H
   have c6b0 : decide (a2 < 0) = false := decide_eq_false c6
   clear c6
   replace H := Option.bind_eq_some_iff.mp H
   obtain ⟨⟨t363, t364, t365, t366, t367, t368⟩, A130, H⟩ := H
   try dsimp only at H
   have A13 := Aside0.mk A130
   clear A130
   replace H := Option.bind_eq_some_iff.mp H
   obtain ⟨⟨t369, t370⟩, A140, H⟩ := H
   try dsimp only at H
   have A14 := Aside0.mk A140
   clear A140
   replace H := Option.bind_eq_some_iff.mp H
   obtain ⟨⟨t371, t372, t373⟩, A150, H⟩ := H
   try dsimp only at H
   have A15 := Aside0.mk A150
   clear A150
   replace H := Option.bind_eq_some_iff.mp H
   obtain ⟨⟨t375, t376, t377⟩, A160, H⟩ := H
   try dsimp only at H
   have A16 := Aside0.mk A160
   clear A160
   by_cases c17 : t373 = 0
   ·rw [if_pos c17] at H
    have c17b0 : (t373 == 0) = true := beq_iff_eq.mpr c17
    have c17b1 : (t373 != 0) = false := bne_eq_false_iff_eq.mpr c17
    clear c17
    by_cases c18 : t377 = 0
    ·rw [if_pos c18] at H
     have c18b0 : (t377 == 0) = true := beq_iff_eq.mpr c18
     have c18b1 : (t377 != 0) = false := bne_eq_false_iff_eq.mpr c18
     clear c18
     replace H := Option.bind_eq_some_iff.mp H
     obtain ⟨t379, A190, H⟩ := H
     try dsimp only at H
     have A19 := Aside0.mk A190
     clear A190
     by_cases c20 : t379 > 0
     ·rw [if_pos c20] at H
      have c20b0 : decide (0 < t379) = true := decide_eq_true c20
      clear c20
      simp only [Option.some.injEq, Prod.mk.injEq] at H
      obtain ⟨rfl, rfl, rfl, rfl, rfl, rfl, rfl, rfl⟩ := H
      go_enter Try.func17, Try.ntmps17
      try go_wp2_with (first | ((with_reducible refine gate_dst (N := 3) rfl ?_); refine box_event ?hg (N := 3) ?hd (cs := #[.int .i64 a0_0, .int .i64 a0_1, .int .i64 a0_2, .int .u64 a0_3, .int .u64 a0_4, .int .u64 a0_5]) (t := 28) ?hr ?_; (case hd => rfl); (case hg => rfl); (case hr => first | (go_simp; done) | (go_simp; rfl)); intro gb360 hg w21 hbox hb; have BK360 := Aside0.mk (hbox); have GW360 := bz_ w hg; have GE360 := GW360; replace HB := bs_ w hb; clear hb hbox hg) | ((with_reducible refine gate_dst (N := 6) rfl ?_); refine box_event ?hg (N := 6) ?hd (cs := #[.int .i64 0, .int .i64 0, .int .i64 0, .int .u64 0, .int .u64 0, .int .u64 0]) (t := 28) ?hr ?_; (case hd => rfl); (case hg => rfl); (case hr => first | (go_simp; done) | (go_simp; rfl)); intro gb361 hg w22 hbox hb; have BK361 := Aside0.mk (hbox); have GW361 := bz_ w hg; have GE361 := GW361; have NB360_361 := bn_ BK360 hg; have NB361_360 := bm_ BK360 hg; replace BK360 := bb_ BK360 hb; replace HB := bs_ w hb; clear hb hbox hg; have hnb23 := NB360_361.out; have hnc23 := NB361_360.out; obtain ⟨hcz24_0, hcz24_1, hcz24_2, hcz24_3, hcz24_4, hcz24_5, hfz24_0, hfz24_1, hfz24_2, hfz24_3, hfz24_4, hfz24_5⟩ := ce6_ BK360) | ((with_reducible refine gate_callee (f := 15) rfl ?_); refine goesA_ (some 15) Try.func15 #[.agg #[.int .i64 a0_0, .int .i64 a0_1, .int .i64 a0_2, .int .u64 a0_3, .int .u64 a0_4, .int .u64 a0_5]] ?_; (with_reducible refine (gcra_Check.calls k a0_0 a0_1 a0_2 a0_3 a0_4 a0_5 t362 _ A4.out).mono ?_); rintro e w25 ⟨rfl, hb⟩; refine ⟨_, rfl, ?_⟩; replace BK360 := bb_ BK360 hb; replace BK361 := bb_ BK361 hb; replace HB := bs_ w hb; (try clear hb); (try clear hb2); (try clear hk); (try clear hi); obtain ⟨hcz26_0, hcz26_1, hcz26_2, hcz26_3, hcz26_4, hcz26_5, hfz26_0, hfz26_1, hfz26_2, hfz26_3, hfz26_4, hfz26_5⟩ := ce6_ BK360) | ((with_reducible refine gate_callee (f := 47) rfl ?_); refine goesA_ (some 25) Try.func47 #[.agg #[.int .i64 a0_0, .int .i64 a0_1, .int .i64 a0_2, .int .u64 a0_3, .int .u64 a0_4, .int .u64 a0_5], .int .u64 a1] ?_; (with_reducible refine (gcra_moved.calls k a0_0 a0_1 a0_2 a0_3 a0_4 a0_5 a1 t363 t364 t365 t366 t367 t368 _ A13.out).mono ?_); rintro e w27 ⟨rfl, hb⟩; refine ⟨_, rfl, ?_⟩; replace BK360 := bb_ BK360 hb; replace BK361 := bb_ BK361 hb; replace HB := bs_ w hb; (try clear hb); (try clear hb2); (try clear hk); (try clear hi); obtain ⟨hcz28_0, hcz28_1, hcz28_2, hcz28_3, hcz28_4, hcz28_5, hfz28_0, hfz28_1, hfz28_2, hfz28_3, hfz28_4, hfz28_5⟩ := ce6_ BK360))
      have n0_ : Aside0 (((((((w27.setCell ⟨gb360, 0, none⟩ (.int .i64 t363)).setCell ⟨gb360, 1, none⟩ (.int .i64 t364)).setCell ⟨gb360, 2, none⟩ (.int .i64 t365)).setCell ⟨gb360, 3, none⟩ (.int .u64 t366)).setCell ⟨gb360, 4, none⟩ (.int .u64 t367)).setCell ⟨gb360, 5, none⟩ (.int .u64 t368)).heap[gb360]? = some (.cells #[.int .i64 t363, .int .i64 t364, .int .i64 t365, .int .u64 t366, .int .u64 t367, .int .u64 t368] 28 (0, 0))) := ⟨(blk_put (cs := #[.int .i64 t363, .int .i64 t364, .int .i64 t365, .int .u64 t366, .int .u64 t367, .int .u64 a0_5]) (blk_put (cs := #[.int .i64 t363, .int .i64 t364, .int .i64 t365, .int .u64 t366, .int .u64 a0_4, .int .u64 a0_5]) (blk_put (cs := #[.int .i64 t363, .int .i64 t364, .int .i64 t365, .int .u64 a0_3, .int .u64 a0_4, .int .u64 a0_5]) (blk_put (cs := #[.int .i64 t363, .int .i64 t364, .int .i64 a0_2, .int .u64 a0_3, .int .u64 a0_4, .int .u64 a0_5]) (blk_put (cs := #[.int .i64 t363, .int .i64 a0_1, .int .i64 a0_2, .int .u64 a0_3, .int .u64 a0_4, .int .u64 a0_5]) (blk_put (cs := #[.int .i64 a0_0, .int .i64 a0_1, .int .i64 a0_2, .int .u64 a0_3, .int .u64 a0_4, .int .u64 a0_5]) (bq_ BK360) 0 _ rfl) 1 _ rfl) 2 _ rfl) 3 _ rfl) 4 _ rfl) 5 _ rfl)⟩
      have n1_ : Aside0 (((((((w27.setCell ⟨gb360, 0, none⟩ (.int .i64 t363)).setCell ⟨gb360, 1, none⟩ (.int .i64 t364)).setCell ⟨gb360, 2, none⟩ (.int .i64 t365)).setCell ⟨gb360, 3, none⟩ (.int .u64 t366)).setCell ⟨gb360, 4, none⟩ (.int .u64 t367)).setCell ⟨gb360, 5, none⟩ (.int .u64 t368)).heap[gb361]? = some (.cells #[.int .i64 0, .int .i64 0, .int .i64 0, .int .u64 0, .int .u64 0, .int .u64 0] 28 (0, 0))) := ⟨(blk_far (blk_far (blk_far (blk_far (blk_far (blk_far (bq_ BK361) NB361_360.out _) NB361_360.out _) NB361_360.out _) NB361_360.out _) NB361_360.out _) NB361_360.out _)⟩
      have n2_ : Aside0 (Below w.heap.size w ((((((w27.setCell ⟨gb360, 0, none⟩ (.int .i64 t363)).setCell ⟨gb360, 1, none⟩ (.int .i64 t364)).setCell ⟨gb360, 2, none⟩ (.int .i64 t365)).setCell ⟨gb360, 3, none⟩ (.int .u64 t366)).setCell ⟨gb360, 4, none⟩ (.int .u64 t367)).setCell ⟨gb360, 5, none⟩ (.int .u64 t368))) := ⟨by repeat (first | (with_reducible first | exact HB.out | apply below_alloc | apply pw_below_drewN | apply below_drew1 | refine below_set ?_ GE360.out | refine below_set ?_ GE361.out) | exact HB.out)⟩
      (try clear BK360)
      (try clear BK361)
      (try clear HB)
      generalize ((((((w27.setCell ⟨gb360, 0, none⟩ (.int .i64 t363)).setCell ⟨gb360, 1, none⟩ (.int .i64 t364)).setCell ⟨gb360, 2, none⟩ (.int .i64 t365)).setCell ⟨gb360, 3, none⟩ (.int .u64 t366)).setCell ⟨gb360, 4, none⟩ (.int .u64 t367)).setCell ⟨gb360, 5, none⟩ (.int .u64 t368)) = w29 at n0_ n1_ n2_ ⊢
      have BK360 := n0_
      have BK361 := n1_
      have HB := n2_
      clear n0_ n1_ n2_
      replace BK360 := Aside0.mk (blk_drew BK360.out)
      replace BK361 := Aside0.mk (blk_drew BK361.out)
      replace HB := Aside0.mk (below_drew1 HB.out)
      refine start_ (n := 13) (S := fun w' => w'.cell? ⟨gb360, 0, none⟩ = some (.int .i64 t363) ∧ w'.cell? ⟨gb360, 1, none⟩ = some (.int .i64 t364) ∧ w'.cell? ⟨gb360, 2, none⟩ = some (.int .i64 t365) ∧ w'.cell? ⟨gb360, 3, none⟩ = some (.int .u64 t366) ∧ w'.cell? ⟨gb360, 4, none⟩ = some (.int .u64 t367) ∧ w'.cell? ⟨gb360, 5, none⟩ = some (.int .u64 t368)) (ds := []) #[false, false, false, false, false, false, false, false, false, false, false, false, false] (by kernel_rfl) rfl rfl ⟨(blk_cell BK360.out 0).trans rfl, (blk_cell BK360.out 1).trans rfl, (blk_cell BK360.out 2).trans rfl, (blk_cell BK360.out 3).trans rfl, (blk_cell BK360.out 4).trans rfl, (blk_cell BK360.out 5).trans rfl⟩ (fun hHeld => ?_); refine with_tabW gcra_Ask.tab7 gcra_Ask.bits7 (fun HT_ HW_ => ?_)
      generalize w29.drew = w30 at BK360 BK361 HB hHeld ⊢
      refine pure_ (i := 0) (N := some 27) (v := ?_) (a' := ?_) #[true, false, false, false, false, false, false, false, false, false, false, false, false] rfl rfl (any_of HT_.out (by kernel_rfl)) (fun _ _ _ h => h) (Or.inl ⟨by rfl, ?_⟩) ?_ ?_
      rotate_left
      ·intro w'
       go_simp
       with_reducible rfl
      rotate_left
      ·simp only [Act.put, List.setIfInBounds_toArray, List.set_cons_zero, List.set_cons_succ, i64_w, i32_w]
       rfl
      refine pure_ (i := 2) (N := some 29) (v := ?_) (a' := ?_) #[true, false, true, false, false, false, false, false, false, false, false, false, false] rfl rfl (any_of HT_.out (by kernel_rfl)) (fun _ _ _ h => h) (Or.inl ⟨by rfl, ?_⟩) ?_ ?_
      rotate_left
      ·intro w'
       go_simp
       with_reducible rfl
      rotate_left
      ·simp only [Act.put, List.setIfInBounds_toArray, List.set_cons_zero, List.set_cons_succ, i64_w, i32_w]
       rfl
      refine pure_ (i := 4) (N := some 31) (v := ?_) (a' := ?_) #[true, false, true, false, true, false, false, false, false, false, false, false, false] rfl rfl (any_of HT_.out (by kernel_rfl)) (fun _ _ _ h => h) (Or.inl ⟨by rfl, ?_⟩) ?_ ?_
      rotate_left
      ·intro w'
       go_simp
       with_reducible rfl
      rotate_left
      ·simp only [Act.put, List.setIfInBounds_toArray, List.set_cons_zero, List.set_cons_succ, i64_w, i32_w]
       rfl
      refine take_ (i := 1) (N := some 28) (v := ?_) (a' := ?_) #[true, true, true, false, true, false, false, false, false, false, false, false, false] rfl rfl (take_ofW HT_.out HW_.out (by kernel_rfl)) (fun _ _ _ h => h) (Or.inl ⟨by rfl, ?_⟩) hHeld ?_ ?_
      rotate_left
      ·rintro w' ⟨s0, s1, s2, s3, s4, s5⟩
       go_simp
       with_reducible rfl
      rotate_left
      ·simp only [Act.put, List.setIfInBounds_toArray, List.set_cons_zero, List.set_cons_succ, i64_w, i32_w]
       rfl
      refine take_ (i := 3) (N := some 30) (v := ?_) (a' := ?_) #[true, true, true, true, true, false, false, false, false, false, false, false, false] rfl rfl (take_ofW HT_.out HW_.out (by kernel_rfl)) (fun _ _ _ h => h) (Or.inl ⟨by rfl, ?_⟩) hHeld ?_ ?_
      rotate_left
      ·rintro w' ⟨s0, s1, s2, s3, s4, s5⟩
       go_simp
       with_reducible rfl
      rotate_left
      ·simp only [Act.put, List.setIfInBounds_toArray, List.set_cons_zero, List.set_cons_succ, i64_w, i32_w]
       rfl
      refine join_ (σ := Nat) 2 #[true, true, true, true, true, true, true, true, true, true, true, false, false] (fun s_ => [(32, .agg #[.int .u64 t369, .int .u64 t370]), (33, .tuple #[.agg #[.int .u64 t371, .int .u64 t372], .int .i64 t373]), (10, .pointer (some ⟨s_, 0, none⟩)), (26, .tuple #[.agg #[.int .u64 t371, .int .u64 t372], .int .i64 t373]), (34, .agg #[.int .u64 t371, .int .u64 t372]), (35, .int .i64 t373)]) (fun s_ w' => (w'.cell? ⟨gb360, 0, none⟩ = some (.int .i64 t363) ∧ w'.cell? ⟨gb360, 1, none⟩ = some (.int .i64 t364) ∧ w'.cell? ⟨gb360, 2, none⟩ = some (.int .i64 t365) ∧ w'.cell? ⟨gb360, 3, none⟩ = some (.int .u64 t366) ∧ w'.cell? ⟨gb360, 4, none⟩ = some (.int .u64 t367) ∧ w'.cell? ⟨gb360, 5, none⟩ = some (.int .u64 t368)) ∧ (w'.heap[gb360]? = some (.cells #[.int .i64 t363, .int .i64 t364, .int .i64 t365, .int .u64 t366, .int .u64 t367, .int .u64 t368] 28 (0, 0))) ∧ (w'.heap[gb361]? = some (.cells #[.int .i64 0, .int .i64 0, .int .i64 0, .int .u64 0, .int .u64 0, .int .u64 0] 28 (0, 0))) ∧ (w'.heap[s_]? = some (.cells #[.int .u64 0, .int .u64 0] 26 (0, 0))) ∧ (w.heap.size ≤ s_) ∧ (w.heap.size ≤ s_) ∧ (gb360 ≠ s_) ∧ (s_ ≠ gb360) ∧ (gb361 ≠ s_) ∧ (s_ ≠ gb361) ∧ (Below w.heap.size w w')) ?_ ?_
      rotate_left
      ·intro hCont
       refine two_ (i := 5) (j := 10) (Ni := some 32) (Nj := some 10) #[true, true, true, true, true, true, false, false, false, false, false, false, false] #[true, true, true, true, true, false, false, false, false, false, true, false, false] rfl rfl rfl rfl (two_of HT_.out (by kernel_rfl)) (by decide) (by decide) (fun K hK => ?_) (fun K hK => ?_)
       ·skip
        refine goes_ Try.func36 (by kernel_rfl) rfl #[.agg #[.int .i64 t363, .int .i64 t364, .int .i64 t365], .int .i64 a2] (by rfl) rfl rfl (by (try simp only [List.map_toArray, List.map_cons, List.map_nil]); first | done | rfl | (simp only [List.length_drop, List.length_take]; rfl)) ?_
        with_reducible refine (gcra_tokens.calls t363 t364 t365 a2 t369 t370 _ A14.out).mono ?_
        rintro e w31 ⟨rfl, hb⟩
        refine ⟨_, rfl, ?_⟩
        replace BK360 := bb_ BK360 hb
        replace BK361 := bb_ BK361 hb
        replace HB := bs_ w hb
        (try clear hb)
        (try clear hb2)
        (try clear hk)
        (try clear hi)
        refine hK.out _ _ ⟨(blk_cell BK360.out 0).trans rfl, (blk_cell BK360.out 1).trans rfl, (blk_cell BK360.out 2).trans rfl, (blk_cell BK360.out 3).trans rfl, (blk_cell BK360.out 4).trans rfl, (blk_cell BK360.out 5).trans rfl⟩ (fun hHeld => ?_)
        clear hK K
        refine norm_ (a' := ?_) ?_ ?_
        rotate_left
        ·show Act.put _ (some 32) _ = _
         simp only [Act.put, List.setIfInBounds_toArray, List.set_cons_zero, List.set_cons_succ, i64_w, i32_w]
         rfl
        refine two_ (i := 6) (j := 10) (Ni := some 33) (Nj := some 10) #[true, true, true, true, true, true, true, false, false, false, false, false, false] #[true, true, true, true, true, true, false, false, false, false, true, false, false] rfl rfl rfl rfl (two_of HT_.out (by kernel_rfl)) (by decide) (by decide) (fun K hK => ?_) (fun K hK => ?_)
        ·skip
         refine goes_ Try.func48 (by kernel_rfl) rfl #[.agg #[.int .u64 t366, .int .u64 t367], .agg #[.int .u64 t369, .int .u64 t370]] (by rfl) rfl rfl (by (try simp only [List.map_toArray, List.map_cons, List.map_nil]); first | done | rfl | (simp only [List.length_drop, List.length_take]; rfl)) ?_
         with_reducible refine (wide_Add.calls t366 t367 t369 t370 t371 t372 t373 _ A15.out).mono ?_
         rintro e w32 ⟨rfl, hb⟩
         refine ⟨_, rfl, ?_⟩
         replace BK360 := bb_ BK360 hb
         replace BK361 := bb_ BK361 hb
         replace HB := bs_ w hb
         (try clear hb)
         (try clear hb2)
         (try clear hk)
         (try clear hi)
         refine hK.out _ _ ⟨(blk_cell BK360.out 0).trans rfl, (blk_cell BK360.out 1).trans rfl, (blk_cell BK360.out 2).trans rfl, (blk_cell BK360.out 3).trans rfl, (blk_cell BK360.out 4).trans rfl, (blk_cell BK360.out 5).trans rfl⟩ (fun hHeld => ?_)
         clear hK K
         refine norm_ (a' := ?_) ?_ ?_
         rotate_left
         ·show Act.put _ (some 33) _ = _
          simp only [Act.put, List.setIfInBounds_toArray, List.set_cons_zero, List.set_cons_succ, i64_w, i32_w]
          rfl
         refine pure_ (i := 7) (N := some 26) (v := ?_) (a' := ?_) #[true, true, true, true, true, true, true, true, false, false, false, false, false] rfl rfl (any_of HT_.out (by kernel_rfl)) (fun _ _ _ h => h) (Or.inl ⟨by rfl, ?_⟩) ?_ ?_
         rotate_left
         ·intro w'
          go_simp
          with_reducible rfl
         rotate_left
         ·simp only [Act.put, List.setIfInBounds_toArray, List.set_cons_zero, List.set_cons_succ, i64_w, i32_w]
          rfl
         refine pure_ (i := 8) (N := some 34) (v := ?_) (a' := ?_) #[true, true, true, true, true, true, true, true, true, false, false, false, false] rfl rfl (any_of HT_.out (by kernel_rfl)) (fun _ _ _ h => h) (Or.inl ⟨by rfl, ?_⟩) ?_ ?_
         rotate_left
         ·intro w'
          go_simp
          with_reducible rfl
         rotate_left
         ·simp only [Act.put, List.setIfInBounds_toArray, List.set_cons_zero, List.set_cons_succ, i64_w, i32_w]
          rfl
         refine pure_ (i := 9) (N := some 35) (v := ?_) (a' := ?_) #[true, true, true, true, true, true, true, true, true, true, false, false, false] rfl rfl (any_of HT_.out (by kernel_rfl)) (fun _ _ _ h => h) (Or.inl ⟨by rfl, ?_⟩) ?_ ?_
         rotate_left
         ·intro w'
          go_simp
          with_reducible rfl
         rotate_left
         ·simp only [Act.put, List.setIfInBounds_toArray, List.set_cons_zero, List.set_cons_succ, i64_w, i32_w]
          rfl
         refine one_ (i := 10) (N := some 10) #[true, true, true, true, true, true, true, true, true, true, true, false, false] rfl rfl (one_of HT_.out (by kernel_rfl)) (by decide) (fun K hK => ?_)
         refine box_step ?hg (N := 10) ?hd (cs := #[.int .u64 0, .int .u64 0]) (t := 26) ?hr ?_; (case hd => rfl); (case hg => rfl); (case hr => first | (go_simp; done) | (go_simp; rfl))
         intro gb374 hg w33 hbox hb
         have BK374 := Aside0.mk (hbox)
         have GW374 := bz_ w hg
         have GE374 := GW374
         have NB360_374 := bn_ BK360 hg
         have NB374_360 := bm_ BK360 hg
         have NB361_374 := bn_ BK361 hg
         have NB374_361 := bm_ BK361 hg
         replace BK360 := bb_ BK360 hb
         replace BK361 := bb_ BK361 hb
         replace HB := bs_ w hb
         clear hb hbox hg
         refine hK.out _ _ ⟨(blk_cell BK360.out 0).trans rfl, (blk_cell BK360.out 1).trans rfl, (blk_cell BK360.out 2).trans rfl, (blk_cell BK360.out 3).trans rfl, (blk_cell BK360.out 4).trans rfl, (blk_cell BK360.out 5).trans rfl⟩ (fun hHeld => ?_)
         clear hK K
         refine norm_ (a' := ?_) ?_ ?_
         rotate_left
         ·show Act.put _ (some 10) _ = _
          simp only [Act.put, List.setIfInBounds_toArray, List.set_cons_zero, List.set_cons_succ, i64_w, i32_w]
          rfl
         exact norm_ (by simp only [putAll, Act.put, List.setIfInBounds_toArray, List.set_cons_zero, List.set_cons_succ]) (hCont (gb374) _ ⟨hHeld, (bq_ BK360), (bq_ BK361), (bq_ BK374), GW374.out, GE374.out, NB360_374.out, NB374_360.out, NB361_374.out, NB374_361.out, (by repeat (first | (with_reducible first | exact HB.out | apply below_alloc | apply pw_below_drewN | apply below_drew1 | refine below_set ?_ (Aside0.out (by assumption))) | exact HB.out))⟩)
        ·skip
         refine box_step ?hg (N := 10) ?hd (cs := #[.int .u64 0, .int .u64 0]) (t := 26) ?hr ?_; (case hd => rfl); (case hg => rfl); (case hr => first | (go_simp; done) | (go_simp; rfl))
         intro gb374 hg w32 hbox hb
         have BK374 := Aside0.mk (hbox)
         have GW374 := bz_ w hg
         have GE374 := GW374
         have NB360_374 := bn_ BK360 hg
         have NB374_360 := bm_ BK360 hg
         have NB361_374 := bn_ BK361 hg
         have NB374_361 := bm_ BK361 hg
         replace BK360 := bb_ BK360 hb
         replace BK361 := bb_ BK361 hb
         replace HB := bs_ w hb
         clear hb hbox hg
         refine hK.out _ _ ⟨(blk_cell BK360.out 0).trans rfl, (blk_cell BK360.out 1).trans rfl, (blk_cell BK360.out 2).trans rfl, (blk_cell BK360.out 3).trans rfl, (blk_cell BK360.out 4).trans rfl, (blk_cell BK360.out 5).trans rfl⟩ (fun hHeld => ?_)
         clear hK K
         refine norm_ (a' := ?_) ?_ ?_
         rotate_left
         ·show Act.put _ (some 10) _ = _
          simp only [Act.put, List.setIfInBounds_toArray, List.set_cons_zero, List.set_cons_succ, i64_w, i32_w]
          rfl
         refine one_ (i := 6) (N := some 33) #[true, true, true, true, true, true, true, false, false, false, true, false, false] rfl rfl (one_of HT_.out (by kernel_rfl)) (by decide) (fun K hK => ?_)
         refine goes_ Try.func48 (by kernel_rfl) rfl #[.agg #[.int .u64 t366, .int .u64 t367], .agg #[.int .u64 t369, .int .u64 t370]] (by rfl) rfl rfl (by (try simp only [List.map_toArray, List.map_cons, List.map_nil]); first | done | rfl | (simp only [List.length_drop, List.length_take]; rfl)) ?_
         with_reducible refine (wide_Add.calls t366 t367 t369 t370 t371 t372 t373 _ A15.out).mono ?_
         rintro e w33 ⟨rfl, hb⟩
         refine ⟨_, rfl, ?_⟩
         replace BK360 := bb_ BK360 hb
         replace BK361 := bb_ BK361 hb
         replace BK374 := bb_ BK374 hb
         replace HB := bs_ w hb
         (try clear hb)
         (try clear hb2)
         (try clear hk)
         (try clear hi)
         refine hK.out _ _ ⟨(blk_cell BK360.out 0).trans rfl, (blk_cell BK360.out 1).trans rfl, (blk_cell BK360.out 2).trans rfl, (blk_cell BK360.out 3).trans rfl, (blk_cell BK360.out 4).trans rfl, (blk_cell BK360.out 5).trans rfl⟩ (fun hHeld => ?_)
         clear hK K
         refine norm_ (a' := ?_) ?_ ?_
         rotate_left
         ·show Act.put _ (some 33) _ = _
          simp only [Act.put, List.setIfInBounds_toArray, List.set_cons_zero, List.set_cons_succ, i64_w, i32_w]
          rfl
         refine pure_ (i := 7) (N := some 26) (v := ?_) (a' := ?_) #[true, true, true, true, true, true, true, true, false, false, true, false, false] rfl rfl (any_of HT_.out (by kernel_rfl)) (fun _ _ _ h => h) (Or.inl ⟨by rfl, ?_⟩) ?_ ?_
         rotate_left
         ·intro w'
          go_simp
          with_reducible rfl
         rotate_left
         ·simp only [Act.put, List.setIfInBounds_toArray, List.set_cons_zero, List.set_cons_succ, i64_w, i32_w]
          rfl
         refine pure_ (i := 8) (N := some 34) (v := ?_) (a' := ?_) #[true, true, true, true, true, true, true, true, true, false, true, false, false] rfl rfl (any_of HT_.out (by kernel_rfl)) (fun _ _ _ h => h) (Or.inl ⟨by rfl, ?_⟩) ?_ ?_
         rotate_left
         ·intro w'
          go_simp
          with_reducible rfl
         rotate_left
         ·simp only [Act.put, List.setIfInBounds_toArray, List.set_cons_zero, List.set_cons_succ, i64_w, i32_w]
          rfl
         refine pure_ (i := 9) (N := some 35) (v := ?_) (a' := ?_) #[true, true, true, true, true, true, true, true, true, true, true, false, false] rfl rfl (any_of HT_.out (by kernel_rfl)) (fun _ _ _ h => h) (Or.inl ⟨by rfl, ?_⟩) ?_ ?_
         rotate_left
         ·intro w'
          go_simp
          with_reducible rfl
         rotate_left
         ·simp only [Act.put, List.setIfInBounds_toArray, List.set_cons_zero, List.set_cons_succ, i64_w, i32_w]
          rfl
         exact norm_ (by simp only [putAll, Act.put, List.setIfInBounds_toArray, List.set_cons_zero, List.set_cons_succ]) (hCont (gb374) _ ⟨hHeld, (bq_ BK360), (bq_ BK361), (bq_ BK374), GW374.out, GE374.out, NB360_374.out, NB374_360.out, NB361_374.out, NB374_361.out, (by repeat (first | (with_reducible first | exact HB.out | apply below_alloc | apply pw_below_drewN | apply below_drew1 | refine below_set ?_ (Aside0.out (by assumption))) | exact HB.out))⟩)
       ·skip
        refine box_step ?hg (N := 10) ?hd (cs := #[.int .u64 0, .int .u64 0]) (t := 26) ?hr ?_; (case hd => rfl); (case hg => rfl); (case hr => first | (go_simp; done) | (go_simp; rfl))
        intro gb374 hg w31 hbox hb
        have BK374 := Aside0.mk (hbox)
        have GW374 := bz_ w hg
        have GE374 := GW374
        have NB360_374 := bn_ BK360 hg
        have NB374_360 := bm_ BK360 hg
        have NB361_374 := bn_ BK361 hg
        have NB374_361 := bm_ BK361 hg
        replace BK360 := bb_ BK360 hb
        replace BK361 := bb_ BK361 hb
        replace HB := bs_ w hb
        clear hb hbox hg
        refine hK.out _ _ ⟨(blk_cell BK360.out 0).trans rfl, (blk_cell BK360.out 1).trans rfl, (blk_cell BK360.out 2).trans rfl, (blk_cell BK360.out 3).trans rfl, (blk_cell BK360.out 4).trans rfl, (blk_cell BK360.out 5).trans rfl⟩ (fun hHeld => ?_)
        clear hK K
        refine norm_ (a' := ?_) ?_ ?_
        rotate_left
        ·show Act.put _ (some 10) _ = _
         simp only [Act.put, List.setIfInBounds_toArray, List.set_cons_zero, List.set_cons_succ, i64_w, i32_w]
         rfl
        refine one_ (i := 5) (N := some 32) #[true, true, true, true, true, true, false, false, false, false, true, false, false] rfl rfl (one_of HT_.out (by kernel_rfl)) (by decide) (fun K hK => ?_)
        refine goes_ Try.func36 (by kernel_rfl) rfl #[.agg #[.int .i64 t363, .int .i64 t364, .int .i64 t365], .int .i64 a2] (by rfl) rfl rfl (by (try simp only [List.map_toArray, List.map_cons, List.map_nil]); first | done | rfl | (simp only [List.length_drop, List.length_take]; rfl)) ?_
        with_reducible refine (gcra_tokens.calls t363 t364 t365 a2 t369 t370 _ A14.out).mono ?_
        rintro e w32 ⟨rfl, hb⟩
        refine ⟨_, rfl, ?_⟩
        replace BK360 := bb_ BK360 hb
        replace BK361 := bb_ BK361 hb
        replace BK374 := bb_ BK374 hb
        replace HB := bs_ w hb
        (try clear hb)
        (try clear hb2)
        (try clear hk)
        (try clear hi)
        refine hK.out _ _ ⟨(blk_cell BK360.out 0).trans rfl, (blk_cell BK360.out 1).trans rfl, (blk_cell BK360.out 2).trans rfl, (blk_cell BK360.out 3).trans rfl, (blk_cell BK360.out 4).trans rfl, (blk_cell BK360.out 5).trans rfl⟩ (fun hHeld => ?_)
        clear hK K
        refine norm_ (a' := ?_) ?_ ?_
        rotate_left
        ·show Act.put _ (some 32) _ = _
         simp only [Act.put, List.setIfInBounds_toArray, List.set_cons_zero, List.set_cons_succ, i64_w, i32_w]
         rfl
        refine one_ (i := 6) (N := some 33) #[true, true, true, true, true, true, true, false, false, false, true, false, false] rfl rfl (one_of HT_.out (by kernel_rfl)) (by decide) (fun K hK => ?_)
        refine goes_ Try.func48 (by kernel_rfl) rfl #[.agg #[.int .u64 t366, .int .u64 t367], .agg #[.int .u64 t369, .int .u64 t370]] (by rfl) rfl rfl (by (try simp only [List.map_toArray, List.map_cons, List.map_nil]); first | done | rfl | (simp only [List.length_drop, List.length_take]; rfl)) ?_
        with_reducible refine (wide_Add.calls t366 t367 t369 t370 t371 t372 t373 _ A15.out).mono ?_
        rintro e w33 ⟨rfl, hb⟩
        refine ⟨_, rfl, ?_⟩
        replace BK360 := bb_ BK360 hb
        replace BK361 := bb_ BK361 hb
        replace BK374 := bb_ BK374 hb
        replace HB := bs_ w hb
        (try clear hb)
        (try clear hb2)
        (try clear hk)
        (try clear hi)
        refine hK.out _ _ ⟨(blk_cell BK360.out 0).trans rfl, (blk_cell BK360.out 1).trans rfl, (blk_cell BK360.out 2).trans rfl, (blk_cell BK360.out 3).trans rfl, (blk_cell BK360.out 4).trans rfl, (blk_cell BK360.out 5).trans rfl⟩ (fun hHeld => ?_)
        clear hK K
        refine norm_ (a' := ?_) ?_ ?_
        rotate_left
        ·show Act.put _ (some 33) _ = _
         simp only [Act.put, List.setIfInBounds_toArray, List.set_cons_zero, List.set_cons_succ, i64_w, i32_w]
         rfl
        refine pure_ (i := 7) (N := some 26) (v := ?_) (a' := ?_) #[true, true, true, true, true, true, true, true, false, false, true, false, false] rfl rfl (any_of HT_.out (by kernel_rfl)) (fun _ _ _ h => h) (Or.inl ⟨by rfl, ?_⟩) ?_ ?_
        rotate_left
        ·intro w'
         go_simp
         with_reducible rfl
        rotate_left
        ·simp only [Act.put, List.setIfInBounds_toArray, List.set_cons_zero, List.set_cons_succ, i64_w, i32_w]
         rfl
        refine pure_ (i := 8) (N := some 34) (v := ?_) (a' := ?_) #[true, true, true, true, true, true, true, true, true, false, true, false, false] rfl rfl (any_of HT_.out (by kernel_rfl)) (fun _ _ _ h => h) (Or.inl ⟨by rfl, ?_⟩) ?_ ?_
        rotate_left
        ·intro w'
         go_simp
         with_reducible rfl
        rotate_left
        ·simp only [Act.put, List.setIfInBounds_toArray, List.set_cons_zero, List.set_cons_succ, i64_w, i32_w]
         rfl
        refine pure_ (i := 9) (N := some 35) (v := ?_) (a' := ?_) #[true, true, true, true, true, true, true, true, true, true, true, false, false] rfl rfl (any_of HT_.out (by kernel_rfl)) (fun _ _ _ h => h) (Or.inl ⟨by rfl, ?_⟩) ?_ ?_
        rotate_left
        ·intro w'
         go_simp
         with_reducible rfl
        rotate_left
        ·simp only [Act.put, List.setIfInBounds_toArray, List.set_cons_zero, List.set_cons_succ, i64_w, i32_w]
         rfl
        exact norm_ (by simp only [putAll, Act.put, List.setIfInBounds_toArray, List.set_cons_zero, List.set_cons_succ]) (hCont (gb374) _ ⟨hHeld, (bq_ BK360), (bq_ BK361), (bq_ BK374), GW374.out, GE374.out, NB360_374.out, NB374_360.out, NB361_374.out, NB374_361.out, (by repeat (first | (with_reducible first | exact HB.out | apply below_alloc | apply pw_below_drewN | apply below_drew1 | refine below_set ?_ (Aside0.out (by assumption))) | exact HB.out))⟩)
      rintro gb374 w34 ⟨hS_, h0_, h1_, h2_, h3_, h4_, h5_, h6_, h7_, h8_, h9_⟩
      have BK374 : Aside0 (w34.heap[gb374]? = some (.cells #[.int .u64 0, .int .u64 0] 26 (0, 0))) := ⟨h2_⟩
      have GW374 : Aside0 (w.heap.size ≤ gb374) := ⟨h3_⟩
      have GE374 : Aside0 (w.heap.size ≤ gb374) := ⟨h4_⟩
      have NB360_374 : Aside0 (gb360 ≠ gb374) := ⟨h5_⟩
      have NB374_360 : Aside0 (gb374 ≠ gb360) := ⟨h6_⟩
      have NB361_374 : Aside0 (gb361 ≠ gb374) := ⟨h7_⟩
      have NB374_361 : Aside0 (gb374 ≠ gb361) := ⟨h8_⟩
      replace BK360 : Aside0 (w34.heap[gb360]? = some (.cells #[.int .i64 t363, .int .i64 t364, .int .i64 t365, .int .u64 t366, .int .u64 t367, .int .u64 t368] 28 (0, 0))) := ⟨h0_⟩
      replace BK361 : Aside0 (w34.heap[gb361]? = some (.cells #[.int .i64 0, .int .i64 0, .int .i64 0, .int .u64 0, .int .u64 0, .int .u64 0] 28 (0, 0))) := ⟨h1_⟩
      replace HB : Aside0 (Below w.heap.size w w34) := ⟨h9_⟩
      clear h0_ h1_ h2_ h3_ h4_ h5_ h6_ h7_ h8_ h9_
      have hHeld : w34.cell? ⟨gb360, 0, none⟩ = some (.int .i64 t363) ∧ w34.cell? ⟨gb360, 1, none⟩ = some (.int .i64 t364) ∧ w34.cell? ⟨gb360, 2, none⟩ = some (.int .i64 t365) ∧ w34.cell? ⟨gb360, 3, none⟩ = some (.int .u64 t366) ∧ w34.cell? ⟨gb360, 4, none⟩ = some (.int .u64 t367) ∧ w34.cell? ⟨gb360, 5, none⟩ = some (.int .u64 t368) := hS_
      refine norm_ (a' := ?_) ?_ ?_
      rotate_left
      ·simp only [putAll, Act.put, List.setIfInBounds_toArray, List.set_cons_zero, List.set_cons_succ]
       rfl
      refine one_ (i := 11) (N := none) #[true, true, true, true, true, true, true, true, true, true, true, true, false] rfl rfl (one_of HT_.out (by kernel_rfl)) (by decide) (fun K hK => ?_)
      have hs35 : w34.cell? ⟨gb374, 0, none⟩ = some (.int .u64 0) := (blk_cell BK374.out 0).trans rfl
      have hfs35 := blk_frozen BK374.out 0
      have hns35_0 := NB360_374.out
      have hns35_1 := NB361_374.out
      have hms35_0 := NB374_360.out
      have hms35_1 := NB374_361.out
      have hs36 : w34.cell? ⟨gb374, 1, none⟩ = some (.int .u64 0) := (blk_cell BK374.out 1).trans rfl
      have hfs36 := blk_frozen BK374.out 1
      have hns36_0 := NB360_374.out
      have hns36_1 := NB361_374.out
      have hms36_0 := NB374_360.out
      have hms36_1 := NB374_361.out
      refine skip_ (w1 := ?_) (by rfl) rfl ?_ ?_
      rotate_left
      ·go_simp
       rfl
      refine hK.out _ _ ⟨((cell_far (p := ⟨gb374, _, none⟩) NB360_374.out _).trans (((cell_far (p := ⟨gb374, _, none⟩) NB360_374.out _).trans (hHeld.1)))), ((cell_far (p := ⟨gb374, _, none⟩) NB360_374.out _).trans (((cell_far (p := ⟨gb374, _, none⟩) NB360_374.out _).trans (hHeld.2.1)))), ((cell_far (p := ⟨gb374, _, none⟩) NB360_374.out _).trans (((cell_far (p := ⟨gb374, _, none⟩) NB360_374.out _).trans (hHeld.2.2.1)))), ((cell_far (p := ⟨gb374, _, none⟩) NB360_374.out _).trans (((cell_far (p := ⟨gb374, _, none⟩) NB360_374.out _).trans (hHeld.2.2.2.1)))), ((cell_far (p := ⟨gb374, _, none⟩) NB360_374.out _).trans (((cell_far (p := ⟨gb374, _, none⟩) NB360_374.out _).trans (hHeld.2.2.2.2.1)))), ((cell_far (p := ⟨gb374, _, none⟩) NB360_374.out _).trans (((cell_far (p := ⟨gb374, _, none⟩) NB360_374.out _).trans (hHeld.2.2.2.2.2))))⟩ (fun hHeld => ?_)
      clear hK K
      refine pure_ (i := 12) (N := some 11) (v := ?_) (a' := ?_) #[true, true, true, true, true, true, true, true, true, true, true, true, true] rfl rfl (any_of HT_.out (by kernel_rfl)) (fun _ _ _ h => h) (Or.inl ⟨by rfl, ?_⟩) ?_ ?_
      rotate_left
      ·intro w'
       go_simp
       with_reducible rfl
      rotate_left
      ·simp only [Act.put, List.setIfInBounds_toArray, List.set_cons_zero, List.set_cons_succ, i64_w, i32_w]
       rfl
      refine done_ (done_of HT_.out (by kernel_rfl)) ?_
      have hnb37 := NB360_374.out
      have hnc37 := NB374_360.out
      obtain ⟨hcz38_0, hcz38_1, hcz38_2, hcz38_3, hcz38_4, hcz38_5, hfz38_0, hfz38_1, hfz38_2, hfz38_3, hfz38_4, hfz38_5⟩ := ce6_ BK360
      try go_wp2_with (first | ((with_reducible refine gate_callee (f := 35) rfl ?_); refine goesA_ (some 41) Try.func35 #[.agg #[.int .i64 t363, .int .i64 t364, .int .i64 t365], .int .u64 t368] ?_; (with_reducible refine (gcra_end.calls t363 t364 t365 t368 t375 t376 t377 _ A16.out).mono ?_); rintro e w39 ⟨rfl, hb⟩; refine ⟨_, rfl, ?_⟩; replace BK360 := bf_ BK360 hb; replace BK361 := bf_ BK361 hb; replace BK374 := Aside0.mk (blk_below (g := gb374) (o := .cells #[.int .u64 t371, .int .u64 t372] 26 (0, 0)) (blk_put (cs := #[.int .u64 t371, .int .u64 0]) (blk_put (cs := #[.int .u64 0, .int .u64 0]) (bq_ BK374) 0 _ rfl) 1 _ rfl) hb); replace HB := bs_ w hb; (try clear hb); (try clear hb2); (try clear hk); (try clear hi)) | ((with_reducible refine gate_dst (N := 12) rfl ?_); refine box_event ?hg (N := 12) ?hd (cs := #[.int .u64 0, .int .u64 0]) (t := 26) ?hr ?_; (case hd => rfl); (case hg => rfl); (case hr => first | (go_simp; done) | (go_simp; rfl)); intro gb378 hg w40 hbox hb; have BK378 := Aside0.mk (hbox); have GW378 := bz_ w hg; have GE378 := GW378; have NB360_378 := bn_ BK360 hg; have NB378_360 := bm_ BK360 hg; have NB361_378 := bn_ BK361 hg; have NB378_361 := bm_ BK361 hg; have NB374_378 := bn_ BK374 hg; have NB378_374 := bm_ BK374 hg; replace BK360 := bb_ BK360 hb; replace BK361 := bb_ BK361 hb; replace BK374 := bb_ BK374 hb; replace HB := bs_ w hb; clear hb hbox hg; have hnb41 := NB378_360.out; have hnc41 := NB360_378.out; have hnb42 := NB378_361.out; have hnc42 := NB361_378.out; have hnb43 := NB378_374.out; have hnc43 := NB374_378.out; obtain ⟨hcz44_0, hcz44_1, hfz44_0, hfz44_1⟩ := ce2_ BK378; have hnb45 := NB374_361.out; have hnc45 := NB361_374.out; obtain ⟨hcz46_0, hcz46_1, hfz46_0, hfz46_1⟩ := ce2_ BK374) | (go_at_call 45; (with_reducible refine (wide_Cmp.calls k t371 t372 t375 t376 t379 _ A19.out).mono ?_); rintro e w47 ⟨rfl, hb⟩; replace BK360 := bf_ BK360 hb; replace BK361 := bf_ BK361 hb; replace BK374 := bf_ BK374 hb; replace BK378 := Aside0.mk (blk_below (g := gb378) (o := .cells #[.int .u64 t375, .int .u64 t376] 26 (0, 0)) (blk_put (cs := #[.int .u64 t375, .int .u64 0]) (blk_put (cs := #[.int .u64 0, .int .u64 0]) (bq_ BK378) 0 _ rfl) 1 _ rfl) hb); replace HB := bs_ w hb; (try clear hb); (try clear hb2); (try clear hk); (try clear hi); obtain ⟨hcz48_0, hcz48_1, hcz48_2, hcz48_3, hcz48_4, hcz48_5, hfz48_0, hfz48_1, hfz48_2, hfz48_3, hfz48_4, hfz48_5⟩ := ce6_ BK360; obtain ⟨hcz49_0, hcz49_1, hcz49_2, hcz49_3, hcz49_4, hcz49_5, hfz49_0, hfz49_1, hfz49_2, hfz49_3, hfz49_4, hfz49_5⟩ := ce6_ BK361))
      refine bodyPost_ret (results_ctt rfl _ _ gb361 28 #[.int .i64 t363, .int .i64 t364, .int .i64 t365, .int .u64 t366, .int .u64 t367, .int .u64 t368] (0, 0) _ rfl (blk_put (cs := #[.int .i64 t363, .int .i64 t364, .int .i64 t365, .int .u64 t366, .int .u64 t367, .int .u64 0]) (blk_put (cs := #[.int .i64 t363, .int .i64 t364, .int .i64 t365, .int .u64 t366, .int .u64 0, .int .u64 0]) (blk_put (cs := #[.int .i64 t363, .int .i64 t364, .int .i64 t365, .int .u64 0, .int .u64 0, .int .u64 0]) (blk_put (cs := #[.int .i64 t363, .int .i64 t364, .int .i64 0, .int .u64 0, .int .u64 0, .int .u64 0]) (blk_put (cs := #[.int .i64 t363, .int .i64 0, .int .i64 0, .int .u64 0, .int .u64 0, .int .u64 0]) (blk_put (cs := #[.int .i64 0, .int .i64 0, .int .i64 0, .int .u64 0, .int .u64 0, .int .u64 0]) (bq_ BK361) 0 _ rfl) 1 _ rfl) 2 _ rfl) 3 _ rfl) 4 _ rfl) 5 _ rfl) Try.underlying28 rfl (by kernel_rfl)) rfl ?_
      exact ⟨by first | rfl | (simp [errW_none, errW_some] <;> rfl) | (simp [*, errW_none, errW_some] <;> rfl), by repeat (first | (with_reducible first | exact HB.out | apply below_alloc | apply pw_below_drewN | apply below_drew1 | refine below_set ?_ GE360.out | refine below_set ?_ GE361.out | refine below_set ?_ GE374.out | refine below_set ?_ GE378.out) | exact HB.out)⟩
     ·rw [if_neg c20] at H
      have c20b0 : decide (0 < t379) = false := decide_eq_false c20
      clear c20
      simp only [Option.some.injEq, Prod.mk.injEq] at H
      obtain ⟨rfl, rfl, rfl, rfl, rfl, rfl, rfl, rfl⟩ := H
      go_enter Try.func17, Try.ntmps17
      try go_wp2_with (first | ((with_reducible refine gate_dst (N := 3) rfl ?_); refine box_event ?hg (N := 3) ?hd (cs := #[.int .i64 a0_0, .int .i64 a0_1, .int .i64 a0_2, .int .u64 a0_3, .int .u64 a0_4, .int .u64 a0_5]) (t := 28) ?hr ?_; (case hd => rfl); (case hg => rfl); (case hr => first | (go_simp; done) | (go_simp; rfl)); intro gb360 hg w50 hbox hb; have BK360 := Aside0.mk (hbox); have GW360 := bz_ w hg; have GE360 := GW360; replace HB := bs_ w hb; clear hb hbox hg) | ((with_reducible refine gate_dst (N := 6) rfl ?_); refine box_event ?hg (N := 6) ?hd (cs := #[.int .i64 0, .int .i64 0, .int .i64 0, .int .u64 0, .int .u64 0, .int .u64 0]) (t := 28) ?hr ?_; (case hd => rfl); (case hg => rfl); (case hr => first | (go_simp; done) | (go_simp; rfl)); intro gb361 hg w51 hbox hb; have BK361 := Aside0.mk (hbox); have GW361 := bz_ w hg; have GE361 := GW361; have NB360_361 := bn_ BK360 hg; have NB361_360 := bm_ BK360 hg; replace BK360 := bb_ BK360 hb; replace HB := bs_ w hb; clear hb hbox hg; have hnb52 := NB360_361.out; have hnc52 := NB361_360.out; obtain ⟨hcz53_0, hcz53_1, hcz53_2, hcz53_3, hcz53_4, hcz53_5, hfz53_0, hfz53_1, hfz53_2, hfz53_3, hfz53_4, hfz53_5⟩ := ce6_ BK360) | ((with_reducible refine gate_callee (f := 15) rfl ?_); refine goesA_ (some 15) Try.func15 #[.agg #[.int .i64 a0_0, .int .i64 a0_1, .int .i64 a0_2, .int .u64 a0_3, .int .u64 a0_4, .int .u64 a0_5]] ?_; (with_reducible refine (gcra_Check.calls k a0_0 a0_1 a0_2 a0_3 a0_4 a0_5 t362 _ A4.out).mono ?_); rintro e w54 ⟨rfl, hb⟩; refine ⟨_, rfl, ?_⟩; replace BK360 := bb_ BK360 hb; replace BK361 := bb_ BK361 hb; replace HB := bs_ w hb; (try clear hb); (try clear hb2); (try clear hk); (try clear hi); obtain ⟨hcz55_0, hcz55_1, hcz55_2, hcz55_3, hcz55_4, hcz55_5, hfz55_0, hfz55_1, hfz55_2, hfz55_3, hfz55_4, hfz55_5⟩ := ce6_ BK360) | ((with_reducible refine gate_callee (f := 47) rfl ?_); refine goesA_ (some 25) Try.func47 #[.agg #[.int .i64 a0_0, .int .i64 a0_1, .int .i64 a0_2, .int .u64 a0_3, .int .u64 a0_4, .int .u64 a0_5], .int .u64 a1] ?_; (with_reducible refine (gcra_moved.calls k a0_0 a0_1 a0_2 a0_3 a0_4 a0_5 a1 t363 t364 t365 t366 t367 t368 _ A13.out).mono ?_); rintro e w56 ⟨rfl, hb⟩; refine ⟨_, rfl, ?_⟩; replace BK360 := bb_ BK360 hb; replace BK361 := bb_ BK361 hb; replace HB := bs_ w hb; (try clear hb); (try clear hb2); (try clear hk); (try clear hi); obtain ⟨hcz57_0, hcz57_1, hcz57_2, hcz57_3, hcz57_4, hcz57_5, hfz57_0, hfz57_1, hfz57_2, hfz57_3, hfz57_4, hfz57_5⟩ := ce6_ BK360))
      have n0_ : Aside0 (((((((w56.setCell ⟨gb360, 0, none⟩ (.int .i64 t363)).setCell ⟨gb360, 1, none⟩ (.int .i64 t364)).setCell ⟨gb360, 2, none⟩ (.int .i64 t365)).setCell ⟨gb360, 3, none⟩ (.int .u64 t366)).setCell ⟨gb360, 4, none⟩ (.int .u64 t367)).setCell ⟨gb360, 5, none⟩ (.int .u64 t368)).heap[gb360]? = some (.cells #[.int .i64 t363, .int .i64 t364, .int .i64 t365, .int .u64 t366, .int .u64 t367, .int .u64 t368] 28 (0, 0))) := ⟨(blk_put (cs := #[.int .i64 t363, .int .i64 t364, .int .i64 t365, .int .u64 t366, .int .u64 t367, .int .u64 a0_5]) (blk_put (cs := #[.int .i64 t363, .int .i64 t364, .int .i64 t365, .int .u64 t366, .int .u64 a0_4, .int .u64 a0_5]) (blk_put (cs := #[.int .i64 t363, .int .i64 t364, .int .i64 t365, .int .u64 a0_3, .int .u64 a0_4, .int .u64 a0_5]) (blk_put (cs := #[.int .i64 t363, .int .i64 t364, .int .i64 a0_2, .int .u64 a0_3, .int .u64 a0_4, .int .u64 a0_5]) (blk_put (cs := #[.int .i64 t363, .int .i64 a0_1, .int .i64 a0_2, .int .u64 a0_3, .int .u64 a0_4, .int .u64 a0_5]) (blk_put (cs := #[.int .i64 a0_0, .int .i64 a0_1, .int .i64 a0_2, .int .u64 a0_3, .int .u64 a0_4, .int .u64 a0_5]) (bq_ BK360) 0 _ rfl) 1 _ rfl) 2 _ rfl) 3 _ rfl) 4 _ rfl) 5 _ rfl)⟩
      have n1_ : Aside0 (((((((w56.setCell ⟨gb360, 0, none⟩ (.int .i64 t363)).setCell ⟨gb360, 1, none⟩ (.int .i64 t364)).setCell ⟨gb360, 2, none⟩ (.int .i64 t365)).setCell ⟨gb360, 3, none⟩ (.int .u64 t366)).setCell ⟨gb360, 4, none⟩ (.int .u64 t367)).setCell ⟨gb360, 5, none⟩ (.int .u64 t368)).heap[gb361]? = some (.cells #[.int .i64 0, .int .i64 0, .int .i64 0, .int .u64 0, .int .u64 0, .int .u64 0] 28 (0, 0))) := ⟨(blk_far (blk_far (blk_far (blk_far (blk_far (blk_far (bq_ BK361) NB361_360.out _) NB361_360.out _) NB361_360.out _) NB361_360.out _) NB361_360.out _) NB361_360.out _)⟩
      have n2_ : Aside0 (Below w.heap.size w ((((((w56.setCell ⟨gb360, 0, none⟩ (.int .i64 t363)).setCell ⟨gb360, 1, none⟩ (.int .i64 t364)).setCell ⟨gb360, 2, none⟩ (.int .i64 t365)).setCell ⟨gb360, 3, none⟩ (.int .u64 t366)).setCell ⟨gb360, 4, none⟩ (.int .u64 t367)).setCell ⟨gb360, 5, none⟩ (.int .u64 t368))) := ⟨by repeat (first | (with_reducible first | exact HB.out | apply below_alloc | apply pw_below_drewN | apply below_drew1 | refine below_set ?_ GE360.out | refine below_set ?_ GE361.out) | exact HB.out)⟩
      (try clear BK360)
      (try clear BK361)
      (try clear HB)
      generalize ((((((w56.setCell ⟨gb360, 0, none⟩ (.int .i64 t363)).setCell ⟨gb360, 1, none⟩ (.int .i64 t364)).setCell ⟨gb360, 2, none⟩ (.int .i64 t365)).setCell ⟨gb360, 3, none⟩ (.int .u64 t366)).setCell ⟨gb360, 4, none⟩ (.int .u64 t367)).setCell ⟨gb360, 5, none⟩ (.int .u64 t368)) = w58 at n0_ n1_ n2_ ⊢
      have BK360 := n0_
      have BK361 := n1_
      have HB := n2_
      clear n0_ n1_ n2_
      replace BK360 := Aside0.mk (blk_drew BK360.out)
      replace BK361 := Aside0.mk (blk_drew BK361.out)
      replace HB := Aside0.mk (below_drew1 HB.out)
      refine start_ (n := 13) (S := fun w' => w'.cell? ⟨gb360, 0, none⟩ = some (.int .i64 t363) ∧ w'.cell? ⟨gb360, 1, none⟩ = some (.int .i64 t364) ∧ w'.cell? ⟨gb360, 2, none⟩ = some (.int .i64 t365) ∧ w'.cell? ⟨gb360, 3, none⟩ = some (.int .u64 t366) ∧ w'.cell? ⟨gb360, 4, none⟩ = some (.int .u64 t367) ∧ w'.cell? ⟨gb360, 5, none⟩ = some (.int .u64 t368)) (ds := []) #[false, false, false, false, false, false, false, false, false, false, false, false, false] (by kernel_rfl) rfl rfl ⟨(blk_cell BK360.out 0).trans rfl, (blk_cell BK360.out 1).trans rfl, (blk_cell BK360.out 2).trans rfl, (blk_cell BK360.out 3).trans rfl, (blk_cell BK360.out 4).trans rfl, (blk_cell BK360.out 5).trans rfl⟩ (fun hHeld => ?_); refine with_tabW gcra_Ask.tab7 gcra_Ask.bits7 (fun HT_ HW_ => ?_)
      generalize w58.drew = w59 at BK360 BK361 HB hHeld ⊢
      refine pure_ (i := 0) (N := some 27) (v := ?_) (a' := ?_) #[true, false, false, false, false, false, false, false, false, false, false, false, false] rfl rfl (any_of HT_.out (by kernel_rfl)) (fun _ _ _ h => h) (Or.inl ⟨by rfl, ?_⟩) ?_ ?_
      rotate_left
      ·intro w'
       go_simp
       with_reducible rfl
      rotate_left
      ·simp only [Act.put, List.setIfInBounds_toArray, List.set_cons_zero, List.set_cons_succ, i64_w, i32_w]
       rfl
      refine pure_ (i := 2) (N := some 29) (v := ?_) (a' := ?_) #[true, false, true, false, false, false, false, false, false, false, false, false, false] rfl rfl (any_of HT_.out (by kernel_rfl)) (fun _ _ _ h => h) (Or.inl ⟨by rfl, ?_⟩) ?_ ?_
      rotate_left
      ·intro w'
       go_simp
       with_reducible rfl
      rotate_left
      ·simp only [Act.put, List.setIfInBounds_toArray, List.set_cons_zero, List.set_cons_succ, i64_w, i32_w]
       rfl
      refine pure_ (i := 4) (N := some 31) (v := ?_) (a' := ?_) #[true, false, true, false, true, false, false, false, false, false, false, false, false] rfl rfl (any_of HT_.out (by kernel_rfl)) (fun _ _ _ h => h) (Or.inl ⟨by rfl, ?_⟩) ?_ ?_
      rotate_left
      ·intro w'
       go_simp
       with_reducible rfl
      rotate_left
      ·simp only [Act.put, List.setIfInBounds_toArray, List.set_cons_zero, List.set_cons_succ, i64_w, i32_w]
       rfl
      refine take_ (i := 1) (N := some 28) (v := ?_) (a' := ?_) #[true, true, true, false, true, false, false, false, false, false, false, false, false] rfl rfl (take_ofW HT_.out HW_.out (by kernel_rfl)) (fun _ _ _ h => h) (Or.inl ⟨by rfl, ?_⟩) hHeld ?_ ?_
      rotate_left
      ·rintro w' ⟨s0, s1, s2, s3, s4, s5⟩
       go_simp
       with_reducible rfl
      rotate_left
      ·simp only [Act.put, List.setIfInBounds_toArray, List.set_cons_zero, List.set_cons_succ, i64_w, i32_w]
       rfl
      refine take_ (i := 3) (N := some 30) (v := ?_) (a' := ?_) #[true, true, true, true, true, false, false, false, false, false, false, false, false] rfl rfl (take_ofW HT_.out HW_.out (by kernel_rfl)) (fun _ _ _ h => h) (Or.inl ⟨by rfl, ?_⟩) hHeld ?_ ?_
      rotate_left
      ·rintro w' ⟨s0, s1, s2, s3, s4, s5⟩
       go_simp
       with_reducible rfl
      rotate_left
      ·simp only [Act.put, List.setIfInBounds_toArray, List.set_cons_zero, List.set_cons_succ, i64_w, i32_w]
       rfl
      refine join_ (σ := Nat) 2 #[true, true, true, true, true, true, true, true, true, true, true, false, false] (fun s_ => [(32, .agg #[.int .u64 t369, .int .u64 t370]), (33, .tuple #[.agg #[.int .u64 t371, .int .u64 t372], .int .i64 t373]), (10, .pointer (some ⟨s_, 0, none⟩)), (26, .tuple #[.agg #[.int .u64 t371, .int .u64 t372], .int .i64 t373]), (34, .agg #[.int .u64 t371, .int .u64 t372]), (35, .int .i64 t373)]) (fun s_ w' => (w'.cell? ⟨gb360, 0, none⟩ = some (.int .i64 t363) ∧ w'.cell? ⟨gb360, 1, none⟩ = some (.int .i64 t364) ∧ w'.cell? ⟨gb360, 2, none⟩ = some (.int .i64 t365) ∧ w'.cell? ⟨gb360, 3, none⟩ = some (.int .u64 t366) ∧ w'.cell? ⟨gb360, 4, none⟩ = some (.int .u64 t367) ∧ w'.cell? ⟨gb360, 5, none⟩ = some (.int .u64 t368)) ∧ (w'.heap[gb360]? = some (.cells #[.int .i64 t363, .int .i64 t364, .int .i64 t365, .int .u64 t366, .int .u64 t367, .int .u64 t368] 28 (0, 0))) ∧ (w'.heap[gb361]? = some (.cells #[.int .i64 0, .int .i64 0, .int .i64 0, .int .u64 0, .int .u64 0, .int .u64 0] 28 (0, 0))) ∧ (w'.heap[s_]? = some (.cells #[.int .u64 0, .int .u64 0] 26 (0, 0))) ∧ (w.heap.size ≤ s_) ∧ (w.heap.size ≤ s_) ∧ (gb360 ≠ s_) ∧ (s_ ≠ gb360) ∧ (gb361 ≠ s_) ∧ (s_ ≠ gb361) ∧ (Below w.heap.size w w')) ?_ ?_
      rotate_left
      ·intro hCont
       refine two_ (i := 5) (j := 10) (Ni := some 32) (Nj := some 10) #[true, true, true, true, true, true, false, false, false, false, false, false, false] #[true, true, true, true, true, false, false, false, false, false, true, false, false] rfl rfl rfl rfl (two_of HT_.out (by kernel_rfl)) (by decide) (by decide) (fun K hK => ?_) (fun K hK => ?_)
       ·skip
        refine goes_ Try.func36 (by kernel_rfl) rfl #[.agg #[.int .i64 t363, .int .i64 t364, .int .i64 t365], .int .i64 a2] (by rfl) rfl rfl (by (try simp only [List.map_toArray, List.map_cons, List.map_nil]); first | done | rfl | (simp only [List.length_drop, List.length_take]; rfl)) ?_
        with_reducible refine (gcra_tokens.calls t363 t364 t365 a2 t369 t370 _ A14.out).mono ?_
        rintro e w60 ⟨rfl, hb⟩
        refine ⟨_, rfl, ?_⟩
        replace BK360 := bb_ BK360 hb
        replace BK361 := bb_ BK361 hb
        replace HB := bs_ w hb
        (try clear hb)
        (try clear hb2)
        (try clear hk)
        (try clear hi)
        refine hK.out _ _ ⟨(blk_cell BK360.out 0).trans rfl, (blk_cell BK360.out 1).trans rfl, (blk_cell BK360.out 2).trans rfl, (blk_cell BK360.out 3).trans rfl, (blk_cell BK360.out 4).trans rfl, (blk_cell BK360.out 5).trans rfl⟩ (fun hHeld => ?_)
        clear hK K
        refine norm_ (a' := ?_) ?_ ?_
        rotate_left
        ·show Act.put _ (some 32) _ = _
         simp only [Act.put, List.setIfInBounds_toArray, List.set_cons_zero, List.set_cons_succ, i64_w, i32_w]
         rfl
        refine two_ (i := 6) (j := 10) (Ni := some 33) (Nj := some 10) #[true, true, true, true, true, true, true, false, false, false, false, false, false] #[true, true, true, true, true, true, false, false, false, false, true, false, false] rfl rfl rfl rfl (two_of HT_.out (by kernel_rfl)) (by decide) (by decide) (fun K hK => ?_) (fun K hK => ?_)
        ·skip
         refine goes_ Try.func48 (by kernel_rfl) rfl #[.agg #[.int .u64 t366, .int .u64 t367], .agg #[.int .u64 t369, .int .u64 t370]] (by rfl) rfl rfl (by (try simp only [List.map_toArray, List.map_cons, List.map_nil]); first | done | rfl | (simp only [List.length_drop, List.length_take]; rfl)) ?_
         with_reducible refine (wide_Add.calls t366 t367 t369 t370 t371 t372 t373 _ A15.out).mono ?_
         rintro e w61 ⟨rfl, hb⟩
         refine ⟨_, rfl, ?_⟩
         replace BK360 := bb_ BK360 hb
         replace BK361 := bb_ BK361 hb
         replace HB := bs_ w hb
         (try clear hb)
         (try clear hb2)
         (try clear hk)
         (try clear hi)
         refine hK.out _ _ ⟨(blk_cell BK360.out 0).trans rfl, (blk_cell BK360.out 1).trans rfl, (blk_cell BK360.out 2).trans rfl, (blk_cell BK360.out 3).trans rfl, (blk_cell BK360.out 4).trans rfl, (blk_cell BK360.out 5).trans rfl⟩ (fun hHeld => ?_)
         clear hK K
         refine norm_ (a' := ?_) ?_ ?_
         rotate_left
         ·show Act.put _ (some 33) _ = _
          simp only [Act.put, List.setIfInBounds_toArray, List.set_cons_zero, List.set_cons_succ, i64_w, i32_w]
          rfl
         refine pure_ (i := 7) (N := some 26) (v := ?_) (a' := ?_) #[true, true, true, true, true, true, true, true, false, false, false, false, false] rfl rfl (any_of HT_.out (by kernel_rfl)) (fun _ _ _ h => h) (Or.inl ⟨by rfl, ?_⟩) ?_ ?_
         rotate_left
         ·intro w'
          go_simp
          with_reducible rfl
         rotate_left
         ·simp only [Act.put, List.setIfInBounds_toArray, List.set_cons_zero, List.set_cons_succ, i64_w, i32_w]
          rfl
         refine pure_ (i := 8) (N := some 34) (v := ?_) (a' := ?_) #[true, true, true, true, true, true, true, true, true, false, false, false, false] rfl rfl (any_of HT_.out (by kernel_rfl)) (fun _ _ _ h => h) (Or.inl ⟨by rfl, ?_⟩) ?_ ?_
         rotate_left
         ·intro w'
          go_simp
          with_reducible rfl
         rotate_left
         ·simp only [Act.put, List.setIfInBounds_toArray, List.set_cons_zero, List.set_cons_succ, i64_w, i32_w]
          rfl
         refine pure_ (i := 9) (N := some 35) (v := ?_) (a' := ?_) #[true, true, true, true, true, true, true, true, true, true, false, false, false] rfl rfl (any_of HT_.out (by kernel_rfl)) (fun _ _ _ h => h) (Or.inl ⟨by rfl, ?_⟩) ?_ ?_
         rotate_left
         ·intro w'
          go_simp
          with_reducible rfl
         rotate_left
         ·simp only [Act.put, List.setIfInBounds_toArray, List.set_cons_zero, List.set_cons_succ, i64_w, i32_w]
          rfl
         refine one_ (i := 10) (N := some 10) #[true, true, true, true, true, true, true, true, true, true, true, false, false] rfl rfl (one_of HT_.out (by kernel_rfl)) (by decide) (fun K hK => ?_)
         refine box_step ?hg (N := 10) ?hd (cs := #[.int .u64 0, .int .u64 0]) (t := 26) ?hr ?_; (case hd => rfl); (case hg => rfl); (case hr => first | (go_simp; done) | (go_simp; rfl))
         intro gb374 hg w62 hbox hb
         have BK374 := Aside0.mk (hbox)
         have GW374 := bz_ w hg
         have GE374 := GW374
         have NB360_374 := bn_ BK360 hg
         have NB374_360 := bm_ BK360 hg
         have NB361_374 := bn_ BK361 hg
         have NB374_361 := bm_ BK361 hg
         replace BK360 := bb_ BK360 hb
         replace BK361 := bb_ BK361 hb
         replace HB := bs_ w hb
         clear hb hbox hg
         refine hK.out _ _ ⟨(blk_cell BK360.out 0).trans rfl, (blk_cell BK360.out 1).trans rfl, (blk_cell BK360.out 2).trans rfl, (blk_cell BK360.out 3).trans rfl, (blk_cell BK360.out 4).trans rfl, (blk_cell BK360.out 5).trans rfl⟩ (fun hHeld => ?_)
         clear hK K
         refine norm_ (a' := ?_) ?_ ?_
         rotate_left
         ·show Act.put _ (some 10) _ = _
          simp only [Act.put, List.setIfInBounds_toArray, List.set_cons_zero, List.set_cons_succ, i64_w, i32_w]
          rfl
         exact norm_ (by simp only [putAll, Act.put, List.setIfInBounds_toArray, List.set_cons_zero, List.set_cons_succ]) (hCont (gb374) _ ⟨hHeld, (bq_ BK360), (bq_ BK361), (bq_ BK374), GW374.out, GE374.out, NB360_374.out, NB374_360.out, NB361_374.out, NB374_361.out, (by repeat (first | (with_reducible first | exact HB.out | apply below_alloc | apply pw_below_drewN | apply below_drew1 | refine below_set ?_ (Aside0.out (by assumption))) | exact HB.out))⟩)
        ·skip
         refine box_step ?hg (N := 10) ?hd (cs := #[.int .u64 0, .int .u64 0]) (t := 26) ?hr ?_; (case hd => rfl); (case hg => rfl); (case hr => first | (go_simp; done) | (go_simp; rfl))
         intro gb374 hg w61 hbox hb
         have BK374 := Aside0.mk (hbox)
         have GW374 := bz_ w hg
         have GE374 := GW374
         have NB360_374 := bn_ BK360 hg
         have NB374_360 := bm_ BK360 hg
         have NB361_374 := bn_ BK361 hg
         have NB374_361 := bm_ BK361 hg
         replace BK360 := bb_ BK360 hb
         replace BK361 := bb_ BK361 hb
         replace HB := bs_ w hb
         clear hb hbox hg
         refine hK.out _ _ ⟨(blk_cell BK360.out 0).trans rfl, (blk_cell BK360.out 1).trans rfl, (blk_cell BK360.out 2).trans rfl, (blk_cell BK360.out 3).trans rfl, (blk_cell BK360.out 4).trans rfl, (blk_cell BK360.out 5).trans rfl⟩ (fun hHeld => ?_)
         clear hK K
         refine norm_ (a' := ?_) ?_ ?_
         rotate_left
         ·show Act.put _ (some 10) _ = _
          simp only [Act.put, List.setIfInBounds_toArray, List.set_cons_zero, List.set_cons_succ, i64_w, i32_w]
          rfl
         refine one_ (i := 6) (N := some 33) #[true, true, true, true, true, true, true, false, false, false, true, false, false] rfl rfl (one_of HT_.out (by kernel_rfl)) (by decide) (fun K hK => ?_)
         refine goes_ Try.func48 (by kernel_rfl) rfl #[.agg #[.int .u64 t366, .int .u64 t367], .agg #[.int .u64 t369, .int .u64 t370]] (by rfl) rfl rfl (by (try simp only [List.map_toArray, List.map_cons, List.map_nil]); first | done | rfl | (simp only [List.length_drop, List.length_take]; rfl)) ?_
         with_reducible refine (wide_Add.calls t366 t367 t369 t370 t371 t372 t373 _ A15.out).mono ?_
         rintro e w62 ⟨rfl, hb⟩
         refine ⟨_, rfl, ?_⟩
         replace BK360 := bb_ BK360 hb
         replace BK361 := bb_ BK361 hb
         replace BK374 := bb_ BK374 hb
         replace HB := bs_ w hb
         (try clear hb)
         (try clear hb2)
         (try clear hk)
         (try clear hi)
         refine hK.out _ _ ⟨(blk_cell BK360.out 0).trans rfl, (blk_cell BK360.out 1).trans rfl, (blk_cell BK360.out 2).trans rfl, (blk_cell BK360.out 3).trans rfl, (blk_cell BK360.out 4).trans rfl, (blk_cell BK360.out 5).trans rfl⟩ (fun hHeld => ?_)
         clear hK K
         refine norm_ (a' := ?_) ?_ ?_
         rotate_left
         ·show Act.put _ (some 33) _ = _
          simp only [Act.put, List.setIfInBounds_toArray, List.set_cons_zero, List.set_cons_succ, i64_w, i32_w]
          rfl
         refine pure_ (i := 7) (N := some 26) (v := ?_) (a' := ?_) #[true, true, true, true, true, true, true, true, false, false, true, false, false] rfl rfl (any_of HT_.out (by kernel_rfl)) (fun _ _ _ h => h) (Or.inl ⟨by rfl, ?_⟩) ?_ ?_
         rotate_left
         ·intro w'
          go_simp
          with_reducible rfl
         rotate_left
         ·simp only [Act.put, List.setIfInBounds_toArray, List.set_cons_zero, List.set_cons_succ, i64_w, i32_w]
          rfl
         refine pure_ (i := 8) (N := some 34) (v := ?_) (a' := ?_) #[true, true, true, true, true, true, true, true, true, false, true, false, false] rfl rfl (any_of HT_.out (by kernel_rfl)) (fun _ _ _ h => h) (Or.inl ⟨by rfl, ?_⟩) ?_ ?_
         rotate_left
         ·intro w'
          go_simp
          with_reducible rfl
         rotate_left
         ·simp only [Act.put, List.setIfInBounds_toArray, List.set_cons_zero, List.set_cons_succ, i64_w, i32_w]
          rfl
         refine pure_ (i := 9) (N := some 35) (v := ?_) (a' := ?_) #[true, true, true, true, true, true, true, true, true, true, true, false, false] rfl rfl (any_of HT_.out (by kernel_rfl)) (fun _ _ _ h => h) (Or.inl ⟨by rfl, ?_⟩) ?_ ?_
         rotate_left
         ·intro w'
          go_simp
          with_reducible rfl
         rotate_left
         ·simp only [Act.put, List.setIfInBounds_toArray, List.set_cons_zero, List.set_cons_succ, i64_w, i32_w]
          rfl
         exact norm_ (by simp only [putAll, Act.put, List.setIfInBounds_toArray, List.set_cons_zero, List.set_cons_succ]) (hCont (gb374) _ ⟨hHeld, (bq_ BK360), (bq_ BK361), (bq_ BK374), GW374.out, GE374.out, NB360_374.out, NB374_360.out, NB361_374.out, NB374_361.out, (by repeat (first | (with_reducible first | exact HB.out | apply below_alloc | apply pw_below_drewN | apply below_drew1 | refine below_set ?_ (Aside0.out (by assumption))) | exact HB.out))⟩)
       ·skip
        refine box_step ?hg (N := 10) ?hd (cs := #[.int .u64 0, .int .u64 0]) (t := 26) ?hr ?_; (case hd => rfl); (case hg => rfl); (case hr => first | (go_simp; done) | (go_simp; rfl))
        intro gb374 hg w60 hbox hb
        have BK374 := Aside0.mk (hbox)
        have GW374 := bz_ w hg
        have GE374 := GW374
        have NB360_374 := bn_ BK360 hg
        have NB374_360 := bm_ BK360 hg
        have NB361_374 := bn_ BK361 hg
        have NB374_361 := bm_ BK361 hg
        replace BK360 := bb_ BK360 hb
        replace BK361 := bb_ BK361 hb
        replace HB := bs_ w hb
        clear hb hbox hg
        refine hK.out _ _ ⟨(blk_cell BK360.out 0).trans rfl, (blk_cell BK360.out 1).trans rfl, (blk_cell BK360.out 2).trans rfl, (blk_cell BK360.out 3).trans rfl, (blk_cell BK360.out 4).trans rfl, (blk_cell BK360.out 5).trans rfl⟩ (fun hHeld => ?_)
        clear hK K
        refine norm_ (a' := ?_) ?_ ?_
        rotate_left
        ·show Act.put _ (some 10) _ = _
         simp only [Act.put, List.setIfInBounds_toArray, List.set_cons_zero, List.set_cons_succ, i64_w, i32_w]
         rfl
        refine one_ (i := 5) (N := some 32) #[true, true, true, true, true, true, false, false, false, false, true, false, false] rfl rfl (one_of HT_.out (by kernel_rfl)) (by decide) (fun K hK => ?_)
        refine goes_ Try.func36 (by kernel_rfl) rfl #[.agg #[.int .i64 t363, .int .i64 t364, .int .i64 t365], .int .i64 a2] (by rfl) rfl rfl (by (try simp only [List.map_toArray, List.map_cons, List.map_nil]); first | done | rfl | (simp only [List.length_drop, List.length_take]; rfl)) ?_
        with_reducible refine (gcra_tokens.calls t363 t364 t365 a2 t369 t370 _ A14.out).mono ?_
        rintro e w61 ⟨rfl, hb⟩
        refine ⟨_, rfl, ?_⟩
        replace BK360 := bb_ BK360 hb
        replace BK361 := bb_ BK361 hb
        replace BK374 := bb_ BK374 hb
        replace HB := bs_ w hb
        (try clear hb)
        (try clear hb2)
        (try clear hk)
        (try clear hi)
        refine hK.out _ _ ⟨(blk_cell BK360.out 0).trans rfl, (blk_cell BK360.out 1).trans rfl, (blk_cell BK360.out 2).trans rfl, (blk_cell BK360.out 3).trans rfl, (blk_cell BK360.out 4).trans rfl, (blk_cell BK360.out 5).trans rfl⟩ (fun hHeld => ?_)
        clear hK K
        refine norm_ (a' := ?_) ?_ ?_
        rotate_left
        ·show Act.put _ (some 32) _ = _
         simp only [Act.put, List.setIfInBounds_toArray, List.set_cons_zero, List.set_cons_succ, i64_w, i32_w]
         rfl
        refine one_ (i := 6) (N := some 33) #[true, true, true, true, true, true, true, false, false, false, true, false, false] rfl rfl (one_of HT_.out (by kernel_rfl)) (by decide) (fun K hK => ?_)
        refine goes_ Try.func48 (by kernel_rfl) rfl #[.agg #[.int .u64 t366, .int .u64 t367], .agg #[.int .u64 t369, .int .u64 t370]] (by rfl) rfl rfl (by (try simp only [List.map_toArray, List.map_cons, List.map_nil]); first | done | rfl | (simp only [List.length_drop, List.length_take]; rfl)) ?_
        with_reducible refine (wide_Add.calls t366 t367 t369 t370 t371 t372 t373 _ A15.out).mono ?_
        rintro e w62 ⟨rfl, hb⟩
        refine ⟨_, rfl, ?_⟩
        replace BK360 := bb_ BK360 hb
        replace BK361 := bb_ BK361 hb
        replace BK374 := bb_ BK374 hb
        replace HB := bs_ w hb
        (try clear hb)
        (try clear hb2)
        (try clear hk)
        (try clear hi)
        refine hK.out _ _ ⟨(blk_cell BK360.out 0).trans rfl, (blk_cell BK360.out 1).trans rfl, (blk_cell BK360.out 2).trans rfl, (blk_cell BK360.out 3).trans rfl, (blk_cell BK360.out 4).trans rfl, (blk_cell BK360.out 5).trans rfl⟩ (fun hHeld => ?_)
        clear hK K
        refine norm_ (a' := ?_) ?_ ?_
        rotate_left
        ·show Act.put _ (some 33) _ = _
         simp only [Act.put, List.setIfInBounds_toArray, List.set_cons_zero, List.set_cons_succ, i64_w, i32_w]
         rfl
        refine pure_ (i := 7) (N := some 26) (v := ?_) (a' := ?_) #[true, true, true, true, true, true, true, true, false, false, true, false, false] rfl rfl (any_of HT_.out (by kernel_rfl)) (fun _ _ _ h => h) (Or.inl ⟨by rfl, ?_⟩) ?_ ?_
        rotate_left
        ·intro w'
         go_simp
         with_reducible rfl
        rotate_left
        ·simp only [Act.put, List.setIfInBounds_toArray, List.set_cons_zero, List.set_cons_succ, i64_w, i32_w]
         rfl
        refine pure_ (i := 8) (N := some 34) (v := ?_) (a' := ?_) #[true, true, true, true, true, true, true, true, true, false, true, false, false] rfl rfl (any_of HT_.out (by kernel_rfl)) (fun _ _ _ h => h) (Or.inl ⟨by rfl, ?_⟩) ?_ ?_
        rotate_left
        ·intro w'
         go_simp
         with_reducible rfl
        rotate_left
        ·simp only [Act.put, List.setIfInBounds_toArray, List.set_cons_zero, List.set_cons_succ, i64_w, i32_w]
         rfl
        refine pure_ (i := 9) (N := some 35) (v := ?_) (a' := ?_) #[true, true, true, true, true, true, true, true, true, true, true, false, false] rfl rfl (any_of HT_.out (by kernel_rfl)) (fun _ _ _ h => h) (Or.inl ⟨by rfl, ?_⟩) ?_ ?_
        rotate_left
        ·intro w'
         go_simp
         with_reducible rfl
        rotate_left
        ·simp only [Act.put, List.setIfInBounds_toArray, List.set_cons_zero, List.set_cons_succ, i64_w, i32_w]
         rfl
        exact norm_ (by simp only [putAll, Act.put, List.setIfInBounds_toArray, List.set_cons_zero, List.set_cons_succ]) (hCont (gb374) _ ⟨hHeld, (bq_ BK360), (bq_ BK361), (bq_ BK374), GW374.out, GE374.out, NB360_374.out, NB374_360.out, NB361_374.out, NB374_361.out, (by repeat (first | (with_reducible first | exact HB.out | apply below_alloc | apply pw_below_drewN | apply below_drew1 | refine below_set ?_ (Aside0.out (by assumption))) | exact HB.out))⟩)
      rintro gb374 w63 ⟨hS_, h0_, h1_, h2_, h3_, h4_, h5_, h6_, h7_, h8_, h9_⟩
      have BK374 : Aside0 (w63.heap[gb374]? = some (.cells #[.int .u64 0, .int .u64 0] 26 (0, 0))) := ⟨h2_⟩
      have GW374 : Aside0 (w.heap.size ≤ gb374) := ⟨h3_⟩
      have GE374 : Aside0 (w.heap.size ≤ gb374) := ⟨h4_⟩
      have NB360_374 : Aside0 (gb360 ≠ gb374) := ⟨h5_⟩
      have NB374_360 : Aside0 (gb374 ≠ gb360) := ⟨h6_⟩
      have NB361_374 : Aside0 (gb361 ≠ gb374) := ⟨h7_⟩
      have NB374_361 : Aside0 (gb374 ≠ gb361) := ⟨h8_⟩
      replace BK360 : Aside0 (w63.heap[gb360]? = some (.cells #[.int .i64 t363, .int .i64 t364, .int .i64 t365, .int .u64 t366, .int .u64 t367, .int .u64 t368] 28 (0, 0))) := ⟨h0_⟩
      replace BK361 : Aside0 (w63.heap[gb361]? = some (.cells #[.int .i64 0, .int .i64 0, .int .i64 0, .int .u64 0, .int .u64 0, .int .u64 0] 28 (0, 0))) := ⟨h1_⟩
      replace HB : Aside0 (Below w.heap.size w w63) := ⟨h9_⟩
      clear h0_ h1_ h2_ h3_ h4_ h5_ h6_ h7_ h8_ h9_
      have hHeld : w63.cell? ⟨gb360, 0, none⟩ = some (.int .i64 t363) ∧ w63.cell? ⟨gb360, 1, none⟩ = some (.int .i64 t364) ∧ w63.cell? ⟨gb360, 2, none⟩ = some (.int .i64 t365) ∧ w63.cell? ⟨gb360, 3, none⟩ = some (.int .u64 t366) ∧ w63.cell? ⟨gb360, 4, none⟩ = some (.int .u64 t367) ∧ w63.cell? ⟨gb360, 5, none⟩ = some (.int .u64 t368) := hS_
      refine norm_ (a' := ?_) ?_ ?_
      rotate_left
      ·simp only [putAll, Act.put, List.setIfInBounds_toArray, List.set_cons_zero, List.set_cons_succ]
       rfl
      refine one_ (i := 11) (N := none) #[true, true, true, true, true, true, true, true, true, true, true, true, false] rfl rfl (one_of HT_.out (by kernel_rfl)) (by decide) (fun K hK => ?_)
      have hs64 : w63.cell? ⟨gb374, 0, none⟩ = some (.int .u64 0) := (blk_cell BK374.out 0).trans rfl
      have hfs64 := blk_frozen BK374.out 0
      have hns64_0 := NB360_374.out
      have hns64_1 := NB361_374.out
      have hms64_0 := NB374_360.out
      have hms64_1 := NB374_361.out
      have hs65 : w63.cell? ⟨gb374, 1, none⟩ = some (.int .u64 0) := (blk_cell BK374.out 1).trans rfl
      have hfs65 := blk_frozen BK374.out 1
      have hns65_0 := NB360_374.out
      have hns65_1 := NB361_374.out
      have hms65_0 := NB374_360.out
      have hms65_1 := NB374_361.out
      refine skip_ (w1 := ?_) (by rfl) rfl ?_ ?_
      rotate_left
      ·go_simp
       rfl
      refine hK.out _ _ ⟨((cell_far (p := ⟨gb374, _, none⟩) NB360_374.out _).trans (((cell_far (p := ⟨gb374, _, none⟩) NB360_374.out _).trans (hHeld.1)))), ((cell_far (p := ⟨gb374, _, none⟩) NB360_374.out _).trans (((cell_far (p := ⟨gb374, _, none⟩) NB360_374.out _).trans (hHeld.2.1)))), ((cell_far (p := ⟨gb374, _, none⟩) NB360_374.out _).trans (((cell_far (p := ⟨gb374, _, none⟩) NB360_374.out _).trans (hHeld.2.2.1)))), ((cell_far (p := ⟨gb374, _, none⟩) NB360_374.out _).trans (((cell_far (p := ⟨gb374, _, none⟩) NB360_374.out _).trans (hHeld.2.2.2.1)))), ((cell_far (p := ⟨gb374, _, none⟩) NB360_374.out _).trans (((cell_far (p := ⟨gb374, _, none⟩) NB360_374.out _).trans (hHeld.2.2.2.2.1)))), ((cell_far (p := ⟨gb374, _, none⟩) NB360_374.out _).trans (((cell_far (p := ⟨gb374, _, none⟩) NB360_374.out _).trans (hHeld.2.2.2.2.2))))⟩ (fun hHeld => ?_)
      clear hK K
      refine pure_ (i := 12) (N := some 11) (v := ?_) (a' := ?_) #[true, true, true, true, true, true, true, true, true, true, true, true, true] rfl rfl (any_of HT_.out (by kernel_rfl)) (fun _ _ _ h => h) (Or.inl ⟨by rfl, ?_⟩) ?_ ?_
      rotate_left
      ·intro w'
       go_simp
       with_reducible rfl
      rotate_left
      ·simp only [Act.put, List.setIfInBounds_toArray, List.set_cons_zero, List.set_cons_succ, i64_w, i32_w]
       rfl
      refine done_ (done_of HT_.out (by kernel_rfl)) ?_
      have hnb66 := NB360_374.out
      have hnc66 := NB374_360.out
      obtain ⟨hcz67_0, hcz67_1, hcz67_2, hcz67_3, hcz67_4, hcz67_5, hfz67_0, hfz67_1, hfz67_2, hfz67_3, hfz67_4, hfz67_5⟩ := ce6_ BK360
      try go_wp2_with (first | ((with_reducible refine gate_callee (f := 35) rfl ?_); refine goesA_ (some 41) Try.func35 #[.agg #[.int .i64 t363, .int .i64 t364, .int .i64 t365], .int .u64 t368] ?_; (with_reducible refine (gcra_end.calls t363 t364 t365 t368 t375 t376 t377 _ A16.out).mono ?_); rintro e w68 ⟨rfl, hb⟩; refine ⟨_, rfl, ?_⟩; replace BK360 := bf_ BK360 hb; replace BK361 := bf_ BK361 hb; replace BK374 := Aside0.mk (blk_below (g := gb374) (o := .cells #[.int .u64 t371, .int .u64 t372] 26 (0, 0)) (blk_put (cs := #[.int .u64 t371, .int .u64 0]) (blk_put (cs := #[.int .u64 0, .int .u64 0]) (bq_ BK374) 0 _ rfl) 1 _ rfl) hb); replace HB := bs_ w hb; (try clear hb); (try clear hb2); (try clear hk); (try clear hi)) | ((with_reducible refine gate_dst (N := 12) rfl ?_); refine box_event ?hg (N := 12) ?hd (cs := #[.int .u64 0, .int .u64 0]) (t := 26) ?hr ?_; (case hd => rfl); (case hg => rfl); (case hr => first | (go_simp; done) | (go_simp; rfl)); intro gb378 hg w69 hbox hb; have BK378 := Aside0.mk (hbox); have GW378 := bz_ w hg; have GE378 := GW378; have NB360_378 := bn_ BK360 hg; have NB378_360 := bm_ BK360 hg; have NB361_378 := bn_ BK361 hg; have NB378_361 := bm_ BK361 hg; have NB374_378 := bn_ BK374 hg; have NB378_374 := bm_ BK374 hg; replace BK360 := bb_ BK360 hb; replace BK361 := bb_ BK361 hb; replace BK374 := bb_ BK374 hb; replace HB := bs_ w hb; clear hb hbox hg; have hnb70 := NB378_360.out; have hnc70 := NB360_378.out; have hnb71 := NB378_361.out; have hnc71 := NB361_378.out; have hnb72 := NB378_374.out; have hnc72 := NB374_378.out; obtain ⟨hcz73_0, hcz73_1, hfz73_0, hfz73_1⟩ := ce2_ BK378; have hnb74 := NB374_361.out; have hnc74 := NB361_374.out; obtain ⟨hcz75_0, hcz75_1, hfz75_0, hfz75_1⟩ := ce2_ BK374) | (go_at_call 45; (with_reducible refine (wide_Cmp.calls k t371 t372 t375 t376 t379 _ A19.out).mono ?_); rintro e w76 ⟨rfl, hb⟩; replace BK360 := bf_ BK360 hb; replace BK361 := bf_ BK361 hb; replace BK374 := bf_ BK374 hb; replace BK378 := Aside0.mk (blk_below (g := gb378) (o := .cells #[.int .u64 t375, .int .u64 t376] 26 (0, 0)) (blk_put (cs := #[.int .u64 t375, .int .u64 0]) (blk_put (cs := #[.int .u64 0, .int .u64 0]) (bq_ BK378) 0 _ rfl) 1 _ rfl) hb); replace HB := bs_ w hb; (try clear hb); (try clear hb2); (try clear hk); (try clear hi); obtain ⟨hcz77_0, hcz77_1, hfz77_0, hfz77_1⟩ := ce2_ BK374; obtain ⟨hcz78_0, hcz78_1, hcz78_2, hcz78_3, hcz78_4, hcz78_5, hfz78_0, hfz78_1, hfz78_2, hfz78_3, hfz78_4, hfz78_5⟩ := ce6_ BK360; obtain ⟨hcz79_0, hcz79_1, hcz79_2, hcz79_3, hcz79_4, hcz79_5, hfz79_0, hfz79_1, hfz79_2, hfz79_3, hfz79_4, hfz79_5⟩ := ce6_ BK361))
      refine bodyPost_ret (results_ctt rfl _ _ gb361 28 #[.int .i64 t363, .int .i64 t364, .int .i64 t365, .int .u64 t371, .int .u64 t372, .int .u64 t368] (0, 0) _ rfl (blk_put (cs := #[.int .i64 t363, .int .i64 t364, .int .i64 t365, .int .u64 t371, .int .u64 t372, .int .u64 0]) (blk_put (cs := #[.int .i64 t363, .int .i64 t364, .int .i64 t365, .int .u64 t371, .int .u64 0, .int .u64 0]) (blk_put (cs := #[.int .i64 t363, .int .i64 t364, .int .i64 t365, .int .u64 0, .int .u64 0, .int .u64 0]) (blk_put (cs := #[.int .i64 t363, .int .i64 t364, .int .i64 0, .int .u64 0, .int .u64 0, .int .u64 0]) (blk_put (cs := #[.int .i64 t363, .int .i64 0, .int .i64 0, .int .u64 0, .int .u64 0, .int .u64 0]) (blk_put (cs := #[.int .i64 0, .int .i64 0, .int .i64 0, .int .u64 0, .int .u64 0, .int .u64 0]) (blk_far (blk_far (bq_ BK361) NB361_360.out _) NB361_360.out _) 0 _ rfl) 1 _ rfl) 2 _ rfl) 3 _ rfl) 4 _ rfl) 5 _ rfl) Try.underlying28 rfl (by kernel_rfl)) rfl ?_
      exact ⟨by first | rfl | (simp [errW_none, errW_some] <;> rfl) | (simp [*, errW_none, errW_some] <;> rfl), by repeat (first | (with_reducible first | exact HB.out | apply below_alloc | apply pw_below_drewN | apply below_drew1 | refine below_set ?_ GE360.out | refine below_set ?_ GE361.out | refine below_set ?_ GE374.out | refine below_set ?_ GE378.out) | exact HB.out)⟩
    ·rw [if_neg c18] at H
     have c18b0 : (t377 == 0) = false := beq_eq_false_iff_ne.mpr c18
     have c18b1 : (t377 != 0) = true := bne_iff_ne.mpr c18
     simp only [Option.some.injEq, Prod.mk.injEq] at H
     obtain ⟨rfl, rfl, rfl, rfl, rfl, rfl, rfl, rfl⟩ := H
     go_enter Try.func17, Try.ntmps17
     try go_wp2_with (first | ((with_reducible refine gate_dst (N := 3) rfl ?_); refine box_event ?hg (N := 3) ?hd (cs := #[.int .i64 a0_0, .int .i64 a0_1, .int .i64 a0_2, .int .u64 a0_3, .int .u64 a0_4, .int .u64 a0_5]) (t := 28) ?hr ?_; (case hd => rfl); (case hg => rfl); (case hr => first | (go_simp; done) | (go_simp; rfl)); intro gb360 hg w80 hbox hb; have BK360 := Aside0.mk (hbox); have GW360 := bz_ w hg; have GE360 := GW360; replace HB := bs_ w hb; clear hb hbox hg) | ((with_reducible refine gate_dst (N := 6) rfl ?_); refine box_event ?hg (N := 6) ?hd (cs := #[.int .i64 0, .int .i64 0, .int .i64 0, .int .u64 0, .int .u64 0, .int .u64 0]) (t := 28) ?hr ?_; (case hd => rfl); (case hg => rfl); (case hr => first | (go_simp; done) | (go_simp; rfl)); intro gb361 hg w81 hbox hb; have BK361 := Aside0.mk (hbox); have GW361 := bz_ w hg; have GE361 := GW361; have NB360_361 := bn_ BK360 hg; have NB361_360 := bm_ BK360 hg; replace BK360 := bb_ BK360 hb; replace HB := bs_ w hb; clear hb hbox hg; have hnb82 := NB360_361.out; have hnc82 := NB361_360.out; obtain ⟨hcz83_0, hcz83_1, hcz83_2, hcz83_3, hcz83_4, hcz83_5, hfz83_0, hfz83_1, hfz83_2, hfz83_3, hfz83_4, hfz83_5⟩ := ce6_ BK360) | ((with_reducible refine gate_callee (f := 15) rfl ?_); refine goesA_ (some 15) Try.func15 #[.agg #[.int .i64 a0_0, .int .i64 a0_1, .int .i64 a0_2, .int .u64 a0_3, .int .u64 a0_4, .int .u64 a0_5]] ?_; (with_reducible refine (gcra_Check.calls k a0_0 a0_1 a0_2 a0_3 a0_4 a0_5 t362 _ A4.out).mono ?_); rintro e w84 ⟨rfl, hb⟩; refine ⟨_, rfl, ?_⟩; replace BK360 := bb_ BK360 hb; replace BK361 := bb_ BK361 hb; replace HB := bs_ w hb; (try clear hb); (try clear hb2); (try clear hk); (try clear hi); obtain ⟨hcz85_0, hcz85_1, hcz85_2, hcz85_3, hcz85_4, hcz85_5, hfz85_0, hfz85_1, hfz85_2, hfz85_3, hfz85_4, hfz85_5⟩ := ce6_ BK360) | ((with_reducible refine gate_callee (f := 47) rfl ?_); refine goesA_ (some 25) Try.func47 #[.agg #[.int .i64 a0_0, .int .i64 a0_1, .int .i64 a0_2, .int .u64 a0_3, .int .u64 a0_4, .int .u64 a0_5], .int .u64 a1] ?_; (with_reducible refine (gcra_moved.calls k a0_0 a0_1 a0_2 a0_3 a0_4 a0_5 a1 t363 t364 t365 t366 t367 t368 _ A13.out).mono ?_); rintro e w86 ⟨rfl, hb⟩; refine ⟨_, rfl, ?_⟩; replace BK360 := bb_ BK360 hb; replace BK361 := bb_ BK361 hb; replace HB := bs_ w hb; (try clear hb); (try clear hb2); (try clear hk); (try clear hi); obtain ⟨hcz87_0, hcz87_1, hcz87_2, hcz87_3, hcz87_4, hcz87_5, hfz87_0, hfz87_1, hfz87_2, hfz87_3, hfz87_4, hfz87_5⟩ := ce6_ BK360))
     have n0_ : Aside0 (((((((w86.setCell ⟨gb360, 0, none⟩ (.int .i64 t363)).setCell ⟨gb360, 1, none⟩ (.int .i64 t364)).setCell ⟨gb360, 2, none⟩ (.int .i64 t365)).setCell ⟨gb360, 3, none⟩ (.int .u64 t366)).setCell ⟨gb360, 4, none⟩ (.int .u64 t367)).setCell ⟨gb360, 5, none⟩ (.int .u64 t368)).heap[gb360]? = some (.cells #[.int .i64 t363, .int .i64 t364, .int .i64 t365, .int .u64 t366, .int .u64 t367, .int .u64 t368] 28 (0, 0))) := ⟨(blk_put (cs := #[.int .i64 t363, .int .i64 t364, .int .i64 t365, .int .u64 t366, .int .u64 t367, .int .u64 a0_5]) (blk_put (cs := #[.int .i64 t363, .int .i64 t364, .int .i64 t365, .int .u64 t366, .int .u64 a0_4, .int .u64 a0_5]) (blk_put (cs := #[.int .i64 t363, .int .i64 t364, .int .i64 t365, .int .u64 a0_3, .int .u64 a0_4, .int .u64 a0_5]) (blk_put (cs := #[.int .i64 t363, .int .i64 t364, .int .i64 a0_2, .int .u64 a0_3, .int .u64 a0_4, .int .u64 a0_5]) (blk_put (cs := #[.int .i64 t363, .int .i64 a0_1, .int .i64 a0_2, .int .u64 a0_3, .int .u64 a0_4, .int .u64 a0_5]) (blk_put (cs := #[.int .i64 a0_0, .int .i64 a0_1, .int .i64 a0_2, .int .u64 a0_3, .int .u64 a0_4, .int .u64 a0_5]) (bq_ BK360) 0 _ rfl) 1 _ rfl) 2 _ rfl) 3 _ rfl) 4 _ rfl) 5 _ rfl)⟩
     have n1_ : Aside0 (((((((w86.setCell ⟨gb360, 0, none⟩ (.int .i64 t363)).setCell ⟨gb360, 1, none⟩ (.int .i64 t364)).setCell ⟨gb360, 2, none⟩ (.int .i64 t365)).setCell ⟨gb360, 3, none⟩ (.int .u64 t366)).setCell ⟨gb360, 4, none⟩ (.int .u64 t367)).setCell ⟨gb360, 5, none⟩ (.int .u64 t368)).heap[gb361]? = some (.cells #[.int .i64 0, .int .i64 0, .int .i64 0, .int .u64 0, .int .u64 0, .int .u64 0] 28 (0, 0))) := ⟨(blk_far (blk_far (blk_far (blk_far (blk_far (blk_far (bq_ BK361) NB361_360.out _) NB361_360.out _) NB361_360.out _) NB361_360.out _) NB361_360.out _) NB361_360.out _)⟩
     have n2_ : Aside0 (Below w.heap.size w ((((((w86.setCell ⟨gb360, 0, none⟩ (.int .i64 t363)).setCell ⟨gb360, 1, none⟩ (.int .i64 t364)).setCell ⟨gb360, 2, none⟩ (.int .i64 t365)).setCell ⟨gb360, 3, none⟩ (.int .u64 t366)).setCell ⟨gb360, 4, none⟩ (.int .u64 t367)).setCell ⟨gb360, 5, none⟩ (.int .u64 t368))) := ⟨by repeat (first | (with_reducible first | exact HB.out | apply below_alloc | apply pw_below_drewN | apply below_drew1 | refine below_set ?_ GE360.out | refine below_set ?_ GE361.out) | exact HB.out)⟩
     (try clear BK360)
     (try clear BK361)
     (try clear HB)
     generalize ((((((w86.setCell ⟨gb360, 0, none⟩ (.int .i64 t363)).setCell ⟨gb360, 1, none⟩ (.int .i64 t364)).setCell ⟨gb360, 2, none⟩ (.int .i64 t365)).setCell ⟨gb360, 3, none⟩ (.int .u64 t366)).setCell ⟨gb360, 4, none⟩ (.int .u64 t367)).setCell ⟨gb360, 5, none⟩ (.int .u64 t368)) = w88 at n0_ n1_ n2_ ⊢
     have BK360 := n0_
     have BK361 := n1_
     have HB := n2_
     clear n0_ n1_ n2_
     replace BK360 := Aside0.mk (blk_drew BK360.out)
     replace BK361 := Aside0.mk (blk_drew BK361.out)
     replace HB := Aside0.mk (below_drew1 HB.out)
     refine start_ (n := 13) (S := fun w' => w'.cell? ⟨gb360, 0, none⟩ = some (.int .i64 t363) ∧ w'.cell? ⟨gb360, 1, none⟩ = some (.int .i64 t364) ∧ w'.cell? ⟨gb360, 2, none⟩ = some (.int .i64 t365) ∧ w'.cell? ⟨gb360, 3, none⟩ = some (.int .u64 t366) ∧ w'.cell? ⟨gb360, 4, none⟩ = some (.int .u64 t367) ∧ w'.cell? ⟨gb360, 5, none⟩ = some (.int .u64 t368)) (ds := []) #[false, false, false, false, false, false, false, false, false, false, false, false, false] (by kernel_rfl) rfl rfl ⟨(blk_cell BK360.out 0).trans rfl, (blk_cell BK360.out 1).trans rfl, (blk_cell BK360.out 2).trans rfl, (blk_cell BK360.out 3).trans rfl, (blk_cell BK360.out 4).trans rfl, (blk_cell BK360.out 5).trans rfl⟩ (fun hHeld => ?_); refine with_tabW gcra_Ask.tab7 gcra_Ask.bits7 (fun HT_ HW_ => ?_)
     generalize w88.drew = w89 at BK360 BK361 HB hHeld ⊢
     refine pure_ (i := 0) (N := some 27) (v := ?_) (a' := ?_) #[true, false, false, false, false, false, false, false, false, false, false, false, false] rfl rfl (any_of HT_.out (by kernel_rfl)) (fun _ _ _ h => h) (Or.inl ⟨by rfl, ?_⟩) ?_ ?_
     rotate_left
     ·intro w'
      go_simp
      with_reducible rfl
     rotate_left
     ·simp only [Act.put, List.setIfInBounds_toArray, List.set_cons_zero, List.set_cons_succ, i64_w, i32_w]
      rfl
     refine pure_ (i := 2) (N := some 29) (v := ?_) (a' := ?_) #[true, false, true, false, false, false, false, false, false, false, false, false, false] rfl rfl (any_of HT_.out (by kernel_rfl)) (fun _ _ _ h => h) (Or.inl ⟨by rfl, ?_⟩) ?_ ?_
     rotate_left
     ·intro w'
      go_simp
      with_reducible rfl
     rotate_left
     ·simp only [Act.put, List.setIfInBounds_toArray, List.set_cons_zero, List.set_cons_succ, i64_w, i32_w]
      rfl
     refine pure_ (i := 4) (N := some 31) (v := ?_) (a' := ?_) #[true, false, true, false, true, false, false, false, false, false, false, false, false] rfl rfl (any_of HT_.out (by kernel_rfl)) (fun _ _ _ h => h) (Or.inl ⟨by rfl, ?_⟩) ?_ ?_
     rotate_left
     ·intro w'
      go_simp
      with_reducible rfl
     rotate_left
     ·simp only [Act.put, List.setIfInBounds_toArray, List.set_cons_zero, List.set_cons_succ, i64_w, i32_w]
      rfl
     refine take_ (i := 1) (N := some 28) (v := ?_) (a' := ?_) #[true, true, true, false, true, false, false, false, false, false, false, false, false] rfl rfl (take_ofW HT_.out HW_.out (by kernel_rfl)) (fun _ _ _ h => h) (Or.inl ⟨by rfl, ?_⟩) hHeld ?_ ?_
     rotate_left
     ·rintro w' ⟨s0, s1, s2, s3, s4, s5⟩
      go_simp
      with_reducible rfl
     rotate_left
     ·simp only [Act.put, List.setIfInBounds_toArray, List.set_cons_zero, List.set_cons_succ, i64_w, i32_w]
      rfl
     refine take_ (i := 3) (N := some 30) (v := ?_) (a' := ?_) #[true, true, true, true, true, false, false, false, false, false, false, false, false] rfl rfl (take_ofW HT_.out HW_.out (by kernel_rfl)) (fun _ _ _ h => h) (Or.inl ⟨by rfl, ?_⟩) hHeld ?_ ?_
     rotate_left
     ·rintro w' ⟨s0, s1, s2, s3, s4, s5⟩
      go_simp
      with_reducible rfl
     rotate_left
     ·simp only [Act.put, List.setIfInBounds_toArray, List.set_cons_zero, List.set_cons_succ, i64_w, i32_w]
      rfl
     refine join_ (σ := Nat) 2 #[true, true, true, true, true, true, true, true, true, true, true, false, false] (fun s_ => [(32, .agg #[.int .u64 t369, .int .u64 t370]), (33, .tuple #[.agg #[.int .u64 t371, .int .u64 t372], .int .i64 t373]), (10, .pointer (some ⟨s_, 0, none⟩)), (26, .tuple #[.agg #[.int .u64 t371, .int .u64 t372], .int .i64 t373]), (34, .agg #[.int .u64 t371, .int .u64 t372]), (35, .int .i64 t373)]) (fun s_ w' => (w'.cell? ⟨gb360, 0, none⟩ = some (.int .i64 t363) ∧ w'.cell? ⟨gb360, 1, none⟩ = some (.int .i64 t364) ∧ w'.cell? ⟨gb360, 2, none⟩ = some (.int .i64 t365) ∧ w'.cell? ⟨gb360, 3, none⟩ = some (.int .u64 t366) ∧ w'.cell? ⟨gb360, 4, none⟩ = some (.int .u64 t367) ∧ w'.cell? ⟨gb360, 5, none⟩ = some (.int .u64 t368)) ∧ (w'.heap[gb360]? = some (.cells #[.int .i64 t363, .int .i64 t364, .int .i64 t365, .int .u64 t366, .int .u64 t367, .int .u64 t368] 28 (0, 0))) ∧ (w'.heap[gb361]? = some (.cells #[.int .i64 0, .int .i64 0, .int .i64 0, .int .u64 0, .int .u64 0, .int .u64 0] 28 (0, 0))) ∧ (w'.heap[s_]? = some (.cells #[.int .u64 0, .int .u64 0] 26 (0, 0))) ∧ (w.heap.size ≤ s_) ∧ (w.heap.size ≤ s_) ∧ (gb360 ≠ s_) ∧ (s_ ≠ gb360) ∧ (gb361 ≠ s_) ∧ (s_ ≠ gb361) ∧ (Below w.heap.size w w')) ?_ ?_
     rotate_left
     ·intro hCont
      refine two_ (i := 5) (j := 10) (Ni := some 32) (Nj := some 10) #[true, true, true, true, true, true, false, false, false, false, false, false, false] #[true, true, true, true, true, false, false, false, false, false, true, false, false] rfl rfl rfl rfl (two_of HT_.out (by kernel_rfl)) (by decide) (by decide) (fun K hK => ?_) (fun K hK => ?_)
      ·skip
       refine goes_ Try.func36 (by kernel_rfl) rfl #[.agg #[.int .i64 t363, .int .i64 t364, .int .i64 t365], .int .i64 a2] (by rfl) rfl rfl (by (try simp only [List.map_toArray, List.map_cons, List.map_nil]); first | done | rfl | (simp only [List.length_drop, List.length_take]; rfl)) ?_
       with_reducible refine (gcra_tokens.calls t363 t364 t365 a2 t369 t370 _ A14.out).mono ?_
       rintro e w90 ⟨rfl, hb⟩
       refine ⟨_, rfl, ?_⟩
       replace BK360 := bb_ BK360 hb
       replace BK361 := bb_ BK361 hb
       replace HB := bs_ w hb
       (try clear hb)
       (try clear hb2)
       (try clear hk)
       (try clear hi)
       refine hK.out _ _ ⟨(blk_cell BK360.out 0).trans rfl, (blk_cell BK360.out 1).trans rfl, (blk_cell BK360.out 2).trans rfl, (blk_cell BK360.out 3).trans rfl, (blk_cell BK360.out 4).trans rfl, (blk_cell BK360.out 5).trans rfl⟩ (fun hHeld => ?_)
       clear hK K
       refine norm_ (a' := ?_) ?_ ?_
       rotate_left
       ·show Act.put _ (some 32) _ = _
        simp only [Act.put, List.setIfInBounds_toArray, List.set_cons_zero, List.set_cons_succ, i64_w, i32_w]
        rfl
       refine two_ (i := 6) (j := 10) (Ni := some 33) (Nj := some 10) #[true, true, true, true, true, true, true, false, false, false, false, false, false] #[true, true, true, true, true, true, false, false, false, false, true, false, false] rfl rfl rfl rfl (two_of HT_.out (by kernel_rfl)) (by decide) (by decide) (fun K hK => ?_) (fun K hK => ?_)
       ·skip
        refine goes_ Try.func48 (by kernel_rfl) rfl #[.agg #[.int .u64 t366, .int .u64 t367], .agg #[.int .u64 t369, .int .u64 t370]] (by rfl) rfl rfl (by (try simp only [List.map_toArray, List.map_cons, List.map_nil]); first | done | rfl | (simp only [List.length_drop, List.length_take]; rfl)) ?_
        with_reducible refine (wide_Add.calls t366 t367 t369 t370 t371 t372 t373 _ A15.out).mono ?_
        rintro e w91 ⟨rfl, hb⟩
        refine ⟨_, rfl, ?_⟩
        replace BK360 := bb_ BK360 hb
        replace BK361 := bb_ BK361 hb
        replace HB := bs_ w hb
        (try clear hb)
        (try clear hb2)
        (try clear hk)
        (try clear hi)
        refine hK.out _ _ ⟨(blk_cell BK360.out 0).trans rfl, (blk_cell BK360.out 1).trans rfl, (blk_cell BK360.out 2).trans rfl, (blk_cell BK360.out 3).trans rfl, (blk_cell BK360.out 4).trans rfl, (blk_cell BK360.out 5).trans rfl⟩ (fun hHeld => ?_)
        clear hK K
        refine norm_ (a' := ?_) ?_ ?_
        rotate_left
        ·show Act.put _ (some 33) _ = _
         simp only [Act.put, List.setIfInBounds_toArray, List.set_cons_zero, List.set_cons_succ, i64_w, i32_w]
         rfl
        refine pure_ (i := 7) (N := some 26) (v := ?_) (a' := ?_) #[true, true, true, true, true, true, true, true, false, false, false, false, false] rfl rfl (any_of HT_.out (by kernel_rfl)) (fun _ _ _ h => h) (Or.inl ⟨by rfl, ?_⟩) ?_ ?_
        rotate_left
        ·intro w'
         go_simp
         with_reducible rfl
        rotate_left
        ·simp only [Act.put, List.setIfInBounds_toArray, List.set_cons_zero, List.set_cons_succ, i64_w, i32_w]
         rfl
        refine pure_ (i := 8) (N := some 34) (v := ?_) (a' := ?_) #[true, true, true, true, true, true, true, true, true, false, false, false, false] rfl rfl (any_of HT_.out (by kernel_rfl)) (fun _ _ _ h => h) (Or.inl ⟨by rfl, ?_⟩) ?_ ?_
        rotate_left
        ·intro w'
         go_simp
         with_reducible rfl
        rotate_left
        ·simp only [Act.put, List.setIfInBounds_toArray, List.set_cons_zero, List.set_cons_succ, i64_w, i32_w]
         rfl
        refine pure_ (i := 9) (N := some 35) (v := ?_) (a' := ?_) #[true, true, true, true, true, true, true, true, true, true, false, false, false] rfl rfl (any_of HT_.out (by kernel_rfl)) (fun _ _ _ h => h) (Or.inl ⟨by rfl, ?_⟩) ?_ ?_
        rotate_left
        ·intro w'
         go_simp
         with_reducible rfl
        rotate_left
        ·simp only [Act.put, List.setIfInBounds_toArray, List.set_cons_zero, List.set_cons_succ, i64_w, i32_w]
         rfl
        refine one_ (i := 10) (N := some 10) #[true, true, true, true, true, true, true, true, true, true, true, false, false] rfl rfl (one_of HT_.out (by kernel_rfl)) (by decide) (fun K hK => ?_)
        refine box_step ?hg (N := 10) ?hd (cs := #[.int .u64 0, .int .u64 0]) (t := 26) ?hr ?_; (case hd => rfl); (case hg => rfl); (case hr => first | (go_simp; done) | (go_simp; rfl))
        intro gb374 hg w92 hbox hb
        have BK374 := Aside0.mk (hbox)
        have GW374 := bz_ w hg
        have GE374 := GW374
        have NB360_374 := bn_ BK360 hg
        have NB374_360 := bm_ BK360 hg
        have NB361_374 := bn_ BK361 hg
        have NB374_361 := bm_ BK361 hg
        replace BK360 := bb_ BK360 hb
        replace BK361 := bb_ BK361 hb
        replace HB := bs_ w hb
        clear hb hbox hg
        refine hK.out _ _ ⟨(blk_cell BK360.out 0).trans rfl, (blk_cell BK360.out 1).trans rfl, (blk_cell BK360.out 2).trans rfl, (blk_cell BK360.out 3).trans rfl, (blk_cell BK360.out 4).trans rfl, (blk_cell BK360.out 5).trans rfl⟩ (fun hHeld => ?_)
        clear hK K
        refine norm_ (a' := ?_) ?_ ?_
        rotate_left
        ·show Act.put _ (some 10) _ = _
         simp only [Act.put, List.setIfInBounds_toArray, List.set_cons_zero, List.set_cons_succ, i64_w, i32_w]
         rfl
        exact norm_ (by simp only [putAll, Act.put, List.setIfInBounds_toArray, List.set_cons_zero, List.set_cons_succ]) (hCont (gb374) _ ⟨hHeld, (bq_ BK360), (bq_ BK361), (bq_ BK374), GW374.out, GE374.out, NB360_374.out, NB374_360.out, NB361_374.out, NB374_361.out, (by repeat (first | (with_reducible first | exact HB.out | apply below_alloc | apply pw_below_drewN | apply below_drew1 | refine below_set ?_ (Aside0.out (by assumption))) | exact HB.out))⟩)
       ·skip
        refine box_step ?hg (N := 10) ?hd (cs := #[.int .u64 0, .int .u64 0]) (t := 26) ?hr ?_; (case hd => rfl); (case hg => rfl); (case hr => first | (go_simp; done) | (go_simp; rfl))
        intro gb374 hg w91 hbox hb
        have BK374 := Aside0.mk (hbox)
        have GW374 := bz_ w hg
        have GE374 := GW374
        have NB360_374 := bn_ BK360 hg
        have NB374_360 := bm_ BK360 hg
        have NB361_374 := bn_ BK361 hg
        have NB374_361 := bm_ BK361 hg
        replace BK360 := bb_ BK360 hb
        replace BK361 := bb_ BK361 hb
        replace HB := bs_ w hb
        clear hb hbox hg
        refine hK.out _ _ ⟨(blk_cell BK360.out 0).trans rfl, (blk_cell BK360.out 1).trans rfl, (blk_cell BK360.out 2).trans rfl, (blk_cell BK360.out 3).trans rfl, (blk_cell BK360.out 4).trans rfl, (blk_cell BK360.out 5).trans rfl⟩ (fun hHeld => ?_)
        clear hK K
        refine norm_ (a' := ?_) ?_ ?_
        rotate_left
        ·show Act.put _ (some 10) _ = _
         simp only [Act.put, List.setIfInBounds_toArray, List.set_cons_zero, List.set_cons_succ, i64_w, i32_w]
         rfl
        refine one_ (i := 6) (N := some 33) #[true, true, true, true, true, true, true, false, false, false, true, false, false] rfl rfl (one_of HT_.out (by kernel_rfl)) (by decide) (fun K hK => ?_)
        refine goes_ Try.func48 (by kernel_rfl) rfl #[.agg #[.int .u64 t366, .int .u64 t367], .agg #[.int .u64 t369, .int .u64 t370]] (by rfl) rfl rfl (by (try simp only [List.map_toArray, List.map_cons, List.map_nil]); first | done | rfl | (simp only [List.length_drop, List.length_take]; rfl)) ?_
        with_reducible refine (wide_Add.calls t366 t367 t369 t370 t371 t372 t373 _ A15.out).mono ?_
        rintro e w92 ⟨rfl, hb⟩
        refine ⟨_, rfl, ?_⟩
        replace BK360 := bb_ BK360 hb
        replace BK361 := bb_ BK361 hb
        replace BK374 := bb_ BK374 hb
        replace HB := bs_ w hb
        (try clear hb)
        (try clear hb2)
        (try clear hk)
        (try clear hi)
        refine hK.out _ _ ⟨(blk_cell BK360.out 0).trans rfl, (blk_cell BK360.out 1).trans rfl, (blk_cell BK360.out 2).trans rfl, (blk_cell BK360.out 3).trans rfl, (blk_cell BK360.out 4).trans rfl, (blk_cell BK360.out 5).trans rfl⟩ (fun hHeld => ?_)
        clear hK K
        refine norm_ (a' := ?_) ?_ ?_
        rotate_left
        ·show Act.put _ (some 33) _ = _
         simp only [Act.put, List.setIfInBounds_toArray, List.set_cons_zero, List.set_cons_succ, i64_w, i32_w]
         rfl
        refine pure_ (i := 7) (N := some 26) (v := ?_) (a' := ?_) #[true, true, true, true, true, true, true, true, false, false, true, false, false] rfl rfl (any_of HT_.out (by kernel_rfl)) (fun _ _ _ h => h) (Or.inl ⟨by rfl, ?_⟩) ?_ ?_
        rotate_left
        ·intro w'
         go_simp
         with_reducible rfl
        rotate_left
        ·simp only [Act.put, List.setIfInBounds_toArray, List.set_cons_zero, List.set_cons_succ, i64_w, i32_w]
         rfl
        refine pure_ (i := 8) (N := some 34) (v := ?_) (a' := ?_) #[true, true, true, true, true, true, true, true, true, false, true, false, false] rfl rfl (any_of HT_.out (by kernel_rfl)) (fun _ _ _ h => h) (Or.inl ⟨by rfl, ?_⟩) ?_ ?_
        rotate_left
        ·intro w'
         go_simp
         with_reducible rfl
        rotate_left
        ·simp only [Act.put, List.setIfInBounds_toArray, List.set_cons_zero, List.set_cons_succ, i64_w, i32_w]
         rfl
        refine pure_ (i := 9) (N := some 35) (v := ?_) (a' := ?_) #[true, true, true, true, true, true, true, true, true, true, true, false, false] rfl rfl (any_of HT_.out (by kernel_rfl)) (fun _ _ _ h => h) (Or.inl ⟨by rfl, ?_⟩) ?_ ?_
        rotate_left
        ·intro w'
         go_simp
         with_reducible rfl
        rotate_left
        ·simp only [Act.put, List.setIfInBounds_toArray, List.set_cons_zero, List.set_cons_succ, i64_w, i32_w]
         rfl
        exact norm_ (by simp only [putAll, Act.put, List.setIfInBounds_toArray, List.set_cons_zero, List.set_cons_succ]) (hCont (gb374) _ ⟨hHeld, (bq_ BK360), (bq_ BK361), (bq_ BK374), GW374.out, GE374.out, NB360_374.out, NB374_360.out, NB361_374.out, NB374_361.out, (by repeat (first | (with_reducible first | exact HB.out | apply below_alloc | apply pw_below_drewN | apply below_drew1 | refine below_set ?_ (Aside0.out (by assumption))) | exact HB.out))⟩)
      ·skip
       refine box_step ?hg (N := 10) ?hd (cs := #[.int .u64 0, .int .u64 0]) (t := 26) ?hr ?_; (case hd => rfl); (case hg => rfl); (case hr => first | (go_simp; done) | (go_simp; rfl))
       intro gb374 hg w90 hbox hb
       have BK374 := Aside0.mk (hbox)
       have GW374 := bz_ w hg
       have GE374 := GW374
       have NB360_374 := bn_ BK360 hg
       have NB374_360 := bm_ BK360 hg
       have NB361_374 := bn_ BK361 hg
       have NB374_361 := bm_ BK361 hg
       replace BK360 := bb_ BK360 hb
       replace BK361 := bb_ BK361 hb
       replace HB := bs_ w hb
       clear hb hbox hg
       refine hK.out _ _ ⟨(blk_cell BK360.out 0).trans rfl, (blk_cell BK360.out 1).trans rfl, (blk_cell BK360.out 2).trans rfl, (blk_cell BK360.out 3).trans rfl, (blk_cell BK360.out 4).trans rfl, (blk_cell BK360.out 5).trans rfl⟩ (fun hHeld => ?_)
       clear hK K
       refine norm_ (a' := ?_) ?_ ?_
       rotate_left
       ·show Act.put _ (some 10) _ = _
        simp only [Act.put, List.setIfInBounds_toArray, List.set_cons_zero, List.set_cons_succ, i64_w, i32_w]
        rfl
       refine one_ (i := 5) (N := some 32) #[true, true, true, true, true, true, false, false, false, false, true, false, false] rfl rfl (one_of HT_.out (by kernel_rfl)) (by decide) (fun K hK => ?_)
       refine goes_ Try.func36 (by kernel_rfl) rfl #[.agg #[.int .i64 t363, .int .i64 t364, .int .i64 t365], .int .i64 a2] (by rfl) rfl rfl (by (try simp only [List.map_toArray, List.map_cons, List.map_nil]); first | done | rfl | (simp only [List.length_drop, List.length_take]; rfl)) ?_
       with_reducible refine (gcra_tokens.calls t363 t364 t365 a2 t369 t370 _ A14.out).mono ?_
       rintro e w91 ⟨rfl, hb⟩
       refine ⟨_, rfl, ?_⟩
       replace BK360 := bb_ BK360 hb
       replace BK361 := bb_ BK361 hb
       replace BK374 := bb_ BK374 hb
       replace HB := bs_ w hb
       (try clear hb)
       (try clear hb2)
       (try clear hk)
       (try clear hi)
       refine hK.out _ _ ⟨(blk_cell BK360.out 0).trans rfl, (blk_cell BK360.out 1).trans rfl, (blk_cell BK360.out 2).trans rfl, (blk_cell BK360.out 3).trans rfl, (blk_cell BK360.out 4).trans rfl, (blk_cell BK360.out 5).trans rfl⟩ (fun hHeld => ?_)
       clear hK K
       refine norm_ (a' := ?_) ?_ ?_
       rotate_left
       ·show Act.put _ (some 32) _ = _
        simp only [Act.put, List.setIfInBounds_toArray, List.set_cons_zero, List.set_cons_succ, i64_w, i32_w]
        rfl
       refine one_ (i := 6) (N := some 33) #[true, true, true, true, true, true, true, false, false, false, true, false, false] rfl rfl (one_of HT_.out (by kernel_rfl)) (by decide) (fun K hK => ?_)
       refine goes_ Try.func48 (by kernel_rfl) rfl #[.agg #[.int .u64 t366, .int .u64 t367], .agg #[.int .u64 t369, .int .u64 t370]] (by rfl) rfl rfl (by (try simp only [List.map_toArray, List.map_cons, List.map_nil]); first | done | rfl | (simp only [List.length_drop, List.length_take]; rfl)) ?_
       with_reducible refine (wide_Add.calls t366 t367 t369 t370 t371 t372 t373 _ A15.out).mono ?_
       rintro e w92 ⟨rfl, hb⟩
       refine ⟨_, rfl, ?_⟩
       replace BK360 := bb_ BK360 hb
       replace BK361 := bb_ BK361 hb
       replace BK374 := bb_ BK374 hb
       replace HB := bs_ w hb
       (try clear hb)
       (try clear hb2)
       (try clear hk)
       (try clear hi)
       refine hK.out _ _ ⟨(blk_cell BK360.out 0).trans rfl, (blk_cell BK360.out 1).trans rfl, (blk_cell BK360.out 2).trans rfl, (blk_cell BK360.out 3).trans rfl, (blk_cell BK360.out 4).trans rfl, (blk_cell BK360.out 5).trans rfl⟩ (fun hHeld => ?_)
       clear hK K
       refine norm_ (a' := ?_) ?_ ?_
       rotate_left
       ·show Act.put _ (some 33) _ = _
        simp only [Act.put, List.setIfInBounds_toArray, List.set_cons_zero, List.set_cons_succ, i64_w, i32_w]
        rfl
       refine pure_ (i := 7) (N := some 26) (v := ?_) (a' := ?_) #[true, true, true, true, true, true, true, true, false, false, true, false, false] rfl rfl (any_of HT_.out (by kernel_rfl)) (fun _ _ _ h => h) (Or.inl ⟨by rfl, ?_⟩) ?_ ?_
       rotate_left
       ·intro w'
        go_simp
        with_reducible rfl
       rotate_left
       ·simp only [Act.put, List.setIfInBounds_toArray, List.set_cons_zero, List.set_cons_succ, i64_w, i32_w]
        rfl
       refine pure_ (i := 8) (N := some 34) (v := ?_) (a' := ?_) #[true, true, true, true, true, true, true, true, true, false, true, false, false] rfl rfl (any_of HT_.out (by kernel_rfl)) (fun _ _ _ h => h) (Or.inl ⟨by rfl, ?_⟩) ?_ ?_
       rotate_left
       ·intro w'
        go_simp
        with_reducible rfl
       rotate_left
       ·simp only [Act.put, List.setIfInBounds_toArray, List.set_cons_zero, List.set_cons_succ, i64_w, i32_w]
        rfl
       refine pure_ (i := 9) (N := some 35) (v := ?_) (a' := ?_) #[true, true, true, true, true, true, true, true, true, true, true, false, false] rfl rfl (any_of HT_.out (by kernel_rfl)) (fun _ _ _ h => h) (Or.inl ⟨by rfl, ?_⟩) ?_ ?_
       rotate_left
       ·intro w'
        go_simp
        with_reducible rfl
       rotate_left
       ·simp only [Act.put, List.setIfInBounds_toArray, List.set_cons_zero, List.set_cons_succ, i64_w, i32_w]
        rfl
       exact norm_ (by simp only [putAll, Act.put, List.setIfInBounds_toArray, List.set_cons_zero, List.set_cons_succ]) (hCont (gb374) _ ⟨hHeld, (bq_ BK360), (bq_ BK361), (bq_ BK374), GW374.out, GE374.out, NB360_374.out, NB374_360.out, NB361_374.out, NB374_361.out, (by repeat (first | (with_reducible first | exact HB.out | apply below_alloc | apply pw_below_drewN | apply below_drew1 | refine below_set ?_ (Aside0.out (by assumption))) | exact HB.out))⟩)
     rintro gb374 w93 ⟨hS_, h0_, h1_, h2_, h3_, h4_, h5_, h6_, h7_, h8_, h9_⟩
     have BK374 : Aside0 (w93.heap[gb374]? = some (.cells #[.int .u64 0, .int .u64 0] 26 (0, 0))) := ⟨h2_⟩
     have GW374 : Aside0 (w.heap.size ≤ gb374) := ⟨h3_⟩
     have GE374 : Aside0 (w.heap.size ≤ gb374) := ⟨h4_⟩
     have NB360_374 : Aside0 (gb360 ≠ gb374) := ⟨h5_⟩
     have NB374_360 : Aside0 (gb374 ≠ gb360) := ⟨h6_⟩
     have NB361_374 : Aside0 (gb361 ≠ gb374) := ⟨h7_⟩
     have NB374_361 : Aside0 (gb374 ≠ gb361) := ⟨h8_⟩
     replace BK360 : Aside0 (w93.heap[gb360]? = some (.cells #[.int .i64 t363, .int .i64 t364, .int .i64 t365, .int .u64 t366, .int .u64 t367, .int .u64 t368] 28 (0, 0))) := ⟨h0_⟩
     replace BK361 : Aside0 (w93.heap[gb361]? = some (.cells #[.int .i64 0, .int .i64 0, .int .i64 0, .int .u64 0, .int .u64 0, .int .u64 0] 28 (0, 0))) := ⟨h1_⟩
     replace HB : Aside0 (Below w.heap.size w w93) := ⟨h9_⟩
     clear h0_ h1_ h2_ h3_ h4_ h5_ h6_ h7_ h8_ h9_
     have hHeld : w93.cell? ⟨gb360, 0, none⟩ = some (.int .i64 t363) ∧ w93.cell? ⟨gb360, 1, none⟩ = some (.int .i64 t364) ∧ w93.cell? ⟨gb360, 2, none⟩ = some (.int .i64 t365) ∧ w93.cell? ⟨gb360, 3, none⟩ = some (.int .u64 t366) ∧ w93.cell? ⟨gb360, 4, none⟩ = some (.int .u64 t367) ∧ w93.cell? ⟨gb360, 5, none⟩ = some (.int .u64 t368) := hS_
     refine norm_ (a' := ?_) ?_ ?_
     rotate_left
     ·simp only [putAll, Act.put, List.setIfInBounds_toArray, List.set_cons_zero, List.set_cons_succ]
      rfl
     refine one_ (i := 11) (N := none) #[true, true, true, true, true, true, true, true, true, true, true, true, false] rfl rfl (one_of HT_.out (by kernel_rfl)) (by decide) (fun K hK => ?_)
     have hs94 : w93.cell? ⟨gb374, 0, none⟩ = some (.int .u64 0) := (blk_cell BK374.out 0).trans rfl
     have hfs94 := blk_frozen BK374.out 0
     have hns94_0 := NB360_374.out
     have hns94_1 := NB361_374.out
     have hms94_0 := NB374_360.out
     have hms94_1 := NB374_361.out
     have hs95 : w93.cell? ⟨gb374, 1, none⟩ = some (.int .u64 0) := (blk_cell BK374.out 1).trans rfl
     have hfs95 := blk_frozen BK374.out 1
     have hns95_0 := NB360_374.out
     have hns95_1 := NB361_374.out
     have hms95_0 := NB374_360.out
     have hms95_1 := NB374_361.out
     refine skip_ (w1 := ?_) (by rfl) rfl ?_ ?_
     rotate_left
     ·go_simp
      rfl
     refine hK.out _ _ ⟨((cell_far (p := ⟨gb374, _, none⟩) NB360_374.out _).trans (((cell_far (p := ⟨gb374, _, none⟩) NB360_374.out _).trans (hHeld.1)))), ((cell_far (p := ⟨gb374, _, none⟩) NB360_374.out _).trans (((cell_far (p := ⟨gb374, _, none⟩) NB360_374.out _).trans (hHeld.2.1)))), ((cell_far (p := ⟨gb374, _, none⟩) NB360_374.out _).trans (((cell_far (p := ⟨gb374, _, none⟩) NB360_374.out _).trans (hHeld.2.2.1)))), ((cell_far (p := ⟨gb374, _, none⟩) NB360_374.out _).trans (((cell_far (p := ⟨gb374, _, none⟩) NB360_374.out _).trans (hHeld.2.2.2.1)))), ((cell_far (p := ⟨gb374, _, none⟩) NB360_374.out _).trans (((cell_far (p := ⟨gb374, _, none⟩) NB360_374.out _).trans (hHeld.2.2.2.2.1)))), ((cell_far (p := ⟨gb374, _, none⟩) NB360_374.out _).trans (((cell_far (p := ⟨gb374, _, none⟩) NB360_374.out _).trans (hHeld.2.2.2.2.2))))⟩ (fun hHeld => ?_)
     clear hK K
     refine pure_ (i := 12) (N := some 11) (v := ?_) (a' := ?_) #[true, true, true, true, true, true, true, true, true, true, true, true, true] rfl rfl (any_of HT_.out (by kernel_rfl)) (fun _ _ _ h => h) (Or.inl ⟨by rfl, ?_⟩) ?_ ?_
     rotate_left
     ·intro w'
      go_simp
      with_reducible rfl
     rotate_left
     ·simp only [Act.put, List.setIfInBounds_toArray, List.set_cons_zero, List.set_cons_succ, i64_w, i32_w]
      rfl
     refine done_ (done_of HT_.out (by kernel_rfl)) ?_
     have hnb96 := NB360_374.out
     have hnc96 := NB374_360.out
     obtain ⟨hcz97_0, hcz97_1, hcz97_2, hcz97_3, hcz97_4, hcz97_5, hfz97_0, hfz97_1, hfz97_2, hfz97_3, hfz97_4, hfz97_5⟩ := ce6_ BK360
     try go_wp2_with (first | ((with_reducible refine gate_callee (f := 35) rfl ?_); refine goesA_ (some 41) Try.func35 #[.agg #[.int .i64 t363, .int .i64 t364, .int .i64 t365], .int .u64 t368] ?_; (with_reducible refine (gcra_end.calls t363 t364 t365 t368 t375 t376 t377 _ A16.out).mono ?_); rintro e w98 ⟨rfl, hb⟩; refine ⟨_, rfl, ?_⟩; replace BK360 := bf_ BK360 hb; replace BK361 := bf_ BK361 hb; replace BK374 := Aside0.mk (blk_below (g := gb374) (o := .cells #[.int .u64 t371, .int .u64 t372] 26 (0, 0)) (blk_put (cs := #[.int .u64 t371, .int .u64 0]) (blk_put (cs := #[.int .u64 0, .int .u64 0]) (bq_ BK374) 0 _ rfl) 1 _ rfl) hb); replace HB := bs_ w hb; (try clear hb); (try clear hb2); (try clear hk); (try clear hi)) | ((with_reducible refine gate_dst (N := 12) rfl ?_); refine box_event ?hg (N := 12) ?hd (cs := #[.int .u64 0, .int .u64 0]) (t := 26) ?hr ?_; (case hd => rfl); (case hg => rfl); (case hr => first | (go_simp; done) | (go_simp; rfl)); intro gb378 hg w99 hbox hb; have BK378 := Aside0.mk (hbox); have GW378 := bz_ w hg; have GE378 := GW378; have NB360_378 := bn_ BK360 hg; have NB378_360 := bm_ BK360 hg; have NB361_378 := bn_ BK361 hg; have NB378_361 := bm_ BK361 hg; have NB374_378 := bn_ BK374 hg; have NB378_374 := bm_ BK374 hg; replace BK360 := bb_ BK360 hb; replace BK361 := bb_ BK361 hb; replace BK374 := bb_ BK374 hb; replace HB := bs_ w hb; clear hb hbox hg; have hnb100 := NB378_360.out; have hnc100 := NB360_378.out; have hnb101 := NB378_361.out; have hnc101 := NB361_378.out; have hnb102 := NB378_374.out; have hnc102 := NB374_378.out; obtain ⟨hcz103_0, hcz103_1, hfz103_0, hfz103_1⟩ := ce2_ BK378; obtain ⟨hcz104_0, hcz104_1, hcz104_2, hcz104_3, hcz104_4, hcz104_5, hfz104_0, hfz104_1, hfz104_2, hfz104_3, hfz104_4, hfz104_5⟩ := ce6_ BK360; have hnb105 := NB361_374.out; have hnc105 := NB374_361.out; obtain ⟨hcz106_0, hcz106_1, hcz106_2, hcz106_3, hcz106_4, hcz106_5, hfz106_0, hfz106_1, hfz106_2, hfz106_3, hfz106_4, hfz106_5⟩ := ce6_ BK361))
     refine bodyPost_ret (results_ctt rfl _ _ gb361 28 #[.int .i64 t363, .int .i64 t364, .int .i64 t365, .int .u64 t366, .int .u64 t367, .int .u64 t368] (0, 0) _ rfl (blk_put (cs := #[.int .i64 t363, .int .i64 t364, .int .i64 t365, .int .u64 t366, .int .u64 t367, .int .u64 0]) (blk_put (cs := #[.int .i64 t363, .int .i64 t364, .int .i64 t365, .int .u64 t366, .int .u64 0, .int .u64 0]) (blk_put (cs := #[.int .i64 t363, .int .i64 t364, .int .i64 t365, .int .u64 0, .int .u64 0, .int .u64 0]) (blk_put (cs := #[.int .i64 t363, .int .i64 t364, .int .i64 0, .int .u64 0, .int .u64 0, .int .u64 0]) (blk_put (cs := #[.int .i64 t363, .int .i64 0, .int .i64 0, .int .u64 0, .int .u64 0, .int .u64 0]) (blk_put (cs := #[.int .i64 0, .int .i64 0, .int .i64 0, .int .u64 0, .int .u64 0, .int .u64 0]) (blk_far (blk_far (bq_ BK361) NB361_378.out _) NB361_378.out _) 0 _ rfl) 1 _ rfl) 2 _ rfl) 3 _ rfl) 4 _ rfl) 5 _ rfl) Try.underlying28 rfl (by kernel_rfl)) rfl ?_
     exact ⟨by first | rfl | (simp [errW_none, errW_some] <;> rfl) | (simp [*, errW_none, errW_some] <;> rfl), by repeat (first | (with_reducible first | exact HB.out | apply below_alloc | apply pw_below_drewN | apply below_drew1 | refine below_set ?_ GE360.out | refine below_set ?_ GE361.out | refine below_set ?_ GE374.out | refine below_set ?_ GE378.out) | exact HB.out)⟩
   ·rw [if_neg c17] at H
    have c17b0 : (t373 == 0) = false := beq_eq_false_iff_ne.mpr c17
    have c17b1 : (t373 != 0) = true := bne_iff_ne.mpr c17
    simp only [Option.some.injEq, Prod.mk.injEq] at H
    obtain ⟨rfl, rfl, rfl, rfl, rfl, rfl, rfl, rfl⟩ := H
    go_enter Try.func17, Try.ntmps17
    try go_wp2_with (first | ((with_reducible refine gate_dst (N := 3) rfl ?_); refine box_event ?hg (N := 3) ?hd (cs := #[.int .i64 a0_0, .int .i64 a0_1, .int .i64 a0_2, .int .u64 a0_3, .int .u64 a0_4, .int .u64 a0_5]) (t := 28) ?hr ?_; (case hd => rfl); (case hg => rfl); (case hr => first | (go_simp; done) | (go_simp; rfl)); intro gb360 hg w107 hbox hb; have BK360 := Aside0.mk (hbox); have GW360 := bz_ w hg; have GE360 := GW360; replace HB := bs_ w hb; clear hb hbox hg) | ((with_reducible refine gate_dst (N := 6) rfl ?_); refine box_event ?hg (N := 6) ?hd (cs := #[.int .i64 0, .int .i64 0, .int .i64 0, .int .u64 0, .int .u64 0, .int .u64 0]) (t := 28) ?hr ?_; (case hd => rfl); (case hg => rfl); (case hr => first | (go_simp; done) | (go_simp; rfl)); intro gb361 hg w108 hbox hb; have BK361 := Aside0.mk (hbox); have GW361 := bz_ w hg; have GE361 := GW361; have NB360_361 := bn_ BK360 hg; have NB361_360 := bm_ BK360 hg; replace BK360 := bb_ BK360 hb; replace HB := bs_ w hb; clear hb hbox hg; have hnb109 := NB360_361.out; have hnc109 := NB361_360.out; obtain ⟨hcz110_0, hcz110_1, hcz110_2, hcz110_3, hcz110_4, hcz110_5, hfz110_0, hfz110_1, hfz110_2, hfz110_3, hfz110_4, hfz110_5⟩ := ce6_ BK360) | ((with_reducible refine gate_callee (f := 15) rfl ?_); refine goesA_ (some 15) Try.func15 #[.agg #[.int .i64 a0_0, .int .i64 a0_1, .int .i64 a0_2, .int .u64 a0_3, .int .u64 a0_4, .int .u64 a0_5]] ?_; (with_reducible refine (gcra_Check.calls k a0_0 a0_1 a0_2 a0_3 a0_4 a0_5 t362 _ A4.out).mono ?_); rintro e w111 ⟨rfl, hb⟩; refine ⟨_, rfl, ?_⟩; replace BK360 := bb_ BK360 hb; replace BK361 := bb_ BK361 hb; replace HB := bs_ w hb; (try clear hb); (try clear hb2); (try clear hk); (try clear hi); obtain ⟨hcz112_0, hcz112_1, hcz112_2, hcz112_3, hcz112_4, hcz112_5, hfz112_0, hfz112_1, hfz112_2, hfz112_3, hfz112_4, hfz112_5⟩ := ce6_ BK360) | ((with_reducible refine gate_callee (f := 47) rfl ?_); refine goesA_ (some 25) Try.func47 #[.agg #[.int .i64 a0_0, .int .i64 a0_1, .int .i64 a0_2, .int .u64 a0_3, .int .u64 a0_4, .int .u64 a0_5], .int .u64 a1] ?_; (with_reducible refine (gcra_moved.calls k a0_0 a0_1 a0_2 a0_3 a0_4 a0_5 a1 t363 t364 t365 t366 t367 t368 _ A13.out).mono ?_); rintro e w113 ⟨rfl, hb⟩; refine ⟨_, rfl, ?_⟩; replace BK360 := bb_ BK360 hb; replace BK361 := bb_ BK361 hb; replace HB := bs_ w hb; (try clear hb); (try clear hb2); (try clear hk); (try clear hi); obtain ⟨hcz114_0, hcz114_1, hcz114_2, hcz114_3, hcz114_4, hcz114_5, hfz114_0, hfz114_1, hfz114_2, hfz114_3, hfz114_4, hfz114_5⟩ := ce6_ BK360))
    have n0_ : Aside0 (((((((w113.setCell ⟨gb360, 0, none⟩ (.int .i64 t363)).setCell ⟨gb360, 1, none⟩ (.int .i64 t364)).setCell ⟨gb360, 2, none⟩ (.int .i64 t365)).setCell ⟨gb360, 3, none⟩ (.int .u64 t366)).setCell ⟨gb360, 4, none⟩ (.int .u64 t367)).setCell ⟨gb360, 5, none⟩ (.int .u64 t368)).heap[gb360]? = some (.cells #[.int .i64 t363, .int .i64 t364, .int .i64 t365, .int .u64 t366, .int .u64 t367, .int .u64 t368] 28 (0, 0))) := ⟨(blk_put (cs := #[.int .i64 t363, .int .i64 t364, .int .i64 t365, .int .u64 t366, .int .u64 t367, .int .u64 a0_5]) (blk_put (cs := #[.int .i64 t363, .int .i64 t364, .int .i64 t365, .int .u64 t366, .int .u64 a0_4, .int .u64 a0_5]) (blk_put (cs := #[.int .i64 t363, .int .i64 t364, .int .i64 t365, .int .u64 a0_3, .int .u64 a0_4, .int .u64 a0_5]) (blk_put (cs := #[.int .i64 t363, .int .i64 t364, .int .i64 a0_2, .int .u64 a0_3, .int .u64 a0_4, .int .u64 a0_5]) (blk_put (cs := #[.int .i64 t363, .int .i64 a0_1, .int .i64 a0_2, .int .u64 a0_3, .int .u64 a0_4, .int .u64 a0_5]) (blk_put (cs := #[.int .i64 a0_0, .int .i64 a0_1, .int .i64 a0_2, .int .u64 a0_3, .int .u64 a0_4, .int .u64 a0_5]) (bq_ BK360) 0 _ rfl) 1 _ rfl) 2 _ rfl) 3 _ rfl) 4 _ rfl) 5 _ rfl)⟩
    have n1_ : Aside0 (((((((w113.setCell ⟨gb360, 0, none⟩ (.int .i64 t363)).setCell ⟨gb360, 1, none⟩ (.int .i64 t364)).setCell ⟨gb360, 2, none⟩ (.int .i64 t365)).setCell ⟨gb360, 3, none⟩ (.int .u64 t366)).setCell ⟨gb360, 4, none⟩ (.int .u64 t367)).setCell ⟨gb360, 5, none⟩ (.int .u64 t368)).heap[gb361]? = some (.cells #[.int .i64 0, .int .i64 0, .int .i64 0, .int .u64 0, .int .u64 0, .int .u64 0] 28 (0, 0))) := ⟨(blk_far (blk_far (blk_far (blk_far (blk_far (blk_far (bq_ BK361) NB361_360.out _) NB361_360.out _) NB361_360.out _) NB361_360.out _) NB361_360.out _) NB361_360.out _)⟩
    have n2_ : Aside0 (Below w.heap.size w ((((((w113.setCell ⟨gb360, 0, none⟩ (.int .i64 t363)).setCell ⟨gb360, 1, none⟩ (.int .i64 t364)).setCell ⟨gb360, 2, none⟩ (.int .i64 t365)).setCell ⟨gb360, 3, none⟩ (.int .u64 t366)).setCell ⟨gb360, 4, none⟩ (.int .u64 t367)).setCell ⟨gb360, 5, none⟩ (.int .u64 t368))) := ⟨by repeat (first | (with_reducible first | exact HB.out | apply below_alloc | apply pw_below_drewN | apply below_drew1 | refine below_set ?_ GE360.out | refine below_set ?_ GE361.out) | exact HB.out)⟩
    (try clear BK360)
    (try clear BK361)
    (try clear HB)
    generalize ((((((w113.setCell ⟨gb360, 0, none⟩ (.int .i64 t363)).setCell ⟨gb360, 1, none⟩ (.int .i64 t364)).setCell ⟨gb360, 2, none⟩ (.int .i64 t365)).setCell ⟨gb360, 3, none⟩ (.int .u64 t366)).setCell ⟨gb360, 4, none⟩ (.int .u64 t367)).setCell ⟨gb360, 5, none⟩ (.int .u64 t368)) = w115 at n0_ n1_ n2_ ⊢
    have BK360 := n0_
    have BK361 := n1_
    have HB := n2_
    clear n0_ n1_ n2_
    replace BK360 := Aside0.mk (blk_drew BK360.out)
    replace BK361 := Aside0.mk (blk_drew BK361.out)
    replace HB := Aside0.mk (below_drew1 HB.out)
    refine start_ (n := 13) (S := fun w' => w'.cell? ⟨gb360, 0, none⟩ = some (.int .i64 t363) ∧ w'.cell? ⟨gb360, 1, none⟩ = some (.int .i64 t364) ∧ w'.cell? ⟨gb360, 2, none⟩ = some (.int .i64 t365) ∧ w'.cell? ⟨gb360, 3, none⟩ = some (.int .u64 t366) ∧ w'.cell? ⟨gb360, 4, none⟩ = some (.int .u64 t367) ∧ w'.cell? ⟨gb360, 5, none⟩ = some (.int .u64 t368)) (ds := []) #[false, false, false, false, false, false, false, false, false, false, false, false, false] (by kernel_rfl) rfl rfl ⟨(blk_cell BK360.out 0).trans rfl, (blk_cell BK360.out 1).trans rfl, (blk_cell BK360.out 2).trans rfl, (blk_cell BK360.out 3).trans rfl, (blk_cell BK360.out 4).trans rfl, (blk_cell BK360.out 5).trans rfl⟩ (fun hHeld => ?_); refine with_tabW gcra_Ask.tab7 gcra_Ask.bits7 (fun HT_ HW_ => ?_)
    generalize w115.drew = w116 at BK360 BK361 HB hHeld ⊢
    refine pure_ (i := 0) (N := some 27) (v := ?_) (a' := ?_) #[true, false, false, false, false, false, false, false, false, false, false, false, false] rfl rfl (any_of HT_.out (by kernel_rfl)) (fun _ _ _ h => h) (Or.inl ⟨by rfl, ?_⟩) ?_ ?_
    rotate_left
    ·intro w'
     go_simp
     with_reducible rfl
    rotate_left
    ·simp only [Act.put, List.setIfInBounds_toArray, List.set_cons_zero, List.set_cons_succ, i64_w, i32_w]
     rfl
    refine pure_ (i := 2) (N := some 29) (v := ?_) (a' := ?_) #[true, false, true, false, false, false, false, false, false, false, false, false, false] rfl rfl (any_of HT_.out (by kernel_rfl)) (fun _ _ _ h => h) (Or.inl ⟨by rfl, ?_⟩) ?_ ?_
    rotate_left
    ·intro w'
     go_simp
     with_reducible rfl
    rotate_left
    ·simp only [Act.put, List.setIfInBounds_toArray, List.set_cons_zero, List.set_cons_succ, i64_w, i32_w]
     rfl
    refine pure_ (i := 4) (N := some 31) (v := ?_) (a' := ?_) #[true, false, true, false, true, false, false, false, false, false, false, false, false] rfl rfl (any_of HT_.out (by kernel_rfl)) (fun _ _ _ h => h) (Or.inl ⟨by rfl, ?_⟩) ?_ ?_
    rotate_left
    ·intro w'
     go_simp
     with_reducible rfl
    rotate_left
    ·simp only [Act.put, List.setIfInBounds_toArray, List.set_cons_zero, List.set_cons_succ, i64_w, i32_w]
     rfl
    refine take_ (i := 1) (N := some 28) (v := ?_) (a' := ?_) #[true, true, true, false, true, false, false, false, false, false, false, false, false] rfl rfl (take_ofW HT_.out HW_.out (by kernel_rfl)) (fun _ _ _ h => h) (Or.inl ⟨by rfl, ?_⟩) hHeld ?_ ?_
    rotate_left
    ·rintro w' ⟨s0, s1, s2, s3, s4, s5⟩
     go_simp
     with_reducible rfl
    rotate_left
    ·simp only [Act.put, List.setIfInBounds_toArray, List.set_cons_zero, List.set_cons_succ, i64_w, i32_w]
     rfl
    refine take_ (i := 3) (N := some 30) (v := ?_) (a' := ?_) #[true, true, true, true, true, false, false, false, false, false, false, false, false] rfl rfl (take_ofW HT_.out HW_.out (by kernel_rfl)) (fun _ _ _ h => h) (Or.inl ⟨by rfl, ?_⟩) hHeld ?_ ?_
    rotate_left
    ·rintro w' ⟨s0, s1, s2, s3, s4, s5⟩
     go_simp
     with_reducible rfl
    rotate_left
    ·simp only [Act.put, List.setIfInBounds_toArray, List.set_cons_zero, List.set_cons_succ, i64_w, i32_w]
     rfl
    refine join_ (σ := Nat) 2 #[true, true, true, true, true, true, true, true, true, true, true, false, false] (fun s_ => [(32, .agg #[.int .u64 t369, .int .u64 t370]), (33, .tuple #[.agg #[.int .u64 t371, .int .u64 t372], .int .i64 t373]), (10, .pointer (some ⟨s_, 0, none⟩)), (26, .tuple #[.agg #[.int .u64 t371, .int .u64 t372], .int .i64 t373]), (34, .agg #[.int .u64 t371, .int .u64 t372]), (35, .int .i64 t373)]) (fun s_ w' => (w'.cell? ⟨gb360, 0, none⟩ = some (.int .i64 t363) ∧ w'.cell? ⟨gb360, 1, none⟩ = some (.int .i64 t364) ∧ w'.cell? ⟨gb360, 2, none⟩ = some (.int .i64 t365) ∧ w'.cell? ⟨gb360, 3, none⟩ = some (.int .u64 t366) ∧ w'.cell? ⟨gb360, 4, none⟩ = some (.int .u64 t367) ∧ w'.cell? ⟨gb360, 5, none⟩ = some (.int .u64 t368)) ∧ (w'.heap[gb360]? = some (.cells #[.int .i64 t363, .int .i64 t364, .int .i64 t365, .int .u64 t366, .int .u64 t367, .int .u64 t368] 28 (0, 0))) ∧ (w'.heap[gb361]? = some (.cells #[.int .i64 0, .int .i64 0, .int .i64 0, .int .u64 0, .int .u64 0, .int .u64 0] 28 (0, 0))) ∧ (w'.heap[s_]? = some (.cells #[.int .u64 0, .int .u64 0] 26 (0, 0))) ∧ (w.heap.size ≤ s_) ∧ (w.heap.size ≤ s_) ∧ (gb360 ≠ s_) ∧ (s_ ≠ gb360) ∧ (gb361 ≠ s_) ∧ (s_ ≠ gb361) ∧ (Below w.heap.size w w')) ?_ ?_
    rotate_left
    ·intro hCont
     refine two_ (i := 5) (j := 10) (Ni := some 32) (Nj := some 10) #[true, true, true, true, true, true, false, false, false, false, false, false, false] #[true, true, true, true, true, false, false, false, false, false, true, false, false] rfl rfl rfl rfl (two_of HT_.out (by kernel_rfl)) (by decide) (by decide) (fun K hK => ?_) (fun K hK => ?_)
     ·skip
      refine goes_ Try.func36 (by kernel_rfl) rfl #[.agg #[.int .i64 t363, .int .i64 t364, .int .i64 t365], .int .i64 a2] (by rfl) rfl rfl (by (try simp only [List.map_toArray, List.map_cons, List.map_nil]); first | done | rfl | (simp only [List.length_drop, List.length_take]; rfl)) ?_
      with_reducible refine (gcra_tokens.calls t363 t364 t365 a2 t369 t370 _ A14.out).mono ?_
      rintro e w117 ⟨rfl, hb⟩
      refine ⟨_, rfl, ?_⟩
      replace BK360 := bb_ BK360 hb
      replace BK361 := bb_ BK361 hb
      replace HB := bs_ w hb
      (try clear hb)
      (try clear hb2)
      (try clear hk)
      (try clear hi)
      refine hK.out _ _ ⟨(blk_cell BK360.out 0).trans rfl, (blk_cell BK360.out 1).trans rfl, (blk_cell BK360.out 2).trans rfl, (blk_cell BK360.out 3).trans rfl, (blk_cell BK360.out 4).trans rfl, (blk_cell BK360.out 5).trans rfl⟩ (fun hHeld => ?_)
      clear hK K
      refine norm_ (a' := ?_) ?_ ?_
      rotate_left
      ·show Act.put _ (some 32) _ = _
       simp only [Act.put, List.setIfInBounds_toArray, List.set_cons_zero, List.set_cons_succ, i64_w, i32_w]
       rfl
      refine two_ (i := 6) (j := 10) (Ni := some 33) (Nj := some 10) #[true, true, true, true, true, true, true, false, false, false, false, false, false] #[true, true, true, true, true, true, false, false, false, false, true, false, false] rfl rfl rfl rfl (two_of HT_.out (by kernel_rfl)) (by decide) (by decide) (fun K hK => ?_) (fun K hK => ?_)
      ·skip
       refine goes_ Try.func48 (by kernel_rfl) rfl #[.agg #[.int .u64 t366, .int .u64 t367], .agg #[.int .u64 t369, .int .u64 t370]] (by rfl) rfl rfl (by (try simp only [List.map_toArray, List.map_cons, List.map_nil]); first | done | rfl | (simp only [List.length_drop, List.length_take]; rfl)) ?_
       with_reducible refine (wide_Add.calls t366 t367 t369 t370 t371 t372 t373 _ A15.out).mono ?_
       rintro e w118 ⟨rfl, hb⟩
       refine ⟨_, rfl, ?_⟩
       replace BK360 := bb_ BK360 hb
       replace BK361 := bb_ BK361 hb
       replace HB := bs_ w hb
       (try clear hb)
       (try clear hb2)
       (try clear hk)
       (try clear hi)
       refine hK.out _ _ ⟨(blk_cell BK360.out 0).trans rfl, (blk_cell BK360.out 1).trans rfl, (blk_cell BK360.out 2).trans rfl, (blk_cell BK360.out 3).trans rfl, (blk_cell BK360.out 4).trans rfl, (blk_cell BK360.out 5).trans rfl⟩ (fun hHeld => ?_)
       clear hK K
       refine norm_ (a' := ?_) ?_ ?_
       rotate_left
       ·show Act.put _ (some 33) _ = _
        simp only [Act.put, List.setIfInBounds_toArray, List.set_cons_zero, List.set_cons_succ, i64_w, i32_w]
        rfl
       refine pure_ (i := 7) (N := some 26) (v := ?_) (a' := ?_) #[true, true, true, true, true, true, true, true, false, false, false, false, false] rfl rfl (any_of HT_.out (by kernel_rfl)) (fun _ _ _ h => h) (Or.inl ⟨by rfl, ?_⟩) ?_ ?_
       rotate_left
       ·intro w'
        go_simp
        with_reducible rfl
       rotate_left
       ·simp only [Act.put, List.setIfInBounds_toArray, List.set_cons_zero, List.set_cons_succ, i64_w, i32_w]
        rfl
       refine pure_ (i := 8) (N := some 34) (v := ?_) (a' := ?_) #[true, true, true, true, true, true, true, true, true, false, false, false, false] rfl rfl (any_of HT_.out (by kernel_rfl)) (fun _ _ _ h => h) (Or.inl ⟨by rfl, ?_⟩) ?_ ?_
       rotate_left
       ·intro w'
        go_simp
        with_reducible rfl
       rotate_left
       ·simp only [Act.put, List.setIfInBounds_toArray, List.set_cons_zero, List.set_cons_succ, i64_w, i32_w]
        rfl
       refine pure_ (i := 9) (N := some 35) (v := ?_) (a' := ?_) #[true, true, true, true, true, true, true, true, true, true, false, false, false] rfl rfl (any_of HT_.out (by kernel_rfl)) (fun _ _ _ h => h) (Or.inl ⟨by rfl, ?_⟩) ?_ ?_
       rotate_left
       ·intro w'
        go_simp
        with_reducible rfl
       rotate_left
       ·simp only [Act.put, List.setIfInBounds_toArray, List.set_cons_zero, List.set_cons_succ, i64_w, i32_w]
        rfl
       refine one_ (i := 10) (N := some 10) #[true, true, true, true, true, true, true, true, true, true, true, false, false] rfl rfl (one_of HT_.out (by kernel_rfl)) (by decide) (fun K hK => ?_)
       refine box_step ?hg (N := 10) ?hd (cs := #[.int .u64 0, .int .u64 0]) (t := 26) ?hr ?_; (case hd => rfl); (case hg => rfl); (case hr => first | (go_simp; done) | (go_simp; rfl))
       intro gb374 hg w119 hbox hb
       have BK374 := Aside0.mk (hbox)
       have GW374 := bz_ w hg
       have GE374 := GW374
       have NB360_374 := bn_ BK360 hg
       have NB374_360 := bm_ BK360 hg
       have NB361_374 := bn_ BK361 hg
       have NB374_361 := bm_ BK361 hg
       replace BK360 := bb_ BK360 hb
       replace BK361 := bb_ BK361 hb
       replace HB := bs_ w hb
       clear hb hbox hg
       refine hK.out _ _ ⟨(blk_cell BK360.out 0).trans rfl, (blk_cell BK360.out 1).trans rfl, (blk_cell BK360.out 2).trans rfl, (blk_cell BK360.out 3).trans rfl, (blk_cell BK360.out 4).trans rfl, (blk_cell BK360.out 5).trans rfl⟩ (fun hHeld => ?_)
       clear hK K
       refine norm_ (a' := ?_) ?_ ?_
       rotate_left
       ·show Act.put _ (some 10) _ = _
        simp only [Act.put, List.setIfInBounds_toArray, List.set_cons_zero, List.set_cons_succ, i64_w, i32_w]
        rfl
       exact norm_ (by simp only [putAll, Act.put, List.setIfInBounds_toArray, List.set_cons_zero, List.set_cons_succ]) (hCont (gb374) _ ⟨hHeld, (bq_ BK360), (bq_ BK361), (bq_ BK374), GW374.out, GE374.out, NB360_374.out, NB374_360.out, NB361_374.out, NB374_361.out, (by repeat (first | (with_reducible first | exact HB.out | apply below_alloc | apply pw_below_drewN | apply below_drew1 | refine below_set ?_ (Aside0.out (by assumption))) | exact HB.out))⟩)
      ·skip
       refine box_step ?hg (N := 10) ?hd (cs := #[.int .u64 0, .int .u64 0]) (t := 26) ?hr ?_; (case hd => rfl); (case hg => rfl); (case hr => first | (go_simp; done) | (go_simp; rfl))
       intro gb374 hg w118 hbox hb
       have BK374 := Aside0.mk (hbox)
       have GW374 := bz_ w hg
       have GE374 := GW374
       have NB360_374 := bn_ BK360 hg
       have NB374_360 := bm_ BK360 hg
       have NB361_374 := bn_ BK361 hg
       have NB374_361 := bm_ BK361 hg
       replace BK360 := bb_ BK360 hb
       replace BK361 := bb_ BK361 hb
       replace HB := bs_ w hb
       clear hb hbox hg
       refine hK.out _ _ ⟨(blk_cell BK360.out 0).trans rfl, (blk_cell BK360.out 1).trans rfl, (blk_cell BK360.out 2).trans rfl, (blk_cell BK360.out 3).trans rfl, (blk_cell BK360.out 4).trans rfl, (blk_cell BK360.out 5).trans rfl⟩ (fun hHeld => ?_)
       clear hK K
       refine norm_ (a' := ?_) ?_ ?_
       rotate_left
       ·show Act.put _ (some 10) _ = _
        simp only [Act.put, List.setIfInBounds_toArray, List.set_cons_zero, List.set_cons_succ, i64_w, i32_w]
        rfl
       refine one_ (i := 6) (N := some 33) #[true, true, true, true, true, true, true, false, false, false, true, false, false] rfl rfl (one_of HT_.out (by kernel_rfl)) (by decide) (fun K hK => ?_)
       refine goes_ Try.func48 (by kernel_rfl) rfl #[.agg #[.int .u64 t366, .int .u64 t367], .agg #[.int .u64 t369, .int .u64 t370]] (by rfl) rfl rfl (by (try simp only [List.map_toArray, List.map_cons, List.map_nil]); first | done | rfl | (simp only [List.length_drop, List.length_take]; rfl)) ?_
       with_reducible refine (wide_Add.calls t366 t367 t369 t370 t371 t372 t373 _ A15.out).mono ?_
       rintro e w119 ⟨rfl, hb⟩
       refine ⟨_, rfl, ?_⟩
       replace BK360 := bb_ BK360 hb
       replace BK361 := bb_ BK361 hb
       replace BK374 := bb_ BK374 hb
       replace HB := bs_ w hb
       (try clear hb)
       (try clear hb2)
       (try clear hk)
       (try clear hi)
       refine hK.out _ _ ⟨(blk_cell BK360.out 0).trans rfl, (blk_cell BK360.out 1).trans rfl, (blk_cell BK360.out 2).trans rfl, (blk_cell BK360.out 3).trans rfl, (blk_cell BK360.out 4).trans rfl, (blk_cell BK360.out 5).trans rfl⟩ (fun hHeld => ?_)
       clear hK K
       refine norm_ (a' := ?_) ?_ ?_
       rotate_left
       ·show Act.put _ (some 33) _ = _
        simp only [Act.put, List.setIfInBounds_toArray, List.set_cons_zero, List.set_cons_succ, i64_w, i32_w]
        rfl
       refine pure_ (i := 7) (N := some 26) (v := ?_) (a' := ?_) #[true, true, true, true, true, true, true, true, false, false, true, false, false] rfl rfl (any_of HT_.out (by kernel_rfl)) (fun _ _ _ h => h) (Or.inl ⟨by rfl, ?_⟩) ?_ ?_
       rotate_left
       ·intro w'
        go_simp
        with_reducible rfl
       rotate_left
       ·simp only [Act.put, List.setIfInBounds_toArray, List.set_cons_zero, List.set_cons_succ, i64_w, i32_w]
        rfl
       refine pure_ (i := 8) (N := some 34) (v := ?_) (a' := ?_) #[true, true, true, true, true, true, true, true, true, false, true, false, false] rfl rfl (any_of HT_.out (by kernel_rfl)) (fun _ _ _ h => h) (Or.inl ⟨by rfl, ?_⟩) ?_ ?_
       rotate_left
       ·intro w'
        go_simp
        with_reducible rfl
       rotate_left
       ·simp only [Act.put, List.setIfInBounds_toArray, List.set_cons_zero, List.set_cons_succ, i64_w, i32_w]
        rfl
       refine pure_ (i := 9) (N := some 35) (v := ?_) (a' := ?_) #[true, true, true, true, true, true, true, true, true, true, true, false, false] rfl rfl (any_of HT_.out (by kernel_rfl)) (fun _ _ _ h => h) (Or.inl ⟨by rfl, ?_⟩) ?_ ?_
       rotate_left
       ·intro w'
        go_simp
        with_reducible rfl
       rotate_left
       ·simp only [Act.put, List.setIfInBounds_toArray, List.set_cons_zero, List.set_cons_succ, i64_w, i32_w]
        rfl
       exact norm_ (by simp only [putAll, Act.put, List.setIfInBounds_toArray, List.set_cons_zero, List.set_cons_succ]) (hCont (gb374) _ ⟨hHeld, (bq_ BK360), (bq_ BK361), (bq_ BK374), GW374.out, GE374.out, NB360_374.out, NB374_360.out, NB361_374.out, NB374_361.out, (by repeat (first | (with_reducible first | exact HB.out | apply below_alloc | apply pw_below_drewN | apply below_drew1 | refine below_set ?_ (Aside0.out (by assumption))) | exact HB.out))⟩)
     ·skip
      refine box_step ?hg (N := 10) ?hd (cs := #[.int .u64 0, .int .u64 0]) (t := 26) ?hr ?_; (case hd => rfl); (case hg => rfl); (case hr => first | (go_simp; done) | (go_simp; rfl))
      intro gb374 hg w117 hbox hb
      have BK374 := Aside0.mk (hbox)
      have GW374 := bz_ w hg
      have GE374 := GW374
      have NB360_374 := bn_ BK360 hg
      have NB374_360 := bm_ BK360 hg
      have NB361_374 := bn_ BK361 hg
      have NB374_361 := bm_ BK361 hg
      replace BK360 := bb_ BK360 hb
      replace BK361 := bb_ BK361 hb
      replace HB := bs_ w hb
      clear hb hbox hg
      refine hK.out _ _ ⟨(blk_cell BK360.out 0).trans rfl, (blk_cell BK360.out 1).trans rfl, (blk_cell BK360.out 2).trans rfl, (blk_cell BK360.out 3).trans rfl, (blk_cell BK360.out 4).trans rfl, (blk_cell BK360.out 5).trans rfl⟩ (fun hHeld => ?_)
      clear hK K
      refine norm_ (a' := ?_) ?_ ?_
      rotate_left
      ·show Act.put _ (some 10) _ = _
       simp only [Act.put, List.setIfInBounds_toArray, List.set_cons_zero, List.set_cons_succ, i64_w, i32_w]
       rfl
      refine one_ (i := 5) (N := some 32) #[true, true, true, true, true, true, false, false, false, false, true, false, false] rfl rfl (one_of HT_.out (by kernel_rfl)) (by decide) (fun K hK => ?_)
      refine goes_ Try.func36 (by kernel_rfl) rfl #[.agg #[.int .i64 t363, .int .i64 t364, .int .i64 t365], .int .i64 a2] (by rfl) rfl rfl (by (try simp only [List.map_toArray, List.map_cons, List.map_nil]); first | done | rfl | (simp only [List.length_drop, List.length_take]; rfl)) ?_
      with_reducible refine (gcra_tokens.calls t363 t364 t365 a2 t369 t370 _ A14.out).mono ?_
      rintro e w118 ⟨rfl, hb⟩
      refine ⟨_, rfl, ?_⟩
      replace BK360 := bb_ BK360 hb
      replace BK361 := bb_ BK361 hb
      replace BK374 := bb_ BK374 hb
      replace HB := bs_ w hb
      (try clear hb)
      (try clear hb2)
      (try clear hk)
      (try clear hi)
      refine hK.out _ _ ⟨(blk_cell BK360.out 0).trans rfl, (blk_cell BK360.out 1).trans rfl, (blk_cell BK360.out 2).trans rfl, (blk_cell BK360.out 3).trans rfl, (blk_cell BK360.out 4).trans rfl, (blk_cell BK360.out 5).trans rfl⟩ (fun hHeld => ?_)
      clear hK K
      refine norm_ (a' := ?_) ?_ ?_
      rotate_left
      ·show Act.put _ (some 32) _ = _
       simp only [Act.put, List.setIfInBounds_toArray, List.set_cons_zero, List.set_cons_succ, i64_w, i32_w]
       rfl
      refine one_ (i := 6) (N := some 33) #[true, true, true, true, true, true, true, false, false, false, true, false, false] rfl rfl (one_of HT_.out (by kernel_rfl)) (by decide) (fun K hK => ?_)
      refine goes_ Try.func48 (by kernel_rfl) rfl #[.agg #[.int .u64 t366, .int .u64 t367], .agg #[.int .u64 t369, .int .u64 t370]] (by rfl) rfl rfl (by (try simp only [List.map_toArray, List.map_cons, List.map_nil]); first | done | rfl | (simp only [List.length_drop, List.length_take]; rfl)) ?_
      with_reducible refine (wide_Add.calls t366 t367 t369 t370 t371 t372 t373 _ A15.out).mono ?_
      rintro e w119 ⟨rfl, hb⟩
      refine ⟨_, rfl, ?_⟩
      replace BK360 := bb_ BK360 hb
      replace BK361 := bb_ BK361 hb
      replace BK374 := bb_ BK374 hb
      replace HB := bs_ w hb
      (try clear hb)
      (try clear hb2)
      (try clear hk)
      (try clear hi)
      refine hK.out _ _ ⟨(blk_cell BK360.out 0).trans rfl, (blk_cell BK360.out 1).trans rfl, (blk_cell BK360.out 2).trans rfl, (blk_cell BK360.out 3).trans rfl, (blk_cell BK360.out 4).trans rfl, (blk_cell BK360.out 5).trans rfl⟩ (fun hHeld => ?_)
      clear hK K
      refine norm_ (a' := ?_) ?_ ?_
      rotate_left
      ·show Act.put _ (some 33) _ = _
       simp only [Act.put, List.setIfInBounds_toArray, List.set_cons_zero, List.set_cons_succ, i64_w, i32_w]
       rfl
      refine pure_ (i := 7) (N := some 26) (v := ?_) (a' := ?_) #[true, true, true, true, true, true, true, true, false, false, true, false, false] rfl rfl (any_of HT_.out (by kernel_rfl)) (fun _ _ _ h => h) (Or.inl ⟨by rfl, ?_⟩) ?_ ?_
      rotate_left
      ·intro w'
       go_simp
       with_reducible rfl
      rotate_left
      ·simp only [Act.put, List.setIfInBounds_toArray, List.set_cons_zero, List.set_cons_succ, i64_w, i32_w]
       rfl
      refine pure_ (i := 8) (N := some 34) (v := ?_) (a' := ?_) #[true, true, true, true, true, true, true, true, true, false, true, false, false] rfl rfl (any_of HT_.out (by kernel_rfl)) (fun _ _ _ h => h) (Or.inl ⟨by rfl, ?_⟩) ?_ ?_
      rotate_left
      ·intro w'
       go_simp
       with_reducible rfl
      rotate_left
      ·simp only [Act.put, List.setIfInBounds_toArray, List.set_cons_zero, List.set_cons_succ, i64_w, i32_w]
       rfl
      refine pure_ (i := 9) (N := some 35) (v := ?_) (a' := ?_) #[true, true, true, true, true, true, true, true, true, true, true, false, false] rfl rfl (any_of HT_.out (by kernel_rfl)) (fun _ _ _ h => h) (Or.inl ⟨by rfl, ?_⟩) ?_ ?_
      rotate_left
      ·intro w'
       go_simp
       with_reducible rfl
      rotate_left
      ·simp only [Act.put, List.setIfInBounds_toArray, List.set_cons_zero, List.set_cons_succ, i64_w, i32_w]
       rfl
      exact norm_ (by simp only [putAll, Act.put, List.setIfInBounds_toArray, List.set_cons_zero, List.set_cons_succ]) (hCont (gb374) _ ⟨hHeld, (bq_ BK360), (bq_ BK361), (bq_ BK374), GW374.out, GE374.out, NB360_374.out, NB374_360.out, NB361_374.out, NB374_361.out, (by repeat (first | (with_reducible first | exact HB.out | apply below_alloc | apply pw_below_drewN | apply below_drew1 | refine below_set ?_ (Aside0.out (by assumption))) | exact HB.out))⟩)
    rintro gb374 w120 ⟨hS_, h0_, h1_, h2_, h3_, h4_, h5_, h6_, h7_, h8_, h9_⟩
    have BK374 : Aside0 (w120.heap[gb374]? = some (.cells #[.int .u64 0, .int .u64 0] 26 (0, 0))) := ⟨h2_⟩
    have GW374 : Aside0 (w.heap.size ≤ gb374) := ⟨h3_⟩
    have GE374 : Aside0 (w.heap.size ≤ gb374) := ⟨h4_⟩
    have NB360_374 : Aside0 (gb360 ≠ gb374) := ⟨h5_⟩
    have NB374_360 : Aside0 (gb374 ≠ gb360) := ⟨h6_⟩
    have NB361_374 : Aside0 (gb361 ≠ gb374) := ⟨h7_⟩
    have NB374_361 : Aside0 (gb374 ≠ gb361) := ⟨h8_⟩
    replace BK360 : Aside0 (w120.heap[gb360]? = some (.cells #[.int .i64 t363, .int .i64 t364, .int .i64 t365, .int .u64 t366, .int .u64 t367, .int .u64 t368] 28 (0, 0))) := ⟨h0_⟩
    replace BK361 : Aside0 (w120.heap[gb361]? = some (.cells #[.int .i64 0, .int .i64 0, .int .i64 0, .int .u64 0, .int .u64 0, .int .u64 0] 28 (0, 0))) := ⟨h1_⟩
    replace HB : Aside0 (Below w.heap.size w w120) := ⟨h9_⟩
    clear h0_ h1_ h2_ h3_ h4_ h5_ h6_ h7_ h8_ h9_
    have hHeld : w120.cell? ⟨gb360, 0, none⟩ = some (.int .i64 t363) ∧ w120.cell? ⟨gb360, 1, none⟩ = some (.int .i64 t364) ∧ w120.cell? ⟨gb360, 2, none⟩ = some (.int .i64 t365) ∧ w120.cell? ⟨gb360, 3, none⟩ = some (.int .u64 t366) ∧ w120.cell? ⟨gb360, 4, none⟩ = some (.int .u64 t367) ∧ w120.cell? ⟨gb360, 5, none⟩ = some (.int .u64 t368) := hS_
    refine norm_ (a' := ?_) ?_ ?_
    rotate_left
    ·simp only [putAll, Act.put, List.setIfInBounds_toArray, List.set_cons_zero, List.set_cons_succ]
     rfl
    refine one_ (i := 11) (N := none) #[true, true, true, true, true, true, true, true, true, true, true, true, false] rfl rfl (one_of HT_.out (by kernel_rfl)) (by decide) (fun K hK => ?_)
    have hs121 : w120.cell? ⟨gb374, 0, none⟩ = some (.int .u64 0) := (blk_cell BK374.out 0).trans rfl
    have hfs121 := blk_frozen BK374.out 0
    have hns121_0 := NB360_374.out
    have hns121_1 := NB361_374.out
    have hms121_0 := NB374_360.out
    have hms121_1 := NB374_361.out
    have hs122 : w120.cell? ⟨gb374, 1, none⟩ = some (.int .u64 0) := (blk_cell BK374.out 1).trans rfl
    have hfs122 := blk_frozen BK374.out 1
    have hns122_0 := NB360_374.out
    have hns122_1 := NB361_374.out
    have hms122_0 := NB374_360.out
    have hms122_1 := NB374_361.out
    refine skip_ (w1 := ?_) (by rfl) rfl ?_ ?_
    rotate_left
    ·go_simp
     rfl
    refine hK.out _ _ ⟨((cell_far (p := ⟨gb374, _, none⟩) NB360_374.out _).trans (((cell_far (p := ⟨gb374, _, none⟩) NB360_374.out _).trans (hHeld.1)))), ((cell_far (p := ⟨gb374, _, none⟩) NB360_374.out _).trans (((cell_far (p := ⟨gb374, _, none⟩) NB360_374.out _).trans (hHeld.2.1)))), ((cell_far (p := ⟨gb374, _, none⟩) NB360_374.out _).trans (((cell_far (p := ⟨gb374, _, none⟩) NB360_374.out _).trans (hHeld.2.2.1)))), ((cell_far (p := ⟨gb374, _, none⟩) NB360_374.out _).trans (((cell_far (p := ⟨gb374, _, none⟩) NB360_374.out _).trans (hHeld.2.2.2.1)))), ((cell_far (p := ⟨gb374, _, none⟩) NB360_374.out _).trans (((cell_far (p := ⟨gb374, _, none⟩) NB360_374.out _).trans (hHeld.2.2.2.2.1)))), ((cell_far (p := ⟨gb374, _, none⟩) NB360_374.out _).trans (((cell_far (p := ⟨gb374, _, none⟩) NB360_374.out _).trans (hHeld.2.2.2.2.2))))⟩ (fun hHeld => ?_)
    clear hK K
    refine pure_ (i := 12) (N := some 11) (v := ?_) (a' := ?_) #[true, true, true, true, true, true, true, true, true, true, true, true, true] rfl rfl (any_of HT_.out (by kernel_rfl)) (fun _ _ _ h => h) (Or.inl ⟨by rfl, ?_⟩) ?_ ?_
    rotate_left
    ·intro w'
     go_simp
     with_reducible rfl
    rotate_left
    ·simp only [Act.put, List.setIfInBounds_toArray, List.set_cons_zero, List.set_cons_succ, i64_w, i32_w]
     rfl
    refine done_ (done_of HT_.out (by kernel_rfl)) ?_
    have hnb123 := NB360_374.out
    have hnc123 := NB374_360.out
    obtain ⟨hcz124_0, hcz124_1, hcz124_2, hcz124_3, hcz124_4, hcz124_5, hfz124_0, hfz124_1, hfz124_2, hfz124_3, hfz124_4, hfz124_5⟩ := ce6_ BK360
    try go_wp2_with (first | ((with_reducible refine gate_callee (f := 35) rfl ?_); refine goesA_ (some 41) Try.func35 #[.agg #[.int .i64 t363, .int .i64 t364, .int .i64 t365], .int .u64 t368] ?_; (with_reducible refine (gcra_end.calls t363 t364 t365 t368 t375 t376 t377 _ A16.out).mono ?_); rintro e w125 ⟨rfl, hb⟩; refine ⟨_, rfl, ?_⟩; replace BK360 := bf_ BK360 hb; replace BK361 := bf_ BK361 hb; replace BK374 := Aside0.mk (blk_below (g := gb374) (o := .cells #[.int .u64 t371, .int .u64 t372] 26 (0, 0)) (blk_put (cs := #[.int .u64 t371, .int .u64 0]) (blk_put (cs := #[.int .u64 0, .int .u64 0]) (bq_ BK374) 0 _ rfl) 1 _ rfl) hb); replace HB := bs_ w hb; (try clear hb); (try clear hb2); (try clear hk); (try clear hi)) | ((with_reducible refine gate_dst (N := 12) rfl ?_); refine box_event ?hg (N := 12) ?hd (cs := #[.int .u64 0, .int .u64 0]) (t := 26) ?hr ?_; (case hd => rfl); (case hg => rfl); (case hr => first | (go_simp; done) | (go_simp; rfl)); intro gb378 hg w126 hbox hb; have BK378 := Aside0.mk (hbox); have GW378 := bz_ w hg; have GE378 := GW378; have NB360_378 := bn_ BK360 hg; have NB378_360 := bm_ BK360 hg; have NB361_378 := bn_ BK361 hg; have NB378_361 := bm_ BK361 hg; have NB374_378 := bn_ BK374 hg; have NB378_374 := bm_ BK374 hg; replace BK360 := bb_ BK360 hb; replace BK361 := bb_ BK361 hb; replace BK374 := bb_ BK374 hb; replace HB := bs_ w hb; clear hb hbox hg; have hnb127 := NB378_360.out; have hnc127 := NB360_378.out; have hnb128 := NB378_361.out; have hnc128 := NB361_378.out; have hnb129 := NB378_374.out; have hnc129 := NB374_378.out; obtain ⟨hcz130_0, hcz130_1, hfz130_0, hfz130_1⟩ := ce2_ BK378; obtain ⟨hcz131_0, hcz131_1, hcz131_2, hcz131_3, hcz131_4, hcz131_5, hfz131_0, hfz131_1, hfz131_2, hfz131_3, hfz131_4, hfz131_5⟩ := ce6_ BK360; have hnb132 := NB361_374.out; have hnc132 := NB374_361.out; obtain ⟨hcz133_0, hcz133_1, hcz133_2, hcz133_3, hcz133_4, hcz133_5, hfz133_0, hfz133_1, hfz133_2, hfz133_3, hfz133_4, hfz133_5⟩ := ce6_ BK361))
    refine bodyPost_ret (results_ctt rfl _ _ gb361 28 #[.int .i64 t363, .int .i64 t364, .int .i64 t365, .int .u64 t366, .int .u64 t367, .int .u64 t368] (0, 0) _ rfl (blk_put (cs := #[.int .i64 t363, .int .i64 t364, .int .i64 t365, .int .u64 t366, .int .u64 t367, .int .u64 0]) (blk_put (cs := #[.int .i64 t363, .int .i64 t364, .int .i64 t365, .int .u64 t366, .int .u64 0, .int .u64 0]) (blk_put (cs := #[.int .i64 t363, .int .i64 t364, .int .i64 t365, .int .u64 0, .int .u64 0, .int .u64 0]) (blk_put (cs := #[.int .i64 t363, .int .i64 t364, .int .i64 0, .int .u64 0, .int .u64 0, .int .u64 0]) (blk_put (cs := #[.int .i64 t363, .int .i64 0, .int .i64 0, .int .u64 0, .int .u64 0, .int .u64 0]) (blk_put (cs := #[.int .i64 0, .int .i64 0, .int .i64 0, .int .u64 0, .int .u64 0, .int .u64 0]) (blk_far (blk_far (bq_ BK361) NB361_378.out _) NB361_378.out _) 0 _ rfl) 1 _ rfl) 2 _ rfl) 3 _ rfl) 4 _ rfl) 5 _ rfl) Try.underlying28 rfl (by kernel_rfl)) rfl ?_
    exact ⟨by first | rfl | (simp [errW_none, errW_some] <;> rfl) | (simp [*, errW_none, errW_some] <;> rfl), by repeat (first | (with_reducible first | exact HB.out | apply below_alloc | apply pw_below_drewN | apply below_drew1 | refine below_set ?_ GE360.out | refine below_set ?_ GE361.out | refine below_set ?_ GE374.out | refine below_set ?_ GE378.out) | exact HB.out)⟩
 ·rw [if_neg c5] at H
  have c5b0 : (t362 == 0) = false := beq_eq_false_iff_ne.mpr c5
  have c5b1 : (t362 != 0) = true := bne_iff_ne.mpr c5
  simp only [Option.some.injEq, Prod.mk.injEq] at H
  obtain ⟨rfl, rfl, rfl, rfl, rfl, rfl, rfl, rfl⟩ := H
  go_enter Try.func17, Try.ntmps17
  go_wp2_with (first | ((with_reducible refine gate_dst (N := 3) rfl ?_); refine box_event ?hg (N := 3) ?hd (cs := #[.int .i64 a0_0, .int .i64 a0_1, .int .i64 a0_2, .int .u64 a0_3, .int .u64 a0_4, .int .u64 a0_5]) (t := 28) ?hr ?_; (case hd => rfl); (case hg => rfl); (case hr => first | (go_simp; done) | (go_simp; rfl)); intro gb360 hg w134 hbox hb; have BK360 := Aside0.mk (hbox); have GW360 := bz_ w hg; have GE360 := GW360; replace HB := bs_ w hb; clear hb hbox hg) | ((with_reducible refine gate_dst (N := 6) rfl ?_); refine box_event ?hg (N := 6) ?hd (cs := #[.int .i64 0, .int .i64 0, .int .i64 0, .int .u64 0, .int .u64 0, .int .u64 0]) (t := 28) ?hr ?_; (case hd => rfl); (case hg => rfl); (case hr => first | (go_simp; done) | (go_simp; rfl)); intro gb361 hg w135 hbox hb; have BK361 := Aside0.mk (hbox); have GW361 := bz_ w hg; have GE361 := GW361; have NB360_361 := bn_ BK360 hg; have NB361_360 := bm_ BK360 hg; replace BK360 := bb_ BK360 hb; replace HB := bs_ w hb; clear hb hbox hg; have hnb136 := NB360_361.out; have hnc136 := NB361_360.out; obtain ⟨hcz137_0, hcz137_1, hcz137_2, hcz137_3, hcz137_4, hcz137_5, hfz137_0, hfz137_1, hfz137_2, hfz137_3, hfz137_4, hfz137_5⟩ := ce6_ BK360) | ((with_reducible refine gate_callee (f := 15) rfl ?_); refine goesA_ (some 15) Try.func15 #[.agg #[.int .i64 a0_0, .int .i64 a0_1, .int .i64 a0_2, .int .u64 a0_3, .int .u64 a0_4, .int .u64 a0_5]] ?_; (with_reducible refine (gcra_Check.calls k a0_0 a0_1 a0_2 a0_3 a0_4 a0_5 t362 _ A4.out).mono ?_); rintro e w138 ⟨rfl, hb⟩; refine ⟨_, rfl, ?_⟩; replace BK360 := bb_ BK360 hb; replace BK361 := bb_ BK361 hb; replace HB := bs_ w hb; (try clear hb); (try clear hb2); (try clear hk); (try clear hi); obtain ⟨hcz139_0, hcz139_1, hcz139_2, hcz139_3, hcz139_4, hcz139_5, hfz139_0, hfz139_1, hfz139_2, hfz139_3, hfz139_4, hfz139_5⟩ := ce6_ BK361))
  refine bodyPost_ret (results_ctt rfl _ _ gb361 28 #[.int .i64 0, .int .i64 0, .int .i64 0, .int .u64 0, .int .u64 0, .int .u64 0] (0, 0) _ rfl (blk_put (cs := #[.int .i64 0, .int .i64 0, .int .i64 0, .int .u64 0, .int .u64 0, .int .u64 0]) (blk_put (cs := #[.int .i64 0, .int .i64 0, .int .i64 0, .int .u64 0, .int .u64 0, .int .u64 0]) (blk_put (cs := #[.int .i64 0, .int .i64 0, .int .i64 0, .int .u64 0, .int .u64 0, .int .u64 0]) (blk_put (cs := #[.int .i64 0, .int .i64 0, .int .i64 0, .int .u64 0, .int .u64 0, .int .u64 0]) (blk_put (cs := #[.int .i64 0, .int .i64 0, .int .i64 0, .int .u64 0, .int .u64 0, .int .u64 0]) (blk_put (cs := #[.int .i64 0, .int .i64 0, .int .i64 0, .int .u64 0, .int .u64 0, .int .u64 0]) (bq_ BK361) 0 _ rfl) 1 _ rfl) 2 _ rfl) 3 _ rfl) 4 _ rfl) 5 _ rfl) Try.underlying28 rfl (by kernel_rfl)) rfl ?_
  exact ⟨by first | rfl | (simp [errW_none, errW_some] <;> rfl) | (simp [*, errW_none, errW_some] <;> rfl), by repeat (first | (with_reducible first | exact HB.out | apply below_alloc | apply pw_below_drewN | apply below_drew1 | refine below_set ?_ GE360.out | refine below_set ?_ GE361.out) | exact HB.out)⟩

end Go.Proofs.Ytnijohomnajngaa.X
