-- written by xprint.py, a program of this session over the kit's print
import Derived.Test.YtnijohomnajngaaX0
import Derived.Test.YtnijohomnajngaaX7
import Derived.Test.YtnijohomnajngaaX8
import Derived.Test.YtnijohomnajngaaX15
import Derived.Test.YtnijohomnajngaaX16
import Derived.Test.YtnijohomnajngaaX24
namespace Go.Proofs.Ytnijohomnajngaa.X
open Go.RowKit Go.Proofs.YtnijohomnajngaaW.PrintWords Go.Proofs.YtnijohomnajngaaW.PrintLast Go.Proofs.YtnijohomnajngaaW.PrintMore
attribute [local go_sem] max2_int min2_int max_two min_two max_three min_three max_four min_four   -- for this text's walks alone
set_option linter.unusedVariables false
set_option linter.unusedSimpArgs false

/-! ### gcra_Ask: function 17 -/
def gcra_Ask.f (k : Nat) (a0_0 : Int) (a0_1 : Int) (a0_2 : Int) (a0_3 : Int) (a0_4 : Int) (a0_5 : Int) (a1 : Int) (a2 : Int) : Option (Int × Int × Int × Int × Int × Int × Bool × Int) := (gcra_Check.f k a0_0 a0_1 a0_2 a0_3 a0_4 a0_5).bind fun t362 => (if t362 = 0 then (if a2 < 0 then (some (0, 0, 0, 0, 0, 0, false, 2)) else ((gcra_moved.f k a0_0 a0_1 a0_2 a0_3 a0_4 a0_5 a1).bind fun bt363 => ((gcra_tokens.f bt363.1 bt363.2.1 bt363.2.2.1 a2).bind fun bt369 => ((wide_Add.f bt363.2.2.2.1 bt363.2.2.2.2.1 bt369.1 bt369.2).bind fun bt371 => ((gcra_end.f bt363.1 bt363.2.1 bt363.2.2.1 bt363.2.2.2.2.2).bind fun bt375 => (if bt371.2.2 = 0 then (if bt375.2.2 = 0 then ((wide_Cmp.f k bt371.1 bt371.2.1 bt375.1 bt375.2.1).bind fun t379 => (if t379 > 0 then (some (bt363.1, bt363.2.1, bt363.2.2.1, bt363.2.2.2.1, bt363.2.2.2.2.1, bt363.2.2.2.2.2, false, 0)) else (some (bt363.1, bt363.2.1, bt363.2.2.1, bt371.1, bt371.2.1, bt363.2.2.2.2.2, true, 0)))) else (some (bt363.1, bt363.2.1, bt363.2.2.1, bt363.2.2.2.1, bt363.2.2.2.2.1, bt363.2.2.2.2.2, false, 0))) else (some (bt363.1, bt363.2.1, bt363.2.2.1, bt363.2.2.2.1, bt363.2.2.2.2.1, bt363.2.2.2.2.2, false, 0)))))))) else (some (0, 0, 0, 0, 0, 0, false, t362)))
theorem gcra_Ask.mono : ∀ a0 a1 a2 a3 a4 a5 a6 a7 k, LeO (gcra_Ask.f k a0 a1 a2 a3 a4 a5 a6 a7) (gcra_Ask.f (k + 1) a0 a1 a2 a3 a4 a5 a6 a7) := by
  intro a0 a1 a2 a3 a4 a5 a6 a7 k
  unfold gcra_Ask.f
  repeat' first
      | (with_reducible exact gcra_Check.mono _ _ _ _ _ _ _)
      | (with_reducible exact gcra_moved.mono _ _ _ _ _ _ _ _)
      | (with_reducible exact wide_Cmp.mono _ _ _ _ _)
      | (with_reducible exact LeO.refl _)
      | (with_reducible exact LeO.none _)
      | (with_reducible refine LeO.ite ?_ ?_)
      | (with_reducible refine LeO.bind ?_ (fun _ => ?_))
      | exact gcra_Check.mono _ _ _ _ _ _ _
      | exact gcra_moved.mono _ _ _ _ _ _ _ _
      | exact wide_Cmp.mono _ _ _ _ _
      | exact LeO.none _
      | refine LeO.ite ?_ ?_
      | refine LeO.bind ?_ (fun _ => ?_)
def gcra_Ask.T7 : Bool × List (List Nat × List Nat) := (true, [([], []), ([0], [0]), ([], []), ([2], [2]), ([], []), ([3, 4], [3, 4]), ([1, 5, 5], [1, 5]), ([6], [6]), ([7], [7]), ([7], [7]), ([], []), ([10, 8, 6, 0, 1, 2, 3, 4, 5, 6, 7, 8, 10], [8, 10]), ([9, 11, 0, 1, 2, 3, 4, 5, 6, 7, 8, 9, 10, 11], [9])])
def gcra_Ask.B7 : List Nat := [0, 1, 0, 4, 0, 28, 63, 127, 255, 255, 0, 1535, 4095]
theorem gcra_Ask.tab7 : rtab .any (opsOf Try.f17 7) = gcra_Ask.T7 := by kernel_rfl
theorem gcra_Ask.bits7 : waitsOk gcra_Ask.T7.2 gcra_Ask.B7 = true := by kernel_rfl
set_option maxHeartbeats 8000000 in
set_option maxRecDepth 100000 in
theorem gcra_Ask.calls (k : Nat) (a0_0 : Int) (a0_1 : Int) (a0_2 : Int) (a0_3 : Int) (a0_4 : Int) (a0_5 : Int) (a1 : Int) (a2 : Int) (r1 : Int) (r2 : Int) (r3 : Int) (r4 : Int) (r5 : Int) (r6 : Int) (r7 : Bool) (r8 : Int) (w : World) (h : gcra_Ask.f k a0_0 a0_1 a0_2 a0_3 a0_4 a0_5 a1 a2 = some (r1, r2, r3, r4, r5, r6, r7, r8)) :
  Calls Try.prog 17 #[.agg #[.int .i64 a0_0, .int .i64 a0_1, .int .i64 a0_2, .int .u64 a0_3, .int .u64 a0_4, .int .u64 a0_5], .int .u64 a1, .int .i64 a2] w fun e w' => e = .returned (.tuple #[.agg #[.int .i64 r1, .int .i64 r2, .int .i64 r3, .int .u64 r4, .int .u64 r5, .int .u64 r6], .bool r7, .int .i64 r8]) ∧ Below w.heap.size w w' := by
 have hu28 := Try.underlying28
 have hu26 := Try.underlying26
 have hu23 := Try.underlying23
 have HB := Aside0.mk (Below.refl w.heap.size w)
 have H : ((gcra_Check.f k a0_0 a0_1 a0_2 a0_3 a0_4 a0_5).bind fun t362 => (if t362 = 0 then (if a2 < 0 then (some (0, 0, 0, 0, 0, 0, false, 2)) else ((gcra_moved.f k a0_0 a0_1 a0_2 a0_3 a0_4 a0_5 a1).bind fun bt363 => ((gcra_tokens.f bt363.1 bt363.2.1 bt363.2.2.1 a2).bind fun bt369 => ((wide_Add.f bt363.2.2.2.1 bt363.2.2.2.2.1 bt369.1 bt369.2).bind fun bt371 => ((gcra_end.f bt363.1 bt363.2.1 bt363.2.2.1 bt363.2.2.2.2.2).bind fun bt375 => (if bt371.2.2 = 0 then (if bt375.2.2 = 0 then ((wide_Cmp.f k bt371.1 bt371.2.1 bt375.1 bt375.2.1).bind fun t379 => (if t379 > 0 then (some (bt363.1, bt363.2.1, bt363.2.2.1, bt363.2.2.2.1, bt363.2.2.2.2.1, bt363.2.2.2.2.2, false, 0)) else (some (bt363.1, bt363.2.1, bt363.2.2.1, bt371.1, bt371.2.1, bt363.2.2.2.2.2, true, 0)))) else (some (bt363.1, bt363.2.1, bt363.2.2.1, bt363.2.2.2.1, bt363.2.2.2.2.1, bt363.2.2.2.2.2, false, 0))) else (some (bt363.1, bt363.2.1, bt363.2.2.1, bt363.2.2.2.1, bt363.2.2.2.2.1, bt363.2.2.2.2.2, false, 0)))))))) else (some (0, 0, 0, 0, 0, 0, false, t362)))) = some (r1, r2, r3, r4, r5, r6, r7, r8) := h
 clear h
 have H0_ := bo_ H; clear H; obtain ⟨t362, A4, H⟩ := H0_
 try dsimp only at H
 by_cases c5 : t362 = 0
 ·rw [if_pos c5] at H
  have c5b0 : (t362 == 0) = true := beq_iff_eq.mpr c5
  have c5b1 : (t362 != 0) = false := bne_eq_false_iff_eq.mpr c5
  clear c5
  by_cases c6 : a2 < 0
  ·rw [if_pos c6] at H
   have c6b0 : decide (a2 < 0) = true := decide_eq_true c6
   clear c6
   simp only [Option.some.injEq, Prod.mk.injEq] at H
   obtain ⟨rfl, rfl, rfl, rfl, rfl, rfl, rfl, rfl⟩ := H
   go_enter Try.func17, Try.ntmps17
   go_wp2_with (first | ((with_reducible refine gate_dst (N := 3) rfl ?_); (try refine ug_ (by rfl) ?_); refine bx_ #[.int .i64 a0_0, .int .i64 a0_1, .int .i64 a0_2, .int .u64 a0_3, .int .u64 a0_4, .int .u64 a0_5] 28 ?_; intro gb360 hg w7 BK360 hb; have GW360 := bz_ w hg; have GE360 := GW360; replace HB := bs_ w hb; clear hb hg) | ((with_reducible refine gate_dst (N := 6) rfl ?_); (try refine ug_ (by rfl) ?_); refine bx_ #[.int .i64 0, .int .i64 0, .int .i64 0, .int .u64 0, .int .u64 0, .int .u64 0] 28 ?_; intro gb361 hg w8 BK361 hb; have GW361 := bz_ w hg; have GE361 := GW361; have NB360_361 := bn_ BK360 hg; have NB361_360 := bm_ BK360 hg; replace BK360 := bb_ BK360 hb; replace HB := bs_ w hb; clear hb hg; replace hn360_361 := NB360_361.out; replace hn361_360 := NB361_360.out; replace hc360 := ce6_ BK360) | ((with_reducible refine gate_callee (f := 15) rfl ?_); (try refine ug_ (by rfl) ?_); refine goesA_ (some 15) Try.func15 #[.agg #[.int .i64 a0_0, .int .i64 a0_1, .int .i64 a0_2, .int .u64 a0_3, .int .u64 a0_4, .int .u64 a0_5]] ?_; (with_reducible refine (gcra_Check.calls k a0_0 a0_1 a0_2 a0_3 a0_4 a0_5 t362 _ A4.out).mono ?_); rintro e w11 ⟨rfl, hb⟩; refine ⟨_, rfl, ?_⟩; replace BK360 := bb_ BK360 hb; replace BK361 := bb_ BK361 hb; replace HB := bs_ w hb; clear hb; replace hc361 := ce6_ BK361))
   refine bodyPost_ret (results_ctt rfl _ _ gb361 28 #[.int .i64 0, .int .i64 0, .int .i64 0, .int .u64 0, .int .u64 0, .int .u64 0] (0, 0) _ rfl (bp6_ (bq_ BK361)) Try.underlying28 rfl (by kernel_rfl)) rfl ?_
   exact fi_
  ·rw [if_neg c6] at H
   have c6b0 : decide (a2 < 0) = false := decide_eq_false c6
   clear c6
   have H0_ := bo_ H; clear H; obtain ⟨⟨t363, t364, t365, t366, t367, t368⟩, A13, H⟩ := H0_
   try dsimp only at H
   have H0_ := bo_ H; clear H; obtain ⟨⟨t369, t370⟩, A14, H⟩ := H0_
   try dsimp only at H
   have H0_ := bo_ H; clear H; obtain ⟨⟨t371, t372, t373⟩, A15, H⟩ := H0_
   try dsimp only at H
   have H0_ := bo_ H; clear H; obtain ⟨⟨t375, t376, t377⟩, A16, H⟩ := H0_
   try dsimp only at H
   by_cases c17 : t373 = 0
   ·rw [if_pos c17] at H
    have c17b0 : (t373 == 0) = true := beq_iff_eq.mpr c17
    have c17b1 : (t373 != 0) = false := bne_eq_false_iff_eq.mpr c17
    clear c17
    by_cases c18 : t377 = 0
    ·rw [if_pos c18] at H
     have c18b0 : (t377 == 0) = true := beq_iff_eq.mpr c18
     have c18b1 : (t377 != 0) = false := bne_eq_false_iff_eq.mpr c18
     clear c18
     have H0_ := bo_ H; clear H; obtain ⟨t379, A19, H⟩ := H0_
     try dsimp only at H
     by_cases c20 : t379 > 0
     ·rw [if_pos c20] at H
      have c20b0 : decide (0 < t379) = true := decide_eq_true c20
      clear c20
      simp only [Option.some.injEq, Prod.mk.injEq] at H
      obtain ⟨rfl, rfl, rfl, rfl, rfl, rfl, rfl, rfl⟩ := H
      go_enter Try.func17, Try.ntmps17
      try go_wp2_with (first | ((with_reducible refine gate_dst (N := 3) rfl ?_); (try refine ug_ (by rfl) ?_); refine bx_ #[.int .i64 a0_0, .int .i64 a0_1, .int .i64 a0_2, .int .u64 a0_3, .int .u64 a0_4, .int .u64 a0_5] 28 ?_; intro gb360 hg w21 BK360 hb; have GW360 := bz_ w hg; have GE360 := GW360; replace HB := bs_ w hb; clear hb hg) | ((with_reducible refine gate_dst (N := 6) rfl ?_); (try refine ug_ (by rfl) ?_); refine bx_ #[.int .i64 0, .int .i64 0, .int .i64 0, .int .u64 0, .int .u64 0, .int .u64 0] 28 ?_; intro gb361 hg w22 BK361 hb; have GW361 := bz_ w hg; have GE361 := GW361; have NB360_361 := bn_ BK360 hg; have NB361_360 := bm_ BK360 hg; replace BK360 := bb_ BK360 hb; replace HB := bs_ w hb; clear hb hg; replace hn360_361 := NB360_361.out; replace hn361_360 := NB361_360.out; replace hc360 := ce6_ BK360) | ((with_reducible refine gate_callee (f := 15) rfl ?_); (try refine ug_ (by rfl) ?_); refine goesA_ (some 15) Try.func15 #[.agg #[.int .i64 a0_0, .int .i64 a0_1, .int .i64 a0_2, .int .u64 a0_3, .int .u64 a0_4, .int .u64 a0_5]] ?_; (with_reducible refine (gcra_Check.calls k a0_0 a0_1 a0_2 a0_3 a0_4 a0_5 t362 _ A4.out).mono ?_); rintro e w25 ⟨rfl, hb⟩; refine ⟨_, rfl, ?_⟩; replace BK360 := bb_ BK360 hb; replace BK361 := bb_ BK361 hb; replace HB := bs_ w hb; clear hb; replace hc360 := ce6_ BK360) | ((with_reducible refine gate_callee (f := 47) rfl ?_); (try refine ug_ (by rfl) ?_); refine goesA_ (some 25) Try.func47 #[.agg #[.int .i64 a0_0, .int .i64 a0_1, .int .i64 a0_2, .int .u64 a0_3, .int .u64 a0_4, .int .u64 a0_5], .int .u64 a1] ?_; (with_reducible refine (gcra_moved.calls k a0_0 a0_1 a0_2 a0_3 a0_4 a0_5 a1 t363 t364 t365 t366 t367 t368 _ A13.out).mono ?_); rintro e w27 ⟨rfl, hb⟩; refine ⟨_, rfl, ?_⟩; replace BK360 := bb_ BK360 hb; replace BK361 := bb_ BK361 hb; replace HB := bs_ w hb; clear hb; replace hc360 := ce6_ BK360))
      have n0_ : Aside0 (((((((w27.setCell ⟨gb360, 0, none⟩ (.int .i64 t363)).setCell ⟨gb360, 1, none⟩ (.int .i64 t364)).setCell ⟨gb360, 2, none⟩ (.int .i64 t365)).setCell ⟨gb360, 3, none⟩ (.int .u64 t366)).setCell ⟨gb360, 4, none⟩ (.int .u64 t367)).setCell ⟨gb360, 5, none⟩ (.int .u64 t368)).heap[gb360]? = some (.cells #[.int .i64 t363, .int .i64 t364, .int .i64 t365, .int .u64 t366, .int .u64 t367, .int .u64 t368] 28 (0, 0))) := ⟨(bp6_ (bq_ BK360))⟩
      have n1_ : Aside0 (((((((w27.setCell ⟨gb360, 0, none⟩ (.int .i64 t363)).setCell ⟨gb360, 1, none⟩ (.int .i64 t364)).setCell ⟨gb360, 2, none⟩ (.int .i64 t365)).setCell ⟨gb360, 3, none⟩ (.int .u64 t366)).setCell ⟨gb360, 4, none⟩ (.int .u64 t367)).setCell ⟨gb360, 5, none⟩ (.int .u64 t368)).heap[gb361]? = some (.cells #[.int .i64 0, .int .i64 0, .int .i64 0, .int .u64 0, .int .u64 0, .int .u64 0] 28 (0, 0))) := ⟨(bt_ BK361)⟩
      have n2_ : Aside0 (Below w.heap.size w ((((((w27.setCell ⟨gb360, 0, none⟩ (.int .i64 t363)).setCell ⟨gb360, 1, none⟩ (.int .i64 t364)).setCell ⟨gb360, 2, none⟩ (.int .i64 t365)).setCell ⟨gb360, 3, none⟩ (.int .u64 t366)).setCell ⟨gb360, 4, none⟩ (.int .u64 t367)).setCell ⟨gb360, 5, none⟩ (.int .u64 t368))) := bw_
      (try clear BK360)
      (try clear BK361)
      (try clear HB)
      generalize ((((((w27.setCell ⟨gb360, 0, none⟩ (.int .i64 t363)).setCell ⟨gb360, 1, none⟩ (.int .i64 t364)).setCell ⟨gb360, 2, none⟩ (.int .i64 t365)).setCell ⟨gb360, 3, none⟩ (.int .u64 t366)).setCell ⟨gb360, 4, none⟩ (.int .u64 t367)).setCell ⟨gb360, 5, none⟩ (.int .u64 t368)) = w29 at n0_ n1_ n2_ ⊢
      have BK360 := n0_
      have BK361 := n1_
      have HB := n2_
      clear n0_ n1_ n2_
      replace BK360 := Aside0.mk (blk_drew BK360.out)
      replace BK361 := Aside0.mk (blk_drew BK361.out)
      replace HB := Aside0.mk (below_drew1 HB.out)
      refine start_ (n := 13) (S := fun w' => w'.cell? ⟨gb360, 0, none⟩ = some (.int .i64 t363) ∧ w'.cell? ⟨gb360, 1, none⟩ = some (.int .i64 t364) ∧ w'.cell? ⟨gb360, 2, none⟩ = some (.int .i64 t365) ∧ w'.cell? ⟨gb360, 3, none⟩ = some (.int .u64 t366) ∧ w'.cell? ⟨gb360, 4, none⟩ = some (.int .u64 t367) ∧ w'.cell? ⟨gb360, 5, none⟩ = some (.int .u64 t368)) (ds := []) (bl_ 13 0) (by kernel_rfl) rfl (by kernel_rfl) (cc6_ BK360) (fun hHeld => ?_); refine with_tabW gcra_Ask.tab7 gcra_Ask.bits7 (fun HT_ HW_ => ?_)
      generalize w29.drew = w30 at BK360 BK361 HB hHeld ⊢
      refine pa_ 0 (some 27) (bl_ 13 1) HT_ ?_
      refine pa_ 2 (some 29) (bl_ 13 5) HT_ ?_
      refine pa_ 4 (some 31) (bl_ 13 21) HT_ ?_
      refine ta_ 1 (some 28) (bl_ 13 23) HT_ HW_ hHeld ?_
      refine ta_ 3 (some 30) (bl_ 13 31) HT_ HW_ hHeld ?_
      refine join_ (σ := Nat) 2 (bl_ 13 2047) (fun s_ => [(32, .agg #[.int .u64 t369, .int .u64 t370]), (33, .tuple #[.agg #[.int .u64 t371, .int .u64 t372], .int .i64 t373]), (10, .pointer (some ⟨s_, 0, none⟩)), (26, .tuple #[.agg #[.int .u64 t371, .int .u64 t372], .int .i64 t373]), (34, .agg #[.int .u64 t371, .int .u64 t372]), (35, .int .i64 t373)]) (fun s_ w' => (w'.cell? ⟨gb360, 0, none⟩ = some (.int .i64 t363) ∧ w'.cell? ⟨gb360, 1, none⟩ = some (.int .i64 t364) ∧ w'.cell? ⟨gb360, 2, none⟩ = some (.int .i64 t365) ∧ w'.cell? ⟨gb360, 3, none⟩ = some (.int .u64 t366) ∧ w'.cell? ⟨gb360, 4, none⟩ = some (.int .u64 t367) ∧ w'.cell? ⟨gb360, 5, none⟩ = some (.int .u64 t368)) ∧ (w'.heap[gb360]? = some (.cells #[.int .i64 t363, .int .i64 t364, .int .i64 t365, .int .u64 t366, .int .u64 t367, .int .u64 t368] 28 (0, 0))) ∧ (w'.heap[gb361]? = some (.cells #[.int .i64 0, .int .i64 0, .int .i64 0, .int .u64 0, .int .u64 0, .int .u64 0] 28 (0, 0))) ∧ (w'.heap[s_]? = some (.cells #[.int .u64 0, .int .u64 0] 26 (0, 0))) ∧ (w.heap.size ≤ s_) ∧ (w.heap.size ≤ s_) ∧ (gb360 ≠ s_) ∧ (s_ ≠ gb360) ∧ (gb361 ≠ s_) ∧ (s_ ≠ gb361) ∧ (Below w.heap.size w w')) ?_ ?_
      rotate_left
      ·intro hCont
       refine tw_ 5 10 (some 32) (some 10) (bl_ 13 63) (bl_ 13 1055) HT_ (fun K hK => ?_) fun K hK => ?_
       ·refine goesB_ Try.func36 #[.agg #[.int .i64 t363, .int .i64 t364, .int .i64 t365], .int .i64 a2] ?_
        with_reducible refine (gcra_tokens.calls t363 t364 t365 a2 t369 t370 _ A14.out).mono ?_
        rintro e w31 ⟨rfl, hb⟩
        refine ⟨_, rfl, ?_⟩
        replace BK360 := bb_ BK360 hb
        replace BK361 := bb_ BK361 hb
        replace HB := bs_ w hb
        clear hb
        refine hK.out _ _ (cc6_ BK360) (fun hHeld => ?_)
        clear hK K
        refine nm_ (some 32) ?_
        refine tw_ 6 10 (some 33) (some 10) (bl_ 13 127) (bl_ 13 1087) HT_ (fun K hK => ?_) fun K hK => ?_
        ·refine goesB_ Try.func48 #[.agg #[.int .u64 t366, .int .u64 t367], .agg #[.int .u64 t369, .int .u64 t370]] ?_
         with_reducible refine (wide_Add.calls t366 t367 t369 t370 t371 t372 t373 _ A15.out).mono ?_
         rintro e w32 ⟨rfl, hb⟩
         refine ⟨_, rfl, ?_⟩
         replace BK360 := bb_ BK360 hb
         replace BK361 := bb_ BK361 hb
         replace HB := bs_ w hb
         clear hb
         refine hK.out _ _ (cc6_ BK360) (fun hHeld => ?_)
         clear hK K
         refine nm_ (some 33) ?_
         refine pa_ 7 (some 26) (bl_ 13 255) HT_ ?_
         refine pa_ 8 (some 34) (bl_ 13 511) HT_ ?_
         refine pa_ 9 (some 35) (bl_ 13 1023) HT_ ?_
         refine oa_ 10 (some 10) (bl_ 13 2047) HT_ fun K hK => ?_
         refine bs2_ #[.int .u64 0, .int .u64 0] 26 ?_
         intro gb374 hg w33 BK374 hb
         have GW374 := bz_ w hg
         have GE374 := GW374
         have NB360_374 := bn_ BK360 hg
         have NB374_360 := bm_ BK360 hg
         have NB361_374 := bn_ BK361 hg
         have NB374_361 := bm_ BK361 hg
         replace BK360 := bb_ BK360 hb
         replace BK361 := bb_ BK361 hb
         replace HB := bs_ w hb
         clear hb hg
         refine hK.out _ _ (cc6_ BK360) (fun hHeld => ?_)
         clear hK K
         refine nm_ (some 10) ?_
         exact no_ (hCont (gb374) _ ⟨hHeld, (bq_ BK360), (bq_ BK361), (bq_ BK374), GW374.out, GE374.out, NB360_374.out, NB374_360.out, NB361_374.out, NB374_361.out, bh_⟩)
        ·refine bs2_ #[.int .u64 0, .int .u64 0] 26 ?_
         intro gb374 hg w32 BK374 hb
         have GW374 := bz_ w hg
         have GE374 := GW374
         have NB360_374 := bn_ BK360 hg
         have NB374_360 := bm_ BK360 hg
         have NB361_374 := bn_ BK361 hg
         have NB374_361 := bm_ BK361 hg
         replace BK360 := bb_ BK360 hb
         replace BK361 := bb_ BK361 hb
         replace HB := bs_ w hb
         clear hb hg
         refine hK.out _ _ (cc6_ BK360) (fun hHeld => ?_)
         clear hK K
         refine nm_ (some 10) ?_
         refine oa_ 6 (some 33) (bl_ 13 1151) HT_ fun K hK => ?_
         refine goesB_ Try.func48 #[.agg #[.int .u64 t366, .int .u64 t367], .agg #[.int .u64 t369, .int .u64 t370]] ?_
         with_reducible refine (wide_Add.calls t366 t367 t369 t370 t371 t372 t373 _ A15.out).mono ?_
         rintro e w33 ⟨rfl, hb⟩
         refine ⟨_, rfl, ?_⟩
         replace BK360 := bb_ BK360 hb
         replace BK361 := bb_ BK361 hb
         replace BK374 := bb_ BK374 hb
         replace HB := bs_ w hb
         clear hb
         refine hK.out _ _ (cc6_ BK360) (fun hHeld => ?_)
         clear hK K
         refine nm_ (some 33) ?_
         refine pa_ 7 (some 26) (bl_ 13 1279) HT_ ?_
         refine pa_ 8 (some 34) (bl_ 13 1535) HT_ ?_
         refine pa_ 9 (some 35) (bl_ 13 2047) HT_ ?_
         exact no_ (hCont (gb374) _ ⟨hHeld, (bq_ BK360), (bq_ BK361), (bq_ BK374), GW374.out, GE374.out, NB360_374.out, NB374_360.out, NB361_374.out, NB374_361.out, bh_⟩)
       ·refine bs2_ #[.int .u64 0, .int .u64 0] 26 ?_
        intro gb374 hg w31 BK374 hb
        have GW374 := bz_ w hg
        have GE374 := GW374
        have NB360_374 := bn_ BK360 hg
        have NB374_360 := bm_ BK360 hg
        have NB361_374 := bn_ BK361 hg
        have NB374_361 := bm_ BK361 hg
        replace BK360 := bb_ BK360 hb
        replace BK361 := bb_ BK361 hb
        replace HB := bs_ w hb
        clear hb hg
        refine hK.out _ _ (cc6_ BK360) (fun hHeld => ?_)
        clear hK K
        refine nm_ (some 10) ?_
        refine oa_ 5 (some 32) (bl_ 13 1087) HT_ fun K hK => ?_
        refine goesB_ Try.func36 #[.agg #[.int .i64 t363, .int .i64 t364, .int .i64 t365], .int .i64 a2] ?_
        with_reducible refine (gcra_tokens.calls t363 t364 t365 a2 t369 t370 _ A14.out).mono ?_
        rintro e w32 ⟨rfl, hb⟩
        refine ⟨_, rfl, ?_⟩
        replace BK360 := bb_ BK360 hb
        replace BK361 := bb_ BK361 hb
        replace BK374 := bb_ BK374 hb
        replace HB := bs_ w hb
        clear hb
        refine hK.out _ _ (cc6_ BK360) (fun hHeld => ?_)
        clear hK K
        refine nm_ (some 32) ?_
        refine oa_ 6 (some 33) (bl_ 13 1151) HT_ fun K hK => ?_
        refine goesB_ Try.func48 #[.agg #[.int .u64 t366, .int .u64 t367], .agg #[.int .u64 t369, .int .u64 t370]] ?_
        with_reducible refine (wide_Add.calls t366 t367 t369 t370 t371 t372 t373 _ A15.out).mono ?_
        rintro e w33 ⟨rfl, hb⟩
        refine ⟨_, rfl, ?_⟩
        replace BK360 := bb_ BK360 hb
        replace BK361 := bb_ BK361 hb
        replace BK374 := bb_ BK374 hb
        replace HB := bs_ w hb
        clear hb
        refine hK.out _ _ (cc6_ BK360) (fun hHeld => ?_)
        clear hK K
        refine nm_ (some 33) ?_
        refine pa_ 7 (some 26) (bl_ 13 1279) HT_ ?_
        refine pa_ 8 (some 34) (bl_ 13 1535) HT_ ?_
        refine pa_ 9 (some 35) (bl_ 13 2047) HT_ ?_
        exact no_ (hCont (gb374) _ ⟨hHeld, (bq_ BK360), (bq_ BK361), (bq_ BK374), GW374.out, GE374.out, NB360_374.out, NB374_360.out, NB361_374.out, NB374_361.out, bh_⟩)
      rintro gb374 w34 ⟨hS_, h0_, h1_, h2_, h3_, h4_, h5_, h6_, h7_, h8_, h9_⟩
      have BK374 := Aside0.mk h2_
      have GW374 := Aside0.mk h3_
      have GE374 := Aside0.mk h4_
      have NB360_374 := Aside0.mk h5_
      have NB374_360 := Aside0.mk h6_
      have NB361_374 := Aside0.mk h7_
      have NB374_361 := Aside0.mk h8_
      replace BK360 := Aside0.mk h0_
      replace BK361 := Aside0.mk h1_
      replace HB := Aside0.mk h9_
      clear h0_ h1_ h2_ h3_ h4_ h5_ h6_ h7_ h8_ h9_
      have hHeld := hS_
      refine nq_ ?_
      refine oa_ 11 none (bl_ 13 4095) HT_ fun K hK => ?_
      have hs35 : w34.cell? ⟨gb374, 0, none⟩ = some (.int .u64 0) := (blk_cell BK374.out 0).trans rfl
      have hfs35 := blk_frozen BK374.out 0
      have hns35_0 := NB360_374.out
      have hns35_1 := NB361_374.out
      have hms35_0 := NB374_360.out
      have hms35_1 := NB374_361.out
      have hs36 : w34.cell? ⟨gb374, 1, none⟩ = some (.int .u64 0) := (blk_cell BK374.out 1).trans rfl
      have hfs36 := blk_frozen BK374.out 1
      have hns36_0 := NB360_374.out
      have hns36_1 := NB361_374.out
      have hms36_0 := NB374_360.out
      have hms36_1 := NB374_361.out
      refine sk_ ?_
      refine hK.out _ _ (cf6_ hHeld) (fun hHeld => ?_)
      clear hK K
      refine pa_ 12 (some 11) (bl_ 13 8191) HT_ ?_
      refine done_ (done_of HT_.out (by kernel_rfl)) ?_
      replace hn360_374 := NB360_374.out
      replace hn374_360 := NB374_360.out
      replace hc360 := ce6_ BK360
      try go_wp2_with (first | ((with_reducible refine gate_callee (f := 35) rfl ?_); (try refine ug_ (by rfl) ?_); refine goesA_ (some 41) Try.func35 #[.agg #[.int .i64 t363, .int .i64 t364, .int .i64 t365], .int .u64 t368] ?_; (with_reducible refine (gcra_end.calls t363 t364 t365 t368 t375 t376 t377 _ A16.out).mono ?_); rintro e w39 ⟨rfl, hb⟩; refine ⟨_, rfl, ?_⟩; replace BK360 := bf_ BK360 hb; replace BK361 := bf_ BK361 hb; replace BK374 := Aside0.mk (blk_below (g := gb374) (o := .cells #[.int .u64 t371, .int .u64 t372] 26 (0, 0)) (bp2_ (bq_ BK374)) hb); replace HB := bs_ w hb; clear hb) | ((with_reducible refine gate_dst (N := 12) rfl ?_); (try refine ug_ (by rfl) ?_); refine bx_ #[.int .u64 0, .int .u64 0] 26 ?_; intro gb378 hg w40 BK378 hb; have GW378 := bz_ w hg; have GE378 := GW378; have NB360_378 := bn_ BK360 hg; have NB378_360 := bm_ BK360 hg; have NB361_378 := bn_ BK361 hg; have NB378_361 := bm_ BK361 hg; have NB374_378 := bn_ BK374 hg; have NB378_374 := bm_ BK374 hg; replace BK360 := bb_ BK360 hb; replace BK361 := bb_ BK361 hb; replace BK374 := bb_ BK374 hb; replace HB := bs_ w hb; clear hb hg; replace hn378_360 := NB378_360.out; replace hn360_378 := NB360_378.out; replace hn378_361 := NB378_361.out; replace hn361_378 := NB361_378.out; replace hn378_374 := NB378_374.out; replace hn374_378 := NB374_378.out; replace hc378 := ce2_ BK378; replace hn374_361 := NB374_361.out; replace hn361_374 := NB361_374.out; replace hc374 := ce2_ BK374) | (go_at_call 45; (with_reducible refine (wide_Cmp.calls k t371 t372 t375 t376 t379 _ A19.out).mono ?_); rintro e w47 ⟨rfl, hb⟩; replace BK360 := bf_ BK360 hb; replace BK361 := bf_ BK361 hb; replace BK374 := bf_ BK374 hb; replace BK378 := Aside0.mk (blk_below (g := gb378) (o := .cells #[.int .u64 t375, .int .u64 t376] 26 (0, 0)) (bp2_ (bq_ BK378)) hb); replace HB := bs_ w hb; clear hb; replace hc360 := ce6_ BK360; replace hc361 := ce6_ BK361))
      refine bodyPost_ret (results_ctt rfl _ _ gb361 28 #[.int .i64 t363, .int .i64 t364, .int .i64 t365, .int .u64 t366, .int .u64 t367, .int .u64 t368] (0, 0) _ rfl (bp6_ (bq_ BK361)) Try.underlying28 rfl (by kernel_rfl)) rfl ?_
      exact fi_
     ·rw [if_neg c20] at H
      have c20b0 : decide (0 < t379) = false := decide_eq_false c20
      clear c20
      simp only [Option.some.injEq, Prod.mk.injEq] at H
      obtain ⟨rfl, rfl, rfl, rfl, rfl, rfl, rfl, rfl⟩ := H
      go_enter Try.func17, Try.ntmps17
      try go_wp2_with (first | ((with_reducible refine gate_dst (N := 3) rfl ?_); (try refine ug_ (by rfl) ?_); refine bx_ #[.int .i64 a0_0, .int .i64 a0_1, .int .i64 a0_2, .int .u64 a0_3, .int .u64 a0_4, .int .u64 a0_5] 28 ?_; intro gb360 hg w50 BK360 hb; have GW360 := bz_ w hg; have GE360 := GW360; replace HB := bs_ w hb; clear hb hg) | ((with_reducible refine gate_dst (N := 6) rfl ?_); (try refine ug_ (by rfl) ?_); refine bx_ #[.int .i64 0, .int .i64 0, .int .i64 0, .int .u64 0, .int .u64 0, .int .u64 0] 28 ?_; intro gb361 hg w51 BK361 hb; have GW361 := bz_ w hg; have GE361 := GW361; have NB360_361 := bn_ BK360 hg; have NB361_360 := bm_ BK360 hg; replace BK360 := bb_ BK360 hb; replace HB := bs_ w hb; clear hb hg; replace hn360_361 := NB360_361.out; replace hn361_360 := NB361_360.out; replace hc360 := ce6_ BK360) | ((with_reducible refine gate_callee (f := 15) rfl ?_); (try refine ug_ (by rfl) ?_); refine goesA_ (some 15) Try.func15 #[.agg #[.int .i64 a0_0, .int .i64 a0_1, .int .i64 a0_2, .int .u64 a0_3, .int .u64 a0_4, .int .u64 a0_5]] ?_; (with_reducible refine (gcra_Check.calls k a0_0 a0_1 a0_2 a0_3 a0_4 a0_5 t362 _ A4.out).mono ?_); rintro e w54 ⟨rfl, hb⟩; refine ⟨_, rfl, ?_⟩; replace BK360 := bb_ BK360 hb; replace BK361 := bb_ BK361 hb; replace HB := bs_ w hb; clear hb; replace hc360 := ce6_ BK360) | ((with_reducible refine gate_callee (f := 47) rfl ?_); (try refine ug_ (by rfl) ?_); refine goesA_ (some 25) Try.func47 #[.agg #[.int .i64 a0_0, .int .i64 a0_1, .int .i64 a0_2, .int .u64 a0_3, .int .u64 a0_4, .int .u64 a0_5], .int .u64 a1] ?_; (with_reducible refine (gcra_moved.calls k a0_0 a0_1 a0_2 a0_3 a0_4 a0_5 a1 t363 t364 t365 t366 t367 t368 _ A13.out).mono ?_); rintro e w56 ⟨rfl, hb⟩; refine ⟨_, rfl, ?_⟩; replace BK360 := bb_ BK360 hb; replace BK361 := bb_ BK361 hb; replace HB := bs_ w hb; clear hb; replace hc360 := ce6_ BK360))
      have n0_ : Aside0 (((((((w56.setCell ⟨gb360, 0, none⟩ (.int .i64 t363)).setCell ⟨gb360, 1, none⟩ (.int .i64 t364)).setCell ⟨gb360, 2, none⟩ (.int .i64 t365)).setCell ⟨gb360, 3, none⟩ (.int .u64 t366)).setCell ⟨gb360, 4, none⟩ (.int .u64 t367)).setCell ⟨gb360, 5, none⟩ (.int .u64 t368)).heap[gb360]? = some (.cells #[.int .i64 t363, .int .i64 t364, .int .i64 t365, .int .u64 t366, .int .u64 t367, .int .u64 t368] 28 (0, 0))) := ⟨(bp6_ (bq_ BK360))⟩
      have n1_ : Aside0 (((((((w56.setCell ⟨gb360, 0, none⟩ (.int .i64 t363)).setCell ⟨gb360, 1, none⟩ (.int .i64 t364)).setCell ⟨gb360, 2, none⟩ (.int .i64 t365)).setCell ⟨gb360, 3, none⟩ (.int .u64 t366)).setCell ⟨gb360, 4, none⟩ (.int .u64 t367)).setCell ⟨gb360, 5, none⟩ (.int .u64 t368)).heap[gb361]? = some (.cells #[.int .i64 0, .int .i64 0, .int .i64 0, .int .u64 0, .int .u64 0, .int .u64 0] 28 (0, 0))) := ⟨(bt_ BK361)⟩
      have n2_ : Aside0 (Below w.heap.size w ((((((w56.setCell ⟨gb360, 0, none⟩ (.int .i64 t363)).setCell ⟨gb360, 1, none⟩ (.int .i64 t364)).setCell ⟨gb360, 2, none⟩ (.int .i64 t365)).setCell ⟨gb360, 3, none⟩ (.int .u64 t366)).setCell ⟨gb360, 4, none⟩ (.int .u64 t367)).setCell ⟨gb360, 5, none⟩ (.int .u64 t368))) := bw_
      (try clear BK360)
      (try clear BK361)
      (try clear HB)
      generalize ((((((w56.setCell ⟨gb360, 0, none⟩ (.int .i64 t363)).setCell ⟨gb360, 1, none⟩ (.int .i64 t364)).setCell ⟨gb360, 2, none⟩ (.int .i64 t365)).setCell ⟨gb360, 3, none⟩ (.int .u64 t366)).setCell ⟨gb360, 4, none⟩ (.int .u64 t367)).setCell ⟨gb360, 5, none⟩ (.int .u64 t368)) = w58 at n0_ n1_ n2_ ⊢
      have BK360 := n0_
      have BK361 := n1_
      have HB := n2_
      clear n0_ n1_ n2_
      replace BK360 := Aside0.mk (blk_drew BK360.out)
      replace BK361 := Aside0.mk (blk_drew BK361.out)
      replace HB := Aside0.mk (below_drew1 HB.out)
      refine start_ (n := 13) (S := fun w' => w'.cell? ⟨gb360, 0, none⟩ = some (.int .i64 t363) ∧ w'.cell? ⟨gb360, 1, none⟩ = some (.int .i64 t364) ∧ w'.cell? ⟨gb360, 2, none⟩ = some (.int .i64 t365) ∧ w'.cell? ⟨gb360, 3, none⟩ = some (.int .u64 t366) ∧ w'.cell? ⟨gb360, 4, none⟩ = some (.int .u64 t367) ∧ w'.cell? ⟨gb360, 5, none⟩ = some (.int .u64 t368)) (ds := []) (bl_ 13 0) (by kernel_rfl) rfl (by kernel_rfl) (cc6_ BK360) (fun hHeld => ?_); refine with_tabW gcra_Ask.tab7 gcra_Ask.bits7 (fun HT_ HW_ => ?_)
      generalize w58.drew = w59 at BK360 BK361 HB hHeld ⊢
      refine pa_ 0 (some 27) (bl_ 13 1) HT_ ?_
      refine pa_ 2 (some 29) (bl_ 13 5) HT_ ?_
      refine pa_ 4 (some 31) (bl_ 13 21) HT_ ?_
      refine ta_ 1 (some 28) (bl_ 13 23) HT_ HW_ hHeld ?_
      refine ta_ 3 (some 30) (bl_ 13 31) HT_ HW_ hHeld ?_
      refine join_ (σ := Nat) 2 (bl_ 13 2047) (fun s_ => [(32, .agg #[.int .u64 t369, .int .u64 t370]), (33, .tuple #[.agg #[.int .u64 t371, .int .u64 t372], .int .i64 t373]), (10, .pointer (some ⟨s_, 0, none⟩)), (26, .tuple #[.agg #[.int .u64 t371, .int .u64 t372], .int .i64 t373]), (34, .agg #[.int .u64 t371, .int .u64 t372]), (35, .int .i64 t373)]) (fun s_ w' => (w'.cell? ⟨gb360, 0, none⟩ = some (.int .i64 t363) ∧ w'.cell? ⟨gb360, 1, none⟩ = some (.int .i64 t364) ∧ w'.cell? ⟨gb360, 2, none⟩ = some (.int .i64 t365) ∧ w'.cell? ⟨gb360, 3, none⟩ = some (.int .u64 t366) ∧ w'.cell? ⟨gb360, 4, none⟩ = some (.int .u64 t367) ∧ w'.cell? ⟨gb360, 5, none⟩ = some (.int .u64 t368)) ∧ (w'.heap[gb360]? = some (.cells #[.int .i64 t363, .int .i64 t364, .int .i64 t365, .int .u64 t366, .int .u64 t367, .int .u64 t368] 28 (0, 0))) ∧ (w'.heap[gb361]? = some (.cells #[.int .i64 0, .int .i64 0, .int .i64 0, .int .u64 0, .int .u64 0, .int .u64 0] 28 (0, 0))) ∧ (w'.heap[s_]? = some (.cells #[.int .u64 0, .int .u64 0] 26 (0, 0))) ∧ (w.heap.size ≤ s_) ∧ (w.heap.size ≤ s_) ∧ (gb360 ≠ s_) ∧ (s_ ≠ gb360) ∧ (gb361 ≠ s_) ∧ (s_ ≠ gb361) ∧ (Below w.heap.size w w')) ?_ ?_
      rotate_left
      ·intro hCont
       refine tw_ 5 10 (some 32) (some 10) (bl_ 13 63) (bl_ 13 1055) HT_ (fun K hK => ?_) fun K hK => ?_
       ·refine goesB_ Try.func36 #[.agg #[.int .i64 t363, .int .i64 t364, .int .i64 t365], .int .i64 a2] ?_
        with_reducible refine (gcra_tokens.calls t363 t364 t365 a2 t369 t370 _ A14.out).mono ?_
        rintro e w60 ⟨rfl, hb⟩
        refine ⟨_, rfl, ?_⟩
        replace BK360 := bb_ BK360 hb
        replace BK361 := bb_ BK361 hb
        replace HB := bs_ w hb
        clear hb
        refine hK.out _ _ (cc6_ BK360) (fun hHeld => ?_)
        clear hK K
        refine nm_ (some 32) ?_
        refine tw_ 6 10 (some 33) (some 10) (bl_ 13 127) (bl_ 13 1087) HT_ (fun K hK => ?_) fun K hK => ?_
        ·refine goesB_ Try.func48 #[.agg #[.int .u64 t366, .int .u64 t367], .agg #[.int .u64 t369, .int .u64 t370]] ?_
         with_reducible refine (wide_Add.calls t366 t367 t369 t370 t371 t372 t373 _ A15.out).mono ?_
         rintro e w61 ⟨rfl, hb⟩
         refine ⟨_, rfl, ?_⟩
         replace BK360 := bb_ BK360 hb
         replace BK361 := bb_ BK361 hb
         replace HB := bs_ w hb
         clear hb
         refine hK.out _ _ (cc6_ BK360) (fun hHeld => ?_)
         clear hK K
         refine nm_ (some 33) ?_
         refine pa_ 7 (some 26) (bl_ 13 255) HT_ ?_
         refine pa_ 8 (some 34) (bl_ 13 511) HT_ ?_
         refine pa_ 9 (some 35) (bl_ 13 1023) HT_ ?_
         refine oa_ 10 (some 10) (bl_ 13 2047) HT_ fun K hK => ?_
         refine bs2_ #[.int .u64 0, .int .u64 0] 26 ?_
         intro gb374 hg w62 BK374 hb
         have GW374 := bz_ w hg
         have GE374 := GW374
         have NB360_374 := bn_ BK360 hg
         have NB374_360 := bm_ BK360 hg
         have NB361_374 := bn_ BK361 hg
         have NB374_361 := bm_ BK361 hg
         replace BK360 := bb_ BK360 hb
         replace BK361 := bb_ BK361 hb
         replace HB := bs_ w hb
         clear hb hg
         refine hK.out _ _ (cc6_ BK360) (fun hHeld => ?_)
         clear hK K
         refine nm_ (some 10) ?_
         exact no_ (hCont (gb374) _ ⟨hHeld, (bq_ BK360), (bq_ BK361), (bq_ BK374), GW374.out, GE374.out, NB360_374.out, NB374_360.out, NB361_374.out, NB374_361.out, bh_⟩)
        ·refine bs2_ #[.int .u64 0, .int .u64 0] 26 ?_
         intro gb374 hg w61 BK374 hb
         have GW374 := bz_ w hg
         have GE374 := GW374
         have NB360_374 := bn_ BK360 hg
         have NB374_360 := bm_ BK360 hg
         have NB361_374 := bn_ BK361 hg
         have NB374_361 := bm_ BK361 hg
         replace BK360 := bb_ BK360 hb
         replace BK361 := bb_ BK361 hb
         replace HB := bs_ w hb
         clear hb hg
         refine hK.out _ _ (cc6_ BK360) (fun hHeld => ?_)
         clear hK K
         refine nm_ (some 10) ?_
         refine oa_ 6 (some 33) (bl_ 13 1151) HT_ fun K hK => ?_
         refine goesB_ Try.func48 #[.agg #[.int .u64 t366, .int .u64 t367], .agg #[.int .u64 t369, .int .u64 t370]] ?_
         with_reducible refine (wide_Add.calls t366 t367 t369 t370 t371 t372 t373 _ A15.out).mono ?_
         rintro e w62 ⟨rfl, hb⟩
         refine ⟨_, rfl, ?_⟩
         replace BK360 := bb_ BK360 hb
         replace BK361 := bb_ BK361 hb
         replace BK374 := bb_ BK374 hb
         replace HB := bs_ w hb
         clear hb
         refine hK.out _ _ (cc6_ BK360) (fun hHeld => ?_)
         clear hK K
         refine nm_ (some 33) ?_
         refine pa_ 7 (some 26) (bl_ 13 1279) HT_ ?_
         refine pa_ 8 (some 34) (bl_ 13 1535) HT_ ?_
         refine pa_ 9 (some 35) (bl_ 13 2047) HT_ ?_
         exact no_ (hCont (gb374) _ ⟨hHeld, (bq_ BK360), (bq_ BK361), (bq_ BK374), GW374.out, GE374.out, NB360_374.out, NB374_360.out, NB361_374.out, NB374_361.out, bh_⟩)
       ·refine bs2_ #[.int .u64 0, .int .u64 0] 26 ?_
        intro gb374 hg w60 BK374 hb
        have GW374 := bz_ w hg
        have GE374 := GW374
        have NB360_374 := bn_ BK360 hg
        have NB374_360 := bm_ BK360 hg
        have NB361_374 := bn_ BK361 hg
        have NB374_361 := bm_ BK361 hg
        replace BK360 := bb_ BK360 hb
        replace BK361 := bb_ BK361 hb
        replace HB := bs_ w hb
        clear hb hg
        refine hK.out _ _ (cc6_ BK360) (fun hHeld => ?_)
        clear hK K
        refine nm_ (some 10) ?_
        refine oa_ 5 (some 32) (bl_ 13 1087) HT_ fun K hK => ?_
        refine goesB_ Try.func36 #[.agg #[.int .i64 t363, .int .i64 t364, .int .i64 t365], .int .i64 a2] ?_
        with_reducible refine (gcra_tokens.calls t363 t364 t365 a2 t369 t370 _ A14.out).mono ?_
        rintro e w61 ⟨rfl, hb⟩
        refine ⟨_, rfl, ?_⟩
        replace BK360 := bb_ BK360 hb
        replace BK361 := bb_ BK361 hb
        replace BK374 := bb_ BK374 hb
        replace HB := bs_ w hb
        clear hb
        refine hK.out _ _ (cc6_ BK360) (fun hHeld => ?_)
        clear hK K
        refine nm_ (some 32) ?_
        refine oa_ 6 (some 33) (bl_ 13 1151) HT_ fun K hK => ?_
        refine goesB_ Try.func48 #[.agg #[.int .u64 t366, .int .u64 t367], .agg #[.int .u64 t369, .int .u64 t370]] ?_
        with_reducible refine (wide_Add.calls t366 t367 t369 t370 t371 t372 t373 _ A15.out).mono ?_
        rintro e w62 ⟨rfl, hb⟩
        refine ⟨_, rfl, ?_⟩
        replace BK360 := bb_ BK360 hb
        replace BK361 := bb_ BK361 hb
        replace BK374 := bb_ BK374 hb
        replace HB := bs_ w hb
        clear hb
        refine hK.out _ _ (cc6_ BK360) (fun hHeld => ?_)
        clear hK K
        refine nm_ (some 33) ?_
        refine pa_ 7 (some 26) (bl_ 13 1279) HT_ ?_
        refine pa_ 8 (some 34) (bl_ 13 1535) HT_ ?_
        refine pa_ 9 (some 35) (bl_ 13 2047) HT_ ?_
        exact no_ (hCont (gb374) _ ⟨hHeld, (bq_ BK360), (bq_ BK361), (bq_ BK374), GW374.out, GE374.out, NB360_374.out, NB374_360.out, NB361_374.out, NB374_361.out, bh_⟩)
      rintro gb374 w63 ⟨hS_, h0_, h1_, h2_, h3_, h4_, h5_, h6_, h7_, h8_, h9_⟩
      have BK374 := Aside0.mk h2_
      have GW374 := Aside0.mk h3_
      have GE374 := Aside0.mk h4_
      have NB360_374 := Aside0.mk h5_
      have NB374_360 := Aside0.mk h6_
      have NB361_374 := Aside0.mk h7_
      have NB374_361 := Aside0.mk h8_
      replace BK360 := Aside0.mk h0_
      replace BK361 := Aside0.mk h1_
      replace HB := Aside0.mk h9_
      clear h0_ h1_ h2_ h3_ h4_ h5_ h6_ h7_ h8_ h9_
      have hHeld := hS_
      refine nq_ ?_
      refine oa_ 11 none (bl_ 13 4095) HT_ fun K hK => ?_
      have hs64 : w63.cell? ⟨gb374, 0, none⟩ = some (.int .u64 0) := (blk_cell BK374.out 0).trans rfl
      have hfs64 := blk_frozen BK374.out 0
      have hns64_0 := NB360_374.out
      have hns64_1 := NB361_374.out
      have hms64_0 := NB374_360.out
      have hms64_1 := NB374_361.out
      have hs65 : w63.cell? ⟨gb374, 1, none⟩ = some (.int .u64 0) := (blk_cell BK374.out 1).trans rfl
      have hfs65 := blk_frozen BK374.out 1
      have hns65_0 := NB360_374.out
      have hns65_1 := NB361_374.out
      have hms65_0 := NB374_360.out
      have hms65_1 := NB374_361.out
      refine sk_ ?_
      refine hK.out _ _ (cf6_ hHeld) (fun hHeld => ?_)
      clear hK K
      refine pa_ 12 (some 11) (bl_ 13 8191) HT_ ?_
      refine done_ (done_of HT_.out (by kernel_rfl)) ?_
      replace hn360_374 := NB360_374.out
      replace hn374_360 := NB374_360.out
      replace hc360 := ce6_ BK360
      try go_wp2_with (first | ((with_reducible refine gate_callee (f := 35) rfl ?_); (try refine ug_ (by rfl) ?_); refine goesA_ (some 41) Try.func35 #[.agg #[.int .i64 t363, .int .i64 t364, .int .i64 t365], .int .u64 t368] ?_; (with_reducible refine (gcra_end.calls t363 t364 t365 t368 t375 t376 t377 _ A16.out).mono ?_); rintro e w68 ⟨rfl, hb⟩; refine ⟨_, rfl, ?_⟩; replace BK360 := bf_ BK360 hb; replace BK361 := bf_ BK361 hb; replace BK374 := Aside0.mk (blk_below (g := gb374) (o := .cells #[.int .u64 t371, .int .u64 t372] 26 (0, 0)) (bp2_ (bq_ BK374)) hb); replace HB := bs_ w hb; clear hb) | ((with_reducible refine gate_dst (N := 12) rfl ?_); (try refine ug_ (by rfl) ?_); refine bx_ #[.int .u64 0, .int .u64 0] 26 ?_; intro gb378 hg w69 BK378 hb; have GW378 := bz_ w hg; have GE378 := GW378; have NB360_378 := bn_ BK360 hg; have NB378_360 := bm_ BK360 hg; have NB361_378 := bn_ BK361 hg; have NB378_361 := bm_ BK361 hg; have NB374_378 := bn_ BK374 hg; have NB378_374 := bm_ BK374 hg; replace BK360 := bb_ BK360 hb; replace BK361 := bb_ BK361 hb; replace BK374 := bb_ BK374 hb; replace HB := bs_ w hb; clear hb hg; replace hn378_360 := NB378_360.out; replace hn360_378 := NB360_378.out; replace hn378_361 := NB378_361.out; replace hn361_378 := NB361_378.out; replace hn378_374 := NB378_374.out; replace hn374_378 := NB374_378.out; replace hc378 := ce2_ BK378; replace hn374_361 := NB374_361.out; replace hn361_374 := NB361_374.out; replace hc374 := ce2_ BK374) | (go_at_call 45; (with_reducible refine (wide_Cmp.calls k t371 t372 t375 t376 t379 _ A19.out).mono ?_); rintro e w76 ⟨rfl, hb⟩; replace BK360 := bf_ BK360 hb; replace BK361 := bf_ BK361 hb; replace BK374 := bf_ BK374 hb; replace BK378 := Aside0.mk (blk_below (g := gb378) (o := .cells #[.int .u64 t375, .int .u64 t376] 26 (0, 0)) (bp2_ (bq_ BK378)) hb); replace HB := bs_ w hb; clear hb; replace hc374 := ce2_ BK374; replace hc360 := ce6_ BK360; replace hc361 := ce6_ BK361))
      refine bodyPost_ret (results_ctt rfl _ _ gb361 28 #[.int .i64 t363, .int .i64 t364, .int .i64 t365, .int .u64 t371, .int .u64 t372, .int .u64 t368] (0, 0) _ rfl (bp6_ (bt_ BK361)) Try.underlying28 rfl (by kernel_rfl)) rfl ?_
      exact fi_
    ·rw [if_neg c18] at H
     have c18b0 : (t377 == 0) = false := beq_eq_false_iff_ne.mpr c18
     have c18b1 : (t377 != 0) = true := bne_iff_ne.mpr c18
     simp only [Option.some.injEq, Prod.mk.injEq] at H
     obtain ⟨rfl, rfl, rfl, rfl, rfl, rfl, rfl, rfl⟩ := H
     go_enter Try.func17, Try.ntmps17
     try go_wp2_with (first | ((with_reducible refine gate_dst (N := 3) rfl ?_); (try refine ug_ (by rfl) ?_); refine bx_ #[.int .i64 a0_0, .int .i64 a0_1, .int .i64 a0_2, .int .u64 a0_3, .int .u64 a0_4, .int .u64 a0_5] 28 ?_; intro gb360 hg w80 BK360 hb; have GW360 := bz_ w hg; have GE360 := GW360; replace HB := bs_ w hb; clear hb hg) | ((with_reducible refine gate_dst (N := 6) rfl ?_); (try refine ug_ (by rfl) ?_); refine bx_ #[.int .i64 0, .int .i64 0, .int .i64 0, .int .u64 0, .int .u64 0, .int .u64 0] 28 ?_; intro gb361 hg w81 BK361 hb; have GW361 := bz_ w hg; have GE361 := GW361; have NB360_361 := bn_ BK360 hg; have NB361_360 := bm_ BK360 hg; replace BK360 := bb_ BK360 hb; replace HB := bs_ w hb; clear hb hg; replace hn360_361 := NB360_361.out; replace hn361_360 := NB361_360.out; replace hc360 := ce6_ BK360) | ((with_reducible refine gate_callee (f := 15) rfl ?_); (try refine ug_ (by rfl) ?_); refine goesA_ (some 15) Try.func15 #[.agg #[.int .i64 a0_0, .int .i64 a0_1, .int .i64 a0_2, .int .u64 a0_3, .int .u64 a0_4, .int .u64 a0_5]] ?_; (with_reducible refine (gcra_Check.calls k a0_0 a0_1 a0_2 a0_3 a0_4 a0_5 t362 _ A4.out).mono ?_); rintro e w84 ⟨rfl, hb⟩; refine ⟨_, rfl, ?_⟩; replace BK360 := bb_ BK360 hb; replace BK361 := bb_ BK361 hb; replace HB := bs_ w hb; clear hb; replace hc360 := ce6_ BK360) | ((with_reducible refine gate_callee (f := 47) rfl ?_); (try refine ug_ (by rfl) ?_); refine goesA_ (some 25) Try.func47 #[.agg #[.int .i64 a0_0, .int .i64 a0_1, .int .i64 a0_2, .int .u64 a0_3, .int .u64 a0_4, .int .u64 a0_5], .int .u64 a1] ?_; (with_reducible refine (gcra_moved.calls k a0_0 a0_1 a0_2 a0_3 a0_4 a0_5 a1 t363 t364 t365 t366 t367 t368 _ A13.out).mono ?_); rintro e w86 ⟨rfl, hb⟩; refine ⟨_, rfl, ?_⟩; replace BK360 := bb_ BK360 hb; replace BK361 := bb_ BK361 hb; replace HB := bs_ w hb; clear hb; replace hc360 := ce6_ BK360))
     have n0_ : Aside0 (((((((w86.setCell ⟨gb360, 0, none⟩ (.int .i64 t363)).setCell ⟨gb360, 1, none⟩ (.int .i64 t364)).setCell ⟨gb360, 2, none⟩ (.int .i64 t365)).setCell ⟨gb360, 3, none⟩ (.int .u64 t366)).setCell ⟨gb360, 4, none⟩ (.int .u64 t367)).setCell ⟨gb360, 5, none⟩ (.int .u64 t368)).heap[gb360]? = some (.cells #[.int .i64 t363, .int .i64 t364, .int .i64 t365, .int .u64 t366, .int .u64 t367, .int .u64 t368] 28 (0, 0))) := ⟨(bp6_ (bq_ BK360))⟩
     have n1_ : Aside0 (((((((w86.setCell ⟨gb360, 0, none⟩ (.int .i64 t363)).setCell ⟨gb360, 1, none⟩ (.int .i64 t364)).setCell ⟨gb360, 2, none⟩ (.int .i64 t365)).setCell ⟨gb360, 3, none⟩ (.int .u64 t366)).setCell ⟨gb360, 4, none⟩ (.int .u64 t367)).setCell ⟨gb360, 5, none⟩ (.int .u64 t368)).heap[gb361]? = some (.cells #[.int .i64 0, .int .i64 0, .int .i64 0, .int .u64 0, .int .u64 0, .int .u64 0] 28 (0, 0))) := ⟨(bt_ BK361)⟩
     have n2_ : Aside0 (Below w.heap.size w ((((((w86.setCell ⟨gb360, 0, none⟩ (.int .i64 t363)).setCell ⟨gb360, 1, none⟩ (.int .i64 t364)).setCell ⟨gb360, 2, none⟩ (.int .i64 t365)).setCell ⟨gb360, 3, none⟩ (.int .u64 t366)).setCell ⟨gb360, 4, none⟩ (.int .u64 t367)).setCell ⟨gb360, 5, none⟩ (.int .u64 t368))) := bw_
     (try clear BK360)
     (try clear BK361)
     (try clear HB)
     generalize ((((((w86.setCell ⟨gb360, 0, none⟩ (.int .i64 t363)).setCell ⟨gb360, 1, none⟩ (.int .i64 t364)).setCell ⟨gb360, 2, none⟩ (.int .i64 t365)).setCell ⟨gb360, 3, none⟩ (.int .u64 t366)).setCell ⟨gb360, 4, none⟩ (.int .u64 t367)).setCell ⟨gb360, 5, none⟩ (.int .u64 t368)) = w88 at n0_ n1_ n2_ ⊢
     have BK360 := n0_
     have BK361 := n1_
     have HB := n2_
     clear n0_ n1_ n2_
     replace BK360 := Aside0.mk (blk_drew BK360.out)
     replace BK361 := Aside0.mk (blk_drew BK361.out)
     replace HB := Aside0.mk (below_drew1 HB.out)
     refine start_ (n := 13) (S := fun w' => w'.cell? ⟨gb360, 0, none⟩ = some (.int .i64 t363) ∧ w'.cell? ⟨gb360, 1, none⟩ = some (.int .i64 t364) ∧ w'.cell? ⟨gb360, 2, none⟩ = some (.int .i64 t365) ∧ w'.cell? ⟨gb360, 3, none⟩ = some (.int .u64 t366) ∧ w'.cell? ⟨gb360, 4, none⟩ = some (.int .u64 t367) ∧ w'.cell? ⟨gb360, 5, none⟩ = some (.int .u64 t368)) (ds := []) (bl_ 13 0) (by kernel_rfl) rfl (by kernel_rfl) (cc6_ BK360) (fun hHeld => ?_); refine with_tabW gcra_Ask.tab7 gcra_Ask.bits7 (fun HT_ HW_ => ?_)
     generalize w88.drew = w89 at BK360 BK361 HB hHeld ⊢
     refine pa_ 0 (some 27) (bl_ 13 1) HT_ ?_
     refine pa_ 2 (some 29) (bl_ 13 5) HT_ ?_
     refine pa_ 4 (some 31) (bl_ 13 21) HT_ ?_
     refine ta_ 1 (some 28) (bl_ 13 23) HT_ HW_ hHeld ?_
     refine ta_ 3 (some 30) (bl_ 13 31) HT_ HW_ hHeld ?_
     refine join_ (σ := Nat) 2 (bl_ 13 2047) (fun s_ => [(32, .agg #[.int .u64 t369, .int .u64 t370]), (33, .tuple #[.agg #[.int .u64 t371, .int .u64 t372], .int .i64 t373]), (10, .pointer (some ⟨s_, 0, none⟩)), (26, .tuple #[.agg #[.int .u64 t371, .int .u64 t372], .int .i64 t373]), (34, .agg #[.int .u64 t371, .int .u64 t372]), (35, .int .i64 t373)]) (fun s_ w' => (w'.cell? ⟨gb360, 0, none⟩ = some (.int .i64 t363) ∧ w'.cell? ⟨gb360, 1, none⟩ = some (.int .i64 t364) ∧ w'.cell? ⟨gb360, 2, none⟩ = some (.int .i64 t365) ∧ w'.cell? ⟨gb360, 3, none⟩ = some (.int .u64 t366) ∧ w'.cell? ⟨gb360, 4, none⟩ = some (.int .u64 t367) ∧ w'.cell? ⟨gb360, 5, none⟩ = some (.int .u64 t368)) ∧ (w'.heap[gb360]? = some (.cells #[.int .i64 t363, .int .i64 t364, .int .i64 t365, .int .u64 t366, .int .u64 t367, .int .u64 t368] 28 (0, 0))) ∧ (w'.heap[gb361]? = some (.cells #[.int .i64 0, .int .i64 0, .int .i64 0, .int .u64 0, .int .u64 0, .int .u64 0] 28 (0, 0))) ∧ (w'.heap[s_]? = some (.cells #[.int .u64 0, .int .u64 0] 26 (0, 0))) ∧ (w.heap.size ≤ s_) ∧ (w.heap.size ≤ s_) ∧ (gb360 ≠ s_) ∧ (s_ ≠ gb360) ∧ (gb361 ≠ s_) ∧ (s_ ≠ gb361) ∧ (Below w.heap.size w w')) ?_ ?_
     rotate_left
     ·intro hCont
      refine tw_ 5 10 (some 32) (some 10) (bl_ 13 63) (bl_ 13 1055) HT_ (fun K hK => ?_) fun K hK => ?_
      ·refine goesB_ Try.func36 #[.agg #[.int .i64 t363, .int .i64 t364, .int .i64 t365], .int .i64 a2] ?_
       with_reducible refine (gcra_tokens.calls t363 t364 t365 a2 t369 t370 _ A14.out).mono ?_
       rintro e w90 ⟨rfl, hb⟩
       refine ⟨_, rfl, ?_⟩
       replace BK360 := bb_ BK360 hb
       replace BK361 := bb_ BK361 hb
       replace HB := bs_ w hb
       clear hb
       refine hK.out _ _ (cc6_ BK360) (fun hHeld => ?_)
       clear hK K
       refine nm_ (some 32) ?_
       refine tw_ 6 10 (some 33) (some 10) (bl_ 13 127) (bl_ 13 1087) HT_ (fun K hK => ?_) fun K hK => ?_
       ·refine goesB_ Try.func48 #[.agg #[.int .u64 t366, .int .u64 t367], .agg #[.int .u64 t369, .int .u64 t370]] ?_
        with_reducible refine (wide_Add.calls t366 t367 t369 t370 t371 t372 t373 _ A15.out).mono ?_
        rintro e w91 ⟨rfl, hb⟩
        refine ⟨_, rfl, ?_⟩
        replace BK360 := bb_ BK360 hb
        replace BK361 := bb_ BK361 hb
        replace HB := bs_ w hb
        clear hb
        refine hK.out _ _ (cc6_ BK360) (fun hHeld => ?_)
        clear hK K
        refine nm_ (some 33) ?_
        refine pa_ 7 (some 26) (bl_ 13 255) HT_ ?_
        refine pa_ 8 (some 34) (bl_ 13 511) HT_ ?_
        refine pa_ 9 (some 35) (bl_ 13 1023) HT_ ?_
        refine oa_ 10 (some 10) (bl_ 13 2047) HT_ fun K hK => ?_
        refine bs2_ #[.int .u64 0, .int .u64 0] 26 ?_
        intro gb374 hg w92 BK374 hb
        have GW374 := bz_ w hg
        have GE374 := GW374
        have NB360_374 := bn_ BK360 hg
        have NB374_360 := bm_ BK360 hg
        have NB361_374 := bn_ BK361 hg
        have NB374_361 := bm_ BK361 hg
        replace BK360 := bb_ BK360 hb
        replace BK361 := bb_ BK361 hb
        replace HB := bs_ w hb
        clear hb hg
        refine hK.out _ _ (cc6_ BK360) (fun hHeld => ?_)
        clear hK K
        refine nm_ (some 10) ?_
        exact no_ (hCont (gb374) _ ⟨hHeld, (bq_ BK360), (bq_ BK361), (bq_ BK374), GW374.out, GE374.out, NB360_374.out, NB374_360.out, NB361_374.out, NB374_361.out, bh_⟩)
       ·refine bs2_ #[.int .u64 0, .int .u64 0] 26 ?_
        intro gb374 hg w91 BK374 hb
        have GW374 := bz_ w hg
        have GE374 := GW374
        have NB360_374 := bn_ BK360 hg
        have NB374_360 := bm_ BK360 hg
        have NB361_374 := bn_ BK361 hg
        have NB374_361 := bm_ BK361 hg
        replace BK360 := bb_ BK360 hb
        replace BK361 := bb_ BK361 hb
        replace HB := bs_ w hb
        clear hb hg
        refine hK.out _ _ (cc6_ BK360) (fun hHeld => ?_)
        clear hK K
        refine nm_ (some 10) ?_
        refine oa_ 6 (some 33) (bl_ 13 1151) HT_ fun K hK => ?_
        refine goesB_ Try.func48 #[.agg #[.int .u64 t366, .int .u64 t367], .agg #[.int .u64 t369, .int .u64 t370]] ?_
        with_reducible refine (wide_Add.calls t366 t367 t369 t370 t371 t372 t373 _ A15.out).mono ?_
        rintro e w92 ⟨rfl, hb⟩
        refine ⟨_, rfl, ?_⟩
        replace BK360 := bb_ BK360 hb
        replace BK361 := bb_ BK361 hb
        replace BK374 := bb_ BK374 hb
        replace HB := bs_ w hb
        clear hb
        refine hK.out _ _ (cc6_ BK360) (fun hHeld => ?_)
        clear hK K
        refine nm_ (some 33) ?_
        refine pa_ 7 (some 26) (bl_ 13 1279) HT_ ?_
        refine pa_ 8 (some 34) (bl_ 13 1535) HT_ ?_
        refine pa_ 9 (some 35) (bl_ 13 2047) HT_ ?_
        exact no_ (hCont (gb374) _ ⟨hHeld, (bq_ BK360), (bq_ BK361), (bq_ BK374), GW374.out, GE374.out, NB360_374.out, NB374_360.out, NB361_374.out, NB374_361.out, bh_⟩)
      ·refine bs2_ #[.int .u64 0, .int .u64 0] 26 ?_
       intro gb374 hg w90 BK374 hb
       have GW374 := bz_ w hg
       have GE374 := GW374
       have NB360_374 := bn_ BK360 hg
       have NB374_360 := bm_ BK360 hg
       have NB361_374 := bn_ BK361 hg
       have NB374_361 := bm_ BK361 hg
       replace BK360 := bb_ BK360 hb
       replace BK361 := bb_ BK361 hb
       replace HB := bs_ w hb
       clear hb hg
       refine hK.out _ _ (cc6_ BK360) (fun hHeld => ?_)
       clear hK K
       refine nm_ (some 10) ?_
       refine oa_ 5 (some 32) (bl_ 13 1087) HT_ fun K hK => ?_
       refine goesB_ Try.func36 #[.agg #[.int .i64 t363, .int .i64 t364, .int .i64 t365], .int .i64 a2] ?_
       with_reducible refine (gcra_tokens.calls t363 t364 t365 a2 t369 t370 _ A14.out).mono ?_
       rintro e w91 ⟨rfl, hb⟩
       refine ⟨_, rfl, ?_⟩
       replace BK360 := bb_ BK360 hb
       replace BK361 := bb_ BK361 hb
       replace BK374 := bb_ BK374 hb
       replace HB := bs_ w hb
       clear hb
       refine hK.out _ _ (cc6_ BK360) (fun hHeld => ?_)
       clear hK K
       refine nm_ (some 32) ?_
       refine oa_ 6 (some 33) (bl_ 13 1151) HT_ fun K hK => ?_
       refine goesB_ Try.func48 #[.agg #[.int .u64 t366, .int .u64 t367], .agg #[.int .u64 t369, .int .u64 t370]] ?_
       with_reducible refine (wide_Add.calls t366 t367 t369 t370 t371 t372 t373 _ A15.out).mono ?_
       rintro e w92 ⟨rfl, hb⟩
       refine ⟨_, rfl, ?_⟩
       replace BK360 := bb_ BK360 hb
       replace BK361 := bb_ BK361 hb
       replace BK374 := bb_ BK374 hb
       replace HB := bs_ w hb
       clear hb
       refine hK.out _ _ (cc6_ BK360) (fun hHeld => ?_)
       clear hK K
       refine nm_ (some 33) ?_
       refine pa_ 7 (some 26) (bl_ 13 1279) HT_ ?_
       refine pa_ 8 (some 34) (bl_ 13 1535) HT_ ?_
       refine pa_ 9 (some 35) (bl_ 13 2047) HT_ ?_
       exact no_ (hCont (gb374) _ ⟨hHeld, (bq_ BK360), (bq_ BK361), (bq_ BK374), GW374.out, GE374.out, NB360_374.out, NB374_360.out, NB361_374.out, NB374_361.out, bh_⟩)
     rintro gb374 w93 ⟨hS_, h0_, h1_, h2_, h3_, h4_, h5_, h6_, h7_, h8_, h9_⟩
     have BK374 := Aside0.mk h2_
     have GW374 := Aside0.mk h3_
     have GE374 := Aside0.mk h4_
     have NB360_374 := Aside0.mk h5_
     have NB374_360 := Aside0.mk h6_
     have NB361_374 := Aside0.mk h7_
     have NB374_361 := Aside0.mk h8_
     replace BK360 := Aside0.mk h0_
     replace BK361 := Aside0.mk h1_
     replace HB := Aside0.mk h9_
     clear h0_ h1_ h2_ h3_ h4_ h5_ h6_ h7_ h8_ h9_
     have hHeld := hS_
     refine nq_ ?_
     refine oa_ 11 none (bl_ 13 4095) HT_ fun K hK => ?_
     have hs94 : w93.cell? ⟨gb374, 0, none⟩ = some (.int .u64 0) := (blk_cell BK374.out 0).trans rfl
     have hfs94 := blk_frozen BK374.out 0
     have hns94_0 := NB360_374.out
     have hns94_1 := NB361_374.out
     have hms94_0 := NB374_360.out
     have hms94_1 := NB374_361.out
     have hs95 : w93.cell? ⟨gb374, 1, none⟩ = some (.int .u64 0) := (blk_cell BK374.out 1).trans rfl
     have hfs95 := blk_frozen BK374.out 1
     have hns95_0 := NB360_374.out
     have hns95_1 := NB361_374.out
     have hms95_0 := NB374_360.out
     have hms95_1 := NB374_361.out
     refine sk_ ?_
     refine hK.out _ _ (cf6_ hHeld) (fun hHeld => ?_)
     clear hK K
     refine pa_ 12 (some 11) (bl_ 13 8191) HT_ ?_
     refine done_ (done_of HT_.out (by kernel_rfl)) ?_
     replace hn360_374 := NB360_374.out
     replace hn374_360 := NB374_360.out
     replace hc360 := ce6_ BK360
     try go_wp2_with (first | ((with_reducible refine gate_callee (f := 35) rfl ?_); (try refine ug_ (by rfl) ?_); refine goesA_ (some 41) Try.func35 #[.agg #[.int .i64 t363, .int .i64 t364, .int .i64 t365], .int .u64 t368] ?_; (with_reducible refine (gcra_end.calls t363 t364 t365 t368 t375 t376 t377 _ A16.out).mono ?_); rintro e w98 ⟨rfl, hb⟩; refine ⟨_, rfl, ?_⟩; replace BK360 := bf_ BK360 hb; replace BK361 := bf_ BK361 hb; replace BK374 := Aside0.mk (blk_below (g := gb374) (o := .cells #[.int .u64 t371, .int .u64 t372] 26 (0, 0)) (bp2_ (bq_ BK374)) hb); replace HB := bs_ w hb; clear hb) | ((with_reducible refine gate_dst (N := 12) rfl ?_); (try refine ug_ (by rfl) ?_); refine bx_ #[.int .u64 0, .int .u64 0] 26 ?_; intro gb378 hg w99 BK378 hb; have GW378 := bz_ w hg; have GE378 := GW378; have NB360_378 := bn_ BK360 hg; have NB378_360 := bm_ BK360 hg; have NB361_378 := bn_ BK361 hg; have NB378_361 := bm_ BK361 hg; have NB374_378 := bn_ BK374 hg; have NB378_374 := bm_ BK374 hg; replace BK360 := bb_ BK360 hb; replace BK361 := bb_ BK361 hb; replace BK374 := bb_ BK374 hb; replace HB := bs_ w hb; clear hb hg; replace hn378_360 := NB378_360.out; replace hn360_378 := NB360_378.out; replace hn378_361 := NB378_361.out; replace hn361_378 := NB361_378.out; replace hn378_374 := NB378_374.out; replace hn374_378 := NB374_378.out; replace hc378 := ce2_ BK378; replace hc360 := ce6_ BK360; replace hn361_374 := NB361_374.out; replace hn374_361 := NB374_361.out; replace hc361 := ce6_ BK361))
     refine bodyPost_ret (results_ctt rfl _ _ gb361 28 #[.int .i64 t363, .int .i64 t364, .int .i64 t365, .int .u64 t366, .int .u64 t367, .int .u64 t368] (0, 0) _ rfl (bp6_ (bt_ BK361)) Try.underlying28 rfl (by kernel_rfl)) rfl ?_
     exact fi_
   ·rw [if_neg c17] at H
    have c17b0 : (t373 == 0) = false := beq_eq_false_iff_ne.mpr c17
    have c17b1 : (t373 != 0) = true := bne_iff_ne.mpr c17
    simp only [Option.some.injEq, Prod.mk.injEq] at H
    obtain ⟨rfl, rfl, rfl, rfl, rfl, rfl, rfl, rfl⟩ := H
    go_enter Try.func17, Try.ntmps17
    try go_wp2_with (first | ((with_reducible refine gate_dst (N := 3) rfl ?_); (try refine ug_ (by rfl) ?_); refine bx_ #[.int .i64 a0_0, .int .i64 a0_1, .int .i64 a0_2, .int .u64 a0_3, .int .u64 a0_4, .int .u64 a0_5] 28 ?_; intro gb360 hg w107 BK360 hb; have GW360 := bz_ w hg; have GE360 := GW360; replace HB := bs_ w hb; clear hb hg) | ((with_reducible refine gate_dst (N := 6) rfl ?_); (try refine ug_ (by rfl) ?_); refine bx_ #[.int .i64 0, .int .i64 0, .int .i64 0, .int .u64 0, .int .u64 0, .int .u64 0] 28 ?_; intro gb361 hg w108 BK361 hb; have GW361 := bz_ w hg; have GE361 := GW361; have NB360_361 := bn_ BK360 hg; have NB361_360 := bm_ BK360 hg; replace BK360 := bb_ BK360 hb; replace HB := bs_ w hb; clear hb hg; replace hn360_361 := NB360_361.out; replace hn361_360 := NB361_360.out; replace hc360 := ce6_ BK360) | ((with_reducible refine gate_callee (f := 15) rfl ?_); (try refine ug_ (by rfl) ?_); refine goesA_ (some 15) Try.func15 #[.agg #[.int .i64 a0_0, .int .i64 a0_1, .int .i64 a0_2, .int .u64 a0_3, .int .u64 a0_4, .int .u64 a0_5]] ?_; (with_reducible refine (gcra_Check.calls k a0_0 a0_1 a0_2 a0_3 a0_4 a0_5 t362 _ A4.out).mono ?_); rintro e w111 ⟨rfl, hb⟩; refine ⟨_, rfl, ?_⟩; replace BK360 := bb_ BK360 hb; replace BK361 := bb_ BK361 hb; replace HB := bs_ w hb; clear hb; replace hc360 := ce6_ BK360) | ((with_reducible refine gate_callee (f := 47) rfl ?_); (try refine ug_ (by rfl) ?_); refine goesA_ (some 25) Try.func47 #[.agg #[.int .i64 a0_0, .int .i64 a0_1, .int .i64 a0_2, .int .u64 a0_3, .int .u64 a0_4, .int .u64 a0_5], .int .u64 a1] ?_; (with_reducible refine (gcra_moved.calls k a0_0 a0_1 a0_2 a0_3 a0_4 a0_5 a1 t363 t364 t365 t366 t367 t368 _ A13.out).mono ?_); rintro e w113 ⟨rfl, hb⟩; refine ⟨_, rfl, ?_⟩; replace BK360 := bb_ BK360 hb; replace BK361 := bb_ BK361 hb; replace HB := bs_ w hb; clear hb; replace hc360 := ce6_ BK360))
    have n0_ : Aside0 (((((((w113.setCell ⟨gb360, 0, none⟩ (.int .i64 t363)).setCell ⟨gb360, 1, none⟩ (.int .i64 t364)).setCell ⟨gb360, 2, none⟩ (.int .i64 t365)).setCell ⟨gb360, 3, none⟩ (.int .u64 t366)).setCell ⟨gb360, 4, none⟩ (.int .u64 t367)).setCell ⟨gb360, 5, none⟩ (.int .u64 t368)).heap[gb360]? = some (.cells #[.int .i64 t363, .int .i64 t364, .int .i64 t365, .int .u64 t366, .int .u64 t367, .int .u64 t368] 28 (0, 0))) := ⟨(bp6_ (bq_ BK360))⟩
    have n1_ : Aside0 (((((((w113.setCell ⟨gb360, 0, none⟩ (.int .i64 t363)).setCell ⟨gb360, 1, none⟩ (.int .i64 t364)).setCell ⟨gb360, 2, none⟩ (.int .i64 t365)).setCell ⟨gb360, 3, none⟩ (.int .u64 t366)).setCell ⟨gb360, 4, none⟩ (.int .u64 t367)).setCell ⟨gb360, 5, none⟩ (.int .u64 t368)).heap[gb361]? = some (.cells #[.int .i64 0, .int .i64 0, .int .i64 0, .int .u64 0, .int .u64 0, .int .u64 0] 28 (0, 0))) := ⟨(bt_ BK361)⟩
    have n2_ : Aside0 (Below w.heap.size w ((((((w113.setCell ⟨gb360, 0, none⟩ (.int .i64 t363)).setCell ⟨gb360, 1, none⟩ (.int .i64 t364)).setCell ⟨gb360, 2, none⟩ (.int .i64 t365)).setCell ⟨gb360, 3, none⟩ (.int .u64 t366)).setCell ⟨gb360, 4, none⟩ (.int .u64 t367)).setCell ⟨gb360, 5, none⟩ (.int .u64 t368))) := bw_
    (try clear BK360)
    (try clear BK361)
    (try clear HB)
    generalize ((((((w113.setCell ⟨gb360, 0, none⟩ (.int .i64 t363)).setCell ⟨gb360, 1, none⟩ (.int .i64 t364)).setCell ⟨gb360, 2, none⟩ (.int .i64 t365)).setCell ⟨gb360, 3, none⟩ (.int .u64 t366)).setCell ⟨gb360, 4, none⟩ (.int .u64 t367)).setCell ⟨gb360, 5, none⟩ (.int .u64 t368)) = w115 at n0_ n1_ n2_ ⊢
    have BK360 := n0_
    have BK361 := n1_
    have HB := n2_
    clear n0_ n1_ n2_
    replace BK360 := Aside0.mk (blk_drew BK360.out)
    replace BK361 := Aside0.mk (blk_drew BK361.out)
    replace HB := Aside0.mk (below_drew1 HB.out)
    refine start_ (n := 13) (S := fun w' => w'.cell? ⟨gb360, 0, none⟩ = some (.int .i64 t363) ∧ w'.cell? ⟨gb360, 1, none⟩ = some (.int .i64 t364) ∧ w'.cell? ⟨gb360, 2, none⟩ = some (.int .i64 t365) ∧ w'.cell? ⟨gb360, 3, none⟩ = some (.int .u64 t366) ∧ w'.cell? ⟨gb360, 4, none⟩ = some (.int .u64 t367) ∧ w'.cell? ⟨gb360, 5, none⟩ = some (.int .u64 t368)) (ds := []) (bl_ 13 0) (by kernel_rfl) rfl (by kernel_rfl) (cc6_ BK360) (fun hHeld => ?_); refine with_tabW gcra_Ask.tab7 gcra_Ask.bits7 (fun HT_ HW_ => ?_)
    generalize w115.drew = w116 at BK360 BK361 HB hHeld ⊢
    refine pa_ 0 (some 27) (bl_ 13 1) HT_ ?_
    refine pa_ 2 (some 29) (bl_ 13 5) HT_ ?_
    refine pa_ 4 (some 31) (bl_ 13 21) HT_ ?_
    refine ta_ 1 (some 28) (bl_ 13 23) HT_ HW_ hHeld ?_
    refine ta_ 3 (some 30) (bl_ 13 31) HT_ HW_ hHeld ?_
    refine join_ (σ := Nat) 2 (bl_ 13 2047) (fun s_ => [(32, .agg #[.int .u64 t369, .int .u64 t370]), (33, .tuple #[.agg #[.int .u64 t371, .int .u64 t372], .int .i64 t373]), (10, .pointer (some ⟨s_, 0, none⟩)), (26, .tuple #[.agg #[.int .u64 t371, .int .u64 t372], .int .i64 t373]), (34, .agg #[.int .u64 t371, .int .u64 t372]), (35, .int .i64 t373)]) (fun s_ w' => (w'.cell? ⟨gb360, 0, none⟩ = some (.int .i64 t363) ∧ w'.cell? ⟨gb360, 1, none⟩ = some (.int .i64 t364) ∧ w'.cell? ⟨gb360, 2, none⟩ = some (.int .i64 t365) ∧ w'.cell? ⟨gb360, 3, none⟩ = some (.int .u64 t366) ∧ w'.cell? ⟨gb360, 4, none⟩ = some (.int .u64 t367) ∧ w'.cell? ⟨gb360, 5, none⟩ = some (.int .u64 t368)) ∧ (w'.heap[gb360]? = some (.cells #[.int .i64 t363, .int .i64 t364, .int .i64 t365, .int .u64 t366, .int .u64 t367, .int .u64 t368] 28 (0, 0))) ∧ (w'.heap[gb361]? = some (.cells #[.int .i64 0, .int .i64 0, .int .i64 0, .int .u64 0, .int .u64 0, .int .u64 0] 28 (0, 0))) ∧ (w'.heap[s_]? = some (.cells #[.int .u64 0, .int .u64 0] 26 (0, 0))) ∧ (w.heap.size ≤ s_) ∧ (w.heap.size ≤ s_) ∧ (gb360 ≠ s_) ∧ (s_ ≠ gb360) ∧ (gb361 ≠ s_) ∧ (s_ ≠ gb361) ∧ (Below w.heap.size w w')) ?_ ?_
    rotate_left
    ·intro hCont
     refine tw_ 5 10 (some 32) (some 10) (bl_ 13 63) (bl_ 13 1055) HT_ (fun K hK => ?_) fun K hK => ?_
     ·refine goesB_ Try.func36 #[.agg #[.int .i64 t363, .int .i64 t364, .int .i64 t365], .int .i64 a2] ?_
      with_reducible refine (gcra_tokens.calls t363 t364 t365 a2 t369 t370 _ A14.out).mono ?_
      rintro e w117 ⟨rfl, hb⟩
      refine ⟨_, rfl, ?_⟩
      replace BK360 := bb_ BK360 hb
      replace BK361 := bb_ BK361 hb
      replace HB := bs_ w hb
      clear hb
      refine hK.out _ _ (cc6_ BK360) (fun hHeld => ?_)
      clear hK K
      refine nm_ (some 32) ?_
      refine tw_ 6 10 (some 33) (some 10) (bl_ 13 127) (bl_ 13 1087) HT_ (fun K hK => ?_) fun K hK => ?_
      ·refine goesB_ Try.func48 #[.agg #[.int .u64 t366, .int .u64 t367], .agg #[.int .u64 t369, .int .u64 t370]] ?_
       with_reducible refine (wide_Add.calls t366 t367 t369 t370 t371 t372 t373 _ A15.out).mono ?_
       rintro e w118 ⟨rfl, hb⟩
       refine ⟨_, rfl, ?_⟩
       replace BK360 := bb_ BK360 hb
       replace BK361 := bb_ BK361 hb
       replace HB := bs_ w hb
       clear hb
       refine hK.out _ _ (cc6_ BK360) (fun hHeld => ?_)
       clear hK K
       refine nm_ (some 33) ?_
       refine pa_ 7 (some 26) (bl_ 13 255) HT_ ?_
       refine pa_ 8 (some 34) (bl_ 13 511) HT_ ?_
       refine pa_ 9 (some 35) (bl_ 13 1023) HT_ ?_
       refine oa_ 10 (some 10) (bl_ 13 2047) HT_ fun K hK => ?_
       refine bs2_ #[.int .u64 0, .int .u64 0] 26 ?_
       intro gb374 hg w119 BK374 hb
       have GW374 := bz_ w hg
       have GE374 := GW374
       have NB360_374 := bn_ BK360 hg
       have NB374_360 := bm_ BK360 hg
       have NB361_374 := bn_ BK361 hg
       have NB374_361 := bm_ BK361 hg
       replace BK360 := bb_ BK360 hb
       replace BK361 := bb_ BK361 hb
       replace HB := bs_ w hb
       clear hb hg
       refine hK.out _ _ (cc6_ BK360) (fun hHeld => ?_)
       clear hK K
       refine nm_ (some 10) ?_
       exact no_ (hCont (gb374) _ ⟨hHeld, (bq_ BK360), (bq_ BK361), (bq_ BK374), GW374.out, GE374.out, NB360_374.out, NB374_360.out, NB361_374.out, NB374_361.out, bh_⟩)
      ·refine bs2_ #[.int .u64 0, .int .u64 0] 26 ?_
       intro gb374 hg w118 BK374 hb
       have GW374 := bz_ w hg
       have GE374 := GW374
       have NB360_374 := bn_ BK360 hg
       have NB374_360 := bm_ BK360 hg
       have NB361_374 := bn_ BK361 hg
       have NB374_361 := bm_ BK361 hg
       replace BK360 := bb_ BK360 hb
       replace BK361 := bb_ BK361 hb
       replace HB := bs_ w hb
       clear hb hg
       refine hK.out _ _ (cc6_ BK360) (fun hHeld => ?_)
       clear hK K
       refine nm_ (some 10) ?_
       refine oa_ 6 (some 33) (bl_ 13 1151) HT_ fun K hK => ?_
       refine goesB_ Try.func48 #[.agg #[.int .u64 t366, .int .u64 t367], .agg #[.int .u64 t369, .int .u64 t370]] ?_
       with_reducible refine (wide_Add.calls t366 t367 t369 t370 t371 t372 t373 _ A15.out).mono ?_
       rintro e w119 ⟨rfl, hb⟩
       refine ⟨_, rfl, ?_⟩
       replace BK360 := bb_ BK360 hb
       replace BK361 := bb_ BK361 hb
       replace BK374 := bb_ BK374 hb
       replace HB := bs_ w hb
       clear hb
       refine hK.out _ _ (cc6_ BK360) (fun hHeld => ?_)
       clear hK K
       refine nm_ (some 33) ?_
       refine pa_ 7 (some 26) (bl_ 13 1279) HT_ ?_
       refine pa_ 8 (some 34) (bl_ 13 1535) HT_ ?_
       refine pa_ 9 (some 35) (bl_ 13 2047) HT_ ?_
       exact no_ (hCont (gb374) _ ⟨hHeld, (bq_ BK360), (bq_ BK361), (bq_ BK374), GW374.out, GE374.out, NB360_374.out, NB374_360.out, NB361_374.out, NB374_361.out, bh_⟩)
     ·refine bs2_ #[.int .u64 0, .int .u64 0] 26 ?_
      intro gb374 hg w117 BK374 hb
      have GW374 := bz_ w hg
      have GE374 := GW374
      have NB360_374 := bn_ BK360 hg
      have NB374_360 := bm_ BK360 hg
      have NB361_374 := bn_ BK361 hg
      have NB374_361 := bm_ BK361 hg
      replace BK360 := bb_ BK360 hb
      replace BK361 := bb_ BK361 hb
      replace HB := bs_ w hb
      clear hb hg
      refine hK.out _ _ (cc6_ BK360) (fun hHeld => ?_)
      clear hK K
      refine nm_ (some 10) ?_
      refine oa_ 5 (some 32) (bl_ 13 1087) HT_ fun K hK => ?_
      refine goesB_ Try.func36 #[.agg #[.int .i64 t363, .int .i64 t364, .int .i64 t365], .int .i64 a2] ?_
      with_reducible refine (gcra_tokens.calls t363 t364 t365 a2 t369 t370 _ A14.out).mono ?_
      rintro e w118 ⟨rfl, hb⟩
      refine ⟨_, rfl, ?_⟩
      replace BK360 := bb_ BK360 hb
      replace BK361 := bb_ BK361 hb
      replace BK374 := bb_ BK374 hb
      replace HB := bs_ w hb
      clear hb
      refine hK.out _ _ (cc6_ BK360) (fun hHeld => ?_)
      clear hK K
      refine nm_ (some 32) ?_
      refine oa_ 6 (some 33) (bl_ 13 1151) HT_ fun K hK => ?_
      refine goesB_ Try.func48 #[.agg #[.int .u64 t366, .int .u64 t367], .agg #[.int .u64 t369, .int .u64 t370]] ?_
      with_reducible refine (wide_Add.calls t366 t367 t369 t370 t371 t372 t373 _ A15.out).mono ?_
      rintro e w119 ⟨rfl, hb⟩
      refine ⟨_, rfl, ?_⟩
      replace BK360 := bb_ BK360 hb
      replace BK361 := bb_ BK361 hb
      replace BK374 := bb_ BK374 hb
      replace HB := bs_ w hb
      clear hb
      refine hK.out _ _ (cc6_ BK360) (fun hHeld => ?_)
      clear hK K
      refine nm_ (some 33) ?_
      refine pa_ 7 (some 26) (bl_ 13 1279) HT_ ?_
      refine pa_ 8 (some 34) (bl_ 13 1535) HT_ ?_
      refine pa_ 9 (some 35) (bl_ 13 2047) HT_ ?_
      exact no_ (hCont (gb374) _ ⟨hHeld, (bq_ BK360), (bq_ BK361), (bq_ BK374), GW374.out, GE374.out, NB360_374.out, NB374_360.out, NB361_374.out, NB374_361.out, bh_⟩)
    rintro gb374 w120 ⟨hS_, h0_, h1_, h2_, h3_, h4_, h5_, h6_, h7_, h8_, h9_⟩
    have BK374 := Aside0.mk h2_
    have GW374 := Aside0.mk h3_
    have GE374 := Aside0.mk h4_
    have NB360_374 := Aside0.mk h5_
    have NB374_360 := Aside0.mk h6_
    have NB361_374 := Aside0.mk h7_
    have NB374_361 := Aside0.mk h8_
    replace BK360 := Aside0.mk h0_
    replace BK361 := Aside0.mk h1_
    replace HB := Aside0.mk h9_
    clear h0_ h1_ h2_ h3_ h4_ h5_ h6_ h7_ h8_ h9_
    have hHeld := hS_
    refine nq_ ?_
    refine oa_ 11 none (bl_ 13 4095) HT_ fun K hK => ?_
    have hs121 : w120.cell? ⟨gb374, 0, none⟩ = some (.int .u64 0) := (blk_cell BK374.out 0).trans rfl
    have hfs121 := blk_frozen BK374.out 0
    have hns121_0 := NB360_374.out
    have hns121_1 := NB361_374.out
    have hms121_0 := NB374_360.out
    have hms121_1 := NB374_361.out
    have hs122 : w120.cell? ⟨gb374, 1, none⟩ = some (.int .u64 0) := (blk_cell BK374.out 1).trans rfl
    have hfs122 := blk_frozen BK374.out 1
    have hns122_0 := NB360_374.out
    have hns122_1 := NB361_374.out
    have hms122_0 := NB374_360.out
    have hms122_1 := NB374_361.out
    refine sk_ ?_
    refine hK.out _ _ (cf6_ hHeld) (fun hHeld => ?_)
    clear hK K
    refine pa_ 12 (some 11) (bl_ 13 8191) HT_ ?_
    refine done_ (done_of HT_.out (by kernel_rfl)) ?_
    replace hn360_374 := NB360_374.out
    replace hn374_360 := NB374_360.out
    replace hc360 := ce6_ BK360
    try go_wp2_with (first | ((with_reducible refine gate_callee (f := 35) rfl ?_); (try refine ug_ (by rfl) ?_); refine goesA_ (some 41) Try.func35 #[.agg #[.int .i64 t363, .int .i64 t364, .int .i64 t365], .int .u64 t368] ?_; (with_reducible refine (gcra_end.calls t363 t364 t365 t368 t375 t376 t377 _ A16.out).mono ?_); rintro e w125 ⟨rfl, hb⟩; refine ⟨_, rfl, ?_⟩; replace BK360 := bf_ BK360 hb; replace BK361 := bf_ BK361 hb; replace BK374 := Aside0.mk (blk_below (g := gb374) (o := .cells #[.int .u64 t371, .int .u64 t372] 26 (0, 0)) (bp2_ (bq_ BK374)) hb); replace HB := bs_ w hb; clear hb) | ((with_reducible refine gate_dst (N := 12) rfl ?_); (try refine ug_ (by rfl) ?_); refine bx_ #[.int .u64 0, .int .u64 0] 26 ?_; intro gb378 hg w126 BK378 hb; have GW378 := bz_ w hg; have GE378 := GW378; have NB360_378 := bn_ BK360 hg; have NB378_360 := bm_ BK360 hg; have NB361_378 := bn_ BK361 hg; have NB378_361 := bm_ BK361 hg; have NB374_378 := bn_ BK374 hg; have NB378_374 := bm_ BK374 hg; replace BK360 := bb_ BK360 hb; replace BK361 := bb_ BK361 hb; replace BK374 := bb_ BK374 hb; replace HB := bs_ w hb; clear hb hg; replace hn378_360 := NB378_360.out; replace hn360_378 := NB360_378.out; replace hn378_361 := NB378_361.out; replace hn361_378 := NB361_378.out; replace hn378_374 := NB378_374.out; replace hn374_378 := NB374_378.out; replace hc378 := ce2_ BK378; replace hc360 := ce6_ BK360; replace hn361_374 := NB361_374.out; replace hn374_361 := NB374_361.out; replace hc361 := ce6_ BK361))
    refine bodyPost_ret (results_ctt rfl _ _ gb361 28 #[.int .i64 t363, .int .i64 t364, .int .i64 t365, .int .u64 t366, .int .u64 t367, .int .u64 t368] (0, 0) _ rfl (bp6_ (bt_ BK361)) Try.underlying28 rfl (by kernel_rfl)) rfl ?_
    exact fi_
 ·rw [if_neg c5] at H
  have c5b0 : (t362 == 0) = false := beq_eq_false_iff_ne.mpr c5
  have c5b1 : (t362 != 0) = true := bne_iff_ne.mpr c5
  simp only [Option.some.injEq, Prod.mk.injEq] at H
  obtain ⟨rfl, rfl, rfl, rfl, rfl, rfl, rfl, rfl⟩ := H
  go_enter Try.func17, Try.ntmps17
  go_wp2_with (first | ((with_reducible refine gate_dst (N := 3) rfl ?_); (try refine ug_ (by rfl) ?_); refine bx_ #[.int .i64 a0_0, .int .i64 a0_1, .int .i64 a0_2, .int .u64 a0_3, .int .u64 a0_4, .int .u64 a0_5] 28 ?_; intro gb360 hg w134 BK360 hb; have GW360 := bz_ w hg; have GE360 := GW360; replace HB := bs_ w hb; clear hb hg) | ((with_reducible refine gate_dst (N := 6) rfl ?_); (try refine ug_ (by rfl) ?_); refine bx_ #[.int .i64 0, .int .i64 0, .int .i64 0, .int .u64 0, .int .u64 0, .int .u64 0] 28 ?_; intro gb361 hg w135 BK361 hb; have GW361 := bz_ w hg; have GE361 := GW361; have NB360_361 := bn_ BK360 hg; have NB361_360 := bm_ BK360 hg; replace BK360 := bb_ BK360 hb; replace HB := bs_ w hb; clear hb hg; replace hn360_361 := NB360_361.out; replace hn361_360 := NB361_360.out; replace hc360 := ce6_ BK360) | ((with_reducible refine gate_callee (f := 15) rfl ?_); (try refine ug_ (by rfl) ?_); refine goesA_ (some 15) Try.func15 #[.agg #[.int .i64 a0_0, .int .i64 a0_1, .int .i64 a0_2, .int .u64 a0_3, .int .u64 a0_4, .int .u64 a0_5]] ?_; (with_reducible refine (gcra_Check.calls k a0_0 a0_1 a0_2 a0_3 a0_4 a0_5 t362 _ A4.out).mono ?_); rintro e w138 ⟨rfl, hb⟩; refine ⟨_, rfl, ?_⟩; replace BK360 := bb_ BK360 hb; replace BK361 := bb_ BK361 hb; replace HB := bs_ w hb; clear hb; replace hc361 := ce6_ BK361))
  refine bodyPost_ret (results_ctt rfl _ _ gb361 28 #[.int .i64 0, .int .i64 0, .int .i64 0, .int .u64 0, .int .u64 0, .int .u64 0] (0, 0) _ rfl (bp6_ (bq_ BK361)) Try.underlying28 rfl (by kernel_rfl)) rfl ?_
  exact fi_

end Go.Proofs.Ytnijohomnajngaa.X
