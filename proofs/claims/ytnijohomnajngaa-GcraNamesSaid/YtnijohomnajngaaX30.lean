-- written by xprint.py, a program of this session over the kit's print
import Derived.Test.YtnijohomnajngaaX0
import Derived.Test.YtnijohomnajngaaX7
import Derived.Test.YtnijohomnajngaaX8
import Derived.Test.YtnijohomnajngaaX15
import Derived.Test.YtnijohomnajngaaX25
import Derived.Test.YtnijohomnajngaaX29
namespace Go.Proofs.Ytnijohomnajngaa.X
open Go.RowKit Go.Proofs.YtnijohomnajngaaW.PrintWords Go.Proofs.YtnijohomnajngaaW.PrintLast Go.Proofs.YtnijohomnajngaaW.PrintMore
attribute [local go_sem] max2_int min2_int max_two min_two max_three min_three max_four min_four   -- for this text's walks alone
set_option linter.unusedVariables false
set_option linter.unusedSimpArgs false

/-! ### gcra_Wait: function 21 -/
mutual
def gcra_Wait.j0 : Nat → Int → Int → Bool → Int → Int → Int → Int → Int → Int → Option (Int × Int)
  | 0, _, _, _, _, _, _, _, _, _ => none
  | k + 1, x1, x8, x27, x449000, x449001, x449002, x449003, x449004, x449005 => if x27 = true then (some (0, x8)) else (if x1 > x449000 then (gcra_Wait.j1 k x1 true x449000 x449001 x449002 x449003 x449004 x449005) else (gcra_Wait.j1 k x1 (x449001 == 0) x449000 x449001 x449002 x449003 x449004 x449005))
def gcra_Wait.j1 : Nat → Int → Bool → Int → Int → Int → Int → Int → Int → Option (Int × Int)
  | 0, _, _, _, _, _, _, _, _ => none
  | k + 1, x1, x39, x449000, x449001, x449002, x449003, x449004, x449005 => if x39 = true then (some (18446744073709551615, 0)) else ((gcra_tokens.f x449000 x449001 x449002 x1).bind fun bt458 => ((wide_Add.f x449003 x449004 bt458.1 bt458.2).bind fun bt460 => (if bt460.2.2 = 0 then ((gcra_end.f x449000 x449001 x449002 x449005).bind fun bt464 => (if bt464.2.2 = 0 then ((wide_Sub.f bt460.1 bt460.2.1 bt464.1 bt464.2.1).bind fun bt468 => (if bt468.2.2 = 0 then ((wide_Up.f k bt468.1 bt468.2.1 (IntKind.u64.wrap (x449001))).bind fun bt472 => (if bt472.2.2 = 0 then ((wide_Of.f (IntKind.u64.wrap (18446744073709551615 - x449005))).bind fun bt476 => ((wide_Cmp.f k bt472.1 bt472.2.1 bt476.1 bt476.2).bind fun t478 => (if t478 > 0 then (some (18446744073709551615, 0)) else (some (bt472.2.1, 0))))) else (some (0, bt472.2.2)))) else (some (0, bt468.2.2)))) else (some (0, bt464.2.2)))) else (some (0, bt460.2.2)))))
end
def gcra_Wait.f (k : Nat) (a0_0 : Int) (a0_1 : Int) (a0_2 : Int) (a0_3 : Int) (a0_4 : Int) (a0_5 : Int) (a1 : Int) : Option (Int × Int) := (gcra_Ask.f k a0_0 a0_1 a0_2 a0_3 a0_4 a0_5 a0_5 a1).bind fun bt449 => (if bt449.2.2.2.2.2.2.2 = 0 then (gcra_Wait.j0 k a1 bt449.2.2.2.2.2.2.2 bt449.2.2.2.2.2.2.1 a0_0 a0_1 a0_2 a0_3 a0_4 a0_5) else (gcra_Wait.j0 k a1 bt449.2.2.2.2.2.2.2 true a0_0 a0_1 a0_2 a0_3 a0_4 a0_5))
theorem gcra_Wait.mono_l : ∀ k, (∀ y0 y1 y2 y3 y4 y5 y6 y7 y8, LeO (gcra_Wait.j0 k y0 y1 y2 y3 y4 y5 y6 y7 y8) (gcra_Wait.j0 (k + 1) y0 y1 y2 y3 y4 y5 y6 y7 y8)) ∧ (∀ y0 y1 y2 y3 y4 y5 y6 y7, LeO (gcra_Wait.j1 k y0 y1 y2 y3 y4 y5 y6 y7) (gcra_Wait.j1 (k + 1) y0 y1 y2 y3 y4 y5 y6 y7))
  | 0 => ⟨fun _ _ _ _ _ _ _ _ _ r h => by simp [gcra_Wait.j0] at h, fun _ _ _ _ _ _ _ _ r h => by simp [gcra_Wait.j1] at h⟩
  | k + 1 => by
    obtain ⟨ih0, ih1⟩ := gcra_Wait.mono_l k
    refine ⟨?_, ?_⟩
    · intro y0 y1 y2 y3 y4 y5 y6 y7 y8
      unfold gcra_Wait.j0
      repeat' first
      | (with_reducible exact ih0 _ _ _ _ _ _ _ _ _)
      | (with_reducible exact ih1 _ _ _ _ _ _ _ _)
      | (with_reducible exact gcra_Ask.mono _ _ _ _ _ _ _ _ _)
      | (with_reducible exact wide_Cmp.mono _ _ _ _ _)
      | (with_reducible exact wide_Up.mono _ _ _ _)
      | (with_reducible exact LeO.refl _)
      | (with_reducible exact LeO.none _)
      | (with_reducible refine LeO.ite ?_ ?_)
      | (with_reducible refine LeO.bind ?_ (fun _ => ?_))
      | exact ih0 _ _ _ _ _ _ _ _ _
      | exact ih1 _ _ _ _ _ _ _ _
      | exact gcra_Ask.mono _ _ _ _ _ _ _ _ _
      | exact wide_Cmp.mono _ _ _ _ _
      | exact wide_Up.mono _ _ _ _
      | exact LeO.none _
      | refine LeO.ite ?_ ?_
      | refine LeO.bind ?_ (fun _ => ?_)
    · intro y0 y1 y2 y3 y4 y5 y6 y7
      unfold gcra_Wait.j1
      repeat' first
      | (with_reducible exact ih0 _ _ _ _ _ _ _ _ _)
      | (with_reducible exact ih1 _ _ _ _ _ _ _ _)
      | (with_reducible exact gcra_Ask.mono _ _ _ _ _ _ _ _ _)
      | (with_reducible exact wide_Cmp.mono _ _ _ _ _)
      | (with_reducible exact wide_Up.mono _ _ _ _)
      | (with_reducible exact LeO.refl _)
      | (with_reducible exact LeO.none _)
      | (with_reducible refine LeO.ite ?_ ?_)
      | (with_reducible refine LeO.bind ?_ (fun _ => ?_))
      | exact ih0 _ _ _ _ _ _ _ _ _
      | exact ih1 _ _ _ _ _ _ _ _
      | exact gcra_Ask.mono _ _ _ _ _ _ _ _ _
      | exact wide_Cmp.mono _ _ _ _ _
      | exact wide_Up.mono _ _ _ _
      | exact LeO.none _
      | refine LeO.ite ?_ ?_
      | refine LeO.bind ?_ (fun _ => ?_)
theorem gcra_Wait.mono : ∀ a0 a1 a2 a3 a4 a5 a6 k, LeO (gcra_Wait.f k a0 a1 a2 a3 a4 a5 a6) (gcra_Wait.f (k + 1) a0 a1 a2 a3 a4 a5 a6) := by
  intro a0 a1 a2 a3 a4 a5 a6 k
  obtain ⟨ih0, ih1⟩ := gcra_Wait.mono_l k
  unfold gcra_Wait.f
  repeat' first
      | (with_reducible exact ih0 _ _ _ _ _ _ _ _ _)
      | (with_reducible exact ih1 _ _ _ _ _ _ _ _)
      | (with_reducible exact gcra_Ask.mono _ _ _ _ _ _ _ _ _)
      | (with_reducible exact wide_Cmp.mono _ _ _ _ _)
      | (with_reducible exact wide_Up.mono _ _ _ _)
      | (with_reducible exact LeO.refl _)
      | (with_reducible exact LeO.none _)
      | (with_reducible refine LeO.ite ?_ ?_)
      | (with_reducible refine LeO.bind ?_ (fun _ => ?_))
      | exact ih0 _ _ _ _ _ _ _ _ _
      | exact ih1 _ _ _ _ _ _ _ _
      | exact gcra_Ask.mono _ _ _ _ _ _ _ _ _
      | exact wide_Cmp.mono _ _ _ _ _
      | exact wide_Up.mono _ _ _ _
      | exact LeO.none _
      | refine LeO.ite ?_ ?_
      | refine LeO.bind ?_ (fun _ => ?_)
def gcra_Wait.T6 : Bool × List (List Nat × List Nat) := (true, [([], []), ([0], [0]), ([], []), ([2], [2]), ([], []), ([3, 4], [3, 4]), ([1, 5, 5], [1, 5]), ([6], [6]), ([7], [7]), ([7], [7]), ([], []), ([10, 8, 6, 0, 1, 2, 3, 4, 5, 6, 7, 8, 10], [8, 10]), ([9, 11, 0, 1, 2, 3, 4, 5, 6, 7, 8, 9, 10, 11], [9])])
def gcra_Wait.B6 : List Nat := [0, 1, 0, 4, 0, 28, 63, 127, 255, 255, 0, 1535, 4095]
theorem gcra_Wait.tab6 : rtab .any (opsOf Try.f21 6) = gcra_Wait.T6 := by kernel_rfl
theorem gcra_Wait.bits6 : waitsOk gcra_Wait.T6.2 gcra_Wait.B6 = true := by kernel_rfl
set_option maxHeartbeats 8000000 in
set_option maxRecDepth 100000 in
theorem gcra_Wait.calls (k : Nat) (a0_0 : Int) (a0_1 : Int) (a0_2 : Int) (a0_3 : Int) (a0_4 : Int) (a0_5 : Int) (a1 : Int) (r1 : Int) (r2 : Int) (w : World) (h : gcra_Wait.f k a0_0 a0_1 a0_2 a0_3 a0_4 a0_5 a1 = some (r1, r2)) :
  Calls Try.prog 21 #[.agg #[.int .i64 a0_0, .int .i64 a0_1, .int .i64 a0_2, .int .u64 a0_3, .int .u64 a0_4, .int .u64 a0_5], .int .i64 a1] w fun e w' => e = .returned (.tuple #[.int .u64 r1, .int .i64 r2]) ∧ Below w.heap.size w w' := by
 have hu28 := Try.underlying28
 have hu26 := Try.underlying26
 have hu23 := Try.underlying23
 have HB := Aside0.mk (Below.refl w.heap.size w)
 have H : ((gcra_Ask.f k a0_0 a0_1 a0_2 a0_3 a0_4 a0_5 a0_5 a1).bind fun bt449 => (if bt449.2.2.2.2.2.2.2 = 0 then (gcra_Wait.j0 k a1 bt449.2.2.2.2.2.2.2 bt449.2.2.2.2.2.2.1 a0_0 a0_1 a0_2 a0_3 a0_4 a0_5) else (gcra_Wait.j0 k a1 bt449.2.2.2.2.2.2.2 true a0_0 a0_1 a0_2 a0_3 a0_4 a0_5))) = some (r1, r2) := h
 clear h
 have H0_ := bo_ H; clear H; obtain ⟨⟨t449, t450, t451, t452, t453, t454, t455, t456⟩, A3, H⟩ := H0_
 replace H : (if t456 = 0 then (gcra_Wait.j0 k a1 t456 t455 a0_0 a0_1 a0_2 a0_3 a0_4 a0_5) else (gcra_Wait.j0 k a1 t456 true a0_0 a0_1 a0_2 a0_3 a0_4 a0_5)) = some (r1, r2) := H
 have HC4 := Aside0.mk H
 clear H
 go_enter Try.func21, Try.ntmps21
 go_upto_region 2 with (first | ((with_reducible refine gate_dst (N := 2) rfl ?_); (try refine ug_ (by rfl) ?_); refine bx_ #[.int .i64 a0_0, .int .i64 a0_1, .int .i64 a0_2, .int .u64 a0_3, .int .u64 a0_4, .int .u64 a0_5] 28 ?_; intro gb448 hg w5 BK448 hb; have GW448 := bz_ w hg; replace HB := bs_ w hb; clear hb hg; replace hc448 := ce6_ BK448) | ((with_reducible refine gate_callee (f := 17) rfl ?_); (try refine ug_ (by rfl) ?_); refine goesA_ (some 19) Try.func17 #[.agg #[.int .i64 a0_0, .int .i64 a0_1, .int .i64 a0_2, .int .u64 a0_3, .int .u64 a0_4, .int .u64 a0_5], .int .u64 a0_5, .int .i64 a1] ?_; (with_reducible refine (gcra_Ask.calls k a0_0 a0_1 a0_2 a0_3 a0_4 a0_5 a0_5 a1 t449 t450 t451 t452 t453 t454 t455 t456 _ A3.out).mono ?_); rintro e w7 ⟨rfl, hb⟩; refine ⟨_, rfl, ?_⟩; replace BK448 := bb_ BK448 hb; replace HB := bs_ w hb; clear hb) | ((with_reducible refine gate_dst (N := 6) rfl ?_); (try refine ug_ (by rfl) ?_); refine bx_ #[.int .i64 0, .int .i64 0, .int .i64 0, .int .u64 0, .int .u64 0, .int .u64 0] 28 ?_; intro gb457 hg w8 BK457 hb; have GW457 := bz_ w hg; have NB448_457 := bn_ BK448 hg; have NB457_448 := bm_ BK448 hg; replace BK448 := bb_ BK448 hb; replace HB := bs_ w hb; clear hb hg; replace hn457_448 := NB457_448.out; replace hn448_457 := NB448_457.out; replace hc457 := ce6_ BK457))
 (try simp only [Act.put, List.setIfInBounds_toArray, List.set_cons_zero, List.set_cons_succ])
 go_cut [27] (fun v27 wc => ∃ (kq : Nat) (x27_3 : Bool), v27 = .bool x27_3 ∧ Aside0 (gcra_Wait.j0 kq a1 t456 x27_3 a0_0 a0_1 a0_2 a0_3 a0_4 a0_5 = some (r1, r2)) ∧ Aside0 (kq ≤ k) ∧ Aside0 (wc.heap[gb448]? = some (.cells #[.int .i64 a0_0, .int .i64 a0_1, .int .i64 a0_2, .int .u64 a0_3, .int .u64 a0_4, .int .u64 a0_5] 28 (0, 0))) ∧ Aside0 (wc.heap[gb457]? = some (.cells #[.int .i64 t449, .int .i64 t450, .int .i64 t451, .int .u64 t452, .int .u64 t453, .int .u64 t454] 28 (0, 0))) ∧ Aside0 (Below w.heap.size w wc))
 case first =>
  have H := HC4.out
  clear HC4
  by_cases c11 : t456 = 0
  ·rw [if_pos c11] at H
   have c11b0 : (t456 == 0) = true := beq_iff_eq.mpr c11
   have c11b1 : (t456 != 0) = false := bne_eq_false_iff_eq.mpr c11
   clear c11
   (first | rw [c11b0] | (simp only [i64_w, i32_w]; rw [c11b0]) | skip)
   have H' := Aside0.mk H
   clear H
   go_wp2
   go_meet
   case rel => exact ⟨_, (t455), rf_, H', al_, ⟨(bt_ BK448)⟩, ⟨(bp6_ (bq_ BK457))⟩, bw_⟩
  ·rw [if_neg c11] at H
   have c11b0 : (t456 == 0) = false := beq_eq_false_iff_ne.mpr c11
   have c11b1 : (t456 != 0) = true := bne_iff_ne.mpr c11
   (first | rw [c11b0] | (simp only [i64_w, i32_w]; rw [c11b0]) | skip)
   have H' := Aside0.mk H
   clear H
   go_wp2
   go_meet
   case rel => exact ⟨_, (true), rf_, H', al_, ⟨(bt_ BK448)⟩, ⟨(bp6_ (bq_ BK457))⟩, bw_⟩
 case rest =>
  clear HC4
  obtain ⟨kq, x27_3, rfl, HA, HJ3, BK448, BK457, HB⟩ := hcut
  cases kq with
  | zero => exact absurd HA.out (by simp [gcra_Wait.j0])
  | succ kj3 =>
   have H := HA.out
   clear HA
   simp only [gcra_Wait.j0] at H
   by_cases c12 : x27_3 = true
   ·subst c12
    replace H : (some (0, t456)) = some (r1, r2) := by rw [if_pos rfl] at H; exact H
    simp only [Option.some.injEq, Prod.mk.injEq] at H
    obtain ⟨rfl, rfl⟩ := H
    go_wp2
    go_ret2
    exact fi_
   ·replace c12 := Bool.eq_false_iff.mpr c12
    subst c12
    rw [if_neg (show ¬ (false = true) by decide)] at H
    try dsimp only at H
    have HC13 := Aside0.mk H
    clear H
    go_upto_region 4 with (fail)
    go_cut [39] (fun v39 wc => ∃ (kq : Nat) (x39_12 : Bool), v39 = .bool x39_12 ∧ Aside0 (gcra_Wait.j1 kq a1 x39_12 a0_0 a0_1 a0_2 a0_3 a0_4 a0_5 = some (r1, r2)) ∧ Aside0 (kq ≤ kj3) ∧ Aside0 (wc.heap[gb448]? = some (.cells #[.int .i64 a0_0, .int .i64 a0_1, .int .i64 a0_2, .int .u64 a0_3, .int .u64 a0_4, .int .u64 a0_5] 28 (0, 0))) ∧ Aside0 (wc.heap[gb457]? = some (.cells #[.int .i64 t449, .int .i64 t450, .int .i64 t451, .int .u64 t452, .int .u64 t453, .int .u64 t454] 28 (0, 0))) ∧ Aside0 (Below w.heap.size w wc))
    case first =>
     have H := HC13.out
     clear HC13
     by_cases c14 : a1 > a0_0
     ·rw [if_pos c14] at H
      have c14b0 : decide (a0_0 < a1) = true := decide_eq_true c14
      clear c14
      (first | rw [c14b0] | (simp only [i64_w, i32_w]; rw [c14b0]) | skip)
      have H' := Aside0.mk H
      clear H
      replace hn448_457 := NB448_457.out
      replace hn457_448 := NB457_448.out
      replace hc448 := ce6_ BK448
      go_wp2
      go_meet
      case rel => exact ⟨_, (true), rf_, H', ⟨by have := HJ3.out; first | omega | exact Nat.le_refl _⟩, ⟨bq_ BK448⟩, ⟨bq_ BK457⟩, bw_⟩
     ·rw [if_neg c14] at H
      have c14b0 : decide (a0_0 < a1) = false := decide_eq_false c14
      clear c14
      (first | rw [c14b0] | (simp only [i64_w, i32_w]; rw [c14b0]) | skip)
      have H' := Aside0.mk H
      clear H
      replace hn448_457 := NB448_457.out
      replace hn457_448 := NB457_448.out
      replace hc448 := ce6_ BK448
      go_wp2
      go_meet
      case rel => exact ⟨_, ((a0_1 == 0)), rf_, H', ⟨by have := HJ3.out; first | omega | exact Nat.le_refl _⟩, ⟨bq_ BK448⟩, ⟨bq_ BK457⟩, bw_⟩
    case rest =>
     clear HC13
     try clear c12
     obtain ⟨kq, x39_12, rfl, HA, HJ12, BK448, BK457, HB⟩ := hcut
     cases kq with
     | zero => exact absurd HA.out (by simp [gcra_Wait.j1])
     | succ kj12 =>
      have H := HA.out
      clear HA
      simp only [gcra_Wait.j1] at H
      by_cases c19 : x39_12 = true
      ·subst c19
       replace H : (some (18446744073709551615, 0)) = some (r1, r2) := by rw [if_pos rfl] at H; exact H
       simp only [Option.some.injEq, Prod.mk.injEq] at H
       obtain ⟨rfl, rfl⟩ := H
       go_wp2
       go_ret2
       exact fi_
      ·replace c19 := Bool.eq_false_iff.mpr c19
       subst c19
       rw [if_neg (show ¬ (false = true) by decide)] at H
       try dsimp only at H
       have H0_ := bo_ H; clear H; obtain ⟨⟨t458, t459⟩, A20, H⟩ := H0_
       try dsimp only at H
       have H0_ := bo_ H; clear H; obtain ⟨⟨t460, t461, t462⟩, A21, H⟩ := H0_
       try dsimp only at H
       by_cases c22 : t462 = 0
       ·rw [if_pos c22] at H
        have c22b0 : (t462 == 0) = true := beq_iff_eq.mpr c22
        have c22b1 : (t462 != 0) = false := bne_eq_false_iff_eq.mpr c22
        clear c22
        have H0_ := bo_ H; clear H; obtain ⟨⟨t464, t465, t466⟩, A23, H⟩ := H0_
        try dsimp only at H
        by_cases c24 : t466 = 0
        ·rw [if_pos c24] at H
         have c24b0 : (t466 == 0) = true := beq_iff_eq.mpr c24
         have c24b1 : (t466 != 0) = false := bne_eq_false_iff_eq.mpr c24
         clear c24
         have H0_ := bo_ H; clear H; obtain ⟨⟨t468, t469, t470⟩, A25, H⟩ := H0_
         try dsimp only at H
         by_cases c26 : t470 = 0
         ·rw [if_pos c26] at H
          have c26b0 : (t470 == 0) = true := beq_iff_eq.mpr c26
          have c26b1 : (t470 != 0) = false := bne_eq_false_iff_eq.mpr c26
          clear c26
          have H0_ := bo_ H; clear H; obtain ⟨⟨t472, t473, t474⟩, A27, H⟩ := H0_
          try dsimp only at H
          by_cases c28 : t474 = 0
          ·rw [if_pos c28] at H
           have c28b0 : (t474 == 0) = true := beq_iff_eq.mpr c28
           have c28b1 : (t474 != 0) = false := bne_eq_false_iff_eq.mpr c28
           clear c28
           have H0_ := bo_ H; clear H; obtain ⟨⟨t476, t477⟩, A29, H⟩ := H0_
           replace H : ((wide_Cmp.f kj12 t472 t473 t476 t477).bind fun t478 => (if t478 > 0 then (some (18446744073709551615, 0)) else (some (t473, 0)))) = some (r1, r2) := H
           have H0_ := bo_ H; clear H; obtain ⟨t478, A30, H⟩ := H0_
           replace H : (if t478 > 0 then (some (18446744073709551615, 0)) else (some (t473, 0))) = some (r1, r2) := H
           by_cases c31 : t478 > 0
           ·rw [if_pos c31] at H
            have c31b0 : decide (0 < t478) = true := decide_eq_true c31
            clear c31
            simp only [Option.some.injEq, Prod.mk.injEq] at H
            obtain ⟨rfl, rfl⟩ := H
            try go_wp2
            replace BK448 := Aside0.mk (blk_drew BK448.out)
            replace BK457 := Aside0.mk (blk_drew BK457.out)
            replace HB := Aside0.mk (below_drew1 HB.out)
            refine start_ (n := 13) (S := fun w' => w'.cell? ⟨gb448, 0, none⟩ = some (.int .i64 a0_0) ∧ w'.cell? ⟨gb448, 1, none⟩ = some (.int .i64 a0_1) ∧ w'.cell? ⟨gb448, 2, none⟩ = some (.int .i64 a0_2) ∧ w'.cell? ⟨gb448, 3, none⟩ = some (.int .u64 a0_3) ∧ w'.cell? ⟨gb448, 4, none⟩ = some (.int .u64 a0_4) ∧ w'.cell? ⟨gb448, 5, none⟩ = some (.int .u64 a0_5)) (ds := []) (bl_ 13 0) (by kernel_rfl) rfl (by kernel_rfl) (cc6_ BK448) (fun hHeld => ?_); refine with_tabW gcra_Wait.tab6 gcra_Wait.bits6 (fun HT_ HW_ => ?_)
            generalize wc.drew = w32 at BK448 BK457 HB hHeld ⊢
            refine pa_ 0 (some 41) (bl_ 13 1) HT_ ?_
            refine pa_ 2 (some 43) (bl_ 13 5) HT_ ?_
            refine pa_ 4 (some 45) (bl_ 13 21) HT_ ?_
            refine ta_ 1 (some 42) (bl_ 13 23) HT_ HW_ hHeld ?_
            refine ta_ 3 (some 44) (bl_ 13 31) HT_ HW_ hHeld ?_
            refine join_ (σ := Nat) 2 (bl_ 13 2047) (fun s_ => [(46, .agg #[.int .u64 t458, .int .u64 t459]), (47, .tuple #[.agg #[.int .u64 t460, .int .u64 t461], .int .i64 t462]), (9, .pointer (some ⟨s_, 0, none⟩)), (40, .tuple #[.agg #[.int .u64 t460, .int .u64 t461], .int .i64 t462]), (48, .agg #[.int .u64 t460, .int .u64 t461]), (49, .int .i64 t462)]) (fun s_ w' => (w'.cell? ⟨gb448, 0, none⟩ = some (.int .i64 a0_0) ∧ w'.cell? ⟨gb448, 1, none⟩ = some (.int .i64 a0_1) ∧ w'.cell? ⟨gb448, 2, none⟩ = some (.int .i64 a0_2) ∧ w'.cell? ⟨gb448, 3, none⟩ = some (.int .u64 a0_3) ∧ w'.cell? ⟨gb448, 4, none⟩ = some (.int .u64 a0_4) ∧ w'.cell? ⟨gb448, 5, none⟩ = some (.int .u64 a0_5)) ∧ (w'.heap[gb448]? = some (.cells #[.int .i64 a0_0, .int .i64 a0_1, .int .i64 a0_2, .int .u64 a0_3, .int .u64 a0_4, .int .u64 a0_5] 28 (0, 0))) ∧ (w'.heap[gb457]? = some (.cells #[.int .i64 t449, .int .i64 t450, .int .i64 t451, .int .u64 t452, .int .u64 t453, .int .u64 t454] 28 (0, 0))) ∧ (w'.heap[s_]? = some (.cells #[.int .u64 0, .int .u64 0] 26 (0, 0))) ∧ (w.heap.size ≤ s_) ∧ (w.heap.size ≤ s_) ∧ (gb448 ≠ s_) ∧ (s_ ≠ gb448) ∧ (gb457 ≠ s_) ∧ (s_ ≠ gb457) ∧ (Below w.heap.size w w')) ?_ ?_
            rotate_left
            ·intro hCont
             refine tw_ 5 10 (some 46) (some 9) (bl_ 13 63) (bl_ 13 1055) HT_ (fun K hK => ?_) fun K hK => ?_
             ·refine goesB_ Try.func36 #[.agg #[.int .i64 a0_0, .int .i64 a0_1, .int .i64 a0_2], .int .i64 a1] ?_
              with_reducible refine (gcra_tokens.calls a0_0 a0_1 a0_2 a1 t458 t459 _ A20.out).mono ?_
              rintro e w33 ⟨rfl, hb⟩
              refine ⟨_, rfl, ?_⟩
              replace BK448 := bb_ BK448 hb
              replace BK457 := bb_ BK457 hb
              replace HB := bs_ w hb
              clear hb
              refine hK.out _ _ (cc6_ BK448) (fun hHeld => ?_)
              clear hK K
              refine nm_ (some 46) ?_
              refine tw_ 6 10 (some 47) (some 9) (bl_ 13 127) (bl_ 13 1087) HT_ (fun K hK => ?_) fun K hK => ?_
              ·refine goesB_ Try.func48 #[.agg #[.int .u64 a0_3, .int .u64 a0_4], .agg #[.int .u64 t458, .int .u64 t459]] ?_
               with_reducible refine (wide_Add.calls a0_3 a0_4 t458 t459 t460 t461 t462 _ A21.out).mono ?_
               rintro e w34 ⟨rfl, hb⟩
               refine ⟨_, rfl, ?_⟩
               replace BK448 := bb_ BK448 hb
               replace BK457 := bb_ BK457 hb
               replace HB := bs_ w hb
               clear hb
               refine hK.out _ _ (cc6_ BK448) (fun hHeld => ?_)
               clear hK K
               refine nm_ (some 47) ?_
               refine pa_ 7 (some 40) (bl_ 13 255) HT_ ?_
               refine pa_ 8 (some 48) (bl_ 13 511) HT_ ?_
               refine pa_ 9 (some 49) (bl_ 13 1023) HT_ ?_
               refine oa_ 10 (some 9) (bl_ 13 2047) HT_ fun K hK => ?_
               refine bs2_ #[.int .u64 0, .int .u64 0] 26 ?_
               intro gb463 hg w35 BK463 hb
               have GW463 := bz_ w hg
               have GE463 := GW463
               have NB448_463 := bn_ BK448 hg
               have NB463_448 := bm_ BK448 hg
               have NB457_463 := bn_ BK457 hg
               have NB463_457 := bm_ BK457 hg
               replace BK448 := bb_ BK448 hb
               replace BK457 := bb_ BK457 hb
               replace HB := bs_ w hb
               clear hb hg
               refine hK.out _ _ (cc6_ BK448) (fun hHeld => ?_)
               clear hK K
               refine nm_ (some 9) ?_
               exact no_ (hCont (gb463) _ ⟨hHeld, (bq_ BK448), (bq_ BK457), (bq_ BK463), GW463.out, GE463.out, NB448_463.out, NB463_448.out, NB457_463.out, NB463_457.out, bh_⟩)
              ·refine bs2_ #[.int .u64 0, .int .u64 0] 26 ?_
               intro gb463 hg w34 BK463 hb
               have GW463 := bz_ w hg
               have GE463 := GW463
               have NB448_463 := bn_ BK448 hg
               have NB463_448 := bm_ BK448 hg
               have NB457_463 := bn_ BK457 hg
               have NB463_457 := bm_ BK457 hg
               replace BK448 := bb_ BK448 hb
               replace BK457 := bb_ BK457 hb
               replace HB := bs_ w hb
               clear hb hg
               refine hK.out _ _ (cc6_ BK448) (fun hHeld => ?_)
               clear hK K
               refine nm_ (some 9) ?_
               refine oa_ 6 (some 47) (bl_ 13 1151) HT_ fun K hK => ?_
               refine goesB_ Try.func48 #[.agg #[.int .u64 a0_3, .int .u64 a0_4], .agg #[.int .u64 t458, .int .u64 t459]] ?_
               with_reducible refine (wide_Add.calls a0_3 a0_4 t458 t459 t460 t461 t462 _ A21.out).mono ?_
               rintro e w35 ⟨rfl, hb⟩
               refine ⟨_, rfl, ?_⟩
               replace BK448 := bb_ BK448 hb
               replace BK457 := bb_ BK457 hb
               replace BK463 := bb_ BK463 hb
               replace HB := bs_ w hb
               clear hb
               refine hK.out _ _ (cc6_ BK448) (fun hHeld => ?_)
               clear hK K
               refine nm_ (some 47) ?_
               refine pa_ 7 (some 40) (bl_ 13 1279) HT_ ?_
               refine pa_ 8 (some 48) (bl_ 13 1535) HT_ ?_
               refine pa_ 9 (some 49) (bl_ 13 2047) HT_ ?_
               exact no_ (hCont (gb463) _ ⟨hHeld, (bq_ BK448), (bq_ BK457), (bq_ BK463), GW463.out, GE463.out, NB448_463.out, NB463_448.out, NB457_463.out, NB463_457.out, bh_⟩)
             ·refine bs2_ #[.int .u64 0, .int .u64 0] 26 ?_
              intro gb463 hg w33 BK463 hb
              have GW463 := bz_ w hg
              have GE463 := GW463
              have NB448_463 := bn_ BK448 hg
              have NB463_448 := bm_ BK448 hg
              have NB457_463 := bn_ BK457 hg
              have NB463_457 := bm_ BK457 hg
              replace BK448 := bb_ BK448 hb
              replace BK457 := bb_ BK457 hb
              replace HB := bs_ w hb
              clear hb hg
              refine hK.out _ _ (cc6_ BK448) (fun hHeld => ?_)
              clear hK K
              refine nm_ (some 9) ?_
              refine oa_ 5 (some 46) (bl_ 13 1087) HT_ fun K hK => ?_
              refine goesB_ Try.func36 #[.agg #[.int .i64 a0_0, .int .i64 a0_1, .int .i64 a0_2], .int .i64 a1] ?_
              with_reducible refine (gcra_tokens.calls a0_0 a0_1 a0_2 a1 t458 t459 _ A20.out).mono ?_
              rintro e w34 ⟨rfl, hb⟩
              refine ⟨_, rfl, ?_⟩
              replace BK448 := bb_ BK448 hb
              replace BK457 := bb_ BK457 hb
              replace BK463 := bb_ BK463 hb
              replace HB := bs_ w hb
              clear hb
              refine hK.out _ _ (cc6_ BK448) (fun hHeld => ?_)
              clear hK K
              refine nm_ (some 46) ?_
              refine oa_ 6 (some 47) (bl_ 13 1151) HT_ fun K hK => ?_
              refine goesB_ Try.func48 #[.agg #[.int .u64 a0_3, .int .u64 a0_4], .agg #[.int .u64 t458, .int .u64 t459]] ?_
              with_reducible refine (wide_Add.calls a0_3 a0_4 t458 t459 t460 t461 t462 _ A21.out).mono ?_
              rintro e w35 ⟨rfl, hb⟩
              refine ⟨_, rfl, ?_⟩
              replace BK448 := bb_ BK448 hb
              replace BK457 := bb_ BK457 hb
              replace BK463 := bb_ BK463 hb
              replace HB := bs_ w hb
              clear hb
              refine hK.out _ _ (cc6_ BK448) (fun hHeld => ?_)
              clear hK K
              refine nm_ (some 47) ?_
              refine pa_ 7 (some 40) (bl_ 13 1279) HT_ ?_
              refine pa_ 8 (some 48) (bl_ 13 1535) HT_ ?_
              refine pa_ 9 (some 49) (bl_ 13 2047) HT_ ?_
              exact no_ (hCont (gb463) _ ⟨hHeld, (bq_ BK448), (bq_ BK457), (bq_ BK463), GW463.out, GE463.out, NB448_463.out, NB463_448.out, NB457_463.out, NB463_457.out, bh_⟩)
            rintro gb463 w36 ⟨hS_, h0_, h1_, h2_, h3_, h4_, h5_, h6_, h7_, h8_, h9_⟩
            have BK463 := Aside0.mk h2_
            have GW463 := Aside0.mk h3_
            have GE463 := Aside0.mk h4_
            have NB448_463 := Aside0.mk h5_
            have NB463_448 := Aside0.mk h6_
            have NB457_463 := Aside0.mk h7_
            have NB463_457 := Aside0.mk h8_
            replace BK448 := Aside0.mk h0_
            replace BK457 := Aside0.mk h1_
            replace HB := Aside0.mk h9_
            clear h0_ h1_ h2_ h3_ h4_ h5_ h6_ h7_ h8_ h9_
            have hHeld := hS_
            refine nq_ ?_
            refine oa_ 11 none (bl_ 13 4095) HT_ fun K hK => ?_
            have hs37 : w36.cell? ⟨gb463, 0, none⟩ = some (.int .u64 0) := (blk_cell BK463.out 0).trans rfl
            have hfs37 := blk_frozen BK463.out 0
            have hns37_0 := NB448_463.out
            have hns37_1 := NB457_463.out
            have hms37_0 := NB463_448.out
            have hms37_1 := NB463_457.out
            have hs38 : w36.cell? ⟨gb463, 1, none⟩ = some (.int .u64 0) := (blk_cell BK463.out 1).trans rfl
            have hfs38 := blk_frozen BK463.out 1
            have hns38_0 := NB448_463.out
            have hns38_1 := NB457_463.out
            have hms38_0 := NB463_448.out
            have hms38_1 := NB463_457.out
            refine sk_ ?_
            refine hK.out _ _ (cf6_ hHeld) (fun hHeld => ?_)
            clear hK K
            refine pa_ 12 (some 10) (bl_ 13 8191) HT_ ?_
            refine done_ (done_of HT_.out (by kernel_rfl)) ?_
            replace hn448_457 := NB448_457.out
            replace hn457_448 := NB457_448.out
            replace hn448_463 := NB448_463.out
            replace hn463_448 := NB463_448.out
            replace hc448 := ce6_ BK448
            try go_wp2_with (first | ((with_reducible refine gate_callee (f := 35) rfl ?_); (try refine ug_ (by rfl) ?_); refine goesA_ (some 58) Try.func35 #[.agg #[.int .i64 a0_0, .int .i64 a0_1, .int .i64 a0_2], .int .u64 a0_5] ?_; (with_reducible refine (gcra_end.calls a0_0 a0_1 a0_2 a0_5 t464 t465 t466 _ A23.out).mono ?_); rintro e w42 ⟨rfl, hb⟩; refine ⟨_, rfl, ?_⟩; replace BK448 := bf_ BK448 hb; replace BK457 := bf_ BK457 hb; replace BK463 := Aside0.mk (blk_below (g := gb463) (o := .cells #[.int .u64 t460, .int .u64 t461] 26 (0, 0)) (bp2_ (bq_ BK463)) hb); replace HB := bs_ w hb; clear hb) | ((with_reducible refine gate_dst (N := 11) rfl ?_); (try refine ug_ (by rfl) ?_); refine bx_ #[.int .u64 0, .int .u64 0] 26 ?_; intro gb467 hg w43 BK467 hb; have GW467 := bz_ w hg; have GE467 := GW467; have NB448_467 := bn_ BK448 hg; have NB467_448 := bm_ BK448 hg; have NB457_467 := bn_ BK457 hg; have NB467_457 := bm_ BK457 hg; have NB463_467 := bn_ BK463 hg; have NB467_463 := bm_ BK463 hg; replace BK448 := bb_ BK448 hb; replace BK457 := bb_ BK457 hb; replace BK463 := bb_ BK463 hb; replace HB := bs_ w hb; clear hb hg; replace hn467_448 := NB467_448.out; replace hn448_467 := NB448_467.out; replace hn467_457 := NB467_457.out; replace hn457_467 := NB457_467.out; replace hn467_463 := NB467_463.out; replace hn463_467 := NB463_467.out; replace hc467 := ce2_ BK467; replace hn463_457 := NB463_457.out; replace hn457_463 := NB457_463.out; replace hc463 := ce2_ BK463) | ((with_reducible refine gate_callee (f := 38) rfl ?_); (try refine ug_ (by rfl) ?_); refine goesA_ (some 67) Try.func38 #[.agg #[.int .u64 t460, .int .u64 t461], .agg #[.int .u64 t464, .int .u64 t465]] ?_; (with_reducible refine (wide_Sub.calls t460 t461 t464 t465 t468 t469 t470 _ A25.out).mono ?_); rintro e w50 ⟨rfl, hb⟩; refine ⟨_, rfl, ?_⟩; replace BK448 := bf_ BK448 hb; replace BK457 := bf_ BK457 hb; replace BK463 := bf_ BK463 hb; replace BK467 := Aside0.mk (blk_below (g := gb467) (o := .cells #[.int .u64 t464, .int .u64 t465] 26 (0, 0)) (bp2_ (bq_ BK467)) hb); replace HB := bs_ w hb; clear hb) | ((with_reducible refine gate_dst (N := 12) rfl ?_); (try refine ug_ (by rfl) ?_); refine bx_ #[.int .u64 0, .int .u64 0] 26 ?_; intro gb471 hg w51 BK471 hb; have GW471 := bz_ w hg; have GE471 := GW471; have NB448_471 := bn_ BK448 hg; have NB471_448 := bm_ BK448 hg; have NB457_471 := bn_ BK457 hg; have NB471_457 := bm_ BK457 hg; have NB463_471 := bn_ BK463 hg; have NB471_463 := bm_ BK463 hg; have NB467_471 := bn_ BK467 hg; have NB471_467 := bm_ BK467 hg; replace BK448 := bb_ BK448 hb; replace BK457 := bb_ BK457 hb; replace BK463 := bb_ BK463 hb; replace BK467 := bb_ BK467 hb; replace HB := bs_ w hb; clear hb hg; replace hn471_448 := NB471_448.out; replace hn448_471 := NB448_471.out; replace hn471_457 := NB471_457.out; replace hn457_471 := NB457_471.out; replace hn471_463 := NB471_463.out; replace hn463_471 := NB463_471.out; replace hn471_467 := NB471_467.out; replace hn467_471 := NB467_471.out; replace hc471 := ce2_ BK471; replace hc448 := ce6_ BK448) | ((with_reducible refine gate_callee (f := 51) rfl ?_); (try refine ug_ (by rfl) ?_); refine goesA_ (some 79) Try.func51 #[.agg #[.int .u64 t468, .int .u64 t469], .int .u64 (IntKind.u64.wrap (a0_1))] ?_; (with_reducible refine (wide_Up.calls kj12 t468 t469 (IntKind.u64.wrap (a0_1)) t472 t473 t474 _ A27.out).mono ?_); rintro e w58 ⟨rfl, hb⟩; refine ⟨_, rfl, ?_⟩; replace BK448 := bf_ BK448 hb; replace BK457 := bf_ BK457 hb; replace BK463 := bf_ BK463 hb; replace BK467 := bf_ BK467 hb; replace BK471 := Aside0.mk (blk_below (g := gb471) (o := .cells #[.int .u64 t468, .int .u64 t469] 26 (0, 0)) (bp2_ (bq_ BK471)) hb); replace HB := bs_ w hb; clear hb) | ((with_reducible refine gate_dst (N := 13) rfl ?_); (try refine ug_ (by rfl) ?_); refine bx_ #[.int .u64 0, .int .u64 0] 26 ?_; intro gb475 hg w59 BK475 hb; have GW475 := bz_ w hg; have GE475 := GW475; have NB448_475 := bn_ BK448 hg; have NB475_448 := bm_ BK448 hg; have NB457_475 := bn_ BK457 hg; have NB475_457 := bm_ BK457 hg; have NB463_475 := bn_ BK463 hg; have NB475_463 := bm_ BK463 hg; have NB467_475 := bn_ BK467 hg; have NB475_467 := bm_ BK467 hg; have NB471_475 := bn_ BK471 hg; have NB475_471 := bm_ BK471 hg; replace BK448 := bb_ BK448 hb; replace BK457 := bb_ BK457 hb; replace BK463 := bb_ BK463 hb; replace BK467 := bb_ BK467 hb; replace BK471 := bb_ BK471 hb; replace HB := bs_ w hb; clear hb hg; replace hn475_448 := NB475_448.out; replace hn448_475 := NB448_475.out; replace hn475_457 := NB475_457.out; replace hn457_475 := NB457_475.out; replace hn475_463 := NB475_463.out; replace hn463_475 := NB463_475.out; replace hn475_467 := NB475_467.out; replace hn467_475 := NB467_475.out; replace hn475_471 := NB475_471.out; replace hn471_475 := NB471_475.out; replace hc475 := ce2_ BK475))
            have n0_ : Aside0 (((w59.setCell ⟨gb475, 0, none⟩ (.int .u64 t472)).setCell ⟨gb475, 1, none⟩ (.int .u64 t473)).heap[gb448]? = some (.cells #[.int .i64 a0_0, .int .i64 a0_1, .int .i64 a0_2, .int .u64 a0_3, .int .u64 a0_4, .int .u64 a0_5] 28 (0, 0))) := ⟨(bt_ BK448)⟩
            have n1_ : Aside0 (((w59.setCell ⟨gb475, 0, none⟩ (.int .u64 t472)).setCell ⟨gb475, 1, none⟩ (.int .u64 t473)).heap[gb457]? = some (.cells #[.int .i64 t449, .int .i64 t450, .int .i64 t451, .int .u64 t452, .int .u64 t453, .int .u64 t454] 28 (0, 0))) := ⟨(bt_ BK457)⟩
            have n2_ : Aside0 (((w59.setCell ⟨gb475, 0, none⟩ (.int .u64 t472)).setCell ⟨gb475, 1, none⟩ (.int .u64 t473)).heap[gb463]? = some (.cells #[.int .u64 t460, .int .u64 t461] 26 (0, 0))) := ⟨(bt_ BK463)⟩
            have n3_ : Aside0 (((w59.setCell ⟨gb475, 0, none⟩ (.int .u64 t472)).setCell ⟨gb475, 1, none⟩ (.int .u64 t473)).heap[gb467]? = some (.cells #[.int .u64 t464, .int .u64 t465] 26 (0, 0))) := ⟨(bt_ BK467)⟩
            have n4_ : Aside0 (((w59.setCell ⟨gb475, 0, none⟩ (.int .u64 t472)).setCell ⟨gb475, 1, none⟩ (.int .u64 t473)).heap[gb471]? = some (.cells #[.int .u64 t468, .int .u64 t469] 26 (0, 0))) := ⟨(bt_ BK471)⟩
            have n5_ : Aside0 (((w59.setCell ⟨gb475, 0, none⟩ (.int .u64 t472)).setCell ⟨gb475, 1, none⟩ (.int .u64 t473)).heap[gb475]? = some (.cells #[.int .u64 t472, .int .u64 t473] 26 (0, 0))) := ⟨(bp2_ (bq_ BK475))⟩
            have n6_ : Aside0 (Below w.heap.size w ((w59.setCell ⟨gb475, 0, none⟩ (.int .u64 t472)).setCell ⟨gb475, 1, none⟩ (.int .u64 t473))) := bw_
            (try clear BK448)
            (try clear BK457)
            (try clear BK463)
            (try clear BK467)
            (try clear BK471)
            (try clear BK475)
            (try clear HB)
            generalize ((w59.setCell ⟨gb475, 0, none⟩ (.int .u64 t472)).setCell ⟨gb475, 1, none⟩ (.int .u64 t473)) = w66 at n0_ n1_ n2_ n3_ n4_ n5_ n6_ ⊢
            have BK448 := n0_
            have BK457 := n1_
            have BK463 := n2_
            have BK467 := n3_
            have BK471 := n4_
            have BK475 := n5_
            have HB := n6_
            clear n0_ n1_ n2_ n3_ n4_ n5_ n6_
            replace BK448 := Aside0.mk (blk_drew BK448.out)
            replace BK457 := Aside0.mk (blk_drew BK457.out)
            replace BK463 := Aside0.mk (blk_drew BK463.out)
            replace BK467 := Aside0.mk (blk_drew BK467.out)
            replace BK471 := Aside0.mk (blk_drew BK471.out)
            replace BK475 := Aside0.mk (blk_drew BK475.out)
            replace HB := Aside0.mk (below_drew1 HB.out)
            refine start_ (n := 7) (S := fun w' => w'.cell? ⟨gb475, 0, none⟩ = some (.int .u64 t472) ∧ w'.cell? ⟨gb475, 1, none⟩ = some (.int .u64 t473) ∧ w'.cell? ⟨gb448, 0, none⟩ = some (.int .i64 a0_0) ∧ w'.cell? ⟨gb448, 1, none⟩ = some (.int .i64 a0_1) ∧ w'.cell? ⟨gb448, 2, none⟩ = some (.int .i64 a0_2) ∧ w'.cell? ⟨gb448, 3, none⟩ = some (.int .u64 a0_3) ∧ w'.cell? ⟨gb448, 4, none⟩ = some (.int .u64 a0_4) ∧ w'.cell? ⟨gb448, 5, none⟩ = some (.int .u64 a0_5)) (ds := []) (bl_ 7 0) (by kernel_rfl) rfl (by kernel_rfl) ⟨(blk_cell BK475.out 0).trans rfl, (blk_cell BK475.out 1).trans rfl, (blk_cell BK448.out 0).trans rfl, (blk_cell BK448.out 1).trans rfl, (blk_cell BK448.out 2).trans rfl, (blk_cell BK448.out 3).trans rfl, (blk_cell BK448.out 4).trans rfl, (blk_cell BK448.out 5).trans rfl⟩ (fun hHeld => ?_)
            generalize w66.drew = w67 at BK448 BK457 BK463 BK467 BK471 BK475 HB hHeld ⊢
            refine pure_ (i := 1) (N := some 86) (v := ?_) (a' := ?_) (bl_ 7 2) rfl rfl (by kernel_rfl) (fun _ _ _ h => h) (Or.inl ⟨by rfl, ?_⟩) ?_ ?_
            rotate_left
            ·intro w'
             go_simp
             with_reducible rfl
            rotate_left
            ·simp only [Act.put, List.setIfInBounds_toArray, List.set_cons_zero, List.set_cons_succ, i64_w, i32_w]
             rfl
            refine take_ (i := 0) (N := some 85) (v := ?_) (a' := ?_) (bl_ 7 3) rfl rfl (by kernel_rfl) (fun _ _ _ h => h) (Or.inl ⟨by rfl, ?_⟩) hHeld ?_ ?_
            rotate_left
            ·rintro w' ⟨s0, s1, s2, s3, s4, s5, s6, s7⟩
             go_simp
             with_reducible rfl
            rotate_left
            ·simp only [Act.put, List.setIfInBounds_toArray, List.set_cons_zero, List.set_cons_succ, i64_w, i32_w]
             rfl
            refine take_ (i := 2) (N := some 87) (v := ?_) (a' := ?_) (bl_ 7 7) rfl rfl (by kernel_rfl) (fun _ _ _ h => h) (Or.inl ⟨by rfl, ?_⟩) hHeld ?_ ?_
            rotate_left
            ·rintro w' ⟨s0, s1, s2, s3, s4, s5, s6, s7⟩
             go_simp
             with_reducible rfl
            rotate_left
            ·simp only [Act.put, List.setIfInBounds_toArray, List.set_cons_zero, List.set_cons_succ, i64_w, i32_w]
             rfl
            refine pure_ (i := 3) (N := some 88) (v := ?_) (a' := ?_) (bl_ 7 15) rfl rfl (by kernel_rfl) (fun _ _ _ h => h) (Or.inl ⟨by rfl, ?_⟩) ?_ ?_
            rotate_left
            ·intro w'
             go_simp
             with_reducible rfl
            rotate_left
            ·simp only [Act.put, List.setIfInBounds_toArray, List.set_cons_zero, List.set_cons_succ, i64_w, i32_w]
             rfl
            refine one_ (i := 4) (N := some 89) (bl_ 7 31) rfl rfl (by kernel_rfl) (by decide) (fun K hK => ?_)
            refine goesB_ Try.func37 #[.int .u64 (IntKind.u64.wrap (18446744073709551615 - a0_5))] ?_
            with_reducible refine (wide_Of.calls (IntKind.u64.wrap (18446744073709551615 - a0_5)) t476 t477 _ A29.out).mono ?_
            rintro e w68 ⟨rfl, hb⟩
            refine ⟨_, rfl, ?_⟩
            replace BK448 := bb_ BK448 hb
            replace BK457 := bb_ BK457 hb
            replace BK463 := bb_ BK463 hb
            replace BK467 := bb_ BK467 hb
            replace BK471 := bb_ BK471 hb
            replace BK475 := bb_ BK475 hb
            replace HB := bs_ w hb
            clear hb
            refine hK.out _ _ ⟨(blk_cell BK475.out 0).trans rfl, (blk_cell BK475.out 1).trans rfl, (blk_cell BK448.out 0).trans rfl, (blk_cell BK448.out 1).trans rfl, (blk_cell BK448.out 2).trans rfl, (blk_cell BK448.out 3).trans rfl, (blk_cell BK448.out 4).trans rfl, (blk_cell BK448.out 5).trans rfl⟩ (fun hHeld => ?_)
            clear hK K
            refine nm_ (some 89) ?_
            refine one_ (i := 5) (N := some 90) (bl_ 7 63) rfl rfl (by kernel_rfl) (by decide) (fun K hK => ?_)
            refine goesB_ Try.func45 #[.agg #[.int .u64 t472, .int .u64 t473], .agg #[.int .u64 t476, .int .u64 t477]] ?_
            with_reducible refine (wide_Cmp.calls kj12 t472 t473 t476 t477 t478 _ A30.out).mono ?_
            rintro e w69 ⟨rfl, hb⟩
            refine ⟨_, rfl, ?_⟩
            replace BK448 := bb_ BK448 hb
            replace BK457 := bb_ BK457 hb
            replace BK463 := bb_ BK463 hb
            replace BK467 := bb_ BK467 hb
            replace BK471 := bb_ BK471 hb
            replace BK475 := bb_ BK475 hb
            replace HB := bs_ w hb
            clear hb
            refine hK.out _ _ ⟨(blk_cell BK475.out 0).trans rfl, (blk_cell BK475.out 1).trans rfl, (blk_cell BK448.out 0).trans rfl, (blk_cell BK448.out 1).trans rfl, (blk_cell BK448.out 2).trans rfl, (blk_cell BK448.out 3).trans rfl, (blk_cell BK448.out 4).trans rfl, (blk_cell BK448.out 5).trans rfl⟩ (fun hHeld => ?_)
            clear hK K
            refine nm_ (some 90) ?_
            refine pure_ (i := 6) (N := some 91) (v := ?_) (a' := ?_) (bl_ 7 127) rfl rfl (by kernel_rfl) (fun _ _ _ h => h) (Or.inl ⟨by rfl, ?_⟩) ?_ ?_
            rotate_left
            ·intro w'
             go_simp
             with_reducible rfl
            rotate_left
            ·simp only [Act.put, List.setIfInBounds_toArray, List.set_cons_zero, List.set_cons_succ, i64_w, i32_w]
             rfl
            refine done_ (by kernel_rfl) ?_
            try go_wp2
            go_ret2
            exact fi_
           ·rw [if_neg c31] at H
            have c31b0 : decide (0 < t478) = false := decide_eq_false c31
            clear c31
            simp only [Option.some.injEq, Prod.mk.injEq] at H
            obtain ⟨rfl, rfl⟩ := H
            try go_wp2
            replace BK448 := Aside0.mk (blk_drew BK448.out)
            replace BK457 := Aside0.mk (blk_drew BK457.out)
            replace HB := Aside0.mk (below_drew1 HB.out)
            refine start_ (n := 13) (S := fun w' => w'.cell? ⟨gb448, 0, none⟩ = some (.int .i64 a0_0) ∧ w'.cell? ⟨gb448, 1, none⟩ = some (.int .i64 a0_1) ∧ w'.cell? ⟨gb448, 2, none⟩ = some (.int .i64 a0_2) ∧ w'.cell? ⟨gb448, 3, none⟩ = some (.int .u64 a0_3) ∧ w'.cell? ⟨gb448, 4, none⟩ = some (.int .u64 a0_4) ∧ w'.cell? ⟨gb448, 5, none⟩ = some (.int .u64 a0_5)) (ds := []) (bl_ 13 0) (by kernel_rfl) rfl (by kernel_rfl) (cc6_ BK448) (fun hHeld => ?_); refine with_tabW gcra_Wait.tab6 gcra_Wait.bits6 (fun HT_ HW_ => ?_)
            generalize wc.drew = w70 at BK448 BK457 HB hHeld ⊢
            refine pa_ 0 (some 41) (bl_ 13 1) HT_ ?_
            refine pa_ 2 (some 43) (bl_ 13 5) HT_ ?_
            refine pa_ 4 (some 45) (bl_ 13 21) HT_ ?_
            refine ta_ 1 (some 42) (bl_ 13 23) HT_ HW_ hHeld ?_
            refine ta_ 3 (some 44) (bl_ 13 31) HT_ HW_ hHeld ?_
            refine join_ (σ := Nat) 2 (bl_ 13 2047) (fun s_ => [(46, .agg #[.int .u64 t458, .int .u64 t459]), (47, .tuple #[.agg #[.int .u64 t460, .int .u64 t461], .int .i64 t462]), (9, .pointer (some ⟨s_, 0, none⟩)), (40, .tuple #[.agg #[.int .u64 t460, .int .u64 t461], .int .i64 t462]), (48, .agg #[.int .u64 t460, .int .u64 t461]), (49, .int .i64 t462)]) (fun s_ w' => (w'.cell? ⟨gb448, 0, none⟩ = some (.int .i64 a0_0) ∧ w'.cell? ⟨gb448, 1, none⟩ = some (.int .i64 a0_1) ∧ w'.cell? ⟨gb448, 2, none⟩ = some (.int .i64 a0_2) ∧ w'.cell? ⟨gb448, 3, none⟩ = some (.int .u64 a0_3) ∧ w'.cell? ⟨gb448, 4, none⟩ = some (.int .u64 a0_4) ∧ w'.cell? ⟨gb448, 5, none⟩ = some (.int .u64 a0_5)) ∧ (w'.heap[gb448]? = some (.cells #[.int .i64 a0_0, .int .i64 a0_1, .int .i64 a0_2, .int .u64 a0_3, .int .u64 a0_4, .int .u64 a0_5] 28 (0, 0))) ∧ (w'.heap[gb457]? = some (.cells #[.int .i64 t449, .int .i64 t450, .int .i64 t451, .int .u64 t452, .int .u64 t453, .int .u64 t454] 28 (0, 0))) ∧ (w'.heap[s_]? = some (.cells #[.int .u64 0, .int .u64 0] 26 (0, 0))) ∧ (w.heap.size ≤ s_) ∧ (w.heap.size ≤ s_) ∧ (gb448 ≠ s_) ∧ (s_ ≠ gb448) ∧ (gb457 ≠ s_) ∧ (s_ ≠ gb457) ∧ (Below w.heap.size w w')) ?_ ?_
            rotate_left
            ·intro hCont
             refine tw_ 5 10 (some 46) (some 9) (bl_ 13 63) (bl_ 13 1055) HT_ (fun K hK => ?_) fun K hK => ?_
             ·refine goesB_ Try.func36 #[.agg #[.int .i64 a0_0, .int .i64 a0_1, .int .i64 a0_2], .int .i64 a1] ?_
              with_reducible refine (gcra_tokens.calls a0_0 a0_1 a0_2 a1 t458 t459 _ A20.out).mono ?_
              rintro e w71 ⟨rfl, hb⟩
              refine ⟨_, rfl, ?_⟩
              replace BK448 := bb_ BK448 hb
              replace BK457 := bb_ BK457 hb
              replace HB := bs_ w hb
              clear hb
              refine hK.out _ _ (cc6_ BK448) (fun hHeld => ?_)
              clear hK K
              refine nm_ (some 46) ?_
              refine tw_ 6 10 (some 47) (some 9) (bl_ 13 127) (bl_ 13 1087) HT_ (fun K hK => ?_) fun K hK => ?_
              ·refine goesB_ Try.func48 #[.agg #[.int .u64 a0_3, .int .u64 a0_4], .agg #[.int .u64 t458, .int .u64 t459]] ?_
               with_reducible refine (wide_Add.calls a0_3 a0_4 t458 t459 t460 t461 t462 _ A21.out).mono ?_
               rintro e w72 ⟨rfl, hb⟩
               refine ⟨_, rfl, ?_⟩
               replace BK448 := bb_ BK448 hb
               replace BK457 := bb_ BK457 hb
               replace HB := bs_ w hb
               clear hb
               refine hK.out _ _ (cc6_ BK448) (fun hHeld => ?_)
               clear hK K
               refine nm_ (some 47) ?_
               refine pa_ 7 (some 40) (bl_ 13 255) HT_ ?_
               refine pa_ 8 (some 48) (bl_ 13 511) HT_ ?_
               refine pa_ 9 (some 49) (bl_ 13 1023) HT_ ?_
               refine oa_ 10 (some 9) (bl_ 13 2047) HT_ fun K hK => ?_
               refine bs2_ #[.int .u64 0, .int .u64 0] 26 ?_
               intro gb463 hg w73 BK463 hb
               have GW463 := bz_ w hg
               have GE463 := GW463
               have NB448_463 := bn_ BK448 hg
               have NB463_448 := bm_ BK448 hg
               have NB457_463 := bn_ BK457 hg
               have NB463_457 := bm_ BK457 hg
               replace BK448 := bb_ BK448 hb
               replace BK457 := bb_ BK457 hb
               replace HB := bs_ w hb
               clear hb hg
               refine hK.out _ _ (cc6_ BK448) (fun hHeld => ?_)
               clear hK K
               refine nm_ (some 9) ?_
               exact no_ (hCont (gb463) _ ⟨hHeld, (bq_ BK448), (bq_ BK457), (bq_ BK463), GW463.out, GE463.out, NB448_463.out, NB463_448.out, NB457_463.out, NB463_457.out, bh_⟩)
              ·refine bs2_ #[.int .u64 0, .int .u64 0] 26 ?_
               intro gb463 hg w72 BK463 hb
               have GW463 := bz_ w hg
               have GE463 := GW463
               have NB448_463 := bn_ BK448 hg
               have NB463_448 := bm_ BK448 hg
               have NB457_463 := bn_ BK457 hg
               have NB463_457 := bm_ BK457 hg
               replace BK448 := bb_ BK448 hb
               replace BK457 := bb_ BK457 hb
               replace HB := bs_ w hb
               clear hb hg
               refine hK.out _ _ (cc6_ BK448) (fun hHeld => ?_)
               clear hK K
               refine nm_ (some 9) ?_
               refine oa_ 6 (some 47) (bl_ 13 1151) HT_ fun K hK => ?_
               refine goesB_ Try.func48 #[.agg #[.int .u64 a0_3, .int .u64 a0_4], .agg #[.int .u64 t458, .int .u64 t459]] ?_
               with_reducible refine (wide_Add.calls a0_3 a0_4 t458 t459 t460 t461 t462 _ A21.out).mono ?_
               rintro e w73 ⟨rfl, hb⟩
               refine ⟨_, rfl, ?_⟩
               replace BK448 := bb_ BK448 hb
               replace BK457 := bb_ BK457 hb
               replace BK463 := bb_ BK463 hb
               replace HB := bs_ w hb
               clear hb
               refine hK.out _ _ (cc6_ BK448) (fun hHeld => ?_)
               clear hK K
               refine nm_ (some 47) ?_
               refine pa_ 7 (some 40) (bl_ 13 1279) HT_ ?_
               refine pa_ 8 (some 48) (bl_ 13 1535) HT_ ?_
               refine pa_ 9 (some 49) (bl_ 13 2047) HT_ ?_
               exact no_ (hCont (gb463) _ ⟨hHeld, (bq_ BK448), (bq_ BK457), (bq_ BK463), GW463.out, GE463.out, NB448_463.out, NB463_448.out, NB457_463.out, NB463_457.out, bh_⟩)
             ·refine bs2_ #[.int .u64 0, .int .u64 0] 26 ?_
              intro gb463 hg w71 BK463 hb
              have GW463 := bz_ w hg
              have GE463 := GW463
              have NB448_463 := bn_ BK448 hg
              have NB463_448 := bm_ BK448 hg
              have NB457_463 := bn_ BK457 hg
              have NB463_457 := bm_ BK457 hg
              replace BK448 := bb_ BK448 hb
              replace BK457 := bb_ BK457 hb
              replace HB := bs_ w hb
              clear hb hg
              refine hK.out _ _ (cc6_ BK448) (fun hHeld => ?_)
              clear hK K
              refine nm_ (some 9) ?_
              refine oa_ 5 (some 46) (bl_ 13 1087) HT_ fun K hK => ?_
              refine goesB_ Try.func36 #[.agg #[.int .i64 a0_0, .int .i64 a0_1, .int .i64 a0_2], .int .i64 a1] ?_
              with_reducible refine (gcra_tokens.calls a0_0 a0_1 a0_2 a1 t458 t459 _ A20.out).mono ?_
              rintro e w72 ⟨rfl, hb⟩
              refine ⟨_, rfl, ?_⟩
              replace BK448 := bb_ BK448 hb
              replace BK457 := bb_ BK457 hb
              replace BK463 := bb_ BK463 hb
              replace HB := bs_ w hb
              clear hb
              refine hK.out _ _ (cc6_ BK448) (fun hHeld => ?_)
              clear hK K
              refine nm_ (some 46) ?_
              refine oa_ 6 (some 47) (bl_ 13 1151) HT_ fun K hK => ?_
              refine goesB_ Try.func48 #[.agg #[.int .u64 a0_3, .int .u64 a0_4], .agg #[.int .u64 t458, .int .u64 t459]] ?_
              with_reducible refine (wide_Add.calls a0_3 a0_4 t458 t459 t460 t461 t462 _ A21.out).mono ?_
              rintro e w73 ⟨rfl, hb⟩
              refine ⟨_, rfl, ?_⟩
              replace BK448 := bb_ BK448 hb
              replace BK457 := bb_ BK457 hb
              replace BK463 := bb_ BK463 hb
              replace HB := bs_ w hb
              clear hb
              refine hK.out _ _ (cc6_ BK448) (fun hHeld => ?_)
              clear hK K
              refine nm_ (some 47) ?_
              refine pa_ 7 (some 40) (bl_ 13 1279) HT_ ?_
              refine pa_ 8 (some 48) (bl_ 13 1535) HT_ ?_
              refine pa_ 9 (some 49) (bl_ 13 2047) HT_ ?_
              exact no_ (hCont (gb463) _ ⟨hHeld, (bq_ BK448), (bq_ BK457), (bq_ BK463), GW463.out, GE463.out, NB448_463.out, NB463_448.out, NB457_463.out, NB463_457.out, bh_⟩)
            rintro gb463 w74 ⟨hS_, h0_, h1_, h2_, h3_, h4_, h5_, h6_, h7_, h8_, h9_⟩
            have BK463 := Aside0.mk h2_
            have GW463 := Aside0.mk h3_
            have GE463 := Aside0.mk h4_
            have NB448_463 := Aside0.mk h5_
            have NB463_448 := Aside0.mk h6_
            have NB457_463 := Aside0.mk h7_
            have NB463_457 := Aside0.mk h8_
            replace BK448 := Aside0.mk h0_
            replace BK457 := Aside0.mk h1_
            replace HB := Aside0.mk h9_
            clear h0_ h1_ h2_ h3_ h4_ h5_ h6_ h7_ h8_ h9_
            have hHeld := hS_
            refine nq_ ?_
            refine oa_ 11 none (bl_ 13 4095) HT_ fun K hK => ?_
            have hs75 : w74.cell? ⟨gb463, 0, none⟩ = some (.int .u64 0) := (blk_cell BK463.out 0).trans rfl
            have hfs75 := blk_frozen BK463.out 0
            have hns75_0 := NB448_463.out
            have hns75_1 := NB457_463.out
            have hms75_0 := NB463_448.out
            have hms75_1 := NB463_457.out
            have hs76 : w74.cell? ⟨gb463, 1, none⟩ = some (.int .u64 0) := (blk_cell BK463.out 1).trans rfl
            have hfs76 := blk_frozen BK463.out 1
            have hns76_0 := NB448_463.out
            have hns76_1 := NB457_463.out
            have hms76_0 := NB463_448.out
            have hms76_1 := NB463_457.out
            refine sk_ ?_
            refine hK.out _ _ (cf6_ hHeld) (fun hHeld => ?_)
            clear hK K
            refine pa_ 12 (some 10) (bl_ 13 8191) HT_ ?_
            refine done_ (done_of HT_.out (by kernel_rfl)) ?_
            replace hn448_457 := NB448_457.out
            replace hn457_448 := NB457_448.out
            replace hn448_463 := NB448_463.out
            replace hn463_448 := NB463_448.out
            replace hc448 := ce6_ BK448
            try go_wp2_with (first | ((with_reducible refine gate_callee (f := 35) rfl ?_); (try refine ug_ (by rfl) ?_); refine goesA_ (some 58) Try.func35 #[.agg #[.int .i64 a0_0, .int .i64 a0_1, .int .i64 a0_2], .int .u64 a0_5] ?_; (with_reducible refine (gcra_end.calls a0_0 a0_1 a0_2 a0_5 t464 t465 t466 _ A23.out).mono ?_); rintro e w80 ⟨rfl, hb⟩; refine ⟨_, rfl, ?_⟩; replace BK448 := bf_ BK448 hb; replace BK457 := bf_ BK457 hb; replace BK463 := Aside0.mk (blk_below (g := gb463) (o := .cells #[.int .u64 t460, .int .u64 t461] 26 (0, 0)) (bp2_ (bq_ BK463)) hb); replace HB := bs_ w hb; clear hb) | ((with_reducible refine gate_dst (N := 11) rfl ?_); (try refine ug_ (by rfl) ?_); refine bx_ #[.int .u64 0, .int .u64 0] 26 ?_; intro gb467 hg w81 BK467 hb; have GW467 := bz_ w hg; have GE467 := GW467; have NB448_467 := bn_ BK448 hg; have NB467_448 := bm_ BK448 hg; have NB457_467 := bn_ BK457 hg; have NB467_457 := bm_ BK457 hg; have NB463_467 := bn_ BK463 hg; have NB467_463 := bm_ BK463 hg; replace BK448 := bb_ BK448 hb; replace BK457 := bb_ BK457 hb; replace BK463 := bb_ BK463 hb; replace HB := bs_ w hb; clear hb hg; replace hn467_448 := NB467_448.out; replace hn448_467 := NB448_467.out; replace hn467_457 := NB467_457.out; replace hn457_467 := NB457_467.out; replace hn467_463 := NB467_463.out; replace hn463_467 := NB463_467.out; replace hc467 := ce2_ BK467; replace hn463_457 := NB463_457.out; replace hn457_463 := NB457_463.out; replace hc463 := ce2_ BK463) | ((with_reducible refine gate_callee (f := 38) rfl ?_); (try refine ug_ (by rfl) ?_); refine goesA_ (some 67) Try.func38 #[.agg #[.int .u64 t460, .int .u64 t461], .agg #[.int .u64 t464, .int .u64 t465]] ?_; (with_reducible refine (wide_Sub.calls t460 t461 t464 t465 t468 t469 t470 _ A25.out).mono ?_); rintro e w88 ⟨rfl, hb⟩; refine ⟨_, rfl, ?_⟩; replace BK448 := bf_ BK448 hb; replace BK457 := bf_ BK457 hb; replace BK463 := bf_ BK463 hb; replace BK467 := Aside0.mk (blk_below (g := gb467) (o := .cells #[.int .u64 t464, .int .u64 t465] 26 (0, 0)) (bp2_ (bq_ BK467)) hb); replace HB := bs_ w hb; clear hb) | ((with_reducible refine gate_dst (N := 12) rfl ?_); (try refine ug_ (by rfl) ?_); refine bx_ #[.int .u64 0, .int .u64 0] 26 ?_; intro gb471 hg w89 BK471 hb; have GW471 := bz_ w hg; have GE471 := GW471; have NB448_471 := bn_ BK448 hg; have NB471_448 := bm_ BK448 hg; have NB457_471 := bn_ BK457 hg; have NB471_457 := bm_ BK457 hg; have NB463_471 := bn_ BK463 hg; have NB471_463 := bm_ BK463 hg; have NB467_471 := bn_ BK467 hg; have NB471_467 := bm_ BK467 hg; replace BK448 := bb_ BK448 hb; replace BK457 := bb_ BK457 hb; replace BK463 := bb_ BK463 hb; replace BK467 := bb_ BK467 hb; replace HB := bs_ w hb; clear hb hg; replace hn471_448 := NB471_448.out; replace hn448_471 := NB448_471.out; replace hn471_457 := NB471_457.out; replace hn457_471 := NB457_471.out; replace hn471_463 := NB471_463.out; replace hn463_471 := NB463_471.out; replace hn471_467 := NB471_467.out; replace hn467_471 := NB467_471.out; replace hc471 := ce2_ BK471; replace hc448 := ce6_ BK448) | ((with_reducible refine gate_callee (f := 51) rfl ?_); (try refine ug_ (by rfl) ?_); refine goesA_ (some 79) Try.func51 #[.agg #[.int .u64 t468, .int .u64 t469], .int .u64 (IntKind.u64.wrap (a0_1))] ?_; (with_reducible refine (wide_Up.calls kj12 t468 t469 (IntKind.u64.wrap (a0_1)) t472 t473 t474 _ A27.out).mono ?_); rintro e w96 ⟨rfl, hb⟩; refine ⟨_, rfl, ?_⟩; replace BK448 := bf_ BK448 hb; replace BK457 := bf_ BK457 hb; replace BK463 := bf_ BK463 hb; replace BK467 := bf_ BK467 hb; replace BK471 := Aside0.mk (blk_below (g := gb471) (o := .cells #[.int .u64 t468, .int .u64 t469] 26 (0, 0)) (bp2_ (bq_ BK471)) hb); replace HB := bs_ w hb; clear hb) | ((with_reducible refine gate_dst (N := 13) rfl ?_); (try refine ug_ (by rfl) ?_); refine bx_ #[.int .u64 0, .int .u64 0] 26 ?_; intro gb475 hg w97 BK475 hb; have GW475 := bz_ w hg; have GE475 := GW475; have NB448_475 := bn_ BK448 hg; have NB475_448 := bm_ BK448 hg; have NB457_475 := bn_ BK457 hg; have NB475_457 := bm_ BK457 hg; have NB463_475 := bn_ BK463 hg; have NB475_463 := bm_ BK463 hg; have NB467_475 := bn_ BK467 hg; have NB475_467 := bm_ BK467 hg; have NB471_475 := bn_ BK471 hg; have NB475_471 := bm_ BK471 hg; replace BK448 := bb_ BK448 hb; replace BK457 := bb_ BK457 hb; replace BK463 := bb_ BK463 hb; replace BK467 := bb_ BK467 hb; replace BK471 := bb_ BK471 hb; replace HB := bs_ w hb; clear hb hg; replace hn475_448 := NB475_448.out; replace hn448_475 := NB448_475.out; replace hn475_457 := NB475_457.out; replace hn457_475 := NB457_475.out; replace hn475_463 := NB475_463.out; replace hn463_475 := NB463_475.out; replace hn475_467 := NB475_467.out; replace hn467_475 := NB467_475.out; replace hn475_471 := NB475_471.out; replace hn471_475 := NB471_475.out; replace hc475 := ce2_ BK475))
            have n0_ : Aside0 (((w97.setCell ⟨gb475, 0, none⟩ (.int .u64 t472)).setCell ⟨gb475, 1, none⟩ (.int .u64 t473)).heap[gb448]? = some (.cells #[.int .i64 a0_0, .int .i64 a0_1, .int .i64 a0_2, .int .u64 a0_3, .int .u64 a0_4, .int .u64 a0_5] 28 (0, 0))) := ⟨(bt_ BK448)⟩
            have n1_ : Aside0 (((w97.setCell ⟨gb475, 0, none⟩ (.int .u64 t472)).setCell ⟨gb475, 1, none⟩ (.int .u64 t473)).heap[gb457]? = some (.cells #[.int .i64 t449, .int .i64 t450, .int .i64 t451, .int .u64 t452, .int .u64 t453, .int .u64 t454] 28 (0, 0))) := ⟨(bt_ BK457)⟩
            have n2_ : Aside0 (((w97.setCell ⟨gb475, 0, none⟩ (.int .u64 t472)).setCell ⟨gb475, 1, none⟩ (.int .u64 t473)).heap[gb463]? = some (.cells #[.int .u64 t460, .int .u64 t461] 26 (0, 0))) := ⟨(bt_ BK463)⟩
            have n3_ : Aside0 (((w97.setCell ⟨gb475, 0, none⟩ (.int .u64 t472)).setCell ⟨gb475, 1, none⟩ (.int .u64 t473)).heap[gb467]? = some (.cells #[.int .u64 t464, .int .u64 t465] 26 (0, 0))) := ⟨(bt_ BK467)⟩
            have n4_ : Aside0 (((w97.setCell ⟨gb475, 0, none⟩ (.int .u64 t472)).setCell ⟨gb475, 1, none⟩ (.int .u64 t473)).heap[gb471]? = some (.cells #[.int .u64 t468, .int .u64 t469] 26 (0, 0))) := ⟨(bt_ BK471)⟩
            have n5_ : Aside0 (((w97.setCell ⟨gb475, 0, none⟩ (.int .u64 t472)).setCell ⟨gb475, 1, none⟩ (.int .u64 t473)).heap[gb475]? = some (.cells #[.int .u64 t472, .int .u64 t473] 26 (0, 0))) := ⟨(bp2_ (bq_ BK475))⟩
            have n6_ : Aside0 (Below w.heap.size w ((w97.setCell ⟨gb475, 0, none⟩ (.int .u64 t472)).setCell ⟨gb475, 1, none⟩ (.int .u64 t473))) := bw_
            (try clear BK448)
            (try clear BK457)
            (try clear BK463)
            (try clear BK467)
            (try clear BK471)
            (try clear BK475)
            (try clear HB)
            generalize ((w97.setCell ⟨gb475, 0, none⟩ (.int .u64 t472)).setCell ⟨gb475, 1, none⟩ (.int .u64 t473)) = w104 at n0_ n1_ n2_ n3_ n4_ n5_ n6_ ⊢
            have BK448 := n0_
            have BK457 := n1_
            have BK463 := n2_
            have BK467 := n3_
            have BK471 := n4_
            have BK475 := n5_
            have HB := n6_
            clear n0_ n1_ n2_ n3_ n4_ n5_ n6_
            replace BK448 := Aside0.mk (blk_drew BK448.out)
            replace BK457 := Aside0.mk (blk_drew BK457.out)
            replace BK463 := Aside0.mk (blk_drew BK463.out)
            replace BK467 := Aside0.mk (blk_drew BK467.out)
            replace BK471 := Aside0.mk (blk_drew BK471.out)
            replace BK475 := Aside0.mk (blk_drew BK475.out)
            replace HB := Aside0.mk (below_drew1 HB.out)
            refine start_ (n := 7) (S := fun w' => w'.cell? ⟨gb475, 0, none⟩ = some (.int .u64 t472) ∧ w'.cell? ⟨gb475, 1, none⟩ = some (.int .u64 t473) ∧ w'.cell? ⟨gb448, 0, none⟩ = some (.int .i64 a0_0) ∧ w'.cell? ⟨gb448, 1, none⟩ = some (.int .i64 a0_1) ∧ w'.cell? ⟨gb448, 2, none⟩ = some (.int .i64 a0_2) ∧ w'.cell? ⟨gb448, 3, none⟩ = some (.int .u64 a0_3) ∧ w'.cell? ⟨gb448, 4, none⟩ = some (.int .u64 a0_4) ∧ w'.cell? ⟨gb448, 5, none⟩ = some (.int .u64 a0_5)) (ds := []) (bl_ 7 0) (by kernel_rfl) rfl (by kernel_rfl) ⟨(blk_cell BK475.out 0).trans rfl, (blk_cell BK475.out 1).trans rfl, (blk_cell BK448.out 0).trans rfl, (blk_cell BK448.out 1).trans rfl, (blk_cell BK448.out 2).trans rfl, (blk_cell BK448.out 3).trans rfl, (blk_cell BK448.out 4).trans rfl, (blk_cell BK448.out 5).trans rfl⟩ (fun hHeld => ?_)
            generalize w104.drew = w105 at BK448 BK457 BK463 BK467 BK471 BK475 HB hHeld ⊢
            refine pure_ (i := 1) (N := some 86) (v := ?_) (a' := ?_) (bl_ 7 2) rfl rfl (by kernel_rfl) (fun _ _ _ h => h) (Or.inl ⟨by rfl, ?_⟩) ?_ ?_
            rotate_left
            ·intro w'
             go_simp
             with_reducible rfl
            rotate_left
            ·simp only [Act.put, List.setIfInBounds_toArray, List.set_cons_zero, List.set_cons_succ, i64_w, i32_w]
             rfl
            refine take_ (i := 0) (N := some 85) (v := ?_) (a' := ?_) (bl_ 7 3) rfl rfl (by kernel_rfl) (fun _ _ _ h => h) (Or.inl ⟨by rfl, ?_⟩) hHeld ?_ ?_
            rotate_left
            ·rintro w' ⟨s0, s1, s2, s3, s4, s5, s6, s7⟩
             go_simp
             with_reducible rfl
            rotate_left
            ·simp only [Act.put, List.setIfInBounds_toArray, List.set_cons_zero, List.set_cons_succ, i64_w, i32_w]
             rfl
            refine take_ (i := 2) (N := some 87) (v := ?_) (a' := ?_) (bl_ 7 7) rfl rfl (by kernel_rfl) (fun _ _ _ h => h) (Or.inl ⟨by rfl, ?_⟩) hHeld ?_ ?_
            rotate_left
            ·rintro w' ⟨s0, s1, s2, s3, s4, s5, s6, s7⟩
             go_simp
             with_reducible rfl
            rotate_left
            ·simp only [Act.put, List.setIfInBounds_toArray, List.set_cons_zero, List.set_cons_succ, i64_w, i32_w]
             rfl
            refine pure_ (i := 3) (N := some 88) (v := ?_) (a' := ?_) (bl_ 7 15) rfl rfl (by kernel_rfl) (fun _ _ _ h => h) (Or.inl ⟨by rfl, ?_⟩) ?_ ?_
            rotate_left
            ·intro w'
             go_simp
             with_reducible rfl
            rotate_left
            ·simp only [Act.put, List.setIfInBounds_toArray, List.set_cons_zero, List.set_cons_succ, i64_w, i32_w]
             rfl
            refine one_ (i := 4) (N := some 89) (bl_ 7 31) rfl rfl (by kernel_rfl) (by decide) (fun K hK => ?_)
            refine goesB_ Try.func37 #[.int .u64 (IntKind.u64.wrap (18446744073709551615 - a0_5))] ?_
            with_reducible refine (wide_Of.calls (IntKind.u64.wrap (18446744073709551615 - a0_5)) t476 t477 _ A29.out).mono ?_
            rintro e w106 ⟨rfl, hb⟩
            refine ⟨_, rfl, ?_⟩
            replace BK448 := bb_ BK448 hb
            replace BK457 := bb_ BK457 hb
            replace BK463 := bb_ BK463 hb
            replace BK467 := bb_ BK467 hb
            replace BK471 := bb_ BK471 hb
            replace BK475 := bb_ BK475 hb
            replace HB := bs_ w hb
            clear hb
            refine hK.out _ _ ⟨(blk_cell BK475.out 0).trans rfl, (blk_cell BK475.out 1).trans rfl, (blk_cell BK448.out 0).trans rfl, (blk_cell BK448.out 1).trans rfl, (blk_cell BK448.out 2).trans rfl, (blk_cell BK448.out 3).trans rfl, (blk_cell BK448.out 4).trans rfl, (blk_cell BK448.out 5).trans rfl⟩ (fun hHeld => ?_)
            clear hK K
            refine nm_ (some 89) ?_
            refine one_ (i := 5) (N := some 90) (bl_ 7 63) rfl rfl (by kernel_rfl) (by decide) (fun K hK => ?_)
            refine goesB_ Try.func45 #[.agg #[.int .u64 t472, .int .u64 t473], .agg #[.int .u64 t476, .int .u64 t477]] ?_
            with_reducible refine (wide_Cmp.calls kj12 t472 t473 t476 t477 t478 _ A30.out).mono ?_
            rintro e w107 ⟨rfl, hb⟩
            refine ⟨_, rfl, ?_⟩
            replace BK448 := bb_ BK448 hb
            replace BK457 := bb_ BK457 hb
            replace BK463 := bb_ BK463 hb
            replace BK467 := bb_ BK467 hb
            replace BK471 := bb_ BK471 hb
            replace BK475 := bb_ BK475 hb
            replace HB := bs_ w hb
            clear hb
            refine hK.out _ _ ⟨(blk_cell BK475.out 0).trans rfl, (blk_cell BK475.out 1).trans rfl, (blk_cell BK448.out 0).trans rfl, (blk_cell BK448.out 1).trans rfl, (blk_cell BK448.out 2).trans rfl, (blk_cell BK448.out 3).trans rfl, (blk_cell BK448.out 4).trans rfl, (blk_cell BK448.out 5).trans rfl⟩ (fun hHeld => ?_)
            clear hK K
            refine nm_ (some 90) ?_
            refine pure_ (i := 6) (N := some 91) (v := ?_) (a' := ?_) (bl_ 7 127) rfl rfl (by kernel_rfl) (fun _ _ _ h => h) (Or.inl ⟨by rfl, ?_⟩) ?_ ?_
            rotate_left
            ·intro w'
             go_simp
             with_reducible rfl
            rotate_left
            ·simp only [Act.put, List.setIfInBounds_toArray, List.set_cons_zero, List.set_cons_succ, i64_w, i32_w]
             rfl
            refine done_ (by kernel_rfl) ?_
            replace hc475 := ce2_ BK475
            try go_wp2
            go_ret2
            exact fi_
          ·rw [if_neg c28] at H
           have c28b0 : (t474 == 0) = false := beq_eq_false_iff_ne.mpr c28
           have c28b1 : (t474 != 0) = true := bne_iff_ne.mpr c28
           simp only [Option.some.injEq, Prod.mk.injEq] at H
           obtain ⟨rfl, rfl⟩ := H
           try go_wp2
           replace BK448 := Aside0.mk (blk_drew BK448.out)
           replace BK457 := Aside0.mk (blk_drew BK457.out)
           replace HB := Aside0.mk (below_drew1 HB.out)
           refine start_ (n := 13) (S := fun w' => w'.cell? ⟨gb448, 0, none⟩ = some (.int .i64 a0_0) ∧ w'.cell? ⟨gb448, 1, none⟩ = some (.int .i64 a0_1) ∧ w'.cell? ⟨gb448, 2, none⟩ = some (.int .i64 a0_2) ∧ w'.cell? ⟨gb448, 3, none⟩ = some (.int .u64 a0_3) ∧ w'.cell? ⟨gb448, 4, none⟩ = some (.int .u64 a0_4) ∧ w'.cell? ⟨gb448, 5, none⟩ = some (.int .u64 a0_5)) (ds := []) (bl_ 13 0) (by kernel_rfl) rfl (by kernel_rfl) (cc6_ BK448) (fun hHeld => ?_); refine with_tabW gcra_Wait.tab6 gcra_Wait.bits6 (fun HT_ HW_ => ?_)
           generalize wc.drew = w109 at BK448 BK457 HB hHeld ⊢
           refine pa_ 0 (some 41) (bl_ 13 1) HT_ ?_
           refine pa_ 2 (some 43) (bl_ 13 5) HT_ ?_
           refine pa_ 4 (some 45) (bl_ 13 21) HT_ ?_
           refine ta_ 1 (some 42) (bl_ 13 23) HT_ HW_ hHeld ?_
           refine ta_ 3 (some 44) (bl_ 13 31) HT_ HW_ hHeld ?_
           refine join_ (σ := Nat) 2 (bl_ 13 2047) (fun s_ => [(46, .agg #[.int .u64 t458, .int .u64 t459]), (47, .tuple #[.agg #[.int .u64 t460, .int .u64 t461], .int .i64 t462]), (9, .pointer (some ⟨s_, 0, none⟩)), (40, .tuple #[.agg #[.int .u64 t460, .int .u64 t461], .int .i64 t462]), (48, .agg #[.int .u64 t460, .int .u64 t461]), (49, .int .i64 t462)]) (fun s_ w' => (w'.cell? ⟨gb448, 0, none⟩ = some (.int .i64 a0_0) ∧ w'.cell? ⟨gb448, 1, none⟩ = some (.int .i64 a0_1) ∧ w'.cell? ⟨gb448, 2, none⟩ = some (.int .i64 a0_2) ∧ w'.cell? ⟨gb448, 3, none⟩ = some (.int .u64 a0_3) ∧ w'.cell? ⟨gb448, 4, none⟩ = some (.int .u64 a0_4) ∧ w'.cell? ⟨gb448, 5, none⟩ = some (.int .u64 a0_5)) ∧ (w'.heap[gb448]? = some (.cells #[.int .i64 a0_0, .int .i64 a0_1, .int .i64 a0_2, .int .u64 a0_3, .int .u64 a0_4, .int .u64 a0_5] 28 (0, 0))) ∧ (w'.heap[gb457]? = some (.cells #[.int .i64 t449, .int .i64 t450, .int .i64 t451, .int .u64 t452, .int .u64 t453, .int .u64 t454] 28 (0, 0))) ∧ (w'.heap[s_]? = some (.cells #[.int .u64 0, .int .u64 0] 26 (0, 0))) ∧ (w.heap.size ≤ s_) ∧ (w.heap.size ≤ s_) ∧ (gb448 ≠ s_) ∧ (s_ ≠ gb448) ∧ (gb457 ≠ s_) ∧ (s_ ≠ gb457) ∧ (Below w.heap.size w w')) ?_ ?_
           rotate_left
           ·intro hCont
            refine tw_ 5 10 (some 46) (some 9) (bl_ 13 63) (bl_ 13 1055) HT_ (fun K hK => ?_) fun K hK => ?_
            ·refine goesB_ Try.func36 #[.agg #[.int .i64 a0_0, .int .i64 a0_1, .int .i64 a0_2], .int .i64 a1] ?_
             with_reducible refine (gcra_tokens.calls a0_0 a0_1 a0_2 a1 t458 t459 _ A20.out).mono ?_
             rintro e w110 ⟨rfl, hb⟩
             refine ⟨_, rfl, ?_⟩
             replace BK448 := bb_ BK448 hb
             replace BK457 := bb_ BK457 hb
             replace HB := bs_ w hb
             clear hb
             refine hK.out _ _ (cc6_ BK448) (fun hHeld => ?_)
             clear hK K
             refine nm_ (some 46) ?_
             refine tw_ 6 10 (some 47) (some 9) (bl_ 13 127) (bl_ 13 1087) HT_ (fun K hK => ?_) fun K hK => ?_
             ·refine goesB_ Try.func48 #[.agg #[.int .u64 a0_3, .int .u64 a0_4], .agg #[.int .u64 t458, .int .u64 t459]] ?_
              with_reducible refine (wide_Add.calls a0_3 a0_4 t458 t459 t460 t461 t462 _ A21.out).mono ?_
              rintro e w111 ⟨rfl, hb⟩
              refine ⟨_, rfl, ?_⟩
              replace BK448 := bb_ BK448 hb
              replace BK457 := bb_ BK457 hb
              replace HB := bs_ w hb
              clear hb
              refine hK.out _ _ (cc6_ BK448) (fun hHeld => ?_)
              clear hK K
              refine nm_ (some 47) ?_
              refine pa_ 7 (some 40) (bl_ 13 255) HT_ ?_
              refine pa_ 8 (some 48) (bl_ 13 511) HT_ ?_
              refine pa_ 9 (some 49) (bl_ 13 1023) HT_ ?_
              refine oa_ 10 (some 9) (bl_ 13 2047) HT_ fun K hK => ?_
              refine bs2_ #[.int .u64 0, .int .u64 0] 26 ?_
              intro gb463 hg w112 BK463 hb
              have GW463 := bz_ w hg
              have GE463 := GW463
              have NB448_463 := bn_ BK448 hg
              have NB463_448 := bm_ BK448 hg
              have NB457_463 := bn_ BK457 hg
              have NB463_457 := bm_ BK457 hg
              replace BK448 := bb_ BK448 hb
              replace BK457 := bb_ BK457 hb
              replace HB := bs_ w hb
              clear hb hg
              refine hK.out _ _ (cc6_ BK448) (fun hHeld => ?_)
              clear hK K
              refine nm_ (some 9) ?_
              exact no_ (hCont (gb463) _ ⟨hHeld, (bq_ BK448), (bq_ BK457), (bq_ BK463), GW463.out, GE463.out, NB448_463.out, NB463_448.out, NB457_463.out, NB463_457.out, bh_⟩)
             ·refine bs2_ #[.int .u64 0, .int .u64 0] 26 ?_
              intro gb463 hg w111 BK463 hb
              have GW463 := bz_ w hg
              have GE463 := GW463
              have NB448_463 := bn_ BK448 hg
              have NB463_448 := bm_ BK448 hg
              have NB457_463 := bn_ BK457 hg
              have NB463_457 := bm_ BK457 hg
              replace BK448 := bb_ BK448 hb
              replace BK457 := bb_ BK457 hb
              replace HB := bs_ w hb
              clear hb hg
              refine hK.out _ _ (cc6_ BK448) (fun hHeld => ?_)
              clear hK K
              refine nm_ (some 9) ?_
              refine oa_ 6 (some 47) (bl_ 13 1151) HT_ fun K hK => ?_
              refine goesB_ Try.func48 #[.agg #[.int .u64 a0_3, .int .u64 a0_4], .agg #[.int .u64 t458, .int .u64 t459]] ?_
              with_reducible refine (wide_Add.calls a0_3 a0_4 t458 t459 t460 t461 t462 _ A21.out).mono ?_
              rintro e w112 ⟨rfl, hb⟩
              refine ⟨_, rfl, ?_⟩
              replace BK448 := bb_ BK448 hb
              replace BK457 := bb_ BK457 hb
              replace BK463 := bb_ BK463 hb
              replace HB := bs_ w hb
              clear hb
              refine hK.out _ _ (cc6_ BK448) (fun hHeld => ?_)
              clear hK K
              refine nm_ (some 47) ?_
              refine pa_ 7 (some 40) (bl_ 13 1279) HT_ ?_
              refine pa_ 8 (some 48) (bl_ 13 1535) HT_ ?_
              refine pa_ 9 (some 49) (bl_ 13 2047) HT_ ?_
              exact no_ (hCont (gb463) _ ⟨hHeld, (bq_ BK448), (bq_ BK457), (bq_ BK463), GW463.out, GE463.out, NB448_463.out, NB463_448.out, NB457_463.out, NB463_457.out, bh_⟩)
            ·refine bs2_ #[.int .u64 0, .int .u64 0] 26 ?_
             intro gb463 hg w110 BK463 hb
             have GW463 := bz_ w hg
             have GE463 := GW463
             have NB448_463 := bn_ BK448 hg
             have NB463_448 := bm_ BK448 hg
             have NB457_463 := bn_ BK457 hg
             have NB463_457 := bm_ BK457 hg
             replace BK448 := bb_ BK448 hb
             replace BK457 := bb_ BK457 hb
             replace HB := bs_ w hb
             clear hb hg
             refine hK.out _ _ (cc6_ BK448) (fun hHeld => ?_)
             clear hK K
             refine nm_ (some 9) ?_
             refine oa_ 5 (some 46) (bl_ 13 1087) HT_ fun K hK => ?_
             refine goesB_ Try.func36 #[.agg #[.int .i64 a0_0, .int .i64 a0_1, .int .i64 a0_2], .int .i64 a1] ?_
             with_reducible refine (gcra_tokens.calls a0_0 a0_1 a0_2 a1 t458 t459 _ A20.out).mono ?_
             rintro e w111 ⟨rfl, hb⟩
             refine ⟨_, rfl, ?_⟩
             replace BK448 := bb_ BK448 hb
             replace BK457 := bb_ BK457 hb
             replace BK463 := bb_ BK463 hb
             replace HB := bs_ w hb
             clear hb
             refine hK.out _ _ (cc6_ BK448) (fun hHeld => ?_)
             clear hK K
             refine nm_ (some 46) ?_
             refine oa_ 6 (some 47) (bl_ 13 1151) HT_ fun K hK => ?_
             refine goesB_ Try.func48 #[.agg #[.int .u64 a0_3, .int .u64 a0_4], .agg #[.int .u64 t458, .int .u64 t459]] ?_
             with_reducible refine (wide_Add.calls a0_3 a0_4 t458 t459 t460 t461 t462 _ A21.out).mono ?_
             rintro e w112 ⟨rfl, hb⟩
             refine ⟨_, rfl, ?_⟩
             replace BK448 := bb_ BK448 hb
             replace BK457 := bb_ BK457 hb
             replace BK463 := bb_ BK463 hb
             replace HB := bs_ w hb
             clear hb
             refine hK.out _ _ (cc6_ BK448) (fun hHeld => ?_)
             clear hK K
             refine nm_ (some 47) ?_
             refine pa_ 7 (some 40) (bl_ 13 1279) HT_ ?_
             refine pa_ 8 (some 48) (bl_ 13 1535) HT_ ?_
             refine pa_ 9 (some 49) (bl_ 13 2047) HT_ ?_
             exact no_ (hCont (gb463) _ ⟨hHeld, (bq_ BK448), (bq_ BK457), (bq_ BK463), GW463.out, GE463.out, NB448_463.out, NB463_448.out, NB457_463.out, NB463_457.out, bh_⟩)
           rintro gb463 w113 ⟨hS_, h0_, h1_, h2_, h3_, h4_, h5_, h6_, h7_, h8_, h9_⟩
           have BK463 := Aside0.mk h2_
           have GW463 := Aside0.mk h3_
           have GE463 := Aside0.mk h4_
           have NB448_463 := Aside0.mk h5_
           have NB463_448 := Aside0.mk h6_
           have NB457_463 := Aside0.mk h7_
           have NB463_457 := Aside0.mk h8_
           replace BK448 := Aside0.mk h0_
           replace BK457 := Aside0.mk h1_
           replace HB := Aside0.mk h9_
           clear h0_ h1_ h2_ h3_ h4_ h5_ h6_ h7_ h8_ h9_
           have hHeld := hS_
           refine nq_ ?_
           refine oa_ 11 none (bl_ 13 4095) HT_ fun K hK => ?_
           have hs114 : w113.cell? ⟨gb463, 0, none⟩ = some (.int .u64 0) := (blk_cell BK463.out 0).trans rfl
           have hfs114 := blk_frozen BK463.out 0
           have hns114_0 := NB448_463.out
           have hns114_1 := NB457_463.out
           have hms114_0 := NB463_448.out
           have hms114_1 := NB463_457.out
           have hs115 : w113.cell? ⟨gb463, 1, none⟩ = some (.int .u64 0) := (blk_cell BK463.out 1).trans rfl
           have hfs115 := blk_frozen BK463.out 1
           have hns115_0 := NB448_463.out
           have hns115_1 := NB457_463.out
           have hms115_0 := NB463_448.out
           have hms115_1 := NB463_457.out
           refine sk_ ?_
           refine hK.out _ _ (cf6_ hHeld) (fun hHeld => ?_)
           clear hK K
           refine pa_ 12 (some 10) (bl_ 13 8191) HT_ ?_
           refine done_ (done_of HT_.out (by kernel_rfl)) ?_
           replace hn448_457 := NB448_457.out
           replace hn457_448 := NB457_448.out
           replace hn448_463 := NB448_463.out
           replace hn463_448 := NB463_448.out
           replace hc448 := ce6_ BK448
           try go_wp2_with (first | ((with_reducible refine gate_callee (f := 35) rfl ?_); (try refine ug_ (by rfl) ?_); refine goesA_ (some 58) Try.func35 #[.agg #[.int .i64 a0_0, .int .i64 a0_1, .int .i64 a0_2], .int .u64 a0_5] ?_; (with_reducible refine (gcra_end.calls a0_0 a0_1 a0_2 a0_5 t464 t465 t466 _ A23.out).mono ?_); rintro e w119 ⟨rfl, hb⟩; refine ⟨_, rfl, ?_⟩; replace BK448 := bf_ BK448 hb; replace BK457 := bf_ BK457 hb; replace BK463 := Aside0.mk (blk_below (g := gb463) (o := .cells #[.int .u64 t460, .int .u64 t461] 26 (0, 0)) (bp2_ (bq_ BK463)) hb); replace HB := bs_ w hb; clear hb) | ((with_reducible refine gate_dst (N := 11) rfl ?_); (try refine ug_ (by rfl) ?_); refine bx_ #[.int .u64 0, .int .u64 0] 26 ?_; intro gb467 hg w120 BK467 hb; have GW467 := bz_ w hg; have GE467 := GW467; have NB448_467 := bn_ BK448 hg; have NB467_448 := bm_ BK448 hg; have NB457_467 := bn_ BK457 hg; have NB467_457 := bm_ BK457 hg; have NB463_467 := bn_ BK463 hg; have NB467_463 := bm_ BK463 hg; replace BK448 := bb_ BK448 hb; replace BK457 := bb_ BK457 hb; replace BK463 := bb_ BK463 hb; replace HB := bs_ w hb; clear hb hg; replace hn467_448 := NB467_448.out; replace hn448_467 := NB448_467.out; replace hn467_457 := NB467_457.out; replace hn457_467 := NB457_467.out; replace hn467_463 := NB467_463.out; replace hn463_467 := NB463_467.out; replace hc467 := ce2_ BK467; replace hn463_457 := NB463_457.out; replace hn457_463 := NB457_463.out; replace hc463 := ce2_ BK463) | ((with_reducible refine gate_callee (f := 38) rfl ?_); (try refine ug_ (by rfl) ?_); refine goesA_ (some 67) Try.func38 #[.agg #[.int .u64 t460, .int .u64 t461], .agg #[.int .u64 t464, .int .u64 t465]] ?_; (with_reducible refine (wide_Sub.calls t460 t461 t464 t465 t468 t469 t470 _ A25.out).mono ?_); rintro e w127 ⟨rfl, hb⟩; refine ⟨_, rfl, ?_⟩; replace BK448 := bf_ BK448 hb; replace BK457 := bf_ BK457 hb; replace BK463 := bf_ BK463 hb; replace BK467 := Aside0.mk (blk_below (g := gb467) (o := .cells #[.int .u64 t464, .int .u64 t465] 26 (0, 0)) (bp2_ (bq_ BK467)) hb); replace HB := bs_ w hb; clear hb) | ((with_reducible refine gate_dst (N := 12) rfl ?_); (try refine ug_ (by rfl) ?_); refine bx_ #[.int .u64 0, .int .u64 0] 26 ?_; intro gb471 hg w128 BK471 hb; have GW471 := bz_ w hg; have GE471 := GW471; have NB448_471 := bn_ BK448 hg; have NB471_448 := bm_ BK448 hg; have NB457_471 := bn_ BK457 hg; have NB471_457 := bm_ BK457 hg; have NB463_471 := bn_ BK463 hg; have NB471_463 := bm_ BK463 hg; have NB467_471 := bn_ BK467 hg; have NB471_467 := bm_ BK467 hg; replace BK448 := bb_ BK448 hb; replace BK457 := bb_ BK457 hb; replace BK463 := bb_ BK463 hb; replace BK467 := bb_ BK467 hb; replace HB := bs_ w hb; clear hb hg; replace hn471_448 := NB471_448.out; replace hn448_471 := NB448_471.out; replace hn471_457 := NB471_457.out; replace hn457_471 := NB457_471.out; replace hn471_463 := NB471_463.out; replace hn463_471 := NB463_471.out; replace hn471_467 := NB471_467.out; replace hn467_471 := NB467_471.out; replace hc471 := ce2_ BK471; replace hc448 := ce6_ BK448) | ((with_reducible refine gate_callee (f := 51) rfl ?_); (try refine ug_ (by rfl) ?_); refine goesA_ (some 79) Try.func51 #[.agg #[.int .u64 t468, .int .u64 t469], .int .u64 (IntKind.u64.wrap (a0_1))] ?_; (with_reducible refine (wide_Up.calls kj12 t468 t469 (IntKind.u64.wrap (a0_1)) t472 t473 t474 _ A27.out).mono ?_); rintro e w135 ⟨rfl, hb⟩; refine ⟨_, rfl, ?_⟩; replace BK448 := bf_ BK448 hb; replace BK457 := bf_ BK457 hb; replace BK463 := bf_ BK463 hb; replace BK467 := bf_ BK467 hb; replace BK471 := Aside0.mk (blk_below (g := gb471) (o := .cells #[.int .u64 t468, .int .u64 t469] 26 (0, 0)) (bp2_ (bq_ BK471)) hb); replace HB := bs_ w hb; clear hb) | ((with_reducible refine gate_dst (N := 13) rfl ?_); (try refine ug_ (by rfl) ?_); refine bx_ #[.int .u64 0, .int .u64 0] 26 ?_; intro gb475 hg w136 BK475 hb; have GW475 := bz_ w hg; have GE475 := GW475; have NB448_475 := bn_ BK448 hg; have NB475_448 := bm_ BK448 hg; have NB457_475 := bn_ BK457 hg; have NB475_457 := bm_ BK457 hg; have NB463_475 := bn_ BK463 hg; have NB475_463 := bm_ BK463 hg; have NB467_475 := bn_ BK467 hg; have NB475_467 := bm_ BK467 hg; have NB471_475 := bn_ BK471 hg; have NB475_471 := bm_ BK471 hg; replace BK448 := bb_ BK448 hb; replace BK457 := bb_ BK457 hb; replace BK463 := bb_ BK463 hb; replace BK467 := bb_ BK467 hb; replace BK471 := bb_ BK471 hb; replace HB := bs_ w hb; clear hb hg; replace hn475_448 := NB475_448.out; replace hn448_475 := NB448_475.out; replace hn475_457 := NB475_457.out; replace hn457_475 := NB457_475.out; replace hn475_463 := NB475_463.out; replace hn463_475 := NB463_475.out; replace hn475_467 := NB475_467.out; replace hn467_475 := NB467_475.out; replace hn475_471 := NB475_471.out; replace hn471_475 := NB471_475.out; replace hc475 := ce2_ BK475))
           go_ret2
           exact fi_
         ·rw [if_neg c26] at H
          have c26b0 : (t470 == 0) = false := beq_eq_false_iff_ne.mpr c26
          have c26b1 : (t470 != 0) = true := bne_iff_ne.mpr c26
          simp only [Option.some.injEq, Prod.mk.injEq] at H
          obtain ⟨rfl, rfl⟩ := H
          try go_wp2
          replace BK448 := Aside0.mk (blk_drew BK448.out)
          replace BK457 := Aside0.mk (blk_drew BK457.out)
          replace HB := Aside0.mk (below_drew1 HB.out)
          refine start_ (n := 13) (S := fun w' => w'.cell? ⟨gb448, 0, none⟩ = some (.int .i64 a0_0) ∧ w'.cell? ⟨gb448, 1, none⟩ = some (.int .i64 a0_1) ∧ w'.cell? ⟨gb448, 2, none⟩ = some (.int .i64 a0_2) ∧ w'.cell? ⟨gb448, 3, none⟩ = some (.int .u64 a0_3) ∧ w'.cell? ⟨gb448, 4, none⟩ = some (.int .u64 a0_4) ∧ w'.cell? ⟨gb448, 5, none⟩ = some (.int .u64 a0_5)) (ds := []) (bl_ 13 0) (by kernel_rfl) rfl (by kernel_rfl) (cc6_ BK448) (fun hHeld => ?_); refine with_tabW gcra_Wait.tab6 gcra_Wait.bits6 (fun HT_ HW_ => ?_)
          generalize wc.drew = w143 at BK448 BK457 HB hHeld ⊢
          refine pa_ 0 (some 41) (bl_ 13 1) HT_ ?_
          refine pa_ 2 (some 43) (bl_ 13 5) HT_ ?_
          refine pa_ 4 (some 45) (bl_ 13 21) HT_ ?_
          refine ta_ 1 (some 42) (bl_ 13 23) HT_ HW_ hHeld ?_
          refine ta_ 3 (some 44) (bl_ 13 31) HT_ HW_ hHeld ?_
          refine join_ (σ := Nat) 2 (bl_ 13 2047) (fun s_ => [(46, .agg #[.int .u64 t458, .int .u64 t459]), (47, .tuple #[.agg #[.int .u64 t460, .int .u64 t461], .int .i64 t462]), (9, .pointer (some ⟨s_, 0, none⟩)), (40, .tuple #[.agg #[.int .u64 t460, .int .u64 t461], .int .i64 t462]), (48, .agg #[.int .u64 t460, .int .u64 t461]), (49, .int .i64 t462)]) (fun s_ w' => (w'.cell? ⟨gb448, 0, none⟩ = some (.int .i64 a0_0) ∧ w'.cell? ⟨gb448, 1, none⟩ = some (.int .i64 a0_1) ∧ w'.cell? ⟨gb448, 2, none⟩ = some (.int .i64 a0_2) ∧ w'.cell? ⟨gb448, 3, none⟩ = some (.int .u64 a0_3) ∧ w'.cell? ⟨gb448, 4, none⟩ = some (.int .u64 a0_4) ∧ w'.cell? ⟨gb448, 5, none⟩ = some (.int .u64 a0_5)) ∧ (w'.heap[gb448]? = some (.cells #[.int .i64 a0_0, .int .i64 a0_1, .int .i64 a0_2, .int .u64 a0_3, .int .u64 a0_4, .int .u64 a0_5] 28 (0, 0))) ∧ (w'.heap[gb457]? = some (.cells #[.int .i64 t449, .int .i64 t450, .int .i64 t451, .int .u64 t452, .int .u64 t453, .int .u64 t454] 28 (0, 0))) ∧ (w'.heap[s_]? = some (.cells #[.int .u64 0, .int .u64 0] 26 (0, 0))) ∧ (w.heap.size ≤ s_) ∧ (w.heap.size ≤ s_) ∧ (gb448 ≠ s_) ∧ (s_ ≠ gb448) ∧ (gb457 ≠ s_) ∧ (s_ ≠ gb457) ∧ (Below w.heap.size w w')) ?_ ?_
          rotate_left
          ·intro hCont
           refine tw_ 5 10 (some 46) (some 9) (bl_ 13 63) (bl_ 13 1055) HT_ (fun K hK => ?_) fun K hK => ?_
           ·refine goesB_ Try.func36 #[.agg #[.int .i64 a0_0, .int .i64 a0_1, .int .i64 a0_2], .int .i64 a1] ?_
            with_reducible refine (gcra_tokens.calls a0_0 a0_1 a0_2 a1 t458 t459 _ A20.out).mono ?_
            rintro e w144 ⟨rfl, hb⟩
            refine ⟨_, rfl, ?_⟩
            replace BK448 := bb_ BK448 hb
            replace BK457 := bb_ BK457 hb
            replace HB := bs_ w hb
            clear hb
            refine hK.out _ _ (cc6_ BK448) (fun hHeld => ?_)
            clear hK K
            refine nm_ (some 46) ?_
            refine tw_ 6 10 (some 47) (some 9) (bl_ 13 127) (bl_ 13 1087) HT_ (fun K hK => ?_) fun K hK => ?_
            ·refine goesB_ Try.func48 #[.agg #[.int .u64 a0_3, .int .u64 a0_4], .agg #[.int .u64 t458, .int .u64 t459]] ?_
             with_reducible refine (wide_Add.calls a0_3 a0_4 t458 t459 t460 t461 t462 _ A21.out).mono ?_
             rintro e w145 ⟨rfl, hb⟩
             refine ⟨_, rfl, ?_⟩
             replace BK448 := bb_ BK448 hb
             replace BK457 := bb_ BK457 hb
             replace HB := bs_ w hb
             clear hb
             refine hK.out _ _ (cc6_ BK448) (fun hHeld => ?_)
             clear hK K
             refine nm_ (some 47) ?_
             refine pa_ 7 (some 40) (bl_ 13 255) HT_ ?_
             refine pa_ 8 (some 48) (bl_ 13 511) HT_ ?_
             refine pa_ 9 (some 49) (bl_ 13 1023) HT_ ?_
             refine oa_ 10 (some 9) (bl_ 13 2047) HT_ fun K hK => ?_
             refine bs2_ #[.int .u64 0, .int .u64 0] 26 ?_
             intro gb463 hg w146 BK463 hb
             have GW463 := bz_ w hg
             have GE463 := GW463
             have NB448_463 := bn_ BK448 hg
             have NB463_448 := bm_ BK448 hg
             have NB457_463 := bn_ BK457 hg
             have NB463_457 := bm_ BK457 hg
             replace BK448 := bb_ BK448 hb
             replace BK457 := bb_ BK457 hb
             replace HB := bs_ w hb
             clear hb hg
             refine hK.out _ _ (cc6_ BK448) (fun hHeld => ?_)
             clear hK K
             refine nm_ (some 9) ?_
             exact no_ (hCont (gb463) _ ⟨hHeld, (bq_ BK448), (bq_ BK457), (bq_ BK463), GW463.out, GE463.out, NB448_463.out, NB463_448.out, NB457_463.out, NB463_457.out, bh_⟩)
            ·refine bs2_ #[.int .u64 0, .int .u64 0] 26 ?_
             intro gb463 hg w145 BK463 hb
             have GW463 := bz_ w hg
             have GE463 := GW463
             have NB448_463 := bn_ BK448 hg
             have NB463_448 := bm_ BK448 hg
             have NB457_463 := bn_ BK457 hg
             have NB463_457 := bm_ BK457 hg
             replace BK448 := bb_ BK448 hb
             replace BK457 := bb_ BK457 hb
             replace HB := bs_ w hb
             clear hb hg
             refine hK.out _ _ (cc6_ BK448) (fun hHeld => ?_)
             clear hK K
             refine nm_ (some 9) ?_
             refine oa_ 6 (some 47) (bl_ 13 1151) HT_ fun K hK => ?_
             refine goesB_ Try.func48 #[.agg #[.int .u64 a0_3, .int .u64 a0_4], .agg #[.int .u64 t458, .int .u64 t459]] ?_
             with_reducible refine (wide_Add.calls a0_3 a0_4 t458 t459 t460 t461 t462 _ A21.out).mono ?_
             rintro e w146 ⟨rfl, hb⟩
             refine ⟨_, rfl, ?_⟩
             replace BK448 := bb_ BK448 hb
             replace BK457 := bb_ BK457 hb
             replace BK463 := bb_ BK463 hb
             replace HB := bs_ w hb
             clear hb
             refine hK.out _ _ (cc6_ BK448) (fun hHeld => ?_)
             clear hK K
             refine nm_ (some 47) ?_
             refine pa_ 7 (some 40) (bl_ 13 1279) HT_ ?_
             refine pa_ 8 (some 48) (bl_ 13 1535) HT_ ?_
             refine pa_ 9 (some 49) (bl_ 13 2047) HT_ ?_
             exact no_ (hCont (gb463) _ ⟨hHeld, (bq_ BK448), (bq_ BK457), (bq_ BK463), GW463.out, GE463.out, NB448_463.out, NB463_448.out, NB457_463.out, NB463_457.out, bh_⟩)
           ·refine bs2_ #[.int .u64 0, .int .u64 0] 26 ?_
            intro gb463 hg w144 BK463 hb
            have GW463 := bz_ w hg
            have GE463 := GW463
            have NB448_463 := bn_ BK448 hg
            have NB463_448 := bm_ BK448 hg
            have NB457_463 := bn_ BK457 hg
            have NB463_457 := bm_ BK457 hg
            replace BK448 := bb_ BK448 hb
            replace BK457 := bb_ BK457 hb
            replace HB := bs_ w hb
            clear hb hg
            refine hK.out _ _ (cc6_ BK448) (fun hHeld => ?_)
            clear hK K
            refine nm_ (some 9) ?_
            refine oa_ 5 (some 46) (bl_ 13 1087) HT_ fun K hK => ?_
            refine goesB_ Try.func36 #[.agg #[.int .i64 a0_0, .int .i64 a0_1, .int .i64 a0_2], .int .i64 a1] ?_
            with_reducible refine (gcra_tokens.calls a0_0 a0_1 a0_2 a1 t458 t459 _ A20.out).mono ?_
            rintro e w145 ⟨rfl, hb⟩
            refine ⟨_, rfl, ?_⟩
            replace BK448 := bb_ BK448 hb
            replace BK457 := bb_ BK457 hb
            replace BK463 := bb_ BK463 hb
            replace HB := bs_ w hb
            clear hb
            refine hK.out _ _ (cc6_ BK448) (fun hHeld => ?_)
            clear hK K
            refine nm_ (some 46) ?_
            refine oa_ 6 (some 47) (bl_ 13 1151) HT_ fun K hK => ?_
            refine goesB_ Try.func48 #[.agg #[.int .u64 a0_3, .int .u64 a0_4], .agg #[.int .u64 t458, .int .u64 t459]] ?_
            with_reducible refine (wide_Add.calls a0_3 a0_4 t458 t459 t460 t461 t462 _ A21.out).mono ?_
            rintro e w146 ⟨rfl, hb⟩
            refine ⟨_, rfl, ?_⟩
            replace BK448 := bb_ BK448 hb
            replace BK457 := bb_ BK457 hb
            replace BK463 := bb_ BK463 hb
            replace HB := bs_ w hb
            clear hb
            refine hK.out _ _ (cc6_ BK448) (fun hHeld => ?_)
            clear hK K
            refine nm_ (some 47) ?_
            refine pa_ 7 (some 40) (bl_ 13 1279) HT_ ?_
            refine pa_ 8 (some 48) (bl_ 13 1535) HT_ ?_
            refine pa_ 9 (some 49) (bl_ 13 2047) HT_ ?_
            exact no_ (hCont (gb463) _ ⟨hHeld, (bq_ BK448), (bq_ BK457), (bq_ BK463), GW463.out, GE463.out, NB448_463.out, NB463_448.out, NB457_463.out, NB463_457.out, bh_⟩)
          rintro gb463 w147 ⟨hS_, h0_, h1_, h2_, h3_, h4_, h5_, h6_, h7_, h8_, h9_⟩
          have BK463 := Aside0.mk h2_
          have GW463 := Aside0.mk h3_
          have GE463 := Aside0.mk h4_
          have NB448_463 := Aside0.mk h5_
          have NB463_448 := Aside0.mk h6_
          have NB457_463 := Aside0.mk h7_
          have NB463_457 := Aside0.mk h8_
          replace BK448 := Aside0.mk h0_
          replace BK457 := Aside0.mk h1_
          replace HB := Aside0.mk h9_
          clear h0_ h1_ h2_ h3_ h4_ h5_ h6_ h7_ h8_ h9_
          have hHeld := hS_
          refine nq_ ?_
          refine oa_ 11 none (bl_ 13 4095) HT_ fun K hK => ?_
          have hs148 : w147.cell? ⟨gb463, 0, none⟩ = some (.int .u64 0) := (blk_cell BK463.out 0).trans rfl
          have hfs148 := blk_frozen BK463.out 0
          have hns148_0 := NB448_463.out
          have hns148_1 := NB457_463.out
          have hms148_0 := NB463_448.out
          have hms148_1 := NB463_457.out
          have hs149 : w147.cell? ⟨gb463, 1, none⟩ = some (.int .u64 0) := (blk_cell BK463.out 1).trans rfl
          have hfs149 := blk_frozen BK463.out 1
          have hns149_0 := NB448_463.out
          have hns149_1 := NB457_463.out
          have hms149_0 := NB463_448.out
          have hms149_1 := NB463_457.out
          refine sk_ ?_
          refine hK.out _ _ (cf6_ hHeld) (fun hHeld => ?_)
          clear hK K
          refine pa_ 12 (some 10) (bl_ 13 8191) HT_ ?_
          refine done_ (done_of HT_.out (by kernel_rfl)) ?_
          replace hn448_457 := NB448_457.out
          replace hn457_448 := NB457_448.out
          replace hn448_463 := NB448_463.out
          replace hn463_448 := NB463_448.out
          replace hc448 := ce6_ BK448
          try go_wp2_with (first | ((with_reducible refine gate_callee (f := 35) rfl ?_); (try refine ug_ (by rfl) ?_); refine goesA_ (some 58) Try.func35 #[.agg #[.int .i64 a0_0, .int .i64 a0_1, .int .i64 a0_2], .int .u64 a0_5] ?_; (with_reducible refine (gcra_end.calls a0_0 a0_1 a0_2 a0_5 t464 t465 t466 _ A23.out).mono ?_); rintro e w153 ⟨rfl, hb⟩; refine ⟨_, rfl, ?_⟩; replace BK448 := bf_ BK448 hb; replace BK457 := bf_ BK457 hb; replace BK463 := Aside0.mk (blk_below (g := gb463) (o := .cells #[.int .u64 t460, .int .u64 t461] 26 (0, 0)) (bp2_ (bq_ BK463)) hb); replace HB := bs_ w hb; clear hb) | ((with_reducible refine gate_dst (N := 11) rfl ?_); (try refine ug_ (by rfl) ?_); refine bx_ #[.int .u64 0, .int .u64 0] 26 ?_; intro gb467 hg w154 BK467 hb; have GW467 := bz_ w hg; have GE467 := GW467; have NB448_467 := bn_ BK448 hg; have NB467_448 := bm_ BK448 hg; have NB457_467 := bn_ BK457 hg; have NB467_457 := bm_ BK457 hg; have NB463_467 := bn_ BK463 hg; have NB467_463 := bm_ BK463 hg; replace BK448 := bb_ BK448 hb; replace BK457 := bb_ BK457 hb; replace BK463 := bb_ BK463 hb; replace HB := bs_ w hb; clear hb hg; replace hn467_448 := NB467_448.out; replace hn448_467 := NB448_467.out; replace hn467_457 := NB467_457.out; replace hn457_467 := NB457_467.out; replace hn467_463 := NB467_463.out; replace hn463_467 := NB463_467.out; replace hc467 := ce2_ BK467; replace hn463_457 := NB463_457.out; replace hn457_463 := NB457_463.out; replace hc463 := ce2_ BK463) | ((with_reducible refine gate_callee (f := 38) rfl ?_); (try refine ug_ (by rfl) ?_); refine goesA_ (some 67) Try.func38 #[.agg #[.int .u64 t460, .int .u64 t461], .agg #[.int .u64 t464, .int .u64 t465]] ?_; (with_reducible refine (wide_Sub.calls t460 t461 t464 t465 t468 t469 t470 _ A25.out).mono ?_); rintro e w161 ⟨rfl, hb⟩; refine ⟨_, rfl, ?_⟩; replace BK448 := bf_ BK448 hb; replace BK457 := bf_ BK457 hb; replace BK463 := bf_ BK463 hb; replace BK467 := Aside0.mk (blk_below (g := gb467) (o := .cells #[.int .u64 t464, .int .u64 t465] 26 (0, 0)) (bp2_ (bq_ BK467)) hb); replace HB := bs_ w hb; clear hb) | ((with_reducible refine gate_dst (N := 12) rfl ?_); (try refine ug_ (by rfl) ?_); refine bx_ #[.int .u64 0, .int .u64 0] 26 ?_; intro gb471 hg w162 BK471 hb; have GW471 := bz_ w hg; have GE471 := GW471; have NB448_471 := bn_ BK448 hg; have NB471_448 := bm_ BK448 hg; have NB457_471 := bn_ BK457 hg; have NB471_457 := bm_ BK457 hg; have NB463_471 := bn_ BK463 hg; have NB471_463 := bm_ BK463 hg; have NB467_471 := bn_ BK467 hg; have NB471_467 := bm_ BK467 hg; replace BK448 := bb_ BK448 hb; replace BK457 := bb_ BK457 hb; replace BK463 := bb_ BK463 hb; replace BK467 := bb_ BK467 hb; replace HB := bs_ w hb; clear hb hg; replace hn471_448 := NB471_448.out; replace hn448_471 := NB448_471.out; replace hn471_457 := NB471_457.out; replace hn457_471 := NB457_471.out; replace hn471_463 := NB471_463.out; replace hn463_471 := NB463_471.out; replace hn471_467 := NB471_467.out; replace hn467_471 := NB467_471.out; replace hc471 := ce2_ BK471))
          go_ret2
          exact fi_
        ·rw [if_neg c24] at H
         have c24b0 : (t466 == 0) = false := beq_eq_false_iff_ne.mpr c24
         have c24b1 : (t466 != 0) = true := bne_iff_ne.mpr c24
         simp only [Option.some.injEq, Prod.mk.injEq] at H
         obtain ⟨rfl, rfl⟩ := H
         try go_wp2
         replace BK448 := Aside0.mk (blk_drew BK448.out)
         replace BK457 := Aside0.mk (blk_drew BK457.out)
         replace HB := Aside0.mk (below_drew1 HB.out)
         refine start_ (n := 13) (S := fun w' => w'.cell? ⟨gb448, 0, none⟩ = some (.int .i64 a0_0) ∧ w'.cell? ⟨gb448, 1, none⟩ = some (.int .i64 a0_1) ∧ w'.cell? ⟨gb448, 2, none⟩ = some (.int .i64 a0_2) ∧ w'.cell? ⟨gb448, 3, none⟩ = some (.int .u64 a0_3) ∧ w'.cell? ⟨gb448, 4, none⟩ = some (.int .u64 a0_4) ∧ w'.cell? ⟨gb448, 5, none⟩ = some (.int .u64 a0_5)) (ds := []) (bl_ 13 0) (by kernel_rfl) rfl (by kernel_rfl) (cc6_ BK448) (fun hHeld => ?_); refine with_tabW gcra_Wait.tab6 gcra_Wait.bits6 (fun HT_ HW_ => ?_)
         generalize wc.drew = w168 at BK448 BK457 HB hHeld ⊢
         refine pa_ 0 (some 41) (bl_ 13 1) HT_ ?_
         refine pa_ 2 (some 43) (bl_ 13 5) HT_ ?_
         refine pa_ 4 (some 45) (bl_ 13 21) HT_ ?_
         refine ta_ 1 (some 42) (bl_ 13 23) HT_ HW_ hHeld ?_
         refine ta_ 3 (some 44) (bl_ 13 31) HT_ HW_ hHeld ?_
         refine join_ (σ := Nat) 2 (bl_ 13 2047) (fun s_ => [(46, .agg #[.int .u64 t458, .int .u64 t459]), (47, .tuple #[.agg #[.int .u64 t460, .int .u64 t461], .int .i64 t462]), (9, .pointer (some ⟨s_, 0, none⟩)), (40, .tuple #[.agg #[.int .u64 t460, .int .u64 t461], .int .i64 t462]), (48, .agg #[.int .u64 t460, .int .u64 t461]), (49, .int .i64 t462)]) (fun s_ w' => (w'.cell? ⟨gb448, 0, none⟩ = some (.int .i64 a0_0) ∧ w'.cell? ⟨gb448, 1, none⟩ = some (.int .i64 a0_1) ∧ w'.cell? ⟨gb448, 2, none⟩ = some (.int .i64 a0_2) ∧ w'.cell? ⟨gb448, 3, none⟩ = some (.int .u64 a0_3) ∧ w'.cell? ⟨gb448, 4, none⟩ = some (.int .u64 a0_4) ∧ w'.cell? ⟨gb448, 5, none⟩ = some (.int .u64 a0_5)) ∧ (w'.heap[gb448]? = some (.cells #[.int .i64 a0_0, .int .i64 a0_1, .int .i64 a0_2, .int .u64 a0_3, .int .u64 a0_4, .int .u64 a0_5] 28 (0, 0))) ∧ (w'.heap[gb457]? = some (.cells #[.int .i64 t449, .int .i64 t450, .int .i64 t451, .int .u64 t452, .int .u64 t453, .int .u64 t454] 28 (0, 0))) ∧ (w'.heap[s_]? = some (.cells #[.int .u64 0, .int .u64 0] 26 (0, 0))) ∧ (w.heap.size ≤ s_) ∧ (w.heap.size ≤ s_) ∧ (gb448 ≠ s_) ∧ (s_ ≠ gb448) ∧ (gb457 ≠ s_) ∧ (s_ ≠ gb457) ∧ (Below w.heap.size w w')) ?_ ?_
         rotate_left
         ·intro hCont
          refine tw_ 5 10 (some 46) (some 9) (bl_ 13 63) (bl_ 13 1055) HT_ (fun K hK => ?_) fun K hK => ?_
          ·refine goesB_ Try.func36 #[.agg #[.int .i64 a0_0, .int .i64 a0_1, .int .i64 a0_2], .int .i64 a1] ?_
           with_reducible refine (gcra_tokens.calls a0_0 a0_1 a0_2 a1 t458 t459 _ A20.out).mono ?_
           rintro e w169 ⟨rfl, hb⟩
           refine ⟨_, rfl, ?_⟩
           replace BK448 := bb_ BK448 hb
           replace BK457 := bb_ BK457 hb
           replace HB := bs_ w hb
           clear hb
           refine hK.out _ _ (cc6_ BK448) (fun hHeld => ?_)
           clear hK K
           refine nm_ (some 46) ?_
           refine tw_ 6 10 (some 47) (some 9) (bl_ 13 127) (bl_ 13 1087) HT_ (fun K hK => ?_) fun K hK => ?_
           ·refine goesB_ Try.func48 #[.agg #[.int .u64 a0_3, .int .u64 a0_4], .agg #[.int .u64 t458, .int .u64 t459]] ?_
            with_reducible refine (wide_Add.calls a0_3 a0_4 t458 t459 t460 t461 t462 _ A21.out).mono ?_
            rintro e w170 ⟨rfl, hb⟩
            refine ⟨_, rfl, ?_⟩
            replace BK448 := bb_ BK448 hb
            replace BK457 := bb_ BK457 hb
            replace HB := bs_ w hb
            clear hb
            refine hK.out _ _ (cc6_ BK448) (fun hHeld => ?_)
            clear hK K
            refine nm_ (some 47) ?_
            refine pa_ 7 (some 40) (bl_ 13 255) HT_ ?_
            refine pa_ 8 (some 48) (bl_ 13 511) HT_ ?_
            refine pa_ 9 (some 49) (bl_ 13 1023) HT_ ?_
            refine oa_ 10 (some 9) (bl_ 13 2047) HT_ fun K hK => ?_
            refine bs2_ #[.int .u64 0, .int .u64 0] 26 ?_
            intro gb463 hg w171 BK463 hb
            have GW463 := bz_ w hg
            have GE463 := GW463
            have NB448_463 := bn_ BK448 hg
            have NB463_448 := bm_ BK448 hg
            have NB457_463 := bn_ BK457 hg
            have NB463_457 := bm_ BK457 hg
            replace BK448 := bb_ BK448 hb
            replace BK457 := bb_ BK457 hb
            replace HB := bs_ w hb
            clear hb hg
            refine hK.out _ _ (cc6_ BK448) (fun hHeld => ?_)
            clear hK K
            refine nm_ (some 9) ?_
            exact no_ (hCont (gb463) _ ⟨hHeld, (bq_ BK448), (bq_ BK457), (bq_ BK463), GW463.out, GE463.out, NB448_463.out, NB463_448.out, NB457_463.out, NB463_457.out, bh_⟩)
           ·refine bs2_ #[.int .u64 0, .int .u64 0] 26 ?_
            intro gb463 hg w170 BK463 hb
            have GW463 := bz_ w hg
            have GE463 := GW463
            have NB448_463 := bn_ BK448 hg
            have NB463_448 := bm_ BK448 hg
            have NB457_463 := bn_ BK457 hg
            have NB463_457 := bm_ BK457 hg
            replace BK448 := bb_ BK448 hb
            replace BK457 := bb_ BK457 hb
            replace HB := bs_ w hb
            clear hb hg
            refine hK.out _ _ (cc6_ BK448) (fun hHeld => ?_)
            clear hK K
            refine nm_ (some 9) ?_
            refine oa_ 6 (some 47) (bl_ 13 1151) HT_ fun K hK => ?_
            refine goesB_ Try.func48 #[.agg #[.int .u64 a0_3, .int .u64 a0_4], .agg #[.int .u64 t458, .int .u64 t459]] ?_
            with_reducible refine (wide_Add.calls a0_3 a0_4 t458 t459 t460 t461 t462 _ A21.out).mono ?_
            rintro e w171 ⟨rfl, hb⟩
            refine ⟨_, rfl, ?_⟩
            replace BK448 := bb_ BK448 hb
            replace BK457 := bb_ BK457 hb
            replace BK463 := bb_ BK463 hb
            replace HB := bs_ w hb
            clear hb
            refine hK.out _ _ (cc6_ BK448) (fun hHeld => ?_)
            clear hK K
            refine nm_ (some 47) ?_
            refine pa_ 7 (some 40) (bl_ 13 1279) HT_ ?_
            refine pa_ 8 (some 48) (bl_ 13 1535) HT_ ?_
            refine pa_ 9 (some 49) (bl_ 13 2047) HT_ ?_
            exact no_ (hCont (gb463) _ ⟨hHeld, (bq_ BK448), (bq_ BK457), (bq_ BK463), GW463.out, GE463.out, NB448_463.out, NB463_448.out, NB457_463.out, NB463_457.out, bh_⟩)
          ·refine bs2_ #[.int .u64 0, .int .u64 0] 26 ?_
           intro gb463 hg w169 BK463 hb
           have GW463 := bz_ w hg
           have GE463 := GW463
           have NB448_463 := bn_ BK448 hg
           have NB463_448 := bm_ BK448 hg
           have NB457_463 := bn_ BK457 hg
           have NB463_457 := bm_ BK457 hg
           replace BK448 := bb_ BK448 hb
           replace BK457 := bb_ BK457 hb
           replace HB := bs_ w hb
           clear hb hg
           refine hK.out _ _ (cc6_ BK448) (fun hHeld => ?_)
           clear hK K
           refine nm_ (some 9) ?_
           refine oa_ 5 (some 46) (bl_ 13 1087) HT_ fun K hK => ?_
           refine goesB_ Try.func36 #[.agg #[.int .i64 a0_0, .int .i64 a0_1, .int .i64 a0_2], .int .i64 a1] ?_
           with_reducible refine (gcra_tokens.calls a0_0 a0_1 a0_2 a1 t458 t459 _ A20.out).mono ?_
           rintro e w170 ⟨rfl, hb⟩
           refine ⟨_, rfl, ?_⟩
           replace BK448 := bb_ BK448 hb
           replace BK457 := bb_ BK457 hb
           replace BK463 := bb_ BK463 hb
           replace HB := bs_ w hb
           clear hb
           refine hK.out _ _ (cc6_ BK448) (fun hHeld => ?_)
           clear hK K
           refine nm_ (some 46) ?_
           refine oa_ 6 (some 47) (bl_ 13 1151) HT_ fun K hK => ?_
           refine goesB_ Try.func48 #[.agg #[.int .u64 a0_3, .int .u64 a0_4], .agg #[.int .u64 t458, .int .u64 t459]] ?_
           with_reducible refine (wide_Add.calls a0_3 a0_4 t458 t459 t460 t461 t462 _ A21.out).mono ?_
           rintro e w171 ⟨rfl, hb⟩
           refine ⟨_, rfl, ?_⟩
           replace BK448 := bb_ BK448 hb
           replace BK457 := bb_ BK457 hb
           replace BK463 := bb_ BK463 hb
           replace HB := bs_ w hb
           clear hb
           refine hK.out _ _ (cc6_ BK448) (fun hHeld => ?_)
           clear hK K
           refine nm_ (some 47) ?_
           refine pa_ 7 (some 40) (bl_ 13 1279) HT_ ?_
           refine pa_ 8 (some 48) (bl_ 13 1535) HT_ ?_
           refine pa_ 9 (some 49) (bl_ 13 2047) HT_ ?_
           exact no_ (hCont (gb463) _ ⟨hHeld, (bq_ BK448), (bq_ BK457), (bq_ BK463), GW463.out, GE463.out, NB448_463.out, NB463_448.out, NB457_463.out, NB463_457.out, bh_⟩)
         rintro gb463 w172 ⟨hS_, h0_, h1_, h2_, h3_, h4_, h5_, h6_, h7_, h8_, h9_⟩
         have BK463 := Aside0.mk h2_
         have GW463 := Aside0.mk h3_
         have GE463 := Aside0.mk h4_
         have NB448_463 := Aside0.mk h5_
         have NB463_448 := Aside0.mk h6_
         have NB457_463 := Aside0.mk h7_
         have NB463_457 := Aside0.mk h8_
         replace BK448 := Aside0.mk h0_
         replace BK457 := Aside0.mk h1_
         replace HB := Aside0.mk h9_
         clear h0_ h1_ h2_ h3_ h4_ h5_ h6_ h7_ h8_ h9_
         have hHeld := hS_
         refine nq_ ?_
         refine oa_ 11 none (bl_ 13 4095) HT_ fun K hK => ?_
         have hs173 : w172.cell? ⟨gb463, 0, none⟩ = some (.int .u64 0) := (blk_cell BK463.out 0).trans rfl
         have hfs173 := blk_frozen BK463.out 0
         have hns173_0 := NB448_463.out
         have hns173_1 := NB457_463.out
         have hms173_0 := NB463_448.out
         have hms173_1 := NB463_457.out
         have hs174 : w172.cell? ⟨gb463, 1, none⟩ = some (.int .u64 0) := (blk_cell BK463.out 1).trans rfl
         have hfs174 := blk_frozen BK463.out 1
         have hns174_0 := NB448_463.out
         have hns174_1 := NB457_463.out
         have hms174_0 := NB463_448.out
         have hms174_1 := NB463_457.out
         refine sk_ ?_
         refine hK.out _ _ (cf6_ hHeld) (fun hHeld => ?_)
         clear hK K
         refine pa_ 12 (some 10) (bl_ 13 8191) HT_ ?_
         refine done_ (done_of HT_.out (by kernel_rfl)) ?_
         replace hn448_457 := NB448_457.out
         replace hn457_448 := NB457_448.out
         replace hn448_463 := NB448_463.out
         replace hn463_448 := NB463_448.out
         replace hc448 := ce6_ BK448
         try go_wp2_with (first | ((with_reducible refine gate_callee (f := 35) rfl ?_); (try refine ug_ (by rfl) ?_); refine goesA_ (some 58) Try.func35 #[.agg #[.int .i64 a0_0, .int .i64 a0_1, .int .i64 a0_2], .int .u64 a0_5] ?_; (with_reducible refine (gcra_end.calls a0_0 a0_1 a0_2 a0_5 t464 t465 t466 _ A23.out).mono ?_); rintro e w178 ⟨rfl, hb⟩; refine ⟨_, rfl, ?_⟩; replace BK448 := bf_ BK448 hb; replace BK457 := bf_ BK457 hb; replace BK463 := Aside0.mk (blk_below (g := gb463) (o := .cells #[.int .u64 t460, .int .u64 t461] 26 (0, 0)) (bp2_ (bq_ BK463)) hb); replace HB := bs_ w hb; clear hb) | ((with_reducible refine gate_dst (N := 11) rfl ?_); (try refine ug_ (by rfl) ?_); refine bx_ #[.int .u64 0, .int .u64 0] 26 ?_; intro gb467 hg w179 BK467 hb; have GW467 := bz_ w hg; have GE467 := GW467; have NB448_467 := bn_ BK448 hg; have NB467_448 := bm_ BK448 hg; have NB457_467 := bn_ BK457 hg; have NB467_457 := bm_ BK457 hg; have NB463_467 := bn_ BK463 hg; have NB467_463 := bm_ BK463 hg; replace BK448 := bb_ BK448 hb; replace BK457 := bb_ BK457 hb; replace BK463 := bb_ BK463 hb; replace HB := bs_ w hb; clear hb hg; replace hn467_448 := NB467_448.out; replace hn448_467 := NB448_467.out; replace hn467_457 := NB467_457.out; replace hn457_467 := NB457_467.out; replace hn467_463 := NB467_463.out; replace hn463_467 := NB463_467.out; replace hc467 := ce2_ BK467))
         go_ret2
         exact fi_
       ·rw [if_neg c22] at H
        have c22b0 : (t462 == 0) = false := beq_eq_false_iff_ne.mpr c22
        have c22b1 : (t462 != 0) = true := bne_iff_ne.mpr c22
        simp only [Option.some.injEq, Prod.mk.injEq] at H
        obtain ⟨rfl, rfl⟩ := H
        try go_wp2
        replace BK448 := Aside0.mk (blk_drew BK448.out)
        replace BK457 := Aside0.mk (blk_drew BK457.out)
        replace HB := Aside0.mk (below_drew1 HB.out)
        refine start_ (n := 13) (S := fun w' => w'.cell? ⟨gb448, 0, none⟩ = some (.int .i64 a0_0) ∧ w'.cell? ⟨gb448, 1, none⟩ = some (.int .i64 a0_1) ∧ w'.cell? ⟨gb448, 2, none⟩ = some (.int .i64 a0_2) ∧ w'.cell? ⟨gb448, 3, none⟩ = some (.int .u64 a0_3) ∧ w'.cell? ⟨gb448, 4, none⟩ = some (.int .u64 a0_4) ∧ w'.cell? ⟨gb448, 5, none⟩ = some (.int .u64 a0_5)) (ds := []) (bl_ 13 0) (by kernel_rfl) rfl (by kernel_rfl) (cc6_ BK448) (fun hHeld => ?_); refine with_tabW gcra_Wait.tab6 gcra_Wait.bits6 (fun HT_ HW_ => ?_)
        generalize wc.drew = w184 at BK448 BK457 HB hHeld ⊢
        refine pa_ 0 (some 41) (bl_ 13 1) HT_ ?_
        refine pa_ 2 (some 43) (bl_ 13 5) HT_ ?_
        refine pa_ 4 (some 45) (bl_ 13 21) HT_ ?_
        refine ta_ 1 (some 42) (bl_ 13 23) HT_ HW_ hHeld ?_
        refine ta_ 3 (some 44) (bl_ 13 31) HT_ HW_ hHeld ?_
        refine join_ (σ := Nat) 2 (bl_ 13 2047) (fun s_ => [(46, .agg #[.int .u64 t458, .int .u64 t459]), (47, .tuple #[.agg #[.int .u64 t460, .int .u64 t461], .int .i64 t462]), (9, .pointer (some ⟨s_, 0, none⟩)), (40, .tuple #[.agg #[.int .u64 t460, .int .u64 t461], .int .i64 t462]), (48, .agg #[.int .u64 t460, .int .u64 t461]), (49, .int .i64 t462)]) (fun s_ w' => (w'.cell? ⟨gb448, 0, none⟩ = some (.int .i64 a0_0) ∧ w'.cell? ⟨gb448, 1, none⟩ = some (.int .i64 a0_1) ∧ w'.cell? ⟨gb448, 2, none⟩ = some (.int .i64 a0_2) ∧ w'.cell? ⟨gb448, 3, none⟩ = some (.int .u64 a0_3) ∧ w'.cell? ⟨gb448, 4, none⟩ = some (.int .u64 a0_4) ∧ w'.cell? ⟨gb448, 5, none⟩ = some (.int .u64 a0_5)) ∧ (w'.heap[gb448]? = some (.cells #[.int .i64 a0_0, .int .i64 a0_1, .int .i64 a0_2, .int .u64 a0_3, .int .u64 a0_4, .int .u64 a0_5] 28 (0, 0))) ∧ (w'.heap[gb457]? = some (.cells #[.int .i64 t449, .int .i64 t450, .int .i64 t451, .int .u64 t452, .int .u64 t453, .int .u64 t454] 28 (0, 0))) ∧ (w'.heap[s_]? = some (.cells #[.int .u64 0, .int .u64 0] 26 (0, 0))) ∧ (w.heap.size ≤ s_) ∧ (w.heap.size ≤ s_) ∧ (gb448 ≠ s_) ∧ (s_ ≠ gb448) ∧ (gb457 ≠ s_) ∧ (s_ ≠ gb457) ∧ (Below w.heap.size w w')) ?_ ?_
        rotate_left
        ·intro hCont
         refine tw_ 5 10 (some 46) (some 9) (bl_ 13 63) (bl_ 13 1055) HT_ (fun K hK => ?_) fun K hK => ?_
         ·refine goesB_ Try.func36 #[.agg #[.int .i64 a0_0, .int .i64 a0_1, .int .i64 a0_2], .int .i64 a1] ?_
          with_reducible refine (gcra_tokens.calls a0_0 a0_1 a0_2 a1 t458 t459 _ A20.out).mono ?_
          rintro e w185 ⟨rfl, hb⟩
          refine ⟨_, rfl, ?_⟩
          replace BK448 := bb_ BK448 hb
          replace BK457 := bb_ BK457 hb
          replace HB := bs_ w hb
          clear hb
          refine hK.out _ _ (cc6_ BK448) (fun hHeld => ?_)
          clear hK K
          refine nm_ (some 46) ?_
          refine tw_ 6 10 (some 47) (some 9) (bl_ 13 127) (bl_ 13 1087) HT_ (fun K hK => ?_) fun K hK => ?_
          ·refine goesB_ Try.func48 #[.agg #[.int .u64 a0_3, .int .u64 a0_4], .agg #[.int .u64 t458, .int .u64 t459]] ?_
           with_reducible refine (wide_Add.calls a0_3 a0_4 t458 t459 t460 t461 t462 _ A21.out).mono ?_
           rintro e w186 ⟨rfl, hb⟩
           refine ⟨_, rfl, ?_⟩
           replace BK448 := bb_ BK448 hb
           replace BK457 := bb_ BK457 hb
           replace HB := bs_ w hb
           clear hb
           refine hK.out _ _ (cc6_ BK448) (fun hHeld => ?_)
           clear hK K
           refine nm_ (some 47) ?_
           refine pa_ 7 (some 40) (bl_ 13 255) HT_ ?_
           refine pa_ 8 (some 48) (bl_ 13 511) HT_ ?_
           refine pa_ 9 (some 49) (bl_ 13 1023) HT_ ?_
           refine oa_ 10 (some 9) (bl_ 13 2047) HT_ fun K hK => ?_
           refine bs2_ #[.int .u64 0, .int .u64 0] 26 ?_
           intro gb463 hg w187 BK463 hb
           have GW463 := bz_ w hg
           have GE463 := GW463
           have NB448_463 := bn_ BK448 hg
           have NB463_448 := bm_ BK448 hg
           have NB457_463 := bn_ BK457 hg
           have NB463_457 := bm_ BK457 hg
           replace BK448 := bb_ BK448 hb
           replace BK457 := bb_ BK457 hb
           replace HB := bs_ w hb
           clear hb hg
           refine hK.out _ _ (cc6_ BK448) (fun hHeld => ?_)
           clear hK K
           refine nm_ (some 9) ?_
           exact no_ (hCont (gb463) _ ⟨hHeld, (bq_ BK448), (bq_ BK457), (bq_ BK463), GW463.out, GE463.out, NB448_463.out, NB463_448.out, NB457_463.out, NB463_457.out, bh_⟩)
          ·refine bs2_ #[.int .u64 0, .int .u64 0] 26 ?_
           intro gb463 hg w186 BK463 hb
           have GW463 := bz_ w hg
           have GE463 := GW463
           have NB448_463 := bn_ BK448 hg
           have NB463_448 := bm_ BK448 hg
           have NB457_463 := bn_ BK457 hg
           have NB463_457 := bm_ BK457 hg
           replace BK448 := bb_ BK448 hb
           replace BK457 := bb_ BK457 hb
           replace HB := bs_ w hb
           clear hb hg
           refine hK.out _ _ (cc6_ BK448) (fun hHeld => ?_)
           clear hK K
           refine nm_ (some 9) ?_
           refine oa_ 6 (some 47) (bl_ 13 1151) HT_ fun K hK => ?_
           refine goesB_ Try.func48 #[.agg #[.int .u64 a0_3, .int .u64 a0_4], .agg #[.int .u64 t458, .int .u64 t459]] ?_
           with_reducible refine (wide_Add.calls a0_3 a0_4 t458 t459 t460 t461 t462 _ A21.out).mono ?_
           rintro e w187 ⟨rfl, hb⟩
           refine ⟨_, rfl, ?_⟩
           replace BK448 := bb_ BK448 hb
           replace BK457 := bb_ BK457 hb
           replace BK463 := bb_ BK463 hb
           replace HB := bs_ w hb
           clear hb
           refine hK.out _ _ (cc6_ BK448) (fun hHeld => ?_)
           clear hK K
           refine nm_ (some 47) ?_
           refine pa_ 7 (some 40) (bl_ 13 1279) HT_ ?_
           refine pa_ 8 (some 48) (bl_ 13 1535) HT_ ?_
           refine pa_ 9 (some 49) (bl_ 13 2047) HT_ ?_
           exact no_ (hCont (gb463) _ ⟨hHeld, (bq_ BK448), (bq_ BK457), (bq_ BK463), GW463.out, GE463.out, NB448_463.out, NB463_448.out, NB457_463.out, NB463_457.out, bh_⟩)
         ·refine bs2_ #[.int .u64 0, .int .u64 0] 26 ?_
          intro gb463 hg w185 BK463 hb
          have GW463 := bz_ w hg
          have GE463 := GW463
          have NB448_463 := bn_ BK448 hg
          have NB463_448 := bm_ BK448 hg
          have NB457_463 := bn_ BK457 hg
          have NB463_457 := bm_ BK457 hg
          replace BK448 := bb_ BK448 hb
          replace BK457 := bb_ BK457 hb
          replace HB := bs_ w hb
          clear hb hg
          refine hK.out _ _ (cc6_ BK448) (fun hHeld => ?_)
          clear hK K
          refine nm_ (some 9) ?_
          refine oa_ 5 (some 46) (bl_ 13 1087) HT_ fun K hK => ?_
          refine goesB_ Try.func36 #[.agg #[.int .i64 a0_0, .int .i64 a0_1, .int .i64 a0_2], .int .i64 a1] ?_
          with_reducible refine (gcra_tokens.calls a0_0 a0_1 a0_2 a1 t458 t459 _ A20.out).mono ?_
          rintro e w186 ⟨rfl, hb⟩
          refine ⟨_, rfl, ?_⟩
          replace BK448 := bb_ BK448 hb
          replace BK457 := bb_ BK457 hb
          replace BK463 := bb_ BK463 hb
          replace HB := bs_ w hb
          clear hb
          refine hK.out _ _ (cc6_ BK448) (fun hHeld => ?_)
          clear hK K
          refine nm_ (some 46) ?_
          refine oa_ 6 (some 47) (bl_ 13 1151) HT_ fun K hK => ?_
          refine goesB_ Try.func48 #[.agg #[.int .u64 a0_3, .int .u64 a0_4], .agg #[.int .u64 t458, .int .u64 t459]] ?_
          with_reducible refine (wide_Add.calls a0_3 a0_4 t458 t459 t460 t461 t462 _ A21.out).mono ?_
          rintro e w187 ⟨rfl, hb⟩
          refine ⟨_, rfl, ?_⟩
          replace BK448 := bb_ BK448 hb
          replace BK457 := bb_ BK457 hb
          replace BK463 := bb_ BK463 hb
          replace HB := bs_ w hb
          clear hb
          refine hK.out _ _ (cc6_ BK448) (fun hHeld => ?_)
          clear hK K
          refine nm_ (some 47) ?_
          refine pa_ 7 (some 40) (bl_ 13 1279) HT_ ?_
          refine pa_ 8 (some 48) (bl_ 13 1535) HT_ ?_
          refine pa_ 9 (some 49) (bl_ 13 2047) HT_ ?_
          exact no_ (hCont (gb463) _ ⟨hHeld, (bq_ BK448), (bq_ BK457), (bq_ BK463), GW463.out, GE463.out, NB448_463.out, NB463_448.out, NB457_463.out, NB463_457.out, bh_⟩)
        rintro gb463 w188 ⟨hS_, h0_, h1_, h2_, h3_, h4_, h5_, h6_, h7_, h8_, h9_⟩
        have BK463 := Aside0.mk h2_
        have GW463 := Aside0.mk h3_
        have GE463 := Aside0.mk h4_
        have NB448_463 := Aside0.mk h5_
        have NB463_448 := Aside0.mk h6_
        have NB457_463 := Aside0.mk h7_
        have NB463_457 := Aside0.mk h8_
        replace BK448 := Aside0.mk h0_
        replace BK457 := Aside0.mk h1_
        replace HB := Aside0.mk h9_
        clear h0_ h1_ h2_ h3_ h4_ h5_ h6_ h7_ h8_ h9_
        have hHeld := hS_
        refine nq_ ?_
        refine oa_ 11 none (bl_ 13 4095) HT_ fun K hK => ?_
        have hs189 : w188.cell? ⟨gb463, 0, none⟩ = some (.int .u64 0) := (blk_cell BK463.out 0).trans rfl
        have hfs189 := blk_frozen BK463.out 0
        have hns189_0 := NB448_463.out
        have hns189_1 := NB457_463.out
        have hms189_0 := NB463_448.out
        have hms189_1 := NB463_457.out
        have hs190 : w188.cell? ⟨gb463, 1, none⟩ = some (.int .u64 0) := (blk_cell BK463.out 1).trans rfl
        have hfs190 := blk_frozen BK463.out 1
        have hns190_0 := NB448_463.out
        have hns190_1 := NB457_463.out
        have hms190_0 := NB463_448.out
        have hms190_1 := NB463_457.out
        refine sk_ ?_
        refine hK.out _ _ (cf6_ hHeld) (fun hHeld => ?_)
        clear hK K
        refine pa_ 12 (some 10) (bl_ 13 8191) HT_ ?_
        refine done_ (done_of HT_.out (by kernel_rfl)) ?_
        try go_wp2
        go_ret2
        exact fi_

end Go.Proofs.Ytnijohomnajngaa.X
