-- written by xprint.py, a program of this session over the kit's print
import Derived.Test.YtnijohomnajngaaX0
import Derived.Test.YtnijohomnajngaaX14
import Derived.Test.YtnijohomnajngaaX28
import Derived.Test.YtnijohomnajngaaX34
import Derived.Test.YtnijohomnajngaaX35
namespace Go.Proofs.Ytnijohomnajngaa.X
open Go.RowKit Go.Proofs.YtnijohomnajngaaW.PrintWords Go.Proofs.YtnijohomnajngaaW.PrintLast Go.Proofs.YtnijohomnajngaaW.PrintMore
attribute [local go_sem] max2_int min2_int max_two min_two max_three min_three max_four min_four   -- for this text's walks alone
set_option linter.unusedVariables false
set_option linter.unusedSimpArgs false

/-! ### spigotref37_Ask: function 18 -/
def spigotref37_Ask.f (k : Nat) (a0_0 : Int) (a0_1 : Int) (a0_2 : Int) (a0_3 : Int) (a0_4 : Int) (a0_5 : Int) (a1 : Int) (a2 : Int) : Option (Int × Int × Int × Int × Int × Int × Bool × Int) := (spigotref37_Check.f k a0_0 a0_1 a0_2 a0_3 a0_4 a0_5).bind fun t397 => (if t397 = 0 then (if a2 < 0 then (some (0, 0, 0, 0, 0, 0, false, 2)) else ((spigotref37_raised.f k a0_0 a0_1 a0_2 a0_3 a0_4 a0_5 a1).bind fun bt398 => ((spigotref37_fits.f k bt398.1 bt398.2.1 bt398.2.2.1 bt398.2.2.2.1 bt398.2.2.2.2.1 bt398.2.2.2.2.2 a2).bind fun t404 => (if t404 = true then ((spigotref37_tokens.f bt398.1 bt398.2.1 bt398.2.2.1 a2).bind fun bt405 => ((spigotref37_sum.f bt398.2.2.2.1 bt398.2.2.2.2.1 bt405.1 bt405.2).bind fun bt407 => (some (bt398.1, bt398.2.1, bt398.2.2.1, bt407.1, bt407.2, bt398.2.2.2.2.2, true, 0)))) else (some (bt398.1, bt398.2.1, bt398.2.2.1, bt398.2.2.2.1, bt398.2.2.2.2.1, bt398.2.2.2.2.2, false, 0)))))) else (some (0, 0, 0, 0, 0, 0, false, t397)))
theorem spigotref37_Ask.mono : ∀ a0 a1 a2 a3 a4 a5 a6 a7 k, LeO (spigotref37_Ask.f k a0 a1 a2 a3 a4 a5 a6 a7) (spigotref37_Ask.f (k + 1) a0 a1 a2 a3 a4 a5 a6 a7) := by
  intro a0 a1 a2 a3 a4 a5 a6 a7 k
  unfold spigotref37_Ask.f
  repeat' first
      | (with_reducible exact spigotref37_Check.mono _ _ _ _ _ _ _)
      | (with_reducible exact spigotref37_fits.mono _ _ _ _ _ _ _ _)
      | (with_reducible exact spigotref37_raised.mono _ _ _ _ _ _ _ _)
      | (with_reducible exact LeO.refl _)
      | (with_reducible exact LeO.none _)
      | (with_reducible refine LeO.ite ?_ ?_)
      | (with_reducible refine LeO.bind ?_ (fun _ => ?_))
      | exact spigotref37_Check.mono _ _ _ _ _ _ _
      | exact spigotref37_fits.mono _ _ _ _ _ _ _ _
      | exact spigotref37_raised.mono _ _ _ _ _ _ _ _
      | exact LeO.none _
      | refine LeO.ite ?_ ?_
      | refine LeO.bind ?_ (fun _ => ?_)
def spigotref37_Ask.T9 : Bool × List (List Nat × List Nat) := (true, [([], []), ([0], [0]), ([], []), ([2], [2]), ([], []), ([3, 4], [3, 4]), ([1, 5, 5], [1, 5]), ([0, 1, 2, 3, 4, 5, 6], []), ([7, 6, 6, 0, 1, 2, 3, 4, 5, 6], [6, 7])])
def spigotref37_Ask.B9 : List Nat := [0, 1, 0, 4, 0, 28, 63, 127, 255]
theorem spigotref37_Ask.tab9 : rtab .any (opsOf Try.f18 9) = spigotref37_Ask.T9 := by kernel_rfl
theorem spigotref37_Ask.bits9 : waitsOk spigotref37_Ask.T9.2 spigotref37_Ask.B9 = true := by kernel_rfl
set_option maxHeartbeats 8000000 in
set_option maxRecDepth 100000 in
theorem spigotref37_Ask.calls (k : Nat) (a0_0 : Int) (a0_1 : Int) (a0_2 : Int) (a0_3 : Int) (a0_4 : Int) (a0_5 : Int) (a1 : Int) (a2 : Int) (r1 : Int) (r2 : Int) (r3 : Int) (r4 : Int) (r5 : Int) (r6 : Int) (r7 : Bool) (r8 : Int) (w : World) (h : spigotref37_Ask.f k a0_0 a0_1 a0_2 a0_3 a0_4 a0_5 a1 a2 = some (r1, r2, r3, r4, r5, r6, r7, r8)) :
  Calls Try.prog 18 #[.agg #[.int .i64 a0_0, .int .i64 a0_1, .int .i64 a0_2, .int .u64 a0_3, .int .u64 a0_4, .int .u64 a0_5], .int .u64 a1, .int .i64 a2] w fun e w' => e = .returned (.tuple #[.agg #[.int .i64 r1, .int .i64 r2, .int .i64 r3, .int .u64 r4, .int .u64 r5, .int .u64 r6], .bool r7, .int .i64 r8]) ∧ Below w.heap.size w w' := by
 have hu28 := Try.underlying28
 have hu26 := Try.underlying26
 have hu23 := Try.underlying23
 have HB := Aside0.mk (Below.refl w.heap.size w)
 have H : ((spigotref37_Check.f k a0_0 a0_1 a0_2 a0_3 a0_4 a0_5).bind fun t397 => (if t397 = 0 then (if a2 < 0 then (some (0, 0, 0, 0, 0, 0, false, 2)) else ((spigotref37_raised.f k a0_0 a0_1 a0_2 a0_3 a0_4 a0_5 a1).bind fun bt398 => ((spigotref37_fits.f k bt398.1 bt398.2.1 bt398.2.2.1 bt398.2.2.2.1 bt398.2.2.2.2.1 bt398.2.2.2.2.2 a2).bind fun t404 => (if t404 = true then ((spigotref37_tokens.f bt398.1 bt398.2.1 bt398.2.2.1 a2).bind fun bt405 => ((spigotref37_sum.f bt398.2.2.2.1 bt398.2.2.2.2.1 bt405.1 bt405.2).bind fun bt407 => (some (bt398.1, bt398.2.1, bt398.2.2.1, bt407.1, bt407.2, bt398.2.2.2.2.2, true, 0)))) else (some (bt398.1, bt398.2.1, bt398.2.2.1, bt398.2.2.2.1, bt398.2.2.2.2.1, bt398.2.2.2.2.2, false, 0)))))) else (some (0, 0, 0, 0, 0, 0, false, t397)))) = some (r1, r2, r3, r4, r5, r6, r7, r8) := h
 clear h
 obtain ⟨t397, A4, H⟩ := bo_ H
 try dsimp only at H
 by_cases c5 : t397 = 0
 ·rw [if_pos c5] at H
  have c5b0 : (t397 == 0) = true := beq_iff_eq.mpr c5
  have c5b1 : (t397 != 0) = false := bne_eq_false_iff_eq.mpr c5
  clear c5
  by_cases c6 : a2 < 0
  ·rw [if_pos c6] at H
   have c6b0 : decide (a2 < 0) = true := decide_eq_true c6
   clear c6
   simp only [Option.some.injEq, Prod.mk.injEq] at H
   obtain ⟨rfl, rfl, rfl, rfl, rfl, rfl, rfl, rfl⟩ := H
   go_enter Try.func18, Try.ntmps18
   go_wp2_with (first | ((with_reducible refine gate_dst (N := 3) rfl ?_); refine bx_ #[.int .i64 a0_0, .int .i64 a0_1, .int .i64 a0_2, .int .u64 a0_3, .int .u64 a0_4, .int .u64 a0_5] 28 ?_; intro gb395 hg w7 BK395 hb; have GW395 := bz_ w hg; have GE395 := GW395; replace HB := bs_ w hb; clear hb hg) | ((with_reducible refine gate_dst (N := 6) rfl ?_); refine bx_ #[.int .i64 0, .int .i64 0, .int .i64 0, .int .u64 0, .int .u64 0, .int .u64 0] 28 ?_; intro gb396 hg w8 BK396 hb; have GW396 := bz_ w hg; have GE396 := GW396; have NB395_396 := bn_ BK395 hg; have NB396_395 := bm_ BK395 hg; replace BK395 := bb_ BK395 hb; replace HB := bs_ w hb; clear hb hg; have hnb9 := NB395_396.out; have hnc9 := NB396_395.out; obtain ⟨_, _, _, _, _, _, _, _, _, _, _, _⟩ := ce6_ BK395) | ((with_reducible refine gate_callee (f := 16) rfl ?_); refine goesA_ (some 11) Try.func16 #[.agg #[.int .i64 a0_0, .int .i64 a0_1, .int .i64 a0_2, .int .u64 a0_3, .int .u64 a0_4, .int .u64 a0_5]] ?_; (with_reducible refine (spigotref37_Check.calls k a0_0 a0_1 a0_2 a0_3 a0_4 a0_5 t397 _ A4.out).mono ?_); rintro e w11 ⟨rfl, hb⟩; refine ⟨_, rfl, ?_⟩; replace BK395 := bb_ BK395 hb; replace BK396 := bb_ BK396 hb; replace HB := bs_ w hb; clear hb; obtain ⟨_, _, _, _, _, _, _, _, _, _, _, _⟩ := ce6_ BK396))
   refine bodyPost_ret (results_ctt rfl _ _ gb396 28 #[.int .i64 0, .int .i64 0, .int .i64 0, .int .u64 0, .int .u64 0, .int .u64 0] (0, 0) _ rfl (bp6_ (bq_ BK396)) Try.underlying28 rfl (by kernel_rfl)) rfl ?_
   exact fi_
  ·rw [if_neg c6] at H
   have c6b0 : decide (a2 < 0) = false := decide_eq_false c6
   clear c6
   obtain ⟨⟨t398, t399, t400, t401, t402, t403⟩, A13, H⟩ := bo_ H
   try dsimp only at H
   obtain ⟨t404, A14, H⟩ := bo_ H
   try dsimp only at H
   by_cases c15 : t404 = true
   ·subst c15
    rw [if_pos rfl] at H
    try dsimp only at H
    obtain ⟨⟨t405, t406⟩, A16, H⟩ := bo_ H
    replace H : ((spigotref37_sum.f t401 t402 t405 t406).bind fun bt407 => (some (t398, t399, t400, bt407.1, bt407.2, t403, true, 0))) = some (r1, r2, r3, r4, r5, r6, r7, r8) := H
    obtain ⟨⟨t407, t408⟩, A17, H⟩ := bo_ H
    replace H : (some (t398, t399, t400, t407, t408, t403, true, 0)) = some (r1, r2, r3, r4, r5, r6, r7, r8) := H
    simp only [Option.some.injEq, Prod.mk.injEq] at H
    obtain ⟨rfl, rfl, rfl, rfl, rfl, rfl, rfl, rfl⟩ := H
    go_enter Try.func18, Try.ntmps18
    try go_wp2_with (first | ((with_reducible refine gate_dst (N := 3) rfl ?_); refine bx_ #[.int .i64 a0_0, .int .i64 a0_1, .int .i64 a0_2, .int .u64 a0_3, .int .u64 a0_4, .int .u64 a0_5] 28 ?_; intro gb395 hg w18 BK395 hb; have GW395 := bz_ w hg; have GE395 := GW395; replace HB := bs_ w hb; clear hb hg) | ((with_reducible refine gate_dst (N := 6) rfl ?_); refine bx_ #[.int .i64 0, .int .i64 0, .int .i64 0, .int .u64 0, .int .u64 0, .int .u64 0] 28 ?_; intro gb396 hg w19 BK396 hb; have GW396 := bz_ w hg; have GE396 := GW396; have NB395_396 := bn_ BK395 hg; have NB396_395 := bm_ BK395 hg; replace BK395 := bb_ BK395 hb; replace HB := bs_ w hb; clear hb hg; have hnb20 := NB395_396.out; have hnc20 := NB396_395.out; obtain ⟨_, _, _, _, _, _, _, _, _, _, _, _⟩ := ce6_ BK395) | ((with_reducible refine gate_callee (f := 16) rfl ?_); refine goesA_ (some 11) Try.func16 #[.agg #[.int .i64 a0_0, .int .i64 a0_1, .int .i64 a0_2, .int .u64 a0_3, .int .u64 a0_4, .int .u64 a0_5]] ?_; (with_reducible refine (spigotref37_Check.calls k a0_0 a0_1 a0_2 a0_3 a0_4 a0_5 t397 _ A4.out).mono ?_); rintro e w22 ⟨rfl, hb⟩; refine ⟨_, rfl, ?_⟩; replace BK395 := bb_ BK395 hb; replace BK396 := bb_ BK396 hb; replace HB := bs_ w hb; clear hb; obtain ⟨_, _, _, _, _, _, _, _, _, _, _, _⟩ := ce6_ BK395) | ((with_reducible refine gate_callee (f := 49) rfl ?_); refine goesA_ (some 21) Try.func49 #[.agg #[.int .i64 a0_0, .int .i64 a0_1, .int .i64 a0_2, .int .u64 a0_3, .int .u64 a0_4, .int .u64 a0_5], .int .u64 a1] ?_; (with_reducible refine (spigotref37_raised.calls k a0_0 a0_1 a0_2 a0_3 a0_4 a0_5 a1 t398 t399 t400 t401 t402 t403 _ A13.out).mono ?_); rintro e w24 ⟨rfl, hb⟩; refine ⟨_, rfl, ?_⟩; replace BK395 := bb_ BK395 hb; replace BK396 := bb_ BK396 hb; replace HB := bs_ w hb; clear hb; obtain ⟨_, _, _, _, _, _, _, _, _, _, _, _⟩ := ce6_ BK395) | ((with_reducible refine gate_callee (f := 50) rfl ?_); refine goesA_ (some 24) Try.func50 #[.agg #[.int .i64 t398, .int .i64 t399, .int .i64 t400, .int .u64 t401, .int .u64 t402, .int .u64 t403], .int .i64 a2] ?_; (with_reducible refine (spigotref37_fits.calls k t398 t399 t400 t401 t402 t403 a2 true _ A14.out).mono ?_); rintro e w26 ⟨rfl, hb⟩; refine ⟨_, rfl, ?_⟩; replace BK395 := Aside0.mk (blk_below (g := gb395) (o := .cells #[.int .i64 t398, .int .i64 t399, .int .i64 t400, .int .u64 t401, .int .u64 t402, .int .u64 t403] 28 (0, 0)) (bp6_ (bq_ BK395)) hb); replace BK396 := bf_ BK396 hb; replace HB := bs_ w hb; clear hb))
    replace BK395 := Aside0.mk (blk_drew BK395.out)
    replace BK396 := Aside0.mk (blk_drew BK396.out)
    replace HB := Aside0.mk (below_drew1 HB.out)
    refine start_ (n := 9) (S := fun w' => w'.cell? ⟨gb395, 0, none⟩ = some (.int .i64 t398) ∧ w'.cell? ⟨gb395, 1, none⟩ = some (.int .i64 t399) ∧ w'.cell? ⟨gb395, 2, none⟩ = some (.int .i64 t400) ∧ w'.cell? ⟨gb395, 3, none⟩ = some (.int .u64 t401) ∧ w'.cell? ⟨gb395, 4, none⟩ = some (.int .u64 t402) ∧ w'.cell? ⟨gb395, 5, none⟩ = some (.int .u64 t403)) (ds := [8]) (bl_ 9 0) (by kernel_rfl) rfl (by kernel_rfl) (cc6_ BK395) (fun hHeld => ?_); refine with_tabW spigotref37_Ask.tab9 spigotref37_Ask.bits9 (fun HT_ HW_ => ?_)
    generalize w26.drew = w27 at BK395 BK396 HB hHeld ⊢
    refine pa_ 0 (some 27) (bl_ 9 1) HT_ ?_
    refine pa_ 2 (some 29) (bl_ 9 5) HT_ ?_
    refine pa_ 4 (some 31) (bl_ 9 21) HT_ ?_
    refine ta_ 1 (some 28) (bl_ 9 23) HT_ HW_ hHeld ?_
    refine ta_ 3 (some 30) (bl_ 9 31) HT_ HW_ hHeld ?_
    refine oa_ 5 (some 32) (bl_ 9 63) HT_ fun K hK => ?_
    refine goesB_ Try.func40 #[.agg #[.int .i64 t398, .int .i64 t399, .int .i64 t400], .int .i64 a2] ?_
    with_reducible refine (spigotref37_tokens.calls t398 t399 t400 a2 t405 t406 _ A16.out).mono ?_
    rintro e w28 ⟨rfl, hb⟩
    refine ⟨_, rfl, ?_⟩
    replace BK395 := bb_ BK395 hb
    replace BK396 := bb_ BK396 hb
    replace HB := bs_ w hb
    clear hb
    refine hK.out _ _ (cc6_ BK395) (fun hHeld => ?_)
    clear hK K
    refine nm_ (some 32) ?_
    refine oa_ 6 (some 33) (bl_ 9 127) HT_ fun K hK => ?_
    refine goesB_ Try.func39 #[.agg #[.int .u64 t401, .int .u64 t402], .agg #[.int .u64 t405, .int .u64 t406]] ?_
    with_reducible refine (spigotref37_sum.calls t401 t402 t405 t406 t407 t408 _ A17.out).mono ?_
    rintro e w29 ⟨rfl, hb⟩
    refine ⟨_, rfl, ?_⟩
    replace BK395 := bb_ BK395 hb
    replace BK396 := bb_ BK396 hb
    replace HB := bs_ w hb
    clear hb
    refine hK.out _ _ (cc6_ BK395) (fun hHeld => ?_)
    clear hK K
    refine nm_ (some 33) ?_
    refine pa_ 7 (some 34) (bl_ 9 255) HT_ ?_
    refine last_ (i := 8) (N := none) (bl_ 9 511) rfl rfl (one_of HT_.out (by kernel_rfl)) (by decide) (fun K hK => ?_)
    have hs30 : w29.cell? ⟨gb395, 3, none⟩ = some (.int .u64 t401) := (blk_cell BK395.out 3).trans rfl
    have hfs30 := blk_frozen BK395.out 3
    have hns30_1 := NB396_395.out
    have hms30_1 := NB395_396.out
    have hs31 : w29.cell? ⟨gb395, 4, none⟩ = some (.int .u64 t402) := (blk_cell BK395.out 4).trans rfl
    have hfs31 := blk_frozen BK395.out 4
    have hns31_1 := NB396_395.out
    have hms31_1 := NB395_396.out
    refine sk_ ?_
    refine hK.out _ _ ?_
    clear hK K
    refine done_ (done_of HT_.out (by kernel_rfl)) ?_
    obtain ⟨_, _, _, _, _, _, _, _, _, _, _, _⟩ := ce6_ BK395
    obtain ⟨_, _, _, _, _, _, _, _, _, _, _, _⟩ := ce6_ BK396
    try go_wp2
    refine bodyPost_ret (results_ctt rfl _ _ gb396 28 #[.int .i64 t398, .int .i64 t399, .int .i64 t400, .int .u64 t407, .int .u64 t408, .int .u64 t403] (0, 0) _ rfl (blk_put (cs := #[.int .i64 t398, .int .i64 t399, .int .i64 t400, .int .u64 t407, .int .u64 t408, .int .u64 0]) (blk_put (cs := #[.int .i64 t398, .int .i64 t399, .int .i64 t400, .int .u64 t407, .int .u64 0, .int .u64 0]) (blk_put (cs := #[.int .i64 t398, .int .i64 t399, .int .i64 t400, .int .u64 0, .int .u64 0, .int .u64 0]) (blk_put (cs := #[.int .i64 t398, .int .i64 t399, .int .i64 0, .int .u64 0, .int .u64 0, .int .u64 0]) (blk_put (cs := #[.int .i64 t398, .int .i64 0, .int .i64 0, .int .u64 0, .int .u64 0, .int .u64 0]) (blk_put (cs := #[.int .i64 0, .int .i64 0, .int .i64 0, .int .u64 0, .int .u64 0, .int .u64 0]) (bt_ BK396) 0 _ rfl) 1 _ rfl) 2 _ rfl) 3 _ rfl) 4 _ rfl) 5 _ rfl) Try.underlying28 rfl (by kernel_rfl)) rfl ?_
    exact fi_
   ·replace c15 := Bool.eq_false_iff.mpr c15
    subst c15
    rw [if_neg (show ¬ (false = true) by decide)] at H
    try dsimp only at H
    simp only [Option.some.injEq, Prod.mk.injEq] at H
    obtain ⟨rfl, rfl, rfl, rfl, rfl, rfl, rfl, rfl⟩ := H
    go_enter Try.func18, Try.ntmps18
    go_wp2_with (first | ((with_reducible refine gate_dst (N := 3) rfl ?_); refine bx_ #[.int .i64 a0_0, .int .i64 a0_1, .int .i64 a0_2, .int .u64 a0_3, .int .u64 a0_4, .int .u64 a0_5] 28 ?_; intro gb395 hg w34 BK395 hb; have GW395 := bz_ w hg; have GE395 := GW395; replace HB := bs_ w hb; clear hb hg) | ((with_reducible refine gate_dst (N := 6) rfl ?_); refine bx_ #[.int .i64 0, .int .i64 0, .int .i64 0, .int .u64 0, .int .u64 0, .int .u64 0] 28 ?_; intro gb396 hg w35 BK396 hb; have GW396 := bz_ w hg; have GE396 := GW396; have NB395_396 := bn_ BK395 hg; have NB396_395 := bm_ BK395 hg; replace BK395 := bb_ BK395 hb; replace HB := bs_ w hb; clear hb hg; have hnb36 := NB395_396.out; have hnc36 := NB396_395.out; obtain ⟨_, _, _, _, _, _, _, _, _, _, _, _⟩ := ce6_ BK395) | ((with_reducible refine gate_callee (f := 16) rfl ?_); refine goesA_ (some 11) Try.func16 #[.agg #[.int .i64 a0_0, .int .i64 a0_1, .int .i64 a0_2, .int .u64 a0_3, .int .u64 a0_4, .int .u64 a0_5]] ?_; (with_reducible refine (spigotref37_Check.calls k a0_0 a0_1 a0_2 a0_3 a0_4 a0_5 t397 _ A4.out).mono ?_); rintro e w38 ⟨rfl, hb⟩; refine ⟨_, rfl, ?_⟩; replace BK395 := bb_ BK395 hb; replace BK396 := bb_ BK396 hb; replace HB := bs_ w hb; clear hb; obtain ⟨_, _, _, _, _, _, _, _, _, _, _, _⟩ := ce6_ BK395) | ((with_reducible refine gate_callee (f := 49) rfl ?_); refine goesA_ (some 21) Try.func49 #[.agg #[.int .i64 a0_0, .int .i64 a0_1, .int .i64 a0_2, .int .u64 a0_3, .int .u64 a0_4, .int .u64 a0_5], .int .u64 a1] ?_; (with_reducible refine (spigotref37_raised.calls k a0_0 a0_1 a0_2 a0_3 a0_4 a0_5 a1 t398 t399 t400 t401 t402 t403 _ A13.out).mono ?_); rintro e w40 ⟨rfl, hb⟩; refine ⟨_, rfl, ?_⟩; replace BK395 := bb_ BK395 hb; replace BK396 := bb_ BK396 hb; replace HB := bs_ w hb; clear hb; obtain ⟨_, _, _, _, _, _, _, _, _, _, _, _⟩ := ce6_ BK395) | ((with_reducible refine gate_callee (f := 50) rfl ?_); refine goesA_ (some 24) Try.func50 #[.agg #[.int .i64 t398, .int .i64 t399, .int .i64 t400, .int .u64 t401, .int .u64 t402, .int .u64 t403], .int .i64 a2] ?_; (with_reducible refine (spigotref37_fits.calls k t398 t399 t400 t401 t402 t403 a2 false _ A14.out).mono ?_); rintro e w42 ⟨rfl, hb⟩; refine ⟨_, rfl, ?_⟩; replace BK395 := Aside0.mk (blk_below (g := gb395) (o := .cells #[.int .i64 t398, .int .i64 t399, .int .i64 t400, .int .u64 t401, .int .u64 t402, .int .u64 t403] 28 (0, 0)) (bp6_ (bq_ BK395)) hb); replace BK396 := bf_ BK396 hb; replace HB := bs_ w hb; clear hb; obtain ⟨_, _, _, _, _, _, _, _, _, _, _, _⟩ := ce6_ BK395; obtain ⟨_, _, _, _, _, _, _, _, _, _, _, _⟩ := ce6_ BK396))
    refine bodyPost_ret (results_ctt rfl _ _ gb396 28 #[.int .i64 t398, .int .i64 t399, .int .i64 t400, .int .u64 t401, .int .u64 t402, .int .u64 t403] (0, 0) _ rfl (bp6_ (bq_ BK396)) Try.underlying28 rfl (by kernel_rfl)) rfl ?_
    exact fi_
 ·rw [if_neg c5] at H
  have c5b0 : (t397 == 0) = false := beq_eq_false_iff_ne.mpr c5
  have c5b1 : (t397 != 0) = true := bne_iff_ne.mpr c5
  simp only [Option.some.injEq, Prod.mk.injEq] at H
  obtain ⟨rfl, rfl, rfl, rfl, rfl, rfl, rfl, rfl⟩ := H
  go_enter Try.func18, Try.ntmps18
  go_wp2_with (first | ((with_reducible refine gate_dst (N := 3) rfl ?_); refine bx_ #[.int .i64 a0_0, .int .i64 a0_1, .int .i64 a0_2, .int .u64 a0_3, .int .u64 a0_4, .int .u64 a0_5] 28 ?_; intro gb395 hg w45 BK395 hb; have GW395 := bz_ w hg; have GE395 := GW395; replace HB := bs_ w hb; clear hb hg) | ((with_reducible refine gate_dst (N := 6) rfl ?_); refine bx_ #[.int .i64 0, .int .i64 0, .int .i64 0, .int .u64 0, .int .u64 0, .int .u64 0] 28 ?_; intro gb396 hg w46 BK396 hb; have GW396 := bz_ w hg; have GE396 := GW396; have NB395_396 := bn_ BK395 hg; have NB396_395 := bm_ BK395 hg; replace BK395 := bb_ BK395 hb; replace HB := bs_ w hb; clear hb hg; have hnb47 := NB395_396.out; have hnc47 := NB396_395.out; obtain ⟨_, _, _, _, _, _, _, _, _, _, _, _⟩ := ce6_ BK395) | ((with_reducible refine gate_callee (f := 16) rfl ?_); refine goesA_ (some 11) Try.func16 #[.agg #[.int .i64 a0_0, .int .i64 a0_1, .int .i64 a0_2, .int .u64 a0_3, .int .u64 a0_4, .int .u64 a0_5]] ?_; (with_reducible refine (spigotref37_Check.calls k a0_0 a0_1 a0_2 a0_3 a0_4 a0_5 t397 _ A4.out).mono ?_); rintro e w49 ⟨rfl, hb⟩; refine ⟨_, rfl, ?_⟩; replace BK395 := bb_ BK395 hb; replace BK396 := bb_ BK396 hb; replace HB := bs_ w hb; clear hb; obtain ⟨_, _, _, _, _, _, _, _, _, _, _, _⟩ := ce6_ BK396))
  refine bodyPost_ret (results_ctt rfl _ _ gb396 28 #[.int .i64 0, .int .i64 0, .int .i64 0, .int .u64 0, .int .u64 0, .int .u64 0] (0, 0) _ rfl (bp6_ (bq_ BK396)) Try.underlying28 rfl (by kernel_rfl)) rfl ?_
  exact fi_

end Go.Proofs.Ytnijohomnajngaa.X
