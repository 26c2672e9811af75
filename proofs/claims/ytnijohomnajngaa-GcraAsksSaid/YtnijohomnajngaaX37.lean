-- written by xprint.py, a program of this session over the kit's print
import Derived.Test.YtnijohomnajngaaX0
import Derived.Test.YtnijohomnajngaaX15
import Derived.Test.YtnijohomnajngaaX29
import Derived.Test.YtnijohomnajngaaX35
import Derived.Test.YtnijohomnajngaaX36
namespace Go.Proofs.Ytnijohomnajngaa.X
open Go.RowKit Go.Proofs.YtnijohomnajngaaW.PrintWords Go.Proofs.YtnijohomnajngaaW.PrintLast Go.Proofs.YtnijohomnajngaaW.PrintMore
attribute [local go_sem] max2_int min2_int max_two min_two max_three min_three max_four min_four   -- for this text's walks alone
set_option linter.unusedVariables false
set_option linter.unusedSimpArgs false

/-! ### spigotref37_Ask: function 18 -/
def spigotref37_Ask.f (k : Nat) (a0_0 : Int) (a0_1 : Int) (a0_2 : Int) (a0_3 : Int) (a0_4 : Int) (a0_5 : Int) (a1 : Int) (a2 : Int) : Option (Int × Int × Int × Int × Int × Int × Bool × Int) := (spigotref37_Check.f k a0_0 a0_1 a0_2 a0_3 a0_4 a0_5).bind fun t397 => (if t397 = 0 then (if a2 < 0 then (some (0, 0, 0, 0, 0, 0, false, 2)) else ((spigotref37_raised.f k a0_0 a0_1 a0_2 a0_3 a0_4 a0_5 a1).bind fun bt398 => ((spigotref37_fits.f k bt398.1 bt398.2.1 bt398.2.2.1 bt398.2.2.2.1 bt398.2.2.2.2.1 bt398.2.2.2.2.2 a2).bind fun t404 => (if t404 = true then ((spigotref37_tokens.f bt398.1 bt398.2.1 bt398.2.2.1 a2).bind fun bt405 => ((spigotref37_sum.f bt398.2.2.2.1 bt398.2.2.2.2.1 bt405.1 bt405.2).bind fun bt407 => (some (bt398.1, bt398.2.1, bt398.2.2.1, bt407.1, bt407.2, bt398.2.2.2.2.2, true, 0)))) else (some (bt398.1, bt398.2.1, bt398.2.2.1, bt398.2.2.2.1, bt398.2.2.2.2.1, bt398.2.2.2.2.2, false, 0)))))) else (some (0, 0, 0, 0, 0, 0, false, t397)))
theorem spigotref37_Ask.mono : ∀ a0 a1 a2 a3 a4 a5 a6 a7 k, LeO (spigotref37_Ask.f k a0 a1 a2 a3 a4 a5 a6 a7) (spigotref37_Ask.f (k + 1) a0 a1 a2 a3 a4 a5 a6 a7) := by
  intro a0 a1 a2 a3 a4 a5 a6 a7 k
  unfold spigotref37_Ask.f
  repeat' first
      | (with_reducible exact spigotref37_Check.mono _ _ _ _ _ _ _)
      | (with_reducible exact spigotref37_fits.mono _ _ _ _ _ _ _ _)
      | (with_reducible exact spigotref37_raised.mono _ _ _ _ _ _ _ _)
      | (with_reducible exact LeO.refl _)
      | (with_reducible exact LeO.none _)
      | (with_reducible refine LeO.ite ?_ ?_)
      | (with_reducible refine LeO.bind ?_ (fun _ => ?_))
      | exact spigotref37_Check.mono _ _ _ _ _ _ _
      | exact spigotref37_fits.mono _ _ _ _ _ _ _ _
      | exact spigotref37_raised.mono _ _ _ _ _ _ _ _
      | exact LeO.none _
      | refine LeO.ite ?_ ?_
      | refine LeO.bind ?_ (fun _ => ?_)
def spigotref37_Ask.T9 : Bool × List (List Nat × List Nat) := (true, [([], []), ([0], [0]), ([], []), ([2], [2]), ([], []), ([3, 4], [3, 4]), ([1, 5, 5], [1, 5]), ([0, 1, 2, 3, 4, 5, 6], []), ([7, 6, 6, 0, 1, 2, 3, 4, 5, 6], [6, 7])])
def spigotref37_Ask.B9 : List Nat := [0, 1, 0, 4, 0, 28, 63, 127, 255]
theorem spigotref37_Ask.tab9 : rtab .any (opsOf Try.f18 9) = spigotref37_Ask.T9 := by kernel_rfl
theorem spigotref37_Ask.bits9 : waitsOk spigotref37_Ask.T9.2 spigotref37_Ask.B9 = true := by kernel_rfl
set_option maxHeartbeats 8000000 in
set_option maxRecDepth 100000 in
theorem spigotref37_Ask.calls (k : Nat) (a0_0 : Int) (a0_1 : Int) (a0_2 : Int) (a0_3 : Int) (a0_4 : Int) (a0_5 : Int) (a1 : Int) (a2 : Int) (r1 : Int) (r2 : Int) (r3 : Int) (r4 : Int) (r5 : Int) (r6 : Int) (r7 : Bool) (r8 : Int) (w : World) (h : spigotref37_Ask.f k a0_0 a0_1 a0_2 a0_3 a0_4 a0_5 a1 a2 = some (r1, r2, r3, r4, r5, r6, r7, r8)) :
  Calls Try.prog 18 #[.agg #[.int .i64 a0_0, .int .i64 a0_1, .int .i64 a0_2, .int .u64 a0_3, .int .u64 a0_4, .int .u64 a0_5], .int .u64 a1, .int .i64 a2] w fun e w' => e = .returned (.tuple #[.agg #[.int .i64 r1, .int .i64 r2, .int .i64 r3, .int .u64 r4, .int .u64 r5, .int .u64 r6], .bool r7, .int .i64 r8]) ∧ Below w.heap.size w w' := by
 have hu28 := Try.underlying28
 have hu26 := Try.underlying26
 have hu23 := Try.underlying23
 have HB := Aside0.mk (Below.refl w.heap.size w)
 have H : ((spigotref37_Check.f k a0_0 a0_1 a0_2 a0_3 a0_4 a0_5).bind fun t397 => (if t397 = 0 then (if a2 < 0 then (some (0, 0, 0, 0, 0, 0, false, 2)) else ((spigotref37_raised.f k a0_0 a0_1 a0_2 a0_3 a0_4 a0_5 a1).bind fun bt398 => ((spigotref37_fits.f k bt398.1 bt398.2.1 bt398.2.2.1 bt398.2.2.2.1 bt398.2.2.2.2.1 bt398.2.2.2.2.2 a2).bind fun t404 => (if t404 = true then ((spigotref37_tokens.f bt398.1 bt398.2.1 bt398.2.2.1 a2).bind fun bt405 => ((spigotref37_sum.f bt398.2.2.2.1 bt398.2.2.2.2.1 bt405.1 bt405.2).bind fun bt407 => (some (bt398.1, bt398.2.1, bt398.2.2.1, bt407.1, bt407.2, bt398.2.2.2.2.2, true, 0)))) else (some (bt398.1, bt398.2.1, bt398.2.2.1, bt398.2.2.2.1, bt398.2.2.2.2.1, bt398.2.2.2.2.2, false, 0)))))) else (some (0, 0, 0, 0, 0, 0, false, t397)))) = some (r1, r2, r3, r4, r5, r6, r7, r8) := h
 clear h
 replace H := Option.bind_eq_some_iff.mp H
 obtain ⟨t397, A40, H⟩ := H
 try dsimp only at H
 have A4 := Aside0.mk A40
 clear A40
 by_cases c5 : t397 = 0
 ·rw [if_pos c5] at H
  have c5b0 : (t397 == 0) = true := beq_iff_eq.mpr c5
  have c5b1 : (t397 != 0) = false := bne_eq_false_iff_eq.mpr c5
  clear c5
  by_cases c6 : a2 < 0
  ·rw [if_pos c6] at H
   have c6b0 : decide (a2 < 0) = true := decide_eq_true c6
   clear c6
   simp only [Option.some.injEq, Prod.mk.injEq] at H
   obtain ⟨rfl, rfl, rfl, rfl, rfl, rfl, rfl, rfl⟩ := H
   go_enter Try.func18, Try.ntmps18
   go_wp2_with (first | ((with_reducible refine gate_dst (N := 3) rfl ?_); refine box_event ?hg (N := 3) ?hd (cs := #[.int .i64 a0_0, .int .i64 a0_1, .int .i64 a0_2, .int .u64 a0_3, .int .u64 a0_4, .int .u64 a0_5]) (t := 28) ?hr ?_; (case hd => rfl); (case hg => rfl); (case hr => first | (go_simp; done) | (go_simp; rfl)); intro gb395 hg w7 hbox hb; have BK395 := Aside0.mk (hbox); have GW395 := bz_ w hg; have GE395 := GW395; replace HB := bs_ w hb; clear hb hbox hg) | ((with_reducible refine gate_dst (N := 6) rfl ?_); refine box_event ?hg (N := 6) ?hd (cs := #[.int .i64 0, .int .i64 0, .int .i64 0, .int .u64 0, .int .u64 0, .int .u64 0]) (t := 28) ?hr ?_; (case hd => rfl); (case hg => rfl); (case hr => first | (go_simp; done) | (go_simp; rfl)); intro gb396 hg w8 hbox hb; have BK396 := Aside0.mk (hbox); have GW396 := bz_ w hg; have GE396 := GW396; have NB395_396 := bn_ BK395 hg; have NB396_395 := bm_ BK395 hg; replace BK395 := bb_ BK395 hb; replace HB := bs_ w hb; clear hb hbox hg; have hnb9 := NB395_396.out; have hnc9 := NB396_395.out; obtain ⟨hcz10_0, hcz10_1, hcz10_2, hcz10_3, hcz10_4, hcz10_5, hfz10_0, hfz10_1, hfz10_2, hfz10_3, hfz10_4, hfz10_5⟩ := ce6_ BK395) | ((with_reducible refine gate_callee (f := 16) rfl ?_); refine goesA_ (some 11) Try.func16 #[.agg #[.int .i64 a0_0, .int .i64 a0_1, .int .i64 a0_2, .int .u64 a0_3, .int .u64 a0_4, .int .u64 a0_5]] ?_; (with_reducible refine (spigotref37_Check.calls k a0_0 a0_1 a0_2 a0_3 a0_4 a0_5 t397 _ A4.out).mono ?_); rintro e w11 ⟨rfl, hb⟩; refine ⟨_, rfl, ?_⟩; replace BK395 := bb_ BK395 hb; replace BK396 := bb_ BK396 hb; replace HB := bs_ w hb; (try clear hb); (try clear hb2); (try clear hk); (try clear hi); obtain ⟨hcz12_0, hcz12_1, hcz12_2, hcz12_3, hcz12_4, hcz12_5, hfz12_0, hfz12_1, hfz12_2, hfz12_3, hfz12_4, hfz12_5⟩ := ce6_ BK396))
   refine bodyPost_ret (results_ctt rfl _ _ gb396 28 #[.int .i64 0, .int .i64 0, .int .i64 0, .int .u64 0, .int .u64 0, .int .u64 0] (0, 0) _ rfl (blk_put (cs := #[.int .i64 0, .int .i64 0, .int .i64 0, .int .u64 0, .int .u64 0, .int .u64 0]) (blk_put (cs := #[.int .i64 0, .int .i64 0, .int .i64 0, .int .u64 0, .int .u64 0, .int .u64 0]) (blk_put (cs := #[.int .i64 0, .int .i64 0, .int .i64 0, .int .u64 0, .int .u64 0, .int .u64 0]) (blk_put (cs := #[.int .i64 0, .int .i64 0, .int .i64 0, .int .u64 0, .int .u64 0, .int .u64 0]) (blk_put (cs := #[.int .i64 0, .int .i64 0, .int .i64 0, .int .u64 0, .int .u64 0, .int .u64 0]) (blk_put (cs := #[.int .i64 0, .int .i64 0, .int .i64 0, .int .u64 0, .int .u64 0, .int .u64 0]) (bq_ BK396) 0 _ rfl) 1 _ rfl) 2 _ rfl) 3 _ rfl) 4 _ rfl) 5 _ rfl) Try.underlying28 rfl (by kernel_rfl)) rfl ?_
   exact ⟨by first | rfl | (simp [errW_none, errW_some] <;> rfl) | (simp [*, errW_none, errW_some] <;> rfl), by repeat (first | (with_reducible first | exact HB.out | apply below_alloc | apply pw_below_drewN | apply below_drew1 | refine below_set ?_ GE395.out | refine below_set ?_ GE396.out) | exact HB.out)⟩
  ·rw [if_neg c6] at H
   have c6b0 : decide (a2 < 0) = false := decide_eq_false c6
   clear c6
   replace H := Option.bind_eq_some_iff.mp H
   obtain ⟨⟨t398, t399, t400, t401, t402, t403⟩, A130, H⟩ := H
   try dsimp only at H
   have A13 := Aside0.mk A130
   clear A130
   replace H := Option.bind_eq_some_iff.mp H
   obtain ⟨t404, A140, H⟩ := H
   try dsimp only at H
   have A14 := Aside0.mk A140
   clear A140
   by_cases c15 : t404 = true
   ·subst c15
    have H1 : ((spigotref37_tokens.f t398 t399 t400 a2).bind fun bt405 => ((spigotref37_sum.f t401 t402 bt405.1 bt405.2).bind fun bt407 => (some (t398, t399, t400, bt407.1, bt407.2, t403, true, 0)))) = some (r1, r2, r3, r4, r5, r6, r7, r8) := by rw [if_pos rfl] at H; exact H
    clear H
    have H := H1
    clear H1
    replace H := Option.bind_eq_some_iff.mp H
    obtain ⟨⟨t405, t406⟩, A160, H⟩ := H
    replace H : ((spigotref37_sum.f t401 t402 t405 t406).bind fun bt407 => (some (t398, t399, t400, bt407.1, bt407.2, t403, true, 0))) = some (r1, r2, r3, r4, r5, r6, r7, r8) := H
    have A16 := Aside0.mk A160
    clear A160
    replace H := Option.bind_eq_some_iff.mp H
    obtain ⟨⟨t407, t408⟩, A170, H⟩ := H
    replace H : (some (t398, t399, t400, t407, t408, t403, true, 0)) = some (r1, r2, r3, r4, r5, r6, r7, r8) := H
    have A17 := Aside0.mk A170
    clear A170
    simp only [Option.some.injEq, Prod.mk.injEq] at H
    obtain ⟨rfl, rfl, rfl, rfl, rfl, rfl, rfl, rfl⟩ := H
    go_enter Try.func18, Try.ntmps18
    try go_wp2_with (first | ((with_reducible refine gate_dst (N := 3) rfl ?_); refine box_event ?hg (N := 3) ?hd (cs := #[.int .i64 a0_0, .int .i64 a0_1, .int .i64 a0_2, .int .u64 a0_3, .int .u64 a0_4, .int .u64 a0_5]) (t := 28) ?hr ?_; (case hd => rfl); (case hg => rfl); (case hr => first | (go_simp; done) | (go_simp; rfl)); intro gb395 hg w18 hbox hb; have BK395 := Aside0.mk (hbox); have GW395 := bz_ w hg; have GE395 := GW395; replace HB := bs_ w hb; clear hb hbox hg) | ((with_reducible refine gate_dst (N := 6) rfl ?_); refine box_event ?hg (N := 6) ?hd (cs := #[.int .i64 0, .int .i64 0, .int .i64 0, .int .u64 0, .int .u64 0, .int .u64 0]) (t := 28) ?hr ?_; (case hd => rfl); (case hg => rfl); (case hr => first | (go_simp; done) | (go_simp; rfl)); intro gb396 hg w19 hbox hb; have BK396 := Aside0.mk (hbox); have GW396 := bz_ w hg; have GE396 := GW396; have NB395_396 := bn_ BK395 hg; have NB396_395 := bm_ BK395 hg; replace BK395 := bb_ BK395 hb; replace HB := bs_ w hb; clear hb hbox hg; have hnb20 := NB395_396.out; have hnc20 := NB396_395.out; obtain ⟨hcz21_0, hcz21_1, hcz21_2, hcz21_3, hcz21_4, hcz21_5, hfz21_0, hfz21_1, hfz21_2, hfz21_3, hfz21_4, hfz21_5⟩ := ce6_ BK395) | ((with_reducible refine gate_callee (f := 16) rfl ?_); refine goesA_ (some 11) Try.func16 #[.agg #[.int .i64 a0_0, .int .i64 a0_1, .int .i64 a0_2, .int .u64 a0_3, .int .u64 a0_4, .int .u64 a0_5]] ?_; (with_reducible refine (spigotref37_Check.calls k a0_0 a0_1 a0_2 a0_3 a0_4 a0_5 t397 _ A4.out).mono ?_); rintro e w22 ⟨rfl, hb⟩; refine ⟨_, rfl, ?_⟩; replace BK395 := bb_ BK395 hb; replace BK396 := bb_ BK396 hb; replace HB := bs_ w hb; (try clear hb); (try clear hb2); (try clear hk); (try clear hi); obtain ⟨hcz23_0, hcz23_1, hcz23_2, hcz23_3, hcz23_4, hcz23_5, hfz23_0, hfz23_1, hfz23_2, hfz23_3, hfz23_4, hfz23_5⟩ := ce6_ BK395) | ((with_reducible refine gate_callee (f := 49) rfl ?_); refine goesA_ (some 21) Try.func49 #[.agg #[.int .i64 a0_0, .int .i64 a0_1, .int .i64 a0_2, .int .u64 a0_3, .int .u64 a0_4, .int .u64 a0_5], .int .u64 a1] ?_; (with_reducible refine (spigotref37_raised.calls k a0_0 a0_1 a0_2 a0_3 a0_4 a0_5 a1 t398 t399 t400 t401 t402 t403 _ A13.out).mono ?_); rintro e w24 ⟨rfl, hb⟩; refine ⟨_, rfl, ?_⟩; replace BK395 := bb_ BK395 hb; replace BK396 := bb_ BK396 hb; replace HB := bs_ w hb; (try clear hb); (try clear hb2); (try clear hk); (try clear hi); obtain ⟨hcz25_0, hcz25_1, hcz25_2, hcz25_3, hcz25_4, hcz25_5, hfz25_0, hfz25_1, hfz25_2, hfz25_3, hfz25_4, hfz25_5⟩ := ce6_ BK395) | ((with_reducible refine gate_callee (f := 50) rfl ?_); refine goesA_ (some 24) Try.func50 #[.agg #[.int .i64 t398, .int .i64 t399, .int .i64 t400, .int .u64 t401, .int .u64 t402, .int .u64 t403], .int .i64 a2] ?_; (with_reducible refine (spigotref37_fits.calls k t398 t399 t400 t401 t402 t403 a2 true _ A14.out).mono ?_); rintro e w26 ⟨rfl, hb⟩; refine ⟨_, rfl, ?_⟩; replace BK395 := Aside0.mk (blk_below (g := gb395) (o := .cells #[.int .i64 t398, .int .i64 t399, .int .i64 t400, .int .u64 t401, .int .u64 t402, .int .u64 t403] 28 (0, 0)) (blk_put (cs := #[.int .i64 t398, .int .i64 t399, .int .i64 t400, .int .u64 t401, .int .u64 t402, .int .u64 a0_5]) (blk_put (cs := #[.int .i64 t398, .int .i64 t399, .int .i64 t400, .int .u64 t401, .int .u64 a0_4, .int .u64 a0_5]) (blk_put (cs := #[.int .i64 t398, .int .i64 t399, .int .i64 t400, .int .u64 a0_3, .int .u64 a0_4, .int .u64 a0_5]) (blk_put (cs := #[.int .i64 t398, .int .i64 t399, .int .i64 a0_2, .int .u64 a0_3, .int .u64 a0_4, .int .u64 a0_5]) (blk_put (cs := #[.int .i64 t398, .int .i64 a0_1, .int .i64 a0_2, .int .u64 a0_3, .int .u64 a0_4, .int .u64 a0_5]) (blk_put (cs := #[.int .i64 a0_0, .int .i64 a0_1, .int .i64 a0_2, .int .u64 a0_3, .int .u64 a0_4, .int .u64 a0_5]) (bq_ BK395) 0 _ rfl) 1 _ rfl) 2 _ rfl) 3 _ rfl) 4 _ rfl) 5 _ rfl) hb); replace BK396 := bf_ BK396 hb; replace HB := bs_ w hb; (try clear hb); (try clear hb2); (try clear hk); (try clear hi)))
    replace BK395 := Aside0.mk (blk_drew BK395.out)
    replace BK396 := Aside0.mk (blk_drew BK396.out)
    replace HB := Aside0.mk (below_drew1 HB.out)
    refine start_ (n := 9) (S := fun w' => w'.cell? ⟨gb395, 0, none⟩ = some (.int .i64 t398) ∧ w'.cell? ⟨gb395, 1, none⟩ = some (.int .i64 t399) ∧ w'.cell? ⟨gb395, 2, none⟩ = some (.int .i64 t400) ∧ w'.cell? ⟨gb395, 3, none⟩ = some (.int .u64 t401) ∧ w'.cell? ⟨gb395, 4, none⟩ = some (.int .u64 t402) ∧ w'.cell? ⟨gb395, 5, none⟩ = some (.int .u64 t403)) (ds := [8]) #[false, false, false, false, false, false, false, false, false] (by kernel_rfl) rfl rfl ⟨(blk_cell BK395.out 0).trans rfl, (blk_cell BK395.out 1).trans rfl, (blk_cell BK395.out 2).trans rfl, (blk_cell BK395.out 3).trans rfl, (blk_cell BK395.out 4).trans rfl, (blk_cell BK395.out 5).trans rfl⟩ (fun hHeld => ?_); refine with_tabW spigotref37_Ask.tab9 spigotref37_Ask.bits9 (fun HT_ HW_ => ?_)
    generalize w26.drew = w27 at BK395 BK396 HB hHeld ⊢
    refine pure_ (i := 0) (N := some 27) (v := ?_) (a' := ?_) #[true, false, false, false, false, false, false, false, false] rfl rfl (any_of HT_.out (by kernel_rfl)) (fun _ _ _ h => h) (Or.inl ⟨by rfl, ?_⟩) ?_ ?_
    rotate_left
    ·intro w'
     go_simp
     with_reducible rfl
    rotate_left
    ·simp only [Act.put, List.setIfInBounds_toArray, List.set_cons_zero, List.set_cons_succ, i64_w, i32_w]
     rfl
    refine pure_ (i := 2) (N := some 29) (v := ?_) (a' := ?_) #[true, false, true, false, false, false, false, false, false] rfl rfl (any_of HT_.out (by kernel_rfl)) (fun _ _ _ h => h) (Or.inl ⟨by rfl, ?_⟩) ?_ ?_
    rotate_left
    ·intro w'
     go_simp
     with_reducible rfl
    rotate_left
    ·simp only [Act.put, List.setIfInBounds_toArray, List.set_cons_zero, List.set_cons_succ, i64_w, i32_w]
     rfl
    refine pure_ (i := 4) (N := some 31) (v := ?_) (a' := ?_) #[true, false, true, false, true, false, false, false, false] rfl rfl (any_of HT_.out (by kernel_rfl)) (fun _ _ _ h => h) (Or.inl ⟨by rfl, ?_⟩) ?_ ?_
    rotate_left
    ·intro w'
     go_simp
     with_reducible rfl
    rotate_left
    ·simp only [Act.put, List.setIfInBounds_toArray, List.set_cons_zero, List.set_cons_succ, i64_w, i32_w]
     rfl
    refine take_ (i := 1) (N := some 28) (v := ?_) (a' := ?_) #[true, true, true, false, true, false, false, false, false] rfl rfl (take_ofW HT_.out HW_.out (by kernel_rfl)) (fun _ _ _ h => h) (Or.inl ⟨by rfl, ?_⟩) hHeld ?_ ?_
    rotate_left
    ·rintro w' ⟨s0, s1, s2, s3, s4, s5⟩
     go_simp
     with_reducible rfl
    rotate_left
    ·simp only [Act.put, List.setIfInBounds_toArray, List.set_cons_zero, List.set_cons_succ, i64_w, i32_w]
     rfl
    refine take_ (i := 3) (N := some 30) (v := ?_) (a' := ?_) #[true, true, true, true, true, false, false, false, false] rfl rfl (take_ofW HT_.out HW_.out (by kernel_rfl)) (fun _ _ _ h => h) (Or.inl ⟨by rfl, ?_⟩) hHeld ?_ ?_
    rotate_left
    ·rintro w' ⟨s0, s1, s2, s3, s4, s5⟩
     go_simp
     with_reducible rfl
    rotate_left
    ·simp only [Act.put, List.setIfInBounds_toArray, List.set_cons_zero, List.set_cons_succ, i64_w, i32_w]
     rfl
    refine one_ (i := 5) (N := some 32) #[true, true, true, true, true, true, false, false, false] rfl rfl (one_of HT_.out (by kernel_rfl)) (by decide) (fun K hK => ?_)
    refine goes_ Try.func40 (by kernel_rfl) rfl #[.agg #[.int .i64 t398, .int .i64 t399, .int .i64 t400], .int .i64 a2] (by rfl) rfl rfl (by (try simp only [List.map_toArray, List.map_cons, List.map_nil]); first | done | rfl | (simp only [List.length_drop, List.length_take]; rfl)) ?_
    with_reducible refine (spigotref37_tokens.calls t398 t399 t400 a2 t405 t406 _ A16.out).mono ?_
    rintro e w28 ⟨rfl, hb⟩
    refine ⟨_, rfl, ?_⟩
    replace BK395 := bb_ BK395 hb
    replace BK396 := bb_ BK396 hb
    replace HB := bs_ w hb
    (try clear hb)
    (try clear hb2)
    (try clear hk)
    (try clear hi)
    refine hK.out _ _ ⟨(blk_cell BK395.out 0).trans rfl, (blk_cell BK395.out 1).trans rfl, (blk_cell BK395.out 2).trans rfl, (blk_cell BK395.out 3).trans rfl, (blk_cell BK395.out 4).trans rfl, (blk_cell BK395.out 5).trans rfl⟩ (fun hHeld => ?_)
    clear hK K
    refine norm_ (a' := ?_) ?_ ?_
    rotate_left
    ·show Act.put _ (some 32) _ = _
     simp only [Act.put, List.setIfInBounds_toArray, List.set_cons_zero, List.set_cons_succ, i64_w, i32_w]
     rfl
    refine one_ (i := 6) (N := some 33) #[true, true, true, true, true, true, true, false, false] rfl rfl (one_of HT_.out (by kernel_rfl)) (by decide) (fun K hK => ?_)
    refine goes_ Try.func39 (by kernel_rfl) rfl #[.agg #[.int .u64 t401, .int .u64 t402], .agg #[.int .u64 t405, .int .u64 t406]] (by rfl) rfl rfl (by (try simp only [List.map_toArray, List.map_cons, List.map_nil]); first | done | rfl | (simp only [List.length_drop, List.length_take]; rfl)) ?_
    with_reducible refine (spigotref37_sum.calls t401 t402 t405 t406 t407 t408 _ A17.out).mono ?_
    rintro e w29 ⟨rfl, hb⟩
    refine ⟨_, rfl, ?_⟩
    replace BK395 := bb_ BK395 hb
    replace BK396 := bb_ BK396 hb
    replace HB := bs_ w hb
    (try clear hb)
    (try clear hb2)
    (try clear hk)
    (try clear hi)
    refine hK.out _ _ ⟨(blk_cell BK395.out 0).trans rfl, (blk_cell BK395.out 1).trans rfl, (blk_cell BK395.out 2).trans rfl, (blk_cell BK395.out 3).trans rfl, (blk_cell BK395.out 4).trans rfl, (blk_cell BK395.out 5).trans rfl⟩ (fun hHeld => ?_)
    clear hK K
    refine norm_ (a' := ?_) ?_ ?_
    rotate_left
    ·show Act.put _ (some 33) _ = _
     simp only [Act.put, List.setIfInBounds_toArray, List.set_cons_zero, List.set_cons_succ, i64_w, i32_w]
     rfl
    refine pure_ (i := 7) (N := some 34) (v := ?_) (a' := ?_) #[true, true, true, true, true, true, true, true, false] rfl rfl (any_of HT_.out (by kernel_rfl)) (fun _ _ _ h => h) (Or.inl ⟨by rfl, ?_⟩) ?_ ?_
    rotate_left
    ·intro w'
     go_simp
     with_reducible rfl
    rotate_left
    ·simp only [Act.put, List.setIfInBounds_toArray, List.set_cons_zero, List.set_cons_succ, i64_w, i32_w]
     rfl
    refine last_ (i := 8) (N := none) #[true, true, true, true, true, true, true, true, true] rfl rfl (one_of HT_.out (by kernel_rfl)) (by decide) (fun K hK => ?_)
    have hs30 : w29.cell? ⟨gb395, 3, none⟩ = some (.int .u64 t401) := (blk_cell BK395.out 3).trans rfl
    have hfs30 := blk_frozen BK395.out 3
    have hns30_1 := NB396_395.out
    have hms30_1 := NB395_396.out
    have hs31 : w29.cell? ⟨gb395, 4, none⟩ = some (.int .u64 t402) := (blk_cell BK395.out 4).trans rfl
    have hfs31 := blk_frozen BK395.out 4
    have hns31_1 := NB396_395.out
    have hms31_1 := NB395_396.out
    refine skip_ (w1 := ?_) (by rfl) rfl ?_ ?_
    rotate_left
    ·go_simp
     rfl
    refine hK.out _ _ ?_
    clear hK K
    refine done_ (done_of HT_.out (by kernel_rfl)) ?_
    obtain ⟨hcz32_0, hcz32_1, hcz32_2, hcz32_3, hcz32_4, hcz32_5, hfz32_0, hfz32_1, hfz32_2, hfz32_3, hfz32_4, hfz32_5⟩ := ce6_ BK395
    obtain ⟨hcz33_0, hcz33_1, hcz33_2, hcz33_3, hcz33_4, hcz33_5, hfz33_0, hfz33_1, hfz33_2, hfz33_3, hfz33_4, hfz33_5⟩ := ce6_ BK396
    try go_wp2
    refine bodyPost_ret (results_ctt rfl _ _ gb396 28 #[.int .i64 t398, .int .i64 t399, .int .i64 t400, .int .u64 t407, .int .u64 t408, .int .u64 t403] (0, 0) _ rfl (blk_put (cs := #[.int .i64 t398, .int .i64 t399, .int .i64 t400, .int .u64 t407, .int .u64 t408, .int .u64 0]) (blk_put (cs := #[.int .i64 t398, .int .i64 t399, .int .i64 t400, .int .u64 t407, .int .u64 0, .int .u64 0]) (blk_put (cs := #[.int .i64 t398, .int .i64 t399, .int .i64 t400, .int .u64 0, .int .u64 0, .int .u64 0]) (blk_put (cs := #[.int .i64 t398, .int .i64 t399, .int .i64 0, .int .u64 0, .int .u64 0, .int .u64 0]) (blk_put (cs := #[.int .i64 t398, .int .i64 0, .int .i64 0, .int .u64 0, .int .u64 0, .int .u64 0]) (blk_put (cs := #[.int .i64 0, .int .i64 0, .int .i64 0, .int .u64 0, .int .u64 0, .int .u64 0]) (blk_far (blk_far (bq_ BK396) NB396_395.out _) NB396_395.out _) 0 _ rfl) 1 _ rfl) 2 _ rfl) 3 _ rfl) 4 _ rfl) 5 _ rfl) Try.underlying28 rfl (by kernel_rfl)) rfl ?_
    exact ⟨by first | rfl | (simp [errW_none, errW_some] <;> rfl) | (simp [*, errW_none, errW_some] <;> rfl), by repeat (first | (with_reducible first | exact HB.out | apply below_alloc | apply pw_below_drewN | apply below_drew1 | refine below_set ?_ GE395.out | refine below_set ?_ GE396.out) | exact HB.out)⟩
   ·replace c15 := Bool.eq_false_iff.mpr c15
    subst c15
    have H1 : (some (t398, t399, t400, t401, t402, t403, false, 0)) = some (r1, r2, r3, r4, r5, r6, r7, r8) := by rw [if_neg (show ¬ (false = true) by decide)] at H; exact H
    clear H
    have H := H1
    clear H1
    simp only [Option.some.injEq, Prod.mk.injEq] at H
    obtain ⟨rfl, rfl, rfl, rfl, rfl, rfl, rfl, rfl⟩ := H
    go_enter Try.func18, Try.ntmps18
    go_wp2_with (first | ((with_reducible refine gate_dst (N := 3) rfl ?_); refine box_event ?hg (N := 3) ?hd (cs := #[.int .i64 a0_0, .int .i64 a0_1, .int .i64 a0_2, .int .u64 a0_3, .int .u64 a0_4, .int .u64 a0_5]) (t := 28) ?hr ?_; (case hd => rfl); (case hg => rfl); (case hr => first | (go_simp; done) | (go_simp; rfl)); intro gb395 hg w34 hbox hb; have BK395 := Aside0.mk (hbox); have GW395 := bz_ w hg; have GE395 := GW395; replace HB := bs_ w hb; clear hb hbox hg) | ((with_reducible refine gate_dst (N := 6) rfl ?_); refine box_event ?hg (N := 6) ?hd (cs := #[.int .i64 0, .int .i64 0, .int .i64 0, .int .u64 0, .int .u64 0, .int .u64 0]) (t := 28) ?hr ?_; (case hd => rfl); (case hg => rfl); (case hr => first | (go_simp; done) | (go_simp; rfl)); intro gb396 hg w35 hbox hb; have BK396 := Aside0.mk (hbox); have GW396 := bz_ w hg; have GE396 := GW396; have NB395_396 := bn_ BK395 hg; have NB396_395 := bm_ BK395 hg; replace BK395 := bb_ BK395 hb; replace HB := bs_ w hb; clear hb hbox hg; have hnb36 := NB395_396.out; have hnc36 := NB396_395.out; obtain ⟨hcz37_0, hcz37_1, hcz37_2, hcz37_3, hcz37_4, hcz37_5, hfz37_0, hfz37_1, hfz37_2, hfz37_3, hfz37_4, hfz37_5⟩ := ce6_ BK395) | ((with_reducible refine gate_callee (f := 16) rfl ?_); refine goesA_ (some 11) Try.func16 #[.agg #[.int .i64 a0_0, .int .i64 a0_1, .int .i64 a0_2, .int .u64 a0_3, .int .u64 a0_4, .int .u64 a0_5]] ?_; (with_reducible refine (spigotref37_Check.calls k a0_0 a0_1 a0_2 a0_3 a0_4 a0_5 t397 _ A4.out).mono ?_); rintro e w38 ⟨rfl, hb⟩; refine ⟨_, rfl, ?_⟩; replace BK395 := bb_ BK395 hb; replace BK396 := bb_ BK396 hb; replace HB := bs_ w hb; (try clear hb); (try clear hb2); (try clear hk); (try clear hi); obtain ⟨hcz39_0, hcz39_1, hcz39_2, hcz39_3, hcz39_4, hcz39_5, hfz39_0, hfz39_1, hfz39_2, hfz39_3, hfz39_4, hfz39_5⟩ := ce6_ BK395) | ((with_reducible refine gate_callee (f := 49) rfl ?_); refine goesA_ (some 21) Try.func49 #[.agg #[.int .i64 a0_0, .int .i64 a0_1, .int .i64 a0_2, .int .u64 a0_3, .int .u64 a0_4, .int .u64 a0_5], .int .u64 a1] ?_; (with_reducible refine (spigotref37_raised.calls k a0_0 a0_1 a0_2 a0_3 a0_4 a0_5 a1 t398 t399 t400 t401 t402 t403 _ A13.out).mono ?_); rintro e w40 ⟨rfl, hb⟩; refine ⟨_, rfl, ?_⟩; replace BK395 := bb_ BK395 hb; replace BK396 := bb_ BK396 hb; replace HB := bs_ w hb; (try clear hb); (try clear hb2); (try clear hk); (try clear hi); obtain ⟨hcz41_0, hcz41_1, hcz41_2, hcz41_3, hcz41_4, hcz41_5, hfz41_0, hfz41_1, hfz41_2, hfz41_3, hfz41_4, hfz41_5⟩ := ce6_ BK395) | ((with_reducible refine gate_callee (f := 50) rfl ?_); refine goesA_ (some 24) Try.func50 #[.agg #[.int .i64 t398, .int .i64 t399, .int .i64 t400, .int .u64 t401, .int .u64 t402, .int .u64 t403], .int .i64 a2] ?_; (with_reducible refine (spigotref37_fits.calls k t398 t399 t400 t401 t402 t403 a2 false _ A14.out).mono ?_); rintro e w42 ⟨rfl, hb⟩; refine ⟨_, rfl, ?_⟩; replace BK395 := Aside0.mk (blk_below (g := gb395) (o := .cells #[.int .i64 t398, .int .i64 t399, .int .i64 t400, .int .u64 t401, .int .u64 t402, .int .u64 t403] 28 (0, 0)) (blk_put (cs := #[.int .i64 t398, .int .i64 t399, .int .i64 t400, .int .u64 t401, .int .u64 t402, .int .u64 a0_5]) (blk_put (cs := #[.int .i64 t398, .int .i64 t399, .int .i64 t400, .int .u64 t401, .int .u64 a0_4, .int .u64 a0_5]) (blk_put (cs := #[.int .i64 t398, .int .i64 t399, .int .i64 t400, .int .u64 a0_3, .int .u64 a0_4, .int .u64 a0_5]) (blk_put (cs := #[.int .i64 t398, .int .i64 t399, .int .i64 a0_2, .int .u64 a0_3, .int .u64 a0_4, .int .u64 a0_5]) (blk_put (cs := #[.int .i64 t398, .int .i64 a0_1, .int .i64 a0_2, .int .u64 a0_3, .int .u64 a0_4, .int .u64 a0_5]) (blk_put (cs := #[.int .i64 a0_0, .int .i64 a0_1, .int .i64 a0_2, .int .u64 a0_3, .int .u64 a0_4, .int .u64 a0_5]) (bq_ BK395) 0 _ rfl) 1 _ rfl) 2 _ rfl) 3 _ rfl) 4 _ rfl) 5 _ rfl) hb); replace BK396 := bf_ BK396 hb; replace HB := bs_ w hb; (try clear hb); (try clear hb2); (try clear hk); (try clear hi); obtain ⟨hcz43_0, hcz43_1, hcz43_2, hcz43_3, hcz43_4, hcz43_5, hfz43_0, hfz43_1, hfz43_2, hfz43_3, hfz43_4, hfz43_5⟩ := ce6_ BK395; obtain ⟨hcz44_0, hcz44_1, hcz44_2, hcz44_3, hcz44_4, hcz44_5, hfz44_0, hfz44_1, hfz44_2, hfz44_3, hfz44_4, hfz44_5⟩ := ce6_ BK396))
    refine bodyPost_ret (results_ctt rfl _ _ gb396 28 #[.int .i64 t398, .int .i64 t399, .int .i64 t400, .int .u64 t401, .int .u64 t402, .int .u64 t403] (0, 0) _ rfl (blk_put (cs := #[.int .i64 t398, .int .i64 t399, .int .i64 t400, .int .u64 t401, .int .u64 t402, .int .u64 0]) (blk_put (cs := #[.int .i64 t398, .int .i64 t399, .int .i64 t400, .int .u64 t401, .int .u64 0, .int .u64 0]) (blk_put (cs := #[.int .i64 t398, .int .i64 t399, .int .i64 t400, .int .u64 0, .int .u64 0, .int .u64 0]) (blk_put (cs := #[.int .i64 t398, .int .i64 t399, .int .i64 0, .int .u64 0, .int .u64 0, .int .u64 0]) (blk_put (cs := #[.int .i64 t398, .int .i64 0, .int .i64 0, .int .u64 0, .int .u64 0, .int .u64 0]) (blk_put (cs := #[.int .i64 0, .int .i64 0, .int .i64 0, .int .u64 0, .int .u64 0, .int .u64 0]) (bq_ BK396) 0 _ rfl) 1 _ rfl) 2 _ rfl) 3 _ rfl) 4 _ rfl) 5 _ rfl) Try.underlying28 rfl (by kernel_rfl)) rfl ?_
    exact ⟨by first | rfl | (simp [errW_none, errW_some] <;> rfl) | (simp [*, errW_none, errW_some] <;> rfl), by repeat (first | (with_reducible first | exact HB.out | apply below_alloc | apply pw_below_drewN | apply below_drew1 | refine below_set ?_ GE395.out | refine below_set ?_ GE396.out) | exact HB.out)⟩
 ·rw [if_neg c5] at H
  have c5b0 : (t397 == 0) = false := beq_eq_false_iff_ne.mpr c5
  have c5b1 : (t397 != 0) = true := bne_iff_ne.mpr c5
  simp only [Option.some.injEq, Prod.mk.injEq] at H
  obtain ⟨rfl, rfl, rfl, rfl, rfl, rfl, rfl, rfl⟩ := H
  go_enter Try.func18, Try.ntmps18
  go_wp2_with (first | ((with_reducible refine gate_dst (N := 3) rfl ?_); refine box_event ?hg (N := 3) ?hd (cs := #[.int .i64 a0_0, .int .i64 a0_1, .int .i64 a0_2, .int .u64 a0_3, .int .u64 a0_4, .int .u64 a0_5]) (t := 28) ?hr ?_; (case hd => rfl); (case hg => rfl); (case hr => first | (go_simp; done) | (go_simp; rfl)); intro gb395 hg w45 hbox hb; have BK395 := Aside0.mk (hbox); have GW395 := bz_ w hg; have GE395 := GW395; replace HB := bs_ w hb; clear hb hbox hg) | ((with_reducible refine gate_dst (N := 6) rfl ?_); refine box_event ?hg (N := 6) ?hd (cs := #[.int .i64 0, .int .i64 0, .int .i64 0, .int .u64 0, .int .u64 0, .int .u64 0]) (t := 28) ?hr ?_; (case hd => rfl); (case hg => rfl); (case hr => first | (go_simp; done) | (go_simp; rfl)); intro gb396 hg w46 hbox hb; have BK396 := Aside0.mk (hbox); have GW396 := bz_ w hg; have GE396 := GW396; have NB395_396 := bn_ BK395 hg; have NB396_395 := bm_ BK395 hg; replace BK395 := bb_ BK395 hb; replace HB := bs_ w hb; clear hb hbox hg; have hnb47 := NB395_396.out; have hnc47 := NB396_395.out; obtain ⟨hcz48_0, hcz48_1, hcz48_2, hcz48_3, hcz48_4, hcz48_5, hfz48_0, hfz48_1, hfz48_2, hfz48_3, hfz48_4, hfz48_5⟩ := ce6_ BK395) | ((with_reducible refine gate_callee (f := 16) rfl ?_); refine goesA_ (some 11) Try.func16 #[.agg #[.int .i64 a0_0, .int .i64 a0_1, .int .i64 a0_2, .int .u64 a0_3, .int .u64 a0_4, .int .u64 a0_5]] ?_; (with_reducible refine (spigotref37_Check.calls k a0_0 a0_1 a0_2 a0_3 a0_4 a0_5 t397 _ A4.out).mono ?_); rintro e w49 ⟨rfl, hb⟩; refine ⟨_, rfl, ?_⟩; replace BK395 := bb_ BK395 hb; replace BK396 := bb_ BK396 hb; replace HB := bs_ w hb; (try clear hb); (try clear hb2); (try clear hk); (try clear hi); obtain ⟨hcz50_0, hcz50_1, hcz50_2, hcz50_3, hcz50_4, hcz50_5, hfz50_0, hfz50_1, hfz50_2, hfz50_3, hfz50_4, hfz50_5⟩ := ce6_ BK396))
  refine bodyPost_ret (results_ctt rfl _ _ gb396 28 #[.int .i64 0, .int .i64 0, .int .i64 0, .int .u64 0, .int .u64 0, .int .u64 0] (0, 0) _ rfl (blk_put (cs := #[.int .i64 0, .int .i64 0, .int .i64 0, .int .u64 0, .int .u64 0, .int .u64 0]) (blk_put (cs := #[.int .i64 0, .int .i64 0, .int .i64 0, .int .u64 0, .int .u64 0, .int .u64 0]) (blk_put (cs := #[.int .i64 0, .int .i64 0, .int .i64 0, .int .u64 0, .int .u64 0, .int .u64 0]) (blk_put (cs := #[.int .i64 0, .int .i64 0, .int .i64 0, .int .u64 0, .int .u64 0, .int .u64 0]) (blk_put (cs := #[.int .i64 0, .int .i64 0, .int .i64 0, .int .u64 0, .int .u64 0, .int .u64 0]) (blk_put (cs := #[.int .i64 0, .int .i64 0, .int .i64 0, .int .u64 0, .int .u64 0, .int .u64 0]) (bq_ BK396) 0 _ rfl) 1 _ rfl) 2 _ rfl) 3 _ rfl) 4 _ rfl) 5 _ rfl) Try.underlying28 rfl (by kernel_rfl)) rfl ?_
  exact ⟨by first | rfl | (simp [errW_none, errW_some] <;> rfl) | (simp [*, errW_none, errW_some] <;> rfl), by repeat (first | (with_reducible first | exact HB.out | apply below_alloc | apply pw_below_drewN | apply below_drew1 | refine below_set ?_ GE395.out | refine below_set ?_ GE396.out) | exact HB.out)⟩

end Go.Proofs.Ytnijohomnajngaa.X
