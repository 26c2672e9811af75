-- written by xprint.py, a program of this session over the kit's print
import Derived.Test.YtnijohomnajngaaX0
import Derived.Test.YtnijohomnajngaaX3
import Derived.Test.YtnijohomnajngaaX33
import Derived.Test.YtnijohomnajngaaX36
import Derived.Test.YtnijohomnajngaaX37
import Derived.Test.YtnijohomnajngaaX39
import Derived.Test.YtnijohomnajngaaX41
namespace Go.Proofs.Ytnijohomnajngaa.X
open Go.RowKit Go.Proofs.YtnijohomnajngaaW.PrintWords Go.Proofs.YtnijohomnajngaaW.PrintLast Go.Proofs.YtnijohomnajngaaW.PrintMore
attribute [local go_sem] max2_int min2_int max_two min_two max_three min_three max_four min_four   -- for this text's walks alone
set_option linter.unusedVariables false
set_option linter.unusedSimpArgs false

attribute [local go_sem high] eqA28
/-! ### spigotlaw37_GcraAsks: function 4 -/
def spigotlaw37_GcraAsks.f (k : Nat) (a0_0 : Int) (a0_1 : Int) (a0_2 : Int) (a0_3 : Int) (a0_4 : Int) (a0_5 : Int) (a1 : Int) (a2 : Int) : Option (Bool) := (gcra_Ask.f k a0_0 a0_1 a0_2 a0_3 a0_4 a0_5 a1 a2).bind fun bt507 => ((spigotref37_Ask.f k a0_0 a0_1 a0_2 a0_3 a0_4 a0_5 a1 a2).bind fun bt516 => ((gcra_Level.f k a0_0 a0_1 a0_2 a0_3 a0_4 a0_5 a1).bind fun bt525 => ((spigotref37_Level.f k a0_0 a0_1 a0_2 a0_3 a0_4 a0_5 a1).bind fun bt527 => ((gcra_Wait.f k a0_0 a0_1 a0_2 a0_3 a0_4 a0_5 a2).bind fun bt529 => ((spigotref37_Wait.f k a0_0 a0_1 a0_2 a0_3 a0_4 a0_5 a2).bind fun bt531 => (if ((bt507.1 == bt516.1 && (bt507.2.1 == bt516.2.1 && (bt507.2.2.1 == bt516.2.2.1))) && ((bt507.2.2.2.1 == bt516.2.2.2.1 && (bt507.2.2.2.2.1 == bt516.2.2.2.2.1)) && (bt507.2.2.2.2.2.1 == bt516.2.2.2.2.2.1))) = true then (if (bt507.2.2.2.2.2.2.1 == bt516.2.2.2.2.2.2.1) = true then (if bt507.2.2.2.2.2.2.2 = bt516.2.2.2.2.2.2.2 then (if bt525.1 = bt527.1 then (if bt525.2 = bt527.2 then (if bt529.1 = bt531.1 then (some (bt529.2 == bt531.2)) else (none)) else (none)) else (none)) else (none)) else (none)) else (none)))))))
theorem spigotlaw37_GcraAsks.mono : ∀ a0 a1 a2 a3 a4 a5 a6 a7 k, LeO (spigotlaw37_GcraAsks.f k a0 a1 a2 a3 a4 a5 a6 a7) (spigotlaw37_GcraAsks.f (k + 1) a0 a1 a2 a3 a4 a5 a6 a7) := by
  intro a0 a1 a2 a3 a4 a5 a6 a7 k
  unfold spigotlaw37_GcraAsks.f
  repeat' first
      | (with_reducible exact gcra_Ask.mono _ _ _ _ _ _ _ _ _)
      | (with_reducible exact gcra_Level.mono _ _ _ _ _ _ _ _)
      | (with_reducible exact gcra_Wait.mono _ _ _ _ _ _ _ _)
      | (with_reducible exact spigotref37_Ask.mono _ _ _ _ _ _ _ _ _)
      | (with_reducible exact spigotref37_Level.mono _ _ _ _ _ _ _ _)
      | (with_reducible exact spigotref37_Wait.mono _ _ _ _ _ _ _ _)
      | (with_reducible exact LeO.refl _)
      | (with_reducible exact LeO.none _)
      | (with_reducible refine LeO.ite ?_ ?_)
      | (with_reducible refine LeO.bind ?_ (fun _ => ?_))
      | exact gcra_Ask.mono _ _ _ _ _ _ _ _ _
      | exact gcra_Level.mono _ _ _ _ _ _ _ _
      | exact gcra_Wait.mono _ _ _ _ _ _ _ _
      | exact spigotref37_Ask.mono _ _ _ _ _ _ _ _ _
      | exact spigotref37_Level.mono _ _ _ _ _ _ _ _
      | exact spigotref37_Wait.mono _ _ _ _ _ _ _ _
      | exact LeO.none _
      | refine LeO.ite ?_ ?_
      | refine LeO.bind ?_ (fun _ => ?_)
set_option maxHeartbeats 8000000 in
set_option maxRecDepth 100000 in
theorem spigotlaw37_GcraAsks.calls (k : Nat) (a0_0 : Int) (a0_1 : Int) (a0_2 : Int) (a0_3 : Int) (a0_4 : Int) (a0_5 : Int) (a1 : Int) (a2 : Int) (r : Bool) (w : World) (h : spigotlaw37_GcraAsks.f k a0_0 a0_1 a0_2 a0_3 a0_4 a0_5 a1 a2 = some r) :
  Calls Try.prog 4 #[.agg #[.int .i64 a0_0, .int .i64 a0_1, .int .i64 a0_2, .int .u64 a0_3, .int .u64 a0_4, .int .u64 a0_5], .int .u64 a1, .int .i64 a2] w fun e w' => e = .returned (.bool r) ∧ Below w.heap.size w w' := by
 have hu28 := Try.underlying28
 have HB := Aside0.mk (Below.refl w.heap.size w)
 have H : ((gcra_Ask.f k a0_0 a0_1 a0_2 a0_3 a0_4 a0_5 a1 a2).bind fun bt507 => ((spigotref37_Ask.f k a0_0 a0_1 a0_2 a0_3 a0_4 a0_5 a1 a2).bind fun bt516 => ((gcra_Level.f k a0_0 a0_1 a0_2 a0_3 a0_4 a0_5 a1).bind fun bt525 => ((spigotref37_Level.f k a0_0 a0_1 a0_2 a0_3 a0_4 a0_5 a1).bind fun bt527 => ((gcra_Wait.f k a0_0 a0_1 a0_2 a0_3 a0_4 a0_5 a2).bind fun bt529 => ((spigotref37_Wait.f k a0_0 a0_1 a0_2 a0_3 a0_4 a0_5 a2).bind fun bt531 => (if ((bt507.1 == bt516.1 && (bt507.2.1 == bt516.2.1 && (bt507.2.2.1 == bt516.2.2.1))) && ((bt507.2.2.2.1 == bt516.2.2.2.1 && (bt507.2.2.2.2.1 == bt516.2.2.2.2.1)) && (bt507.2.2.2.2.2.1 == bt516.2.2.2.2.2.1))) = true then (if (bt507.2.2.2.2.2.2.1 == bt516.2.2.2.2.2.2.1) = true then (if bt507.2.2.2.2.2.2.2 = bt516.2.2.2.2.2.2.2 then (if bt525.1 = bt527.1 then (if bt525.2 = bt527.2 then (if bt529.1 = bt531.1 then (some (bt529.2 == bt531.2)) else (none)) else (none)) else (none)) else (none)) else (none)) else (none)))))))) = some r := h
 clear h
 obtain ⟨⟨t507, t508, t509, t510, t511, t512, t513, t514⟩, A4, H⟩ := bo_ H
 try dsimp only at H
 obtain ⟨⟨t516, t517, t518, t519, t520, t521, t522, t523⟩, A5, H⟩ := bo_ H
 try dsimp only at H
 obtain ⟨⟨t525, t526⟩, A6, H⟩ := bo_ H
 try dsimp only at H
 obtain ⟨⟨t527, t528⟩, A7, H⟩ := bo_ H
 try dsimp only at H
 obtain ⟨⟨t529, t530⟩, A8, H⟩ := bo_ H
 try dsimp only at H
 obtain ⟨⟨t531, t532⟩, A9, H⟩ := bo_ H
 try dsimp only at H
 by_cases c10 : ((t507 == t516 && (t508 == t517 && (t509 == t518))) && ((t510 == t519 && (t511 == t520)) && (t512 == t521))) = true
 rotate_left
 ·rw [if_neg c10] at H; exact absurd H (by simp)
 rw [if_pos c10] at H
 have c10b0 : ((t507 == t516 && (t508 == t517 && (t509 == t518))) && ((t510 == t519 && (t511 == t520)) && (t512 == t521))) = true := c10
 clear c10
 by_cases c11 : (t513 == t522) = true
 rotate_left
 ·rw [if_neg c11] at H; exact absurd H (by simp)
 rw [if_pos c11] at H
 have c11b0 : (t513 == t522) = true := c11
 (try (have c11b1 : decide (t513 = t522) = true := by simpa using c11))
 (try (have c11b2 : (t513 == t522) = true := by simpa using c11))
 clear c11
 by_cases c12 : t514 = t523
 rotate_left
 ·rw [if_neg c12] at H; exact absurd H (by simp)
 rw [if_pos c12] at H
 have c12b0 : (t514 == t523) = true := beq_iff_eq.mpr c12
 have c12b1 : (t514 != t523) = false := bne_eq_false_iff_eq.mpr c12
 clear c12
 by_cases c13 : t525 = t527
 rotate_left
 ·rw [if_neg c13] at H; exact absurd H (by simp)
 rw [if_pos c13] at H
 have c13b0 : (t525 == t527) = true := beq_iff_eq.mpr c13
 have c13b1 : (t525 != t527) = false := bne_eq_false_iff_eq.mpr c13
 clear c13
 by_cases c14 : t526 = t528
 rotate_left
 ·rw [if_neg c14] at H; exact absurd H (by simp)
 rw [if_pos c14] at H
 have c14b0 : (t526 == t528) = true := beq_iff_eq.mpr c14
 have c14b1 : (t526 != t528) = false := bne_eq_false_iff_eq.mpr c14
 clear c14
 by_cases c15 : t529 = t531
 rotate_left
 ·rw [if_neg c15] at H; exact absurd H (by simp)
 rw [if_pos c15] at H
 have c15b0 : (t529 == t531) = true := beq_iff_eq.mpr c15
 have c15b1 : (t529 != t531) = false := bne_eq_false_iff_eq.mpr c15
 clear c15
 obtain rfl := Option.some.inj H
 go_enter Try.func4, Try.ntmps4
 go_wp2_with (first | ((with_reducible refine gate_dst (N := 3) rfl ?_); refine bx_ #[.int .i64 a0_0, .int .i64 a0_1, .int .i64 a0_2, .int .u64 a0_3, .int .u64 a0_4, .int .u64 a0_5] 28 ?_; intro gb506 hg w16 BK506 hb; have GW506 := bz_ w hg; replace HB := bs_ w hb; clear hb hg; obtain ⟨_, _, _, _, _, _, _, _, _, _, _, _⟩ := ce6_ BK506) | ((with_reducible refine gate_callee (f := 17) rfl ?_); refine goesA_ (some 25) Try.func17 #[.agg #[.int .i64 a0_0, .int .i64 a0_1, .int .i64 a0_2, .int .u64 a0_3, .int .u64 a0_4, .int .u64 a0_5], .int .u64 a1, .int .i64 a2] ?_; (with_reducible refine (gcra_Ask.calls k a0_0 a0_1 a0_2 a0_3 a0_4 a0_5 a1 a2 t507 t508 t509 t510 t511 t512 t513 t514 _ A4.out).mono ?_); rintro e w18 ⟨rfl, hb⟩; refine ⟨_, rfl, ?_⟩; replace BK506 := bb_ BK506 hb; replace HB := bs_ w hb; clear hb) | ((with_reducible refine gate_dst (N := 7) rfl ?_); refine bx_ #[.int .i64 0, .int .i64 0, .int .i64 0, .int .u64 0, .int .u64 0, .int .u64 0] 28 ?_; intro gb515 hg w19 BK515 hb; have GW515 := bz_ w hg; have NB506_515 := bn_ BK506 hg; have NB515_506 := bm_ BK506 hg; replace BK506 := bb_ BK506 hb; replace HB := bs_ w hb; clear hb hg; have hnb20 := NB515_506.out; have hnc20 := NB506_515.out; obtain ⟨_, _, _, _, _, _, _, _, _, _, _, _⟩ := ce6_ BK515; obtain ⟨_, _, _, _, _, _, _, _, _, _, _, _⟩ := ce6_ BK506) | ((with_reducible refine gate_callee (f := 18) rfl ?_); refine goesA_ (some 33) Try.func18 #[.agg #[.int .i64 a0_0, .int .i64 a0_1, .int .i64 a0_2, .int .u64 a0_3, .int .u64 a0_4, .int .u64 a0_5], .int .u64 a1, .int .i64 a2] ?_; (with_reducible refine (spigotref37_Ask.calls k a0_0 a0_1 a0_2 a0_3 a0_4 a0_5 a1 a2 t516 t517 t518 t519 t520 t521 t522 t523 _ A5.out).mono ?_); rintro e w23 ⟨rfl, hb⟩; refine ⟨_, rfl, ?_⟩; replace BK506 := bf_ BK506 hb; replace BK515 := Aside0.mk (blk_below (g := gb515) (o := .cells #[.int .i64 t507, .int .i64 t508, .int .i64 t509, .int .u64 t510, .int .u64 t511, .int .u64 t512] 28 (0, 0)) (bp6_ (bq_ BK515)) hb); replace HB := bs_ w hb; clear hb) | ((with_reducible refine gate_dst (N := 10) rfl ?_); refine bx_ #[.int .i64 0, .int .i64 0, .int .i64 0, .int .u64 0, .int .u64 0, .int .u64 0] 28 ?_; intro gb524 hg w24 BK524 hb; have GW524 := bz_ w hg; have NB506_524 := bn_ BK506 hg; have NB524_506 := bm_ BK506 hg; have NB515_524 := bn_ BK515 hg; have NB524_515 := bm_ BK515 hg; replace BK506 := bb_ BK506 hb; replace BK515 := bb_ BK515 hb; replace HB := bs_ w hb; clear hb hg; have hnb25 := NB524_506.out; have hnc25 := NB506_524.out; have hnb26 := NB524_515.out; have hnc26 := NB515_524.out; obtain ⟨_, _, _, _, _, _, _, _, _, _, _, _⟩ := ce6_ BK524; obtain ⟨_, _, _, _, _, _, _, _, _, _, _, _⟩ := ce6_ BK506) | ((with_reducible refine gate_callee (f := 19) rfl ?_); refine goesA_ (some 40) Try.func19 #[.agg #[.int .i64 a0_0, .int .i64 a0_1, .int .i64 a0_2, .int .u64 a0_3, .int .u64 a0_4, .int .u64 a0_5], .int .u64 a1] ?_; (with_reducible refine (gcra_Level.calls k a0_0 a0_1 a0_2 a0_3 a0_4 a0_5 a1 t525 t526 _ A6.out).mono ?_); rintro e w29 ⟨rfl, hb⟩; refine ⟨_, rfl, ?_⟩; replace BK506 := bf_ BK506 hb; replace BK515 := bf_ BK515 hb; replace BK524 := Aside0.mk (blk_below (g := gb524) (o := .cells #[.int .i64 t516, .int .i64 t517, .int .i64 t518, .int .u64 t519, .int .u64 t520, .int .u64 t521] 28 (0, 0)) (bp6_ (bq_ BK524)) hb); replace HB := bs_ w hb; clear hb; obtain ⟨_, _, _, _, _, _, _, _, _, _, _, _⟩ := ce6_ BK506) | ((with_reducible refine gate_callee (f := 20) rfl ?_); refine goesA_ (some 46) Try.func20 #[.agg #[.int .i64 a0_0, .int .i64 a0_1, .int .i64 a0_2, .int .u64 a0_3, .int .u64 a0_4, .int .u64 a0_5], .int .u64 a1] ?_; (with_reducible refine (spigotref37_Level.calls k a0_0 a0_1 a0_2 a0_3 a0_4 a0_5 a1 t527 t528 _ A7.out).mono ?_); rintro e w31 ⟨rfl, hb⟩; refine ⟨_, rfl, ?_⟩; replace BK506 := bb_ BK506 hb; replace BK515 := bb_ BK515 hb; replace BK524 := bb_ BK524 hb; replace HB := bs_ w hb; clear hb; obtain ⟨_, _, _, _, _, _, _, _, _, _, _, _⟩ := ce6_ BK506) | ((with_reducible refine gate_callee (f := 21) rfl ?_); refine goesA_ (some 52) Try.func21 #[.agg #[.int .i64 a0_0, .int .i64 a0_1, .int .i64 a0_2, .int .u64 a0_3, .int .u64 a0_4, .int .u64 a0_5], .int .i64 a2] ?_; (with_reducible refine (gcra_Wait.calls k a0_0 a0_1 a0_2 a0_3 a0_4 a0_5 a2 t529 t530 _ A8.out).mono ?_); rintro e w33 ⟨rfl, hb⟩; refine ⟨_, rfl, ?_⟩; replace BK506 := bb_ BK506 hb; replace BK515 := bb_ BK515 hb; replace BK524 := bb_ BK524 hb; replace HB := bs_ w hb; clear hb; obtain ⟨_, _, _, _, _, _, _, _, _, _, _, _⟩ := ce6_ BK506) | ((with_reducible refine gate_callee (f := 22) rfl ?_); refine goesA_ (some 58) Try.func22 #[.agg #[.int .i64 a0_0, .int .i64 a0_1, .int .i64 a0_2, .int .u64 a0_3, .int .u64 a0_4, .int .u64 a0_5], .int .i64 a2] ?_; (with_reducible refine (spigotref37_Wait.calls k a0_0 a0_1 a0_2 a0_3 a0_4 a0_5 a2 t531 t532 _ A9.out).mono ?_); rintro e w35 ⟨rfl, hb⟩; refine ⟨_, rfl, ?_⟩; replace BK506 := bb_ BK506 hb; replace BK515 := bb_ BK515 hb; replace BK524 := bb_ BK524 hb; replace HB := bs_ w hb; clear hb; obtain ⟨_, _, _, _, _, _, _, _, _, _, _, _⟩ := ce6_ BK515; obtain ⟨_, _, _, _, _, _, _, _, _, _, _, _⟩ := ce6_ BK524))
 go_ret
 exact fi_

end Go.Proofs.Ytnijohomnajngaa.X
