-- written by xprint.py, a program of this session over the kit's print
import Derived.Test.YtnijohomnajngaaX0
import Derived.Test.YtnijohomnajngaaX3
import Derived.Test.YtnijohomnajngaaX4
import Derived.Test.YtnijohomnajngaaX6
import Derived.Test.YtnijohomnajngaaX8
import Derived.Test.YtnijohomnajngaaX13
import Derived.Test.YtnijohomnajngaaX19
import Derived.Test.YtnijohomnajngaaX23
import Derived.Test.YtnijohomnajngaaX28
import Derived.Test.YtnijohomnajngaaX29
import Derived.Test.YtnijohomnajngaaX31
namespace Go.Proofs.Ytnijohomnajngaa.X
open Go.RowKit Go.Proofs.YtnijohomnajngaaW.PrintWords Go.Proofs.YtnijohomnajngaaW.PrintLast Go.Proofs.YtnijohomnajngaaW.PrintMore
attribute [local go_sem] max2_int min2_int max_two min_two max_three min_three max_four min_four   -- for this text's walks alone
set_option linter.unusedVariables false
set_option linter.unusedSimpArgs false

attribute [local go_sem high] eqA28 eqA30
/-! ### spigotlaw37_GcraTells: function 3 -/
def spigotlaw37_GcraTells.f (k : Nat) (a0_0 : Int) (a0_1 : Int) (a0_2 : Int) (a0_3 : Int) (a0_4 : Int) (a0_5 : Int) (a1_0 : Int) (a1_1 : Int) (a1_2 : Int) (a1_3 : Int) (a1_4 : Int) (a1_5 : Int) (a2_0 : Int) (a2_1 : Int) (a2_2 : Int) (a3 : Int) : Option (Bool) := (gcra_New.f a2_0 a2_1 a2_2 a3).bind fun bt304 => ((spigotref37_New.f a2_0 a2_1 a2_2 a3).bind fun bt312 => ((gcra_Of.f k a1_0 a1_1 a1_2 a1_3 a1_4 a1_5).bind fun bt320 => ((spigotref37_Of.f k a1_0 a1_1 a1_2 a1_3 a1_4 a1_5).bind fun bt328 => ((gcra_Bucket.f k a0_0 a0_1 a0_2 a0_3 a0_4 a0_5).bind fun bt336 => ((spigotref37_Bucket.f k a0_0 a0_1 a0_2 a0_3 a0_4 a0_5).bind fun bt344 => ((gcra_Check.f k a0_0 a0_1 a0_2 a0_3 a0_4 a0_5).bind fun t352 => ((spigotref37_Check.f k a0_0 a0_1 a0_2 a0_3 a0_4 a0_5).bind fun t353 => (if t352 = t353 then (if ((bt304.1 == bt312.1 && (bt304.2.1 == bt312.2.1 && (bt304.2.2.1 == bt312.2.2.1))) && ((bt304.2.2.2.1 == bt312.2.2.2.1 && (bt304.2.2.2.2.1 == bt312.2.2.2.2.1)) && (bt304.2.2.2.2.2.1 == bt312.2.2.2.2.2.1))) = true then (if bt304.2.2.2.2.2.2 = bt312.2.2.2.2.2.2 then (if ((bt320.1 == bt328.1 && (bt320.2.1 == bt328.2.1 && (bt320.2.2.1 == bt328.2.2.1))) && ((bt320.2.2.2.1 == bt328.2.2.2.1 && (bt320.2.2.2.2.1 == bt328.2.2.2.2.1)) && (bt320.2.2.2.2.2.1 == bt328.2.2.2.2.2.1))) = true then (if bt320.2.2.2.2.2.2 = bt328.2.2.2.2.2.2 then (if ((bt336.1 == bt344.1 && (bt336.2.1 == bt344.2.1 && (bt336.2.2.1 == bt344.2.2.1))) && (bt336.2.2.2.1 == bt344.2.2.2.1 && (bt336.2.2.2.2.1 == bt344.2.2.2.2.1 && (bt336.2.2.2.2.2.1 == bt344.2.2.2.2.2.1)))) = true then (some (bt336.2.2.2.2.2.2 == bt344.2.2.2.2.2.2)) else (none)) else (none)) else (none)) else (none)) else (none)) else (none)))))))))
theorem spigotlaw37_GcraTells.mono : ∀ a0 a1 a2 a3 a4 a5 a6 a7 a8 a9 a10 a11 a12 a13 a14 a15 k, LeO (spigotlaw37_GcraTells.f k a0 a1 a2 a3 a4 a5 a6 a7 a8 a9 a10 a11 a12 a13 a14 a15) (spigotlaw37_GcraTells.f (k + 1) a0 a1 a2 a3 a4 a5 a6 a7 a8 a9 a10 a11 a12 a13 a14 a15) := by
  intro a0 a1 a2 a3 a4 a5 a6 a7 a8 a9 a10 a11 a12 a13 a14 a15 k
  unfold spigotlaw37_GcraTells.f
  repeat' first
      | (with_reducible exact gcra_Bucket.mono _ _ _ _ _ _ _)
      | (with_reducible exact gcra_Check.mono _ _ _ _ _ _ _)
      | (with_reducible exact gcra_Of.mono _ _ _ _ _ _ _)
      | (with_reducible exact spigotref37_Bucket.mono _ _ _ _ _ _ _)
      | (with_reducible exact spigotref37_Check.mono _ _ _ _ _ _ _)
      | (with_reducible exact spigotref37_Of.mono _ _ _ _ _ _ _)
      | (with_reducible exact LeO.refl _)
      | (with_reducible exact LeO.none _)
      | (with_reducible refine LeO.ite ?_ ?_)
      | (with_reducible refine LeO.bind ?_ (fun _ => ?_))
      | exact gcra_Bucket.mono _ _ _ _ _ _ _
      | exact gcra_Check.mono _ _ _ _ _ _ _
      | exact gcra_Of.mono _ _ _ _ _ _ _
      | exact spigotref37_Bucket.mono _ _ _ _ _ _ _
      | exact spigotref37_Check.mono _ _ _ _ _ _ _
      | exact spigotref37_Of.mono _ _ _ _ _ _ _
      | exact LeO.none _
      | refine LeO.ite ?_ ?_
      | refine LeO.bind ?_ (fun _ => ?_)
def spigotlaw37_GcraTells.T7 : Bool × List (List Nat × List Nat) := (true, [([], []), ([0], [0]), ([], []), ([2, 1], [2]), ([1, 3], [1, 3]), ([4, 3], [4]), ([5], [5]), ([5], [5]), ([6, 7, 5], [5, 6, 7]), ([5, 8], [5, 8]), ([9, 5], [9]), ([10], [10]), ([10], [10]), ([11, 12, 10], [10, 11, 12]), ([10, 13], [10, 13]), ([14, 10], [14]), ([15], [15]), ([15], [15]), ([16, 17, 15], [15, 16, 17]), ([15, 18], [15, 18]), ([19, 15], [19]), ([20], [20]), ([20], [20]), ([21, 22, 20], [20, 21, 22]), ([20, 23], [20, 23]), ([24, 20], [24]), ([25], [25]), ([25], [25]), ([26, 27, 25], [25, 26, 27]), ([25, 28], [25, 28]), ([29, 25], [29]), ([30], [30]), ([30], [30]), ([31, 32, 30], [30, 31, 32]), ([30, 33], [30, 33]), ([34, 30, 0, 1, 2, 3, 4, 5, 6, 7, 8, 9, 10, 11, 12, 13, 14, 15, 16, 17, 18, 19, 20, 21, 22, 23, 24, 25, 26, 27, 28, 29, 30, 31, 32, 33, 34], [34])])
def spigotlaw37_GcraTells.B7 : List Nat := [0, 1, 0, 7, 15, 31, 63, 63, 255, 511, 1023, 2047, 2047, 8191, 16383, 32767, 65535, 65535, 262143, 524287, 1048575, 2097151, 2097151, 8388607, 16777215, 33554431, 67108863, 67108863, 268435455, 536870911, 1073741823, 2147483647, 2147483647, 8589934591, 17179869183, 34359738367]
theorem spigotlaw37_GcraTells.tab7 : rtab .any (opsOf Try.f3 7) = spigotlaw37_GcraTells.T7 := by kernel_rfl
theorem spigotlaw37_GcraTells.bits7 : waitsOk spigotlaw37_GcraTells.T7.2 spigotlaw37_GcraTells.B7 = true := by kernel_rfl
set_option maxHeartbeats 8000000 in
set_option maxRecDepth 100000 in
theorem spigotlaw37_GcraTells.calls (k : Nat) (a0_0 : Int) (a0_1 : Int) (a0_2 : Int) (a0_3 : Int) (a0_4 : Int) (a0_5 : Int) (a1_0 : Int) (a1_1 : Int) (a1_2 : Int) (a1_3 : Int) (a1_4 : Int) (a1_5 : Int) (a2_0 : Int) (a2_1 : Int) (a2_2 : Int) (a3 : Int) (r : Bool) (w : World) (h : spigotlaw37_GcraTells.f k a0_0 a0_1 a0_2 a0_3 a0_4 a0_5 a1_0 a1_1 a1_2 a1_3 a1_4 a1_5 a2_0 a2_1 a2_2 a3 = some r) :
  Calls Try.prog 3 #[.agg #[.int .i64 a0_0, .int .i64 a0_1, .int .i64 a0_2, .int .u64 a0_3, .int .u64 a0_4, .int .u64 a0_5], .agg #[.int .i64 a1_0, .int .i64 a1_1, .int .i64 a1_2, .int .i64 a1_3, .int .i64 a1_4, .int .u64 a1_5], .agg #[.int .i64 a2_0, .int .i64 a2_1, .int .i64 a2_2], .int .u64 a3] w fun e w' => e = .returned (.bool r) ∧ Below w.heap.size w w' := by
 have hu28 := Try.underlying28
 have hu30 := Try.underlying30
 have hu23 := Try.underlying23
 have HB := Aside0.mk (Below.refl w.heap.size w)
 have H : ((gcra_New.f a2_0 a2_1 a2_2 a3).bind fun bt304 => ((spigotref37_New.f a2_0 a2_1 a2_2 a3).bind fun bt312 => ((gcra_Of.f k a1_0 a1_1 a1_2 a1_3 a1_4 a1_5).bind fun bt320 => ((spigotref37_Of.f k a1_0 a1_1 a1_2 a1_3 a1_4 a1_5).bind fun bt328 => ((gcra_Bucket.f k a0_0 a0_1 a0_2 a0_3 a0_4 a0_5).bind fun bt336 => ((spigotref37_Bucket.f k a0_0 a0_1 a0_2 a0_3 a0_4 a0_5).bind fun bt344 => ((gcra_Check.f k a0_0 a0_1 a0_2 a0_3 a0_4 a0_5).bind fun t352 => ((spigotref37_Check.f k a0_0 a0_1 a0_2 a0_3 a0_4 a0_5).bind fun t353 => (if t352 = t353 then (if ((bt304.1 == bt312.1 && (bt304.2.1 == bt312.2.1 && (bt304.2.2.1 == bt312.2.2.1))) && ((bt304.2.2.2.1 == bt312.2.2.2.1 && (bt304.2.2.2.2.1 == bt312.2.2.2.2.1)) && (bt304.2.2.2.2.2.1 == bt312.2.2.2.2.2.1))) = true then (if bt304.2.2.2.2.2.2 = bt312.2.2.2.2.2.2 then (if ((bt320.1 == bt328.1 && (bt320.2.1 == bt328.2.1 && (bt320.2.2.1 == bt328.2.2.1))) && ((bt320.2.2.2.1 == bt328.2.2.2.1 && (bt320.2.2.2.2.1 == bt328.2.2.2.2.1)) && (bt320.2.2.2.2.2.1 == bt328.2.2.2.2.2.1))) = true then (if bt320.2.2.2.2.2.2 = bt328.2.2.2.2.2.2 then (if ((bt336.1 == bt344.1 && (bt336.2.1 == bt344.2.1 && (bt336.2.2.1 == bt344.2.2.1))) && (bt336.2.2.2.1 == bt344.2.2.2.1 && (bt336.2.2.2.2.1 == bt344.2.2.2.2.1 && (bt336.2.2.2.2.2.1 == bt344.2.2.2.2.2.1)))) = true then (some (bt336.2.2.2.2.2.2 == bt344.2.2.2.2.2.2)) else (none)) else (none)) else (none)) else (none)) else (none)) else (none)))))))))) = some r := h
 clear h
 replace H := Option.bind_eq_some_iff.mp H
 obtain ⟨⟨t304, t305, t306, t307, t308, t309, t310⟩, A50, H⟩ := H
 try dsimp only at H
 have A5 := Aside0.mk A50
 clear A50
 replace H := Option.bind_eq_some_iff.mp H
 obtain ⟨⟨t312, t313, t314, t315, t316, t317, t318⟩, A60, H⟩ := H
 try dsimp only at H
 have A6 := Aside0.mk A60
 clear A60
 replace H := Option.bind_eq_some_iff.mp H
 obtain ⟨⟨t320, t321, t322, t323, t324, t325, t326⟩, A70, H⟩ := H
 try dsimp only at H
 have A7 := Aside0.mk A70
 clear A70
 replace H := Option.bind_eq_some_iff.mp H
 obtain ⟨⟨t328, t329, t330, t331, t332, t333, t334⟩, A80, H⟩ := H
 try dsimp only at H
 have A8 := Aside0.mk A80
 clear A80
 replace H := Option.bind_eq_some_iff.mp H
 obtain ⟨⟨t336, t337, t338, t339, t340, t341, t342⟩, A90, H⟩ := H
 try dsimp only at H
 have A9 := Aside0.mk A90
 clear A90
 replace H := Option.bind_eq_some_iff.mp H
 obtain ⟨⟨t344, t345, t346, t347, t348, t349, t350⟩, A100, H⟩ := H
 try dsimp only at H
 have A10 := Aside0.mk A100
 clear A100
 replace H := Option.bind_eq_some_iff.mp H
 obtain ⟨t352, A110, H⟩ := H
 try dsimp only at H
 have A11 := Aside0.mk A110
 clear A110
 replace H := Option.bind_eq_some_iff.mp H
 obtain ⟨t353, A120, H⟩ := H
 try dsimp only at H
 have A12 := Aside0.mk A120
 clear A120
 by_cases c13 : t352 = t353
 rotate_left
 ·rw [if_neg c13] at H; exact absurd H (by simp)
 rw [if_pos c13] at H
 have c13b0 : (t352 == t353) = true := beq_iff_eq.mpr c13
 have c13b1 : (t352 != t353) = false := bne_eq_false_iff_eq.mpr c13
 clear c13
 by_cases c14 : ((t304 == t312 && (t305 == t313 && (t306 == t314))) && ((t307 == t315 && (t308 == t316)) && (t309 == t317))) = true
 rotate_left
 ·rw [if_neg c14] at H; exact absurd H (by simp)
 rw [if_pos c14] at H
 have c14b0 : ((t304 == t312 && (t305 == t313 && (t306 == t314))) && ((t307 == t315 && (t308 == t316)) && (t309 == t317))) = true := c14
 clear c14
 by_cases c15 : t310 = t318
 rotate_left
 ·rw [if_neg c15] at H; exact absurd H (by simp)
 rw [if_pos c15] at H
 have c15b0 : (t310 == t318) = true := beq_iff_eq.mpr c15
 have c15b1 : (t310 != t318) = false := bne_eq_false_iff_eq.mpr c15
 clear c15
 by_cases c16 : ((t320 == t328 && (t321 == t329 && (t322 == t330))) && ((t323 == t331 && (t324 == t332)) && (t325 == t333))) = true
 rotate_left
 ·rw [if_neg c16] at H; exact absurd H (by simp)
 rw [if_pos c16] at H
 have c16b0 : ((t320 == t328 && (t321 == t329 && (t322 == t330))) && ((t323 == t331 && (t324 == t332)) && (t325 == t333))) = true := c16
 clear c16
 by_cases c17 : t326 = t334
 rotate_left
 ·rw [if_neg c17] at H; exact absurd H (by simp)
 rw [if_pos c17] at H
 have c17b0 : (t326 == t334) = true := beq_iff_eq.mpr c17
 have c17b1 : (t326 != t334) = false := bne_eq_false_iff_eq.mpr c17
 clear c17
 by_cases c18 : ((t336 == t344 && (t337 == t345 && (t338 == t346))) && (t339 == t347 && (t340 == t348 && (t341 == t349)))) = true
 rotate_left
 ·rw [if_neg c18] at H; exact absurd H (by simp)
 rw [if_pos c18] at H
 have c18b0 : ((t336 == t344 && (t337 == t345 && (t338 == t346))) && (t339 == t347 && (t340 == t348 && (t341 == t349)))) = true := c18
 clear c18
 obtain rfl := Option.some.inj H
 go_enter Try.func3, Try.ntmps3
 try go_wp2_with (first | ((with_reducible refine gate_dst (N := 4) rfl ?_); refine box_event ?hg (N := 4) ?hd (cs := #[.int .i64 a0_0, .int .i64 a0_1, .int .i64 a0_2, .int .u64 a0_3, .int .u64 a0_4, .int .u64 a0_5]) (t := 28) ?hr ?_; (case hd => rfl); (case hg => rfl); (case hr => first | (go_simp; done) | (go_simp; rfl)); intro gb301 hg w19 hbox hb; have BK301 := Aside0.mk (hbox); have GW301 := bz_ w hg; have GE301 := GW301; replace HB := bs_ w hb; clear hb hbox hg) | ((with_reducible refine gate_dst (N := 5) rfl ?_); refine box_event ?hg (N := 5) ?hd (cs := #[.int .i64 a1_0, .int .i64 a1_1, .int .i64 a1_2, .int .i64 a1_3, .int .i64 a1_4, .int .u64 a1_5]) (t := 30) ?hr ?_; (case hd => rfl); (case hg => rfl); (case hr => first | (go_simp; done) | (go_simp; rfl)); intro gb302 hg w20 hbox hb; have BK302 := Aside0.mk (hbox); have GW302 := bz_ w hg; have GE302 := GW302; have NB301_302 := bn_ BK301 hg; have NB302_301 := bm_ BK301 hg; replace BK301 := bb_ BK301 hb; replace HB := bs_ w hb; clear hb hbox hg) | ((with_reducible refine gate_dst (N := 6) rfl ?_); refine box_event ?hg (N := 6) ?hd (cs := #[.int .i64 a2_0, .int .i64 a2_1, .int .i64 a2_2]) (t := 23) ?hr ?_; (case hd => rfl); (case hg => rfl); (case hr => first | (go_simp; done) | (go_simp; rfl)); intro gb303 hg w21 hbox hb; have BK303 := Aside0.mk (hbox); have GW303 := bz_ w hg; have GE303 := GW303; have NB301_303 := bn_ BK301 hg; have NB303_301 := bm_ BK301 hg; have NB302_303 := bn_ BK302 hg; have NB303_302 := bm_ BK302 hg; replace BK301 := bb_ BK301 hb; replace BK302 := bb_ BK302 hb; replace HB := bs_ w hb; clear hb hbox hg; have hnb22 := NB303_301.out; have hnc22 := NB301_303.out; have hnb23 := NB303_302.out; have hnc23 := NB302_303.out; obtain ⟨hcz24_0, hcz24_1, hcz24_2, hfz24_0, hfz24_1, hfz24_2⟩ := ce3_ BK303) | ((with_reducible refine gate_callee (f := 9) rfl ?_); refine goesA_ (some 24) Try.func9 #[.agg #[.int .i64 a2_0, .int .i64 a2_1, .int .i64 a2_2], .int .u64 a3] ?_; (with_reducible refine (gcra_New.calls a2_0 a2_1 a2_2 a3 t304 t305 t306 t307 t308 t309 t310 _ A5.out).mono ?_); rintro e w25 ⟨rfl, hb⟩; refine ⟨_, rfl, ?_⟩; replace BK301 := bb_ BK301 hb; replace BK302 := bb_ BK302 hb; replace BK303 := bb_ BK303 hb; replace HB := bs_ w hb; (try clear hb); (try clear hb2); (try clear hk); (try clear hi)) | ((with_reducible refine gate_dst (N := 9) rfl ?_); refine box_event ?hg (N := 9) ?hd (cs := #[.int .i64 0, .int .i64 0, .int .i64 0, .int .u64 0, .int .u64 0, .int .u64 0]) (t := 28) ?hr ?_; (case hd => rfl); (case hg => rfl); (case hr => first | (go_simp; done) | (go_simp; rfl)); intro gb311 hg w26 hbox hb; have BK311 := Aside0.mk (hbox); have GW311 := bz_ w hg; have GE311 := GW311; have NB301_311 := bn_ BK301 hg; have NB311_301 := bm_ BK301 hg; have NB302_311 := bn_ BK302 hg; have NB311_302 := bm_ BK302 hg; have NB303_311 := bn_ BK303 hg; have NB311_303 := bm_ BK303 hg; replace BK301 := bb_ BK301 hb; replace BK302 := bb_ BK302 hb; replace BK303 := bb_ BK303 hb; replace HB := bs_ w hb; clear hb hbox hg; have hnb27 := NB311_301.out; have hnc27 := NB301_311.out; have hnb28 := NB311_302.out; have hnc28 := NB302_311.out; have hnb29 := NB311_303.out; have hnc29 := NB303_311.out; obtain ⟨hcz30_0, hcz30_1, hcz30_2, hcz30_3, hcz30_4, hcz30_5, hfz30_0, hfz30_1, hfz30_2, hfz30_3, hfz30_4, hfz30_5⟩ := ce6_ BK311; obtain ⟨hcz31_0, hcz31_1, hcz31_2, hfz31_0, hfz31_1, hfz31_2⟩ := ce3_ BK303) | ((with_reducible refine gate_callee (f := 10) rfl ?_); refine goesA_ (some 30) Try.func10 #[.agg #[.int .i64 a2_0, .int .i64 a2_1, .int .i64 a2_2], .int .u64 a3] ?_; (with_reducible refine (spigotref37_New.calls a2_0 a2_1 a2_2 a3 t312 t313 t314 t315 t316 t317 t318 _ A6.out).mono ?_); rintro e w32 ⟨rfl, hb⟩; refine ⟨_, rfl, ?_⟩; replace BK301 := bf_ BK301 hb; replace BK302 := bf_ BK302 hb; replace BK303 := bf_ BK303 hb; replace BK311 := Aside0.mk (blk_below (g := gb311) (o := .cells #[.int .i64 t304, .int .i64 t305, .int .i64 t306, .int .u64 t307, .int .u64 t308, .int .u64 t309] 28 (0, 0)) (blk_put (cs := #[.int .i64 t304, .int .i64 t305, .int .i64 t306, .int .u64 t307, .int .u64 t308, .int .u64 0]) (blk_put (cs := #[.int .i64 t304, .int .i64 t305, .int .i64 t306, .int .u64 t307, .int .u64 0, .int .u64 0]) (blk_put (cs := #[.int .i64 t304, .int .i64 t305, .int .i64 t306, .int .u64 0, .int .u64 0, .int .u64 0]) (blk_put (cs := #[.int .i64 t304, .int .i64 t305, .int .i64 0, .int .u64 0, .int .u64 0, .int .u64 0]) (blk_put (cs := #[.int .i64 t304, .int .i64 0, .int .i64 0, .int .u64 0, .int .u64 0, .int .u64 0]) (blk_put (cs := #[.int .i64 0, .int .i64 0, .int .i64 0, .int .u64 0, .int .u64 0, .int .u64 0]) (bq_ BK311) 0 _ rfl) 1 _ rfl) 2 _ rfl) 3 _ rfl) 4 _ rfl) 5 _ rfl) hb); replace HB := bs_ w hb; (try clear hb); (try clear hb2); (try clear hk); (try clear hi)) | ((with_reducible refine gate_dst (N := 11) rfl ?_); refine box_event ?hg (N := 11) ?hd (cs := #[.int .i64 0, .int .i64 0, .int .i64 0, .int .u64 0, .int .u64 0, .int .u64 0]) (t := 28) ?hr ?_; (case hd => rfl); (case hg => rfl); (case hr => first | (go_simp; done) | (go_simp; rfl)); intro gb319 hg w33 hbox hb; have BK319 := Aside0.mk (hbox); have GW319 := bz_ w hg; have GE319 := GW319; have NB301_319 := bn_ BK301 hg; have NB319_301 := bm_ BK301 hg; have NB302_319 := bn_ BK302 hg; have NB319_302 := bm_ BK302 hg; have NB303_319 := bn_ BK303 hg; have NB319_303 := bm_ BK303 hg; have NB311_319 := bn_ BK311 hg; have NB319_311 := bm_ BK311 hg; replace BK301 := bb_ BK301 hb; replace BK302 := bb_ BK302 hb; replace BK303 := bb_ BK303 hb; replace BK311 := bb_ BK311 hb; replace HB := bs_ w hb; clear hb hbox hg; have hnb34 := NB319_301.out; have hnc34 := NB301_319.out; have hnb35 := NB319_302.out; have hnc35 := NB302_319.out; have hnb36 := NB319_303.out; have hnc36 := NB303_319.out; have hnb37 := NB319_311.out; have hnc37 := NB311_319.out; obtain ⟨hcz38_0, hcz38_1, hcz38_2, hcz38_3, hcz38_4, hcz38_5, hfz38_0, hfz38_1, hfz38_2, hfz38_3, hfz38_4, hfz38_5⟩ := ce6_ BK319; have hnb39 := NB302_301.out; have hnc39 := NB301_302.out; obtain ⟨hcz40_0, hcz40_1, hcz40_2, hcz40_3, hcz40_4, hcz40_5, hfz40_0, hfz40_1, hfz40_2, hfz40_3, hfz40_4, hfz40_5⟩ := ce6_ BK302) | ((with_reducible refine gate_callee (f := 11) rfl ?_); refine goesA_ (some 35) Try.func11 #[.agg #[.int .i64 a1_0, .int .i64 a1_1, .int .i64 a1_2, .int .i64 a1_3, .int .i64 a1_4, .int .u64 a1_5]] ?_; (with_reducible refine (gcra_Of.calls k a1_0 a1_1 a1_2 a1_3 a1_4 a1_5 t320 t321 t322 t323 t324 t325 t326 _ A7.out).mono ?_); rintro e w41 ⟨rfl, hb⟩; refine ⟨_, rfl, ?_⟩; replace BK301 := bf_ BK301 hb; replace BK302 := bf_ BK302 hb; replace BK303 := bf_ BK303 hb; replace BK311 := bf_ BK311 hb; replace BK319 := Aside0.mk (blk_below (g := gb319) (o := .cells #[.int .i64 t312, .int .i64 t313, .int .i64 t314, .int .u64 t315, .int .u64 t316, .int .u64 t317] 28 (0, 0)) (blk_put (cs := #[.int .i64 t312, .int .i64 t313, .int .i64 t314, .int .u64 t315, .int .u64 t316, .int .u64 0]) (blk_put (cs := #[.int .i64 t312, .int .i64 t313, .int .i64 t314, .int .u64 t315, .int .u64 0, .int .u64 0]) (blk_put (cs := #[.int .i64 t312, .int .i64 t313, .int .i64 t314, .int .u64 0, .int .u64 0, .int .u64 0]) (blk_put (cs := #[.int .i64 t312, .int .i64 t313, .int .i64 0, .int .u64 0, .int .u64 0, .int .u64 0]) (blk_put (cs := #[.int .i64 t312, .int .i64 0, .int .i64 0, .int .u64 0, .int .u64 0, .int .u64 0]) (blk_put (cs := #[.int .i64 0, .int .i64 0, .int .i64 0, .int .u64 0, .int .u64 0, .int .u64 0]) (bq_ BK319) 0 _ rfl) 1 _ rfl) 2 _ rfl) 3 _ rfl) 4 _ rfl) 5 _ rfl) hb); replace HB := bs_ w hb; (try clear hb); (try clear hb2); (try clear hk); (try clear hi)) | ((with_reducible refine gate_dst (N := 13) rfl ?_); refine box_event ?hg (N := 13) ?hd (cs := #[.int .i64 0, .int .i64 0, .int .i64 0, .int .u64 0, .int .u64 0, .int .u64 0]) (t := 28) ?hr ?_; (case hd => rfl); (case hg => rfl); (case hr => first | (go_simp; done) | (go_simp; rfl)); intro gb327 hg w42 hbox hb; have BK327 := Aside0.mk (hbox); have GW327 := bz_ w hg; have GE327 := GW327; have NB301_327 := bn_ BK301 hg; have NB327_301 := bm_ BK301 hg; have NB302_327 := bn_ BK302 hg; have NB327_302 := bm_ BK302 hg; have NB303_327 := bn_ BK303 hg; have NB327_303 := bm_ BK303 hg; have NB311_327 := bn_ BK311 hg; have NB327_311 := bm_ BK311 hg; have NB319_327 := bn_ BK319 hg; have NB327_319 := bm_ BK319 hg; replace BK301 := bb_ BK301 hb; replace BK302 := bb_ BK302 hb; replace BK303 := bb_ BK303 hb; replace BK311 := bb_ BK311 hb; replace BK319 := bb_ BK319 hb; replace HB := bs_ w hb; clear hb hbox hg; have hnb43 := NB327_301.out; have hnc43 := NB301_327.out; have hnb44 := NB327_302.out; have hnc44 := NB302_327.out; have hnb45 := NB327_303.out; have hnc45 := NB303_327.out; have hnb46 := NB327_311.out; have hnc46 := NB311_327.out; have hnb47 := NB327_319.out; have hnc47 := NB319_327.out; obtain ⟨hcz48_0, hcz48_1, hcz48_2, hcz48_3, hcz48_4, hcz48_5, hfz48_0, hfz48_1, hfz48_2, hfz48_3, hfz48_4, hfz48_5⟩ := ce6_ BK327; obtain ⟨hcz49_0, hcz49_1, hcz49_2, hcz49_3, hcz49_4, hcz49_5, hfz49_0, hfz49_1, hfz49_2, hfz49_3, hfz49_4, hfz49_5⟩ := ce6_ BK302) | ((with_reducible refine gate_callee (f := 12) rfl ?_); refine goesA_ (some 40) Try.func12 #[.agg #[.int .i64 a1_0, .int .i64 a1_1, .int .i64 a1_2, .int .i64 a1_3, .int .i64 a1_4, .int .u64 a1_5]] ?_; (with_reducible refine (spigotref37_Of.calls k a1_0 a1_1 a1_2 a1_3 a1_4 a1_5 t328 t329 t330 t331 t332 t333 t334 _ A8.out).mono ?_); rintro e w50 ⟨rfl, hb⟩; refine ⟨_, rfl, ?_⟩; replace BK301 := bf_ BK301 hb; replace BK302 := bf_ BK302 hb; replace BK303 := bf_ BK303 hb; replace BK311 := bf_ BK311 hb; replace BK319 := bf_ BK319 hb; replace BK327 := Aside0.mk (blk_below (g := gb327) (o := .cells #[.int .i64 t320, .int .i64 t321, .int .i64 t322, .int .u64 t323, .int .u64 t324, .int .u64 t325] 28 (0, 0)) (blk_put (cs := #[.int .i64 t320, .int .i64 t321, .int .i64 t322, .int .u64 t323, .int .u64 t324, .int .u64 0]) (blk_put (cs := #[.int .i64 t320, .int .i64 t321, .int .i64 t322, .int .u64 t323, .int .u64 0, .int .u64 0]) (blk_put (cs := #[.int .i64 t320, .int .i64 t321, .int .i64 t322, .int .u64 0, .int .u64 0, .int .u64 0]) (blk_put (cs := #[.int .i64 t320, .int .i64 t321, .int .i64 0, .int .u64 0, .int .u64 0, .int .u64 0]) (blk_put (cs := #[.int .i64 t320, .int .i64 0, .int .i64 0, .int .u64 0, .int .u64 0, .int .u64 0]) (blk_put (cs := #[.int .i64 0, .int .i64 0, .int .i64 0, .int .u64 0, .int .u64 0, .int .u64 0]) (bq_ BK327) 0 _ rfl) 1 _ rfl) 2 _ rfl) 3 _ rfl) 4 _ rfl) 5 _ rfl) hb); replace HB := bs_ w hb; (try clear hb); (try clear hb2); (try clear hk); (try clear hi)) | ((with_reducible refine gate_dst (N := 15) rfl ?_); refine box_event ?hg (N := 15) ?hd (cs := #[.int .i64 0, .int .i64 0, .int .i64 0, .int .u64 0, .int .u64 0, .int .u64 0]) (t := 28) ?hr ?_; (case hd => rfl); (case hg => rfl); (case hr => first | (go_simp; done) | (go_simp; rfl)); intro gb335 hg w51 hbox hb; have BK335 := Aside0.mk (hbox); have GW335 := bz_ w hg; have GE335 := GW335; have NB301_335 := bn_ BK301 hg; have NB335_301 := bm_ BK301 hg; have NB302_335 := bn_ BK302 hg; have NB335_302 := bm_ BK302 hg; have NB303_335 := bn_ BK303 hg; have NB335_303 := bm_ BK303 hg; have NB311_335 := bn_ BK311 hg; have NB335_311 := bm_ BK311 hg; have NB319_335 := bn_ BK319 hg; have NB335_319 := bm_ BK319 hg; have NB327_335 := bn_ BK327 hg; have NB335_327 := bm_ BK327 hg; replace BK301 := bb_ BK301 hb; replace BK302 := bb_ BK302 hb; replace BK303 := bb_ BK303 hb; replace BK311 := bb_ BK311 hb; replace BK319 := bb_ BK319 hb; replace BK327 := bb_ BK327 hb; replace HB := bs_ w hb; clear hb hbox hg; have hnb52 := NB335_301.out; have hnc52 := NB301_335.out; have hnb53 := NB335_302.out; have hnc53 := NB302_335.out; have hnb54 := NB335_303.out; have hnc54 := NB303_335.out; have hnb55 := NB335_311.out; have hnc55 := NB311_335.out; have hnb56 := NB335_319.out; have hnc56 := NB319_335.out; have hnb57 := NB335_327.out; have hnc57 := NB327_335.out; obtain ⟨hcz58_0, hcz58_1, hcz58_2, hcz58_3, hcz58_4, hcz58_5, hfz58_0, hfz58_1, hfz58_2, hfz58_3, hfz58_4, hfz58_5⟩ := ce6_ BK335; obtain ⟨hcz59_0, hcz59_1, hcz59_2, hcz59_3, hcz59_4, hcz59_5, hfz59_0, hfz59_1, hfz59_2, hfz59_3, hfz59_4, hfz59_5⟩ := ce6_ BK301) | ((with_reducible refine gate_callee (f := 13) rfl ?_); refine goesA_ (some 45) Try.func13 #[.agg #[.int .i64 a0_0, .int .i64 a0_1, .int .i64 a0_2, .int .u64 a0_3, .int .u64 a0_4, .int .u64 a0_5]] ?_; (with_reducible refine (gcra_Bucket.calls k a0_0 a0_1 a0_2 a0_3 a0_4 a0_5 t336 t337 t338 t339 t340 t341 t342 _ A9.out).mono ?_); rintro e w60 ⟨rfl, hb⟩; refine ⟨_, rfl, ?_⟩; replace BK301 := bf_ BK301 hb; replace BK302 := bf_ BK302 hb; replace BK303 := bf_ BK303 hb; replace BK311 := bf_ BK311 hb; replace BK319 := bf_ BK319 hb; replace BK327 := bf_ BK327 hb; replace BK335 := Aside0.mk (blk_below (g := gb335) (o := .cells #[.int .i64 t328, .int .i64 t329, .int .i64 t330, .int .u64 t331, .int .u64 t332, .int .u64 t333] 28 (0, 0)) (blk_put (cs := #[.int .i64 t328, .int .i64 t329, .int .i64 t330, .int .u64 t331, .int .u64 t332, .int .u64 0]) (blk_put (cs := #[.int .i64 t328, .int .i64 t329, .int .i64 t330, .int .u64 t331, .int .u64 0, .int .u64 0]) (blk_put (cs := #[.int .i64 t328, .int .i64 t329, .int .i64 t330, .int .u64 0, .int .u64 0, .int .u64 0]) (blk_put (cs := #[.int .i64 t328, .int .i64 t329, .int .i64 0, .int .u64 0, .int .u64 0, .int .u64 0]) (blk_put (cs := #[.int .i64 t328, .int .i64 0, .int .i64 0, .int .u64 0, .int .u64 0, .int .u64 0]) (blk_put (cs := #[.int .i64 0, .int .i64 0, .int .i64 0, .int .u64 0, .int .u64 0, .int .u64 0]) (bq_ BK335) 0 _ rfl) 1 _ rfl) 2 _ rfl) 3 _ rfl) 4 _ rfl) 5 _ rfl) hb); replace HB := bs_ w hb; (try clear hb); (try clear hb2); (try clear hk); (try clear hi)) | ((with_reducible refine gate_dst (N := 17) rfl ?_); refine box_event ?hg (N := 17) ?hd (cs := #[.int .i64 0, .int .i64 0, .int .i64 0, .int .i64 0, .int .i64 0, .int .u64 0]) (t := 30) ?hr ?_; (case hd => rfl); (case hg => rfl); (case hr => first | (go_simp; done) | (go_simp; rfl)); intro gb343 hg w61 hbox hb; have BK343 := Aside0.mk (hbox); have GW343 := bz_ w hg; have GE343 := GW343; have NB301_343 := bn_ BK301 hg; have NB343_301 := bm_ BK301 hg; have NB302_343 := bn_ BK302 hg; have NB343_302 := bm_ BK302 hg; have NB303_343 := bn_ BK303 hg; have NB343_303 := bm_ BK303 hg; have NB311_343 := bn_ BK311 hg; have NB343_311 := bm_ BK311 hg; have NB319_343 := bn_ BK319 hg; have NB343_319 := bm_ BK319 hg; have NB327_343 := bn_ BK327 hg; have NB343_327 := bm_ BK327 hg; have NB335_343 := bn_ BK335 hg; have NB343_335 := bm_ BK335 hg; replace BK301 := bb_ BK301 hb; replace BK302 := bb_ BK302 hb; replace BK303 := bb_ BK303 hb; replace BK311 := bb_ BK311 hb; replace BK319 := bb_ BK319 hb; replace BK327 := bb_ BK327 hb; replace BK335 := bb_ BK335 hb; replace HB := bs_ w hb; clear hb hbox hg; have hnb62 := NB343_301.out; have hnc62 := NB301_343.out; have hnb63 := NB343_302.out; have hnc63 := NB302_343.out; have hnb64 := NB343_303.out; have hnc64 := NB303_343.out; have hnb65 := NB343_311.out; have hnc65 := NB311_343.out; have hnb66 := NB343_319.out; have hnc66 := NB319_343.out; have hnb67 := NB343_327.out; have hnc67 := NB327_343.out; have hnb68 := NB343_335.out; have hnc68 := NB335_343.out; obtain ⟨hcz69_0, hcz69_1, hcz69_2, hcz69_3, hcz69_4, hcz69_5, hfz69_0, hfz69_1, hfz69_2, hfz69_3, hfz69_4, hfz69_5⟩ := ce6_ BK343; obtain ⟨hcz70_0, hcz70_1, hcz70_2, hcz70_3, hcz70_4, hcz70_5, hfz70_0, hfz70_1, hfz70_2, hfz70_3, hfz70_4, hfz70_5⟩ := ce6_ BK301) | ((with_reducible refine gate_callee (f := 14) rfl ?_); refine goesA_ (some 50) Try.func14 #[.agg #[.int .i64 a0_0, .int .i64 a0_1, .int .i64 a0_2, .int .u64 a0_3, .int .u64 a0_4, .int .u64 a0_5]] ?_; (with_reducible refine (spigotref37_Bucket.calls k a0_0 a0_1 a0_2 a0_3 a0_4 a0_5 t344 t345 t346 t347 t348 t349 t350 _ A10.out).mono ?_); rintro e w71 ⟨rfl, hb⟩; refine ⟨_, rfl, ?_⟩; replace BK301 := bf_ BK301 hb; replace BK302 := bf_ BK302 hb; replace BK303 := bf_ BK303 hb; replace BK311 := bf_ BK311 hb; replace BK319 := bf_ BK319 hb; replace BK327 := bf_ BK327 hb; replace BK335 := bf_ BK335 hb; replace BK343 := Aside0.mk (blk_below (g := gb343) (o := .cells #[.int .i64 t336, .int .i64 t337, .int .i64 t338, .int .i64 t339, .int .i64 t340, .int .u64 t341] 30 (0, 0)) (blk_put (cs := #[.int .i64 t336, .int .i64 t337, .int .i64 t338, .int .i64 t339, .int .i64 t340, .int .u64 0]) (blk_put (cs := #[.int .i64 t336, .int .i64 t337, .int .i64 t338, .int .i64 t339, .int .i64 0, .int .u64 0]) (blk_put (cs := #[.int .i64 t336, .int .i64 t337, .int .i64 t338, .int .i64 0, .int .i64 0, .int .u64 0]) (blk_put (cs := #[.int .i64 t336, .int .i64 t337, .int .i64 0, .int .i64 0, .int .i64 0, .int .u64 0]) (blk_put (cs := #[.int .i64 t336, .int .i64 0, .int .i64 0, .int .i64 0, .int .i64 0, .int .u64 0]) (blk_put (cs := #[.int .i64 0, .int .i64 0, .int .i64 0, .int .i64 0, .int .i64 0, .int .u64 0]) (bq_ BK343) 0 _ rfl) 1 _ rfl) 2 _ rfl) 3 _ rfl) 4 _ rfl) 5 _ rfl) hb); replace HB := bs_ w hb; (try clear hb); (try clear hb2); (try clear hk); (try clear hi)) | ((with_reducible refine gate_dst (N := 19) rfl ?_); refine box_event ?hg (N := 19) ?hd (cs := #[.int .i64 0, .int .i64 0, .int .i64 0, .int .i64 0, .int .i64 0, .int .u64 0]) (t := 30) ?hr ?_; (case hd => rfl); (case hg => rfl); (case hr => first | (go_simp; done) | (go_simp; rfl)); intro gb351 hg w72 hbox hb; have BK351 := Aside0.mk (hbox); have GW351 := bz_ w hg; have GE351 := GW351; have NB301_351 := bn_ BK301 hg; have NB351_301 := bm_ BK301 hg; have NB302_351 := bn_ BK302 hg; have NB351_302 := bm_ BK302 hg; have NB303_351 := bn_ BK303 hg; have NB351_303 := bm_ BK303 hg; have NB311_351 := bn_ BK311 hg; have NB351_311 := bm_ BK311 hg; have NB319_351 := bn_ BK319 hg; have NB351_319 := bm_ BK319 hg; have NB327_351 := bn_ BK327 hg; have NB351_327 := bm_ BK327 hg; have NB335_351 := bn_ BK335 hg; have NB351_335 := bm_ BK335 hg; have NB343_351 := bn_ BK343 hg; have NB351_343 := bm_ BK343 hg; replace BK301 := bb_ BK301 hb; replace BK302 := bb_ BK302 hb; replace BK303 := bb_ BK303 hb; replace BK311 := bb_ BK311 hb; replace BK319 := bb_ BK319 hb; replace BK327 := bb_ BK327 hb; replace BK335 := bb_ BK335 hb; replace BK343 := bb_ BK343 hb; replace HB := bs_ w hb; clear hb hbox hg; have hnb73 := NB351_301.out; have hnc73 := NB301_351.out; have hnb74 := NB351_302.out; have hnc74 := NB302_351.out; have hnb75 := NB351_303.out; have hnc75 := NB303_351.out; have hnb76 := NB351_311.out; have hnc76 := NB311_351.out; have hnb77 := NB351_319.out; have hnc77 := NB319_351.out; have hnb78 := NB351_327.out; have hnc78 := NB327_351.out; have hnb79 := NB351_335.out; have hnc79 := NB335_351.out; have hnb80 := NB351_343.out; have hnc80 := NB343_351.out; obtain ⟨hcz81_0, hcz81_1, hcz81_2, hcz81_3, hcz81_4, hcz81_5, hfz81_0, hfz81_1, hfz81_2, hfz81_3, hfz81_4, hfz81_5⟩ := ce6_ BK351))
 have n0_ : Aside0 (((((((w72.setCell ⟨gb351, 0, none⟩ (.int .i64 t344)).setCell ⟨gb351, 1, none⟩ (.int .i64 t345)).setCell ⟨gb351, 2, none⟩ (.int .i64 t346)).setCell ⟨gb351, 3, none⟩ (.int .i64 t347)).setCell ⟨gb351, 4, none⟩ (.int .i64 t348)).setCell ⟨gb351, 5, none⟩ (.int .u64 t349)).heap[gb301]? = some (.cells #[.int .i64 a0_0, .int .i64 a0_1, .int .i64 a0_2, .int .u64 a0_3, .int .u64 a0_4, .int .u64 a0_5] 28 (0, 0))) := ⟨(blk_far (blk_far (blk_far (blk_far (blk_far (blk_far (bq_ BK301) NB301_351.out _) NB301_351.out _) NB301_351.out _) NB301_351.out _) NB301_351.out _) NB301_351.out _)⟩
 have n1_ : Aside0 (((((((w72.setCell ⟨gb351, 0, none⟩ (.int .i64 t344)).setCell ⟨gb351, 1, none⟩ (.int .i64 t345)).setCell ⟨gb351, 2, none⟩ (.int .i64 t346)).setCell ⟨gb351, 3, none⟩ (.int .i64 t347)).setCell ⟨gb351, 4, none⟩ (.int .i64 t348)).setCell ⟨gb351, 5, none⟩ (.int .u64 t349)).heap[gb302]? = some (.cells #[.int .i64 a1_0, .int .i64 a1_1, .int .i64 a1_2, .int .i64 a1_3, .int .i64 a1_4, .int .u64 a1_5] 30 (0, 0))) := ⟨(blk_far (blk_far (blk_far (blk_far (blk_far (blk_far (bq_ BK302) NB302_351.out _) NB302_351.out _) NB302_351.out _) NB302_351.out _) NB302_351.out _) NB302_351.out _)⟩
 have n2_ : Aside0 (((((((w72.setCell ⟨gb351, 0, none⟩ (.int .i64 t344)).setCell ⟨gb351, 1, none⟩ (.int .i64 t345)).setCell ⟨gb351, 2, none⟩ (.int .i64 t346)).setCell ⟨gb351, 3, none⟩ (.int .i64 t347)).setCell ⟨gb351, 4, none⟩ (.int .i64 t348)).setCell ⟨gb351, 5, none⟩ (.int .u64 t349)).heap[gb303]? = some (.cells #[.int .i64 a2_0, .int .i64 a2_1, .int .i64 a2_2] 23 (0, 0))) := ⟨(blk_far (blk_far (blk_far (blk_far (blk_far (blk_far (bq_ BK303) NB303_351.out _) NB303_351.out _) NB303_351.out _) NB303_351.out _) NB303_351.out _) NB303_351.out _)⟩
 have n3_ : Aside0 (((((((w72.setCell ⟨gb351, 0, none⟩ (.int .i64 t344)).setCell ⟨gb351, 1, none⟩ (.int .i64 t345)).setCell ⟨gb351, 2, none⟩ (.int .i64 t346)).setCell ⟨gb351, 3, none⟩ (.int .i64 t347)).setCell ⟨gb351, 4, none⟩ (.int .i64 t348)).setCell ⟨gb351, 5, none⟩ (.int .u64 t349)).heap[gb311]? = some (.cells #[.int .i64 t304, .int .i64 t305, .int .i64 t306, .int .u64 t307, .int .u64 t308, .int .u64 t309] 28 (0, 0))) := ⟨(blk_far (blk_far (blk_far (blk_far (blk_far (blk_far (bq_ BK311) NB311_351.out _) NB311_351.out _) NB311_351.out _) NB311_351.out _) NB311_351.out _) NB311_351.out _)⟩
 have n4_ : Aside0 (((((((w72.setCell ⟨gb351, 0, none⟩ (.int .i64 t344)).setCell ⟨gb351, 1, none⟩ (.int .i64 t345)).setCell ⟨gb351, 2, none⟩ (.int .i64 t346)).setCell ⟨gb351, 3, none⟩ (.int .i64 t347)).setCell ⟨gb351, 4, none⟩ (.int .i64 t348)).setCell ⟨gb351, 5, none⟩ (.int .u64 t349)).heap[gb319]? = some (.cells #[.int .i64 t312, .int .i64 t313, .int .i64 t314, .int .u64 t315, .int .u64 t316, .int .u64 t317] 28 (0, 0))) := ⟨(blk_far (blk_far (blk_far (blk_far (blk_far (blk_far (bq_ BK319) NB319_351.out _) NB319_351.out _) NB319_351.out _) NB319_351.out _) NB319_351.out _) NB319_351.out _)⟩
 have n5_ : Aside0 (((((((w72.setCell ⟨gb351, 0, none⟩ (.int .i64 t344)).setCell ⟨gb351, 1, none⟩ (.int .i64 t345)).setCell ⟨gb351, 2, none⟩ (.int .i64 t346)).setCell ⟨gb351, 3, none⟩ (.int .i64 t347)).setCell ⟨gb351, 4, none⟩ (.int .i64 t348)).setCell ⟨gb351, 5, none⟩ (.int .u64 t349)).heap[gb327]? = some (.cells #[.int .i64 t320, .int .i64 t321, .int .i64 t322, .int .u64 t323, .int .u64 t324, .int .u64 t325] 28 (0, 0))) := ⟨(blk_far (blk_far (blk_far (blk_far (blk_far (blk_far (bq_ BK327) NB327_351.out _) NB327_351.out _) NB327_351.out _) NB327_351.out _) NB327_351.out _) NB327_351.out _)⟩
 have n6_ : Aside0 (((((((w72.setCell ⟨gb351, 0, none⟩ (.int .i64 t344)).setCell ⟨gb351, 1, none⟩ (.int .i64 t345)).setCell ⟨gb351, 2, none⟩ (.int .i64 t346)).setCell ⟨gb351, 3, none⟩ (.int .i64 t347)).setCell ⟨gb351, 4, none⟩ (.int .i64 t348)).setCell ⟨gb351, 5, none⟩ (.int .u64 t349)).heap[gb335]? = some (.cells #[.int .i64 t328, .int .i64 t329, .int .i64 t330, .int .u64 t331, .int .u64 t332, .int .u64 t333] 28 (0, 0))) := ⟨(blk_far (blk_far (blk_far (blk_far (blk_far (blk_far (bq_ BK335) NB335_351.out _) NB335_351.out _) NB335_351.out _) NB335_351.out _) NB335_351.out _) NB335_351.out _)⟩
 have n7_ : Aside0 (((((((w72.setCell ⟨gb351, 0, none⟩ (.int .i64 t344)).setCell ⟨gb351, 1, none⟩ (.int .i64 t345)).setCell ⟨gb351, 2, none⟩ (.int .i64 t346)).setCell ⟨gb351, 3, none⟩ (.int .i64 t347)).setCell ⟨gb351, 4, none⟩ (.int .i64 t348)).setCell ⟨gb351, 5, none⟩ (.int .u64 t349)).heap[gb343]? = some (.cells #[.int .i64 t336, .int .i64 t337, .int .i64 t338, .int .i64 t339, .int .i64 t340, .int .u64 t341] 30 (0, 0))) := ⟨(blk_far (blk_far (blk_far (blk_far (blk_far (blk_far (bq_ BK343) NB343_351.out _) NB343_351.out _) NB343_351.out _) NB343_351.out _) NB343_351.out _) NB343_351.out _)⟩
 have n8_ : Aside0 (((((((w72.setCell ⟨gb351, 0, none⟩ (.int .i64 t344)).setCell ⟨gb351, 1, none⟩ (.int .i64 t345)).setCell ⟨gb351, 2, none⟩ (.int .i64 t346)).setCell ⟨gb351, 3, none⟩ (.int .i64 t347)).setCell ⟨gb351, 4, none⟩ (.int .i64 t348)).setCell ⟨gb351, 5, none⟩ (.int .u64 t349)).heap[gb351]? = some (.cells #[.int .i64 t344, .int .i64 t345, .int .i64 t346, .int .i64 t347, .int .i64 t348, .int .u64 t349] 30 (0, 0))) := ⟨(blk_put (cs := #[.int .i64 t344, .int .i64 t345, .int .i64 t346, .int .i64 t347, .int .i64 t348, .int .u64 0]) (blk_put (cs := #[.int .i64 t344, .int .i64 t345, .int .i64 t346, .int .i64 t347, .int .i64 0, .int .u64 0]) (blk_put (cs := #[.int .i64 t344, .int .i64 t345, .int .i64 t346, .int .i64 0, .int .i64 0, .int .u64 0]) (blk_put (cs := #[.int .i64 t344, .int .i64 t345, .int .i64 0, .int .i64 0, .int .i64 0, .int .u64 0]) (blk_put (cs := #[.int .i64 t344, .int .i64 0, .int .i64 0, .int .i64 0, .int .i64 0, .int .u64 0]) (blk_put (cs := #[.int .i64 0, .int .i64 0, .int .i64 0, .int .i64 0, .int .i64 0, .int .u64 0]) (bq_ BK351) 0 _ rfl) 1 _ rfl) 2 _ rfl) 3 _ rfl) 4 _ rfl) 5 _ rfl)⟩
 have n9_ : Aside0 (Below w.heap.size w ((((((w72.setCell ⟨gb351, 0, none⟩ (.int .i64 t344)).setCell ⟨gb351, 1, none⟩ (.int .i64 t345)).setCell ⟨gb351, 2, none⟩ (.int .i64 t346)).setCell ⟨gb351, 3, none⟩ (.int .i64 t347)).setCell ⟨gb351, 4, none⟩ (.int .i64 t348)).setCell ⟨gb351, 5, none⟩ (.int .u64 t349))) := ⟨by repeat (first | (with_reducible first | exact HB.out | apply below_alloc | apply pw_below_drewN | apply below_drew1 | refine below_set ?_ GE301.out | refine below_set ?_ GE302.out | refine below_set ?_ GE303.out | refine below_set ?_ GE311.out | refine below_set ?_ GE319.out | refine below_set ?_ GE327.out | refine below_set ?_ GE335.out | refine below_set ?_ GE343.out | refine below_set ?_ GE351.out) | exact HB.out)⟩
 (try clear BK301)
 (try clear BK302)
 (try clear BK303)
 (try clear BK311)
 (try clear BK319)
 (try clear BK327)
 (try clear BK335)
 (try clear BK343)
 (try clear BK351)
 (try clear HB)
 generalize ((((((w72.setCell ⟨gb351, 0, none⟩ (.int .i64 t344)).setCell ⟨gb351, 1, none⟩ (.int .i64 t345)).setCell ⟨gb351, 2, none⟩ (.int .i64 t346)).setCell ⟨gb351, 3, none⟩ (.int .i64 t347)).setCell ⟨gb351, 4, none⟩ (.int .i64 t348)).setCell ⟨gb351, 5, none⟩ (.int .u64 t349)) = w82 at n0_ n1_ n2_ n3_ n4_ n5_ n6_ n7_ n8_ n9_ ⊢
 have BK301 := n0_
 have BK302 := n1_
 have BK303 := n2_
 have BK311 := n3_
 have BK319 := n4_
 have BK327 := n5_
 have BK335 := n6_
 have BK343 := n7_
 have BK351 := n8_
 have HB := n9_
 clear n0_ n1_ n2_ n3_ n4_ n5_ n6_ n7_ n8_ n9_
 replace BK301 := Aside0.mk (blk_drew BK301.out)
 replace BK302 := Aside0.mk (blk_drew BK302.out)
 replace BK303 := Aside0.mk (blk_drew BK303.out)
 replace BK311 := Aside0.mk (blk_drew BK311.out)
 replace BK319 := Aside0.mk (blk_drew BK319.out)
 replace BK327 := Aside0.mk (blk_drew BK327.out)
 replace BK335 := Aside0.mk (blk_drew BK335.out)
 replace BK343 := Aside0.mk (blk_drew BK343.out)
 replace BK351 := Aside0.mk (blk_drew BK351.out)
 replace HB := Aside0.mk (below_drew1 HB.out)
 refine start_ (n := 36) (S := fun w' => w'.cell? ⟨gb301, 0, none⟩ = some (.int .i64 a0_0) ∧ w'.cell? ⟨gb301, 1, none⟩ = some (.int .i64 a0_1) ∧ w'.cell? ⟨gb301, 2, none⟩ = some (.int .i64 a0_2) ∧ w'.cell? ⟨gb301, 3, none⟩ = some (.int .u64 a0_3) ∧ w'.cell? ⟨gb301, 4, none⟩ = some (.int .u64 a0_4) ∧ w'.cell? ⟨gb301, 5, none⟩ = some (.int .u64 a0_5) ∧ w'.cell? ⟨gb311, 0, none⟩ = some (.int .i64 t304) ∧ w'.cell? ⟨gb311, 1, none⟩ = some (.int .i64 t305) ∧ w'.cell? ⟨gb311, 2, none⟩ = some (.int .i64 t306) ∧ w'.cell? ⟨gb311, 3, none⟩ = some (.int .u64 t307) ∧ w'.cell? ⟨gb311, 4, none⟩ = some (.int .u64 t308) ∧ w'.cell? ⟨gb311, 5, none⟩ = some (.int .u64 t309) ∧ w'.cell? ⟨gb319, 0, none⟩ = some (.int .i64 t312) ∧ w'.cell? ⟨gb319, 1, none⟩ = some (.int .i64 t313) ∧ w'.cell? ⟨gb319, 2, none⟩ = some (.int .i64 t314) ∧ w'.cell? ⟨gb319, 3, none⟩ = some (.int .u64 t315) ∧ w'.cell? ⟨gb319, 4, none⟩ = some (.int .u64 t316) ∧ w'.cell? ⟨gb319, 5, none⟩ = some (.int .u64 t317) ∧ w'.cell? ⟨gb327, 0, none⟩ = some (.int .i64 t320) ∧ w'.cell? ⟨gb327, 1, none⟩ = some (.int .i64 t321) ∧ w'.cell? ⟨gb327, 2, none⟩ = some (.int .i64 t322) ∧ w'.cell? ⟨gb327, 3, none⟩ = some (.int .u64 t323) ∧ w'.cell? ⟨gb327, 4, none⟩ = some (.int .u64 t324) ∧ w'.cell? ⟨gb327, 5, none⟩ = some (.int .u64 t325) ∧ w'.cell? ⟨gb335, 0, none⟩ = some (.int .i64 t328) ∧ w'.cell? ⟨gb335, 1, none⟩ = some (.int .i64 t329) ∧ w'.cell? ⟨gb335, 2, none⟩ = some (.int .i64 t330) ∧ w'.cell? ⟨gb335, 3, none⟩ = some (.int .u64 t331) ∧ w'.cell? ⟨gb335, 4, none⟩ = some (.int .u64 t332) ∧ w'.cell? ⟨gb335, 5, none⟩ = some (.int .u64 t333) ∧ w'.cell? ⟨gb343, 0, none⟩ = some (.int .i64 t336) ∧ w'.cell? ⟨gb343, 1, none⟩ = some (.int .i64 t337) ∧ w'.cell? ⟨gb343, 2, none⟩ = some (.int .i64 t338) ∧ w'.cell? ⟨gb343, 3, none⟩ = some (.int .i64 t339) ∧ w'.cell? ⟨gb343, 4, none⟩ = some (.int .i64 t340) ∧ w'.cell? ⟨gb343, 5, none⟩ = some (.int .u64 t341) ∧ w'.cell? ⟨gb351, 0, none⟩ = some (.int .i64 t344) ∧ w'.cell? ⟨gb351, 1, none⟩ = some (.int .i64 t345) ∧ w'.cell? ⟨gb351, 2, none⟩ = some (.int .i64 t346) ∧ w'.cell? ⟨gb351, 3, none⟩ = some (.int .i64 t347) ∧ w'.cell? ⟨gb351, 4, none⟩ = some (.int .i64 t348) ∧ w'.cell? ⟨gb351, 5, none⟩ = some (.int .u64 t349)) (ds := []) #[false, false, false, false, false, false, false, false, false, false, false, false, false, false, false, false, false, false, false, false, false, false, false, false, false, false, false, false, false, false, false, false, false, false, false, false] (by kernel_rfl) rfl rfl ⟨(blk_cell BK301.out 0).trans rfl, (blk_cell BK301.out 1).trans rfl, (blk_cell BK301.out 2).trans rfl, (blk_cell BK301.out 3).trans rfl, (blk_cell BK301.out 4).trans rfl, (blk_cell BK301.out 5).trans rfl, (blk_cell BK311.out 0).trans rfl, (blk_cell BK311.out 1).trans rfl, (blk_cell BK311.out 2).trans rfl, (blk_cell BK311.out 3).trans rfl, (blk_cell BK311.out 4).trans rfl, (blk_cell BK311.out 5).trans rfl, (blk_cell BK319.out 0).trans rfl, (blk_cell BK319.out 1).trans rfl, (blk_cell BK319.out 2).trans rfl, (blk_cell BK319.out 3).trans rfl, (blk_cell BK319.out 4).trans rfl, (blk_cell BK319.out 5).trans rfl, (blk_cell BK327.out 0).trans rfl, (blk_cell BK327.out 1).trans rfl, (blk_cell BK327.out 2).trans rfl, (blk_cell BK327.out 3).trans rfl, (blk_cell BK327.out 4).trans rfl, (blk_cell BK327.out 5).trans rfl, (blk_cell BK335.out 0).trans rfl, (blk_cell BK335.out 1).trans rfl, (blk_cell BK335.out 2).trans rfl, (blk_cell BK335.out 3).trans rfl, (blk_cell BK335.out 4).trans rfl, (blk_cell BK335.out 5).trans rfl, (blk_cell BK343.out 0).trans rfl, (blk_cell BK343.out 1).trans rfl, (blk_cell BK343.out 2).trans rfl, (blk_cell BK343.out 3).trans rfl, (blk_cell BK343.out 4).trans rfl, (blk_cell BK343.out 5).trans rfl, (blk_cell BK351.out 0).trans rfl, (blk_cell BK351.out 1).trans rfl, (blk_cell BK351.out 2).trans rfl, (blk_cell BK351.out 3).trans rfl, (blk_cell BK351.out 4).trans rfl, (blk_cell BK351.out 5).trans rfl⟩ (fun hHeld => ?_); refine with_tabW spigotlaw37_GcraTells.tab7 spigotlaw37_GcraTells.bits7 (fun HT_ HW_ => ?_)
 generalize w82.drew = w83 at BK301 BK302 BK303 BK311 BK319 BK327 BK335 BK343 BK351 HB hHeld ⊢
 refine take_ (i := 0) (N := some 53) (v := ?_) (a' := ?_) #[true, false, false, false, false, false, false, false, false, false, false, false, false, false, false, false, false, false, false, false, false, false, false, false, false, false, false, false, false, false, false, false, false, false, false, false] rfl rfl (take_ofW HT_.out HW_.out (by kernel_rfl)) (fun _ _ _ h => h) (Or.inl ⟨by rfl, ?_⟩) hHeld ?_ ?_
 rotate_left
 ·rintro w' ⟨s0, s1, s2, s3, s4, s5, s6, s7, s8, s9, s10, s11, s12, s13, s14, s15, s16, s17, s18, s19, s20, s21, s22, s23, s24, s25, s26, s27, s28, s29, s30, s31, s32, s33, s34, s35, s36, s37, s38, s39, s40, s41⟩
  go_simp
  with_reducible rfl
 rotate_left
 ·simp only [Act.put, List.setIfInBounds_toArray, List.set_cons_zero, List.set_cons_succ, i64_w, i32_w]
  rfl
 refine take_ (i := 2) (N := some 55) (v := ?_) (a' := ?_) #[true, false, true, false, false, false, false, false, false, false, false, false, false, false, false, false, false, false, false, false, false, false, false, false, false, false, false, false, false, false, false, false, false, false, false, false] rfl rfl (take_ofW HT_.out HW_.out (by kernel_rfl)) (fun _ _ _ h => h) (Or.inl ⟨by rfl, ?_⟩) hHeld ?_ ?_
 rotate_left
 ·rintro w' ⟨s0, s1, s2, s3, s4, s5, s6, s7, s8, s9, s10, s11, s12, s13, s14, s15, s16, s17, s18, s19, s20, s21, s22, s23, s24, s25, s26, s27, s28, s29, s30, s31, s32, s33, s34, s35, s36, s37, s38, s39, s40, s41⟩
  go_simp
  with_reducible rfl
 rotate_left
 ·simp only [Act.put, List.setIfInBounds_toArray, List.set_cons_zero, List.set_cons_succ, i64_w, i32_w]
  rfl
 refine one_ (i := 1) (N := some 54) #[true, true, true, false, false, false, false, false, false, false, false, false, false, false, false, false, false, false, false, false, false, false, false, false, false, false, false, false, false, false, false, false, false, false, false, false] rfl rfl (one_of HT_.out (by kernel_rfl)) (by decide) (fun K hK => ?_)
 refine goes_ Try.func15 (by kernel_rfl) rfl #[.agg #[.int .i64 a0_0, .int .i64 a0_1, .int .i64 a0_2, .int .u64 a0_3, .int .u64 a0_4, .int .u64 a0_5]] (by rfl) rfl rfl (by (try simp only [List.map_toArray, List.map_cons, List.map_nil]); first | done | rfl | (simp only [List.length_drop, List.length_take]; rfl)) ?_
 with_reducible refine (gcra_Check.calls k a0_0 a0_1 a0_2 a0_3 a0_4 a0_5 t352 _ A11.out).mono ?_
 rintro e w84 ⟨rfl, hb⟩
 refine ⟨_, rfl, ?_⟩
 replace BK301 := bb_ BK301 hb
 replace BK302 := bb_ BK302 hb
 replace BK303 := bb_ BK303 hb
 replace BK311 := bb_ BK311 hb
 replace BK319 := bb_ BK319 hb
 replace BK327 := bb_ BK327 hb
 replace BK335 := bb_ BK335 hb
 replace BK343 := bb_ BK343 hb
 replace BK351 := bb_ BK351 hb
 replace HB := bs_ w hb
 (try clear hb)
 (try clear hb2)
 (try clear hk)
 (try clear hi)
 refine hK.out _ _ ⟨(blk_cell BK301.out 0).trans rfl, (blk_cell BK301.out 1).trans rfl, (blk_cell BK301.out 2).trans rfl, (blk_cell BK301.out 3).trans rfl, (blk_cell BK301.out 4).trans rfl, (blk_cell BK301.out 5).trans rfl, (blk_cell BK311.out 0).trans rfl, (blk_cell BK311.out 1).trans rfl, (blk_cell BK311.out 2).trans rfl, (blk_cell BK311.out 3).trans rfl, (blk_cell BK311.out 4).trans rfl, (blk_cell BK311.out 5).trans rfl, (blk_cell BK319.out 0).trans rfl, (blk_cell BK319.out 1).trans rfl, (blk_cell BK319.out 2).trans rfl, (blk_cell BK319.out 3).trans rfl, (blk_cell BK319.out 4).trans rfl, (blk_cell BK319.out 5).trans rfl, (blk_cell BK327.out 0).trans rfl, (blk_cell BK327.out 1).trans rfl, (blk_cell BK327.out 2).trans rfl, (blk_cell BK327.out 3).trans rfl, (blk_cell BK327.out 4).trans rfl, (blk_cell BK327.out 5).trans rfl, (blk_cell BK335.out 0).trans rfl, (blk_cell BK335.out 1).trans rfl, (blk_cell BK335.out 2).trans rfl, (blk_cell BK335.out 3).trans rfl, (blk_cell BK335.out 4).trans rfl, (blk_cell BK335.out 5).trans rfl, (blk_cell BK343.out 0).trans rfl, (blk_cell BK343.out 1).trans rfl, (blk_cell BK343.out 2).trans rfl, (blk_cell BK343.out 3).trans rfl, (blk_cell BK343.out 4).trans rfl, (blk_cell BK343.out 5).trans rfl, (blk_cell BK351.out 0).trans rfl, (blk_cell BK351.out 1).trans rfl, (blk_cell BK351.out 2).trans rfl, (blk_cell BK351.out 3).trans rfl, (blk_cell BK351.out 4).trans rfl, (blk_cell BK351.out 5).trans rfl⟩ (fun hHeld => ?_)
 clear hK K
 refine norm_ (a' := ?_) ?_ ?_
 rotate_left
 ·show Act.put _ (some 54) _ = _
  simp only [Act.put, List.setIfInBounds_toArray, List.set_cons_zero, List.set_cons_succ, i64_w, i32_w]
  rfl
 refine one_ (i := 3) (N := some 56) #[true, true, true, true, false, false, false, false, false, false, false, false, false, false, false, false, false, false, false, false, false, false, false, false, false, false, false, false, false, false, false, false, false, false, false, false] rfl rfl (one_of HT_.out (by kernel_rfl)) (by decide) (fun K hK => ?_)
 refine goes_ Try.func16 (by kernel_rfl) rfl #[.agg #[.int .i64 a0_0, .int .i64 a0_1, .int .i64 a0_2, .int .u64 a0_3, .int .u64 a0_4, .int .u64 a0_5]] (by rfl) rfl rfl (by (try simp only [List.map_toArray, List.map_cons, List.map_nil]); first | done | rfl | (simp only [List.length_drop, List.length_take]; rfl)) ?_
 with_reducible refine (spigotref37_Check.calls k a0_0 a0_1 a0_2 a0_3 a0_4 a0_5 t353 _ A12.out).mono ?_
 rintro e w85 ⟨rfl, hb⟩
 refine ⟨_, rfl, ?_⟩
 replace BK301 := bb_ BK301 hb
 replace BK302 := bb_ BK302 hb
 replace BK303 := bb_ BK303 hb
 replace BK311 := bb_ BK311 hb
 replace BK319 := bb_ BK319 hb
 replace BK327 := bb_ BK327 hb
 replace BK335 := bb_ BK335 hb
 replace BK343 := bb_ BK343 hb
 replace BK351 := bb_ BK351 hb
 replace HB := bs_ w hb
 (try clear hb)
 (try clear hb2)
 (try clear hk)
 (try clear hi)
 refine hK.out _ _ ⟨(blk_cell BK301.out 0).trans rfl, (blk_cell BK301.out 1).trans rfl, (blk_cell BK301.out 2).trans rfl, (blk_cell BK301.out 3).trans rfl, (blk_cell BK301.out 4).trans rfl, (blk_cell BK301.out 5).trans rfl, (blk_cell BK311.out 0).trans rfl, (blk_cell BK311.out 1).trans rfl, (blk_cell BK311.out 2).trans rfl, (blk_cell BK311.out 3).trans rfl, (blk_cell BK311.out 4).trans rfl, (blk_cell BK311.out 5).trans rfl, (blk_cell BK319.out 0).trans rfl, (blk_cell BK319.out 1).trans rfl, (blk_cell BK319.out 2).trans rfl, (blk_cell BK319.out 3).trans rfl, (blk_cell BK319.out 4).trans rfl, (blk_cell BK319.out 5).trans rfl, (blk_cell BK327.out 0).trans rfl, (blk_cell BK327.out 1).trans rfl, (blk_cell BK327.out 2).trans rfl, (blk_cell BK327.out 3).trans rfl, (blk_cell BK327.out 4).trans rfl, (blk_cell BK327.out 5).trans rfl, (blk_cell BK335.out 0).trans rfl, (blk_cell BK335.out 1).trans rfl, (blk_cell BK335.out 2).trans rfl, (blk_cell BK335.out 3).trans rfl, (blk_cell BK335.out 4).trans rfl, (blk_cell BK335.out 5).trans rfl, (blk_cell BK343.out 0).trans rfl, (blk_cell BK343.out 1).trans rfl, (blk_cell BK343.out 2).trans rfl, (blk_cell BK343.out 3).trans rfl, (blk_cell BK343.out 4).trans rfl, (blk_cell BK343.out 5).trans rfl, (blk_cell BK351.out 0).trans rfl, (blk_cell BK351.out 1).trans rfl, (blk_cell BK351.out 2).trans rfl, (blk_cell BK351.out 3).trans rfl, (blk_cell BK351.out 4).trans rfl, (blk_cell BK351.out 5).trans rfl⟩ (fun hHeld => ?_)
 clear hK K
 refine norm_ (a' := ?_) ?_ ?_
 rotate_left
 ·show Act.put _ (some 56) _ = _
  simp only [Act.put, List.setIfInBounds_toArray, List.set_cons_zero, List.set_cons_succ, i64_w, i32_w]
  rfl
 refine pure_ (i := 4) (N := some 57) (v := ?_) (a' := ?_) #[true, true, true, true, true, false, false, false, false, false, false, false, false, false, false, false, false, false, false, false, false, false, false, false, false, false, false, false, false, false, false, false, false, false, false, false] rfl rfl (any_of HT_.out (by kernel_rfl)) (fun _ _ _ h => h) (Or.inl ⟨by rfl, ?_⟩) ?_ ?_
 rotate_left
 ·intro w'
  go_simp
  with_reducible rfl
 rotate_left
 ·simp only [Act.put, List.setIfInBounds_toArray, List.set_cons_zero, List.set_cons_succ, i64_w, i32_w]
  rfl
 refine pure_ (i := 5) (N := some 58) (v := ?_) (a' := ?_) #[true, true, true, true, true, true, false, false, false, false, false, false, false, false, false, false, false, false, false, false, false, false, false, false, false, false, false, false, false, false, false, false, false, false, false, false] rfl rfl (any_of HT_.out (by kernel_rfl)) (fun _ _ _ h => h) (Or.inl ⟨by rfl, ?_⟩) ?_ ?_
 rotate_left
 ·intro w'
  go_simp
  with_reducible rfl
 rotate_left
 ·simp only [Act.put, List.setIfInBounds_toArray, List.set_cons_zero, List.set_cons_succ, i64_w, i32_w]
  rfl
 refine take_ (i := 6) (N := some 59) (v := ?_) (a' := ?_) #[true, true, true, true, true, true, true, false, false, false, false, false, false, false, false, false, false, false, false, false, false, false, false, false, false, false, false, false, false, false, false, false, false, false, false, false] rfl rfl (take_ofW HT_.out HW_.out (by kernel_rfl)) (fun _ _ _ h => h) (Or.inl ⟨by rfl, ?_⟩) hHeld ?_ ?_
 rotate_left
 ·rintro w' ⟨s0, s1, s2, s3, s4, s5, s6, s7, s8, s9, s10, s11, s12, s13, s14, s15, s16, s17, s18, s19, s20, s21, s22, s23, s24, s25, s26, s27, s28, s29, s30, s31, s32, s33, s34, s35, s36, s37, s38, s39, s40, s41⟩
  go_simp
  with_reducible rfl
 rotate_left
 ·simp only [Act.put, List.setIfInBounds_toArray, List.set_cons_zero, List.set_cons_succ, i64_w, i32_w]
  rfl
 refine take_ (i := 7) (N := some 60) (v := ?_) (a' := ?_) #[true, true, true, true, true, true, true, true, false, false, false, false, false, false, false, false, false, false, false, false, false, false, false, false, false, false, false, false, false, false, false, false, false, false, false, false] rfl rfl (take_ofW HT_.out HW_.out (by kernel_rfl)) (fun _ _ _ h => h) (Or.inl ⟨by rfl, ?_⟩) hHeld ?_ ?_
 rotate_left
 ·rintro w' ⟨s0, s1, s2, s3, s4, s5, s6, s7, s8, s9, s10, s11, s12, s13, s14, s15, s16, s17, s18, s19, s20, s21, s22, s23, s24, s25, s26, s27, s28, s29, s30, s31, s32, s33, s34, s35, s36, s37, s38, s39, s40, s41⟩
  go_simp
  with_reducible rfl
 rotate_left
 ·simp only [Act.put, List.setIfInBounds_toArray, List.set_cons_zero, List.set_cons_succ, i64_w, i32_w]
  rfl
 refine pure_ (i := 8) (N := some 61) (v := ?_) (a' := ?_) #[true, true, true, true, true, true, true, true, true, false, false, false, false, false, false, false, false, false, false, false, false, false, false, false, false, false, false, false, false, false, false, false, false, false, false, false] rfl rfl (any_of HT_.out (by kernel_rfl)) (fun _ _ _ h => h) (Or.inl ⟨by rfl, ?_⟩) ?_ ?_
 rotate_left
 ·intro w'
  go_simp
  with_reducible rfl
 rotate_left
 ·simp only [Act.put, List.setIfInBounds_toArray, List.set_cons_zero, List.set_cons_succ, i64_w, i32_w]
  rfl
 refine pure_ (i := 9) (N := some 62) (v := ?_) (a' := ?_) #[true, true, true, true, true, true, true, true, true, true, false, false, false, false, false, false, false, false, false, false, false, false, false, false, false, false, false, false, false, false, false, false, false, false, false, false] rfl rfl (any_of HT_.out (by kernel_rfl)) (fun _ _ _ h => h) (Or.inl ⟨by rfl, ?_⟩) ?_ ?_
 rotate_left
 ·intro w'
  go_simp
  with_reducible rfl
 rotate_left
 ·simp only [Act.put, List.setIfInBounds_toArray, List.set_cons_zero, List.set_cons_succ, i64_w, i32_w]
  rfl
 refine pure_ (i := 10) (N := some 63) (v := ?_) (a' := ?_) #[true, true, true, true, true, true, true, true, true, true, true, false, false, false, false, false, false, false, false, false, false, false, false, false, false, false, false, false, false, false, false, false, false, false, false, false] rfl rfl (any_of HT_.out (by kernel_rfl)) (fun _ _ _ h => h) (Or.inl ⟨by rfl, ?_⟩) ?_ ?_
 rotate_left
 ·intro w'
  go_simp
  with_reducible rfl
 rotate_left
 ·simp only [Act.put, List.setIfInBounds_toArray, List.set_cons_zero, List.set_cons_succ, i64_w, i32_w]
  rfl
 refine pure_ (i := 11) (N := some 64) (v := ?_) (a' := ?_) #[true, true, true, true, true, true, true, true, true, true, true, true, false, false, false, false, false, false, false, false, false, false, false, false, false, false, false, false, false, false, false, false, false, false, false, false] rfl rfl (any_of HT_.out (by kernel_rfl)) (fun _ _ _ h => h) (Or.inl ⟨by rfl, ?_⟩) ?_ ?_
 rotate_left
 ·intro w'
  go_simp
  with_reducible rfl
 rotate_left
 ·simp only [Act.put, List.setIfInBounds_toArray, List.set_cons_zero, List.set_cons_succ, i64_w, i32_w]
  rfl
 refine pure_ (i := 12) (N := some 65) (v := ?_) (a' := ?_) #[true, true, true, true, true, true, true, true, true, true, true, true, true, false, false, false, false, false, false, false, false, false, false, false, false, false, false, false, false, false, false, false, false, false, false, false] rfl rfl (any_of HT_.out (by kernel_rfl)) (fun _ _ _ h => h) (Or.inl ⟨by rfl, ?_⟩) ?_ ?_
 rotate_left
 ·intro w'
  go_simp
  with_reducible rfl
 rotate_left
 ·simp only [Act.put, List.setIfInBounds_toArray, List.set_cons_zero, List.set_cons_succ, i64_w, i32_w]
  rfl
 refine pure_ (i := 13) (N := some 66) (v := ?_) (a' := ?_) #[true, true, true, true, true, true, true, true, true, true, true, true, true, true, false, false, false, false, false, false, false, false, false, false, false, false, false, false, false, false, false, false, false, false, false, false] rfl rfl (any_of HT_.out (by kernel_rfl)) (fun _ _ _ h => h) (Or.inl ⟨by rfl, ?_⟩) ?_ ?_
 rotate_left
 ·intro w'
  go_simp
  with_reducible rfl
 rotate_left
 ·simp only [Act.put, List.setIfInBounds_toArray, List.set_cons_zero, List.set_cons_succ, i64_w, i32_w]
  rfl
 refine pure_ (i := 14) (N := some 67) (v := ?_) (a' := ?_) #[true, true, true, true, true, true, true, true, true, true, true, true, true, true, true, false, false, false, false, false, false, false, false, false, false, false, false, false, false, false, false, false, false, false, false, false] rfl rfl (any_of HT_.out (by kernel_rfl)) (fun _ _ _ h => h) (Or.inl ⟨by rfl, ?_⟩) ?_ ?_
 rotate_left
 ·intro w'
  go_simp
  with_reducible rfl
 rotate_left
 ·simp only [Act.put, List.setIfInBounds_toArray, List.set_cons_zero, List.set_cons_succ, i64_w, i32_w]
  rfl
 refine pure_ (i := 15) (N := some 68) (v := ?_) (a' := ?_) #[true, true, true, true, true, true, true, true, true, true, true, true, true, true, true, true, false, false, false, false, false, false, false, false, false, false, false, false, false, false, false, false, false, false, false, false] rfl rfl (any_of HT_.out (by kernel_rfl)) (fun _ _ _ h => h) (Or.inl ⟨by rfl, ?_⟩) ?_ ?_
 rotate_left
 ·intro w'
  go_simp
  with_reducible rfl
 rotate_left
 ·simp only [Act.put, List.setIfInBounds_toArray, List.set_cons_zero, List.set_cons_succ, i64_w, i32_w]
  rfl
 refine take_ (i := 16) (N := some 69) (v := ?_) (a' := ?_) #[true, true, true, true, true, true, true, true, true, true, true, true, true, true, true, true, true, false, false, false, false, false, false, false, false, false, false, false, false, false, false, false, false, false, false, false] rfl rfl (take_ofW HT_.out HW_.out (by kernel_rfl)) (fun _ _ _ h => h) (Or.inl ⟨by rfl, ?_⟩) hHeld ?_ ?_
 rotate_left
 ·rintro w' ⟨s0, s1, s2, s3, s4, s5, s6, s7, s8, s9, s10, s11, s12, s13, s14, s15, s16, s17, s18, s19, s20, s21, s22, s23, s24, s25, s26, s27, s28, s29, s30, s31, s32, s33, s34, s35, s36, s37, s38, s39, s40, s41⟩
  go_simp
  with_reducible rfl
 rotate_left
 ·simp only [Act.put, List.setIfInBounds_toArray, List.set_cons_zero, List.set_cons_succ, i64_w, i32_w]
  rfl
 refine take_ (i := 17) (N := some 70) (v := ?_) (a' := ?_) #[true, true, true, true, true, true, true, true, true, true, true, true, true, true, true, true, true, true, false, false, false, false, false, false, false, false, false, false, false, false, false, false, false, false, false, false] rfl rfl (take_ofW HT_.out HW_.out (by kernel_rfl)) (fun _ _ _ h => h) (Or.inl ⟨by rfl, ?_⟩) hHeld ?_ ?_
 rotate_left
 ·rintro w' ⟨s0, s1, s2, s3, s4, s5, s6, s7, s8, s9, s10, s11, s12, s13, s14, s15, s16, s17, s18, s19, s20, s21, s22, s23, s24, s25, s26, s27, s28, s29, s30, s31, s32, s33, s34, s35, s36, s37, s38, s39, s40, s41⟩
  go_simp
  with_reducible rfl
 rotate_left
 ·simp only [Act.put, List.setIfInBounds_toArray, List.set_cons_zero, List.set_cons_succ, i64_w, i32_w]
  rfl
 refine pure_ (i := 18) (N := some 71) (v := ?_) (a' := ?_) #[true, true, true, true, true, true, true, true, true, true, true, true, true, true, true, true, true, true, true, false, false, false, false, false, false, false, false, false, false, false, false, false, false, false, false, false] rfl rfl (any_of HT_.out (by kernel_rfl)) (fun _ _ _ h => h) (Or.inl ⟨by rfl, ?_⟩) ?_ ?_
 rotate_left
 ·intro w'
  go_simp
  with_reducible rfl
 rotate_left
 ·simp only [Act.put, List.setIfInBounds_toArray, List.set_cons_zero, List.set_cons_succ, i64_w, i32_w]
  rfl
 refine pure_ (i := 19) (N := some 72) (v := ?_) (a' := ?_) #[true, true, true, true, true, true, true, true, true, true, true, true, true, true, true, true, true, true, true, true, false, false, false, false, false, false, false, false, false, false, false, false, false, false, false, false] rfl rfl (any_of HT_.out (by kernel_rfl)) (fun _ _ _ h => h) (Or.inl ⟨by rfl, ?_⟩) ?_ ?_
 rotate_left
 ·intro w'
  go_simp
  with_reducible rfl
 rotate_left
 ·simp only [Act.put, List.setIfInBounds_toArray, List.set_cons_zero, List.set_cons_succ, i64_w, i32_w]
  rfl
 refine pure_ (i := 20) (N := some 73) (v := ?_) (a' := ?_) #[true, true, true, true, true, true, true, true, true, true, true, true, true, true, true, true, true, true, true, true, true, false, false, false, false, false, false, false, false, false, false, false, false, false, false, false] rfl rfl (any_of HT_.out (by kernel_rfl)) (fun _ _ _ h => h) (Or.inl ⟨by rfl, ?_⟩) ?_ ?_
 rotate_left
 ·intro w'
  go_simp
  with_reducible rfl
 rotate_left
 ·simp only [Act.put, List.setIfInBounds_toArray, List.set_cons_zero, List.set_cons_succ, i64_w, i32_w]
  rfl
 refine pure_ (i := 21) (N := some 74) (v := ?_) (a' := ?_) #[true, true, true, true, true, true, true, true, true, true, true, true, true, true, true, true, true, true, true, true, true, true, false, false, false, false, false, false, false, false, false, false, false, false, false, false] rfl rfl (any_of HT_.out (by kernel_rfl)) (fun _ _ _ h => h) (Or.inl ⟨by rfl, ?_⟩) ?_ ?_
 rotate_left
 ·intro w'
  go_simp
  with_reducible rfl
 rotate_left
 ·simp only [Act.put, List.setIfInBounds_toArray, List.set_cons_zero, List.set_cons_succ, i64_w, i32_w]
  rfl
 refine pure_ (i := 22) (N := some 75) (v := ?_) (a' := ?_) #[true, true, true, true, true, true, true, true, true, true, true, true, true, true, true, true, true, true, true, true, true, true, true, false, false, false, false, false, false, false, false, false, false, false, false, false] rfl rfl (any_of HT_.out (by kernel_rfl)) (fun _ _ _ h => h) (Or.inl ⟨by rfl, ?_⟩) ?_ ?_
 rotate_left
 ·intro w'
  go_simp
  with_reducible rfl
 rotate_left
 ·simp only [Act.put, List.setIfInBounds_toArray, List.set_cons_zero, List.set_cons_succ, i64_w, i32_w]
  rfl
 refine pure_ (i := 23) (N := some 76) (v := ?_) (a' := ?_) #[true, true, true, true, true, true, true, true, true, true, true, true, true, true, true, true, true, true, true, true, true, true, true, true, false, false, false, false, false, false, false, false, false, false, false, false] rfl rfl (any_of HT_.out (by kernel_rfl)) (fun _ _ _ h => h) (Or.inl ⟨by rfl, ?_⟩) ?_ ?_
 rotate_left
 ·intro w'
  go_simp
  with_reducible rfl
 rotate_left
 ·simp only [Act.put, List.setIfInBounds_toArray, List.set_cons_zero, List.set_cons_succ, i64_w, i32_w]
  rfl
 refine pure_ (i := 24) (N := some 77) (v := ?_) (a' := ?_) #[true, true, true, true, true, true, true, true, true, true, true, true, true, true, true, true, true, true, true, true, true, true, true, true, true, false, false, false, false, false, false, false, false, false, false, false] rfl rfl (any_of HT_.out (by kernel_rfl)) (fun _ _ _ h => h) (Or.inl ⟨by rfl, ?_⟩) ?_ ?_
 rotate_left
 ·intro w'
  go_simp
  with_reducible rfl
 rotate_left
 ·simp only [Act.put, List.setIfInBounds_toArray, List.set_cons_zero, List.set_cons_succ, i64_w, i32_w]
  rfl
 refine pure_ (i := 25) (N := some 78) (v := ?_) (a' := ?_) #[true, true, true, true, true, true, true, true, true, true, true, true, true, true, true, true, true, true, true, true, true, true, true, true, true, true, false, false, false, false, false, false, false, false, false, false] rfl rfl (any_of HT_.out (by kernel_rfl)) (fun _ _ _ h => h) (Or.inl ⟨by rfl, ?_⟩) ?_ ?_
 rotate_left
 ·intro w'
  go_simp
  with_reducible rfl
 rotate_left
 ·simp only [Act.put, List.setIfInBounds_toArray, List.set_cons_zero, List.set_cons_succ, i64_w, i32_w]
  rfl
 refine take_ (i := 26) (N := some 79) (v := ?_) (a' := ?_) #[true, true, true, true, true, true, true, true, true, true, true, true, true, true, true, true, true, true, true, true, true, true, true, true, true, true, true, false, false, false, false, false, false, false, false, false] rfl rfl (take_ofW HT_.out HW_.out (by kernel_rfl)) (fun _ _ _ h => h) (Or.inl ⟨by rfl, ?_⟩) hHeld ?_ ?_
 rotate_left
 ·rintro w' ⟨s0, s1, s2, s3, s4, s5, s6, s7, s8, s9, s10, s11, s12, s13, s14, s15, s16, s17, s18, s19, s20, s21, s22, s23, s24, s25, s26, s27, s28, s29, s30, s31, s32, s33, s34, s35, s36, s37, s38, s39, s40, s41⟩
  go_simp
  with_reducible rfl
 rotate_left
 ·simp only [Act.put, List.setIfInBounds_toArray, List.set_cons_zero, List.set_cons_succ, i64_w, i32_w]
  rfl
 refine take_ (i := 27) (N := some 80) (v := ?_) (a' := ?_) #[true, true, true, true, true, true, true, true, true, true, true, true, true, true, true, true, true, true, true, true, true, true, true, true, true, true, true, true, false, false, false, false, false, false, false, false] rfl rfl (take_ofW HT_.out HW_.out (by kernel_rfl)) (fun _ _ _ h => h) (Or.inl ⟨by rfl, ?_⟩) hHeld ?_ ?_
 rotate_left
 ·rintro w' ⟨s0, s1, s2, s3, s4, s5, s6, s7, s8, s9, s10, s11, s12, s13, s14, s15, s16, s17, s18, s19, s20, s21, s22, s23, s24, s25, s26, s27, s28, s29, s30, s31, s32, s33, s34, s35, s36, s37, s38, s39, s40, s41⟩
  go_simp
  with_reducible rfl
 rotate_left
 ·simp only [Act.put, List.setIfInBounds_toArray, List.set_cons_zero, List.set_cons_succ, i64_w, i32_w]
  rfl
 refine pure_ (i := 28) (N := some 81) (v := ?_) (a' := ?_) #[true, true, true, true, true, true, true, true, true, true, true, true, true, true, true, true, true, true, true, true, true, true, true, true, true, true, true, true, true, false, false, false, false, false, false, false] rfl rfl (any_of HT_.out (by kernel_rfl)) (fun _ _ _ h => h) (Or.inl ⟨by rfl, ?_⟩) ?_ ?_
 rotate_left
 ·intro w'
  go_simp
  with_reducible rfl
 rotate_left
 ·simp only [Act.put, List.setIfInBounds_toArray, List.set_cons_zero, List.set_cons_succ, i64_w, i32_w]
  rfl
 refine pure_ (i := 29) (N := some 82) (v := ?_) (a' := ?_) #[true, true, true, true, true, true, true, true, true, true, true, true, true, true, true, true, true, true, true, true, true, true, true, true, true, true, true, true, true, true, false, false, false, false, false, false] rfl rfl (any_of HT_.out (by kernel_rfl)) (fun _ _ _ h => h) (Or.inl ⟨by rfl, ?_⟩) ?_ ?_
 rotate_left
 ·intro w'
  go_simp
  with_reducible rfl
 rotate_left
 ·simp only [Act.put, List.setIfInBounds_toArray, List.set_cons_zero, List.set_cons_succ, i64_w, i32_w]
  rfl
 refine pure_ (i := 30) (N := some 83) (v := ?_) (a' := ?_) #[true, true, true, true, true, true, true, true, true, true, true, true, true, true, true, true, true, true, true, true, true, true, true, true, true, true, true, true, true, true, true, false, false, false, false, false] rfl rfl (any_of HT_.out (by kernel_rfl)) (fun _ _ _ h => h) (Or.inl ⟨by rfl, ?_⟩) ?_ ?_
 rotate_left
 ·intro w'
  go_simp
  with_reducible rfl
 rotate_left
 ·simp only [Act.put, List.setIfInBounds_toArray, List.set_cons_zero, List.set_cons_succ, i64_w, i32_w]
  rfl
 refine pure_ (i := 31) (N := some 84) (v := ?_) (a' := ?_) #[true, true, true, true, true, true, true, true, true, true, true, true, true, true, true, true, true, true, true, true, true, true, true, true, true, true, true, true, true, true, true, true, false, false, false, false] rfl rfl (any_of HT_.out (by kernel_rfl)) (fun _ _ _ h => h) (Or.inl ⟨by rfl, ?_⟩) ?_ ?_
 rotate_left
 ·intro w'
  go_simp
  with_reducible rfl
 rotate_left
 ·simp only [Act.put, List.setIfInBounds_toArray, List.set_cons_zero, List.set_cons_succ, i64_w, i32_w]
  rfl
 refine pure_ (i := 32) (N := some 85) (v := ?_) (a' := ?_) #[true, true, true, true, true, true, true, true, true, true, true, true, true, true, true, true, true, true, true, true, true, true, true, true, true, true, true, true, true, true, true, true, true, false, false, false] rfl rfl (any_of HT_.out (by kernel_rfl)) (fun _ _ _ h => h) (Or.inl ⟨by rfl, ?_⟩) ?_ ?_
 rotate_left
 ·intro w'
  go_simp
  with_reducible rfl
 rotate_left
 ·simp only [Act.put, List.setIfInBounds_toArray, List.set_cons_zero, List.set_cons_succ, i64_w, i32_w]
  rfl
 refine pure_ (i := 33) (N := some 86) (v := ?_) (a' := ?_) #[true, true, true, true, true, true, true, true, true, true, true, true, true, true, true, true, true, true, true, true, true, true, true, true, true, true, true, true, true, true, true, true, true, true, false, false] rfl rfl (any_of HT_.out (by kernel_rfl)) (fun _ _ _ h => h) (Or.inl ⟨by rfl, ?_⟩) ?_ ?_
 rotate_left
 ·intro w'
  go_simp
  with_reducible rfl
 rotate_left
 ·simp only [Act.put, List.setIfInBounds_toArray, List.set_cons_zero, List.set_cons_succ, i64_w, i32_w]
  rfl
 refine pure_ (i := 34) (N := some 87) (v := ?_) (a' := ?_) #[true, true, true, true, true, true, true, true, true, true, true, true, true, true, true, true, true, true, true, true, true, true, true, true, true, true, true, true, true, true, true, true, true, true, true, false] rfl rfl (any_of HT_.out (by kernel_rfl)) (fun _ _ _ h => h) (Or.inl ⟨by rfl, ?_⟩) ?_ ?_
 rotate_left
 ·intro w'
  go_simp
  with_reducible rfl
 rotate_left
 ·simp only [Act.put, List.setIfInBounds_toArray, List.set_cons_zero, List.set_cons_succ, i64_w, i32_w]
  rfl
 refine pure_ (i := 35) (N := some 8) (v := ?_) (a' := ?_) #[true, true, true, true, true, true, true, true, true, true, true, true, true, true, true, true, true, true, true, true, true, true, true, true, true, true, true, true, true, true, true, true, true, true, true, true] rfl rfl (any_of HT_.out (by kernel_rfl)) (fun _ _ _ h => h) (Or.inl ⟨by rfl, ?_⟩) ?_ ?_
 rotate_left
 ·intro w'
  go_simp
  with_reducible rfl
 rotate_left
 ·simp only [Act.put, List.setIfInBounds_toArray, List.set_cons_zero, List.set_cons_succ, i64_w, i32_w]
  rfl
 refine done_ (done_of HT_.out (by kernel_rfl)) ?_
 try go_wp2
 go_ret
 exact ⟨by first | rfl | (simp [errW_none, errW_some] <;> rfl) | (simp [*, errW_none, errW_some] <;> rfl), by repeat (first | (with_reducible first | exact HB.out | apply below_alloc | apply pw_below_drewN | apply below_drew1 | refine below_set ?_ GE301.out | refine below_set ?_ GE302.out | refine below_set ?_ GE303.out | refine below_set ?_ GE311.out | refine below_set ?_ GE319.out | refine below_set ?_ GE327.out | refine below_set ?_ GE335.out | refine below_set ?_ GE343.out | refine below_set ?_ GE351.out) | exact HB.out)⟩

end Go.Proofs.Ytnijohomnajngaa.X
