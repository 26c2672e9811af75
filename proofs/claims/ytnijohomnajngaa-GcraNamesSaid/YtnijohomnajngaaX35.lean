-- written by xprint.py, a program of this session over the kit's print
import Derived.Test.YtnijohomnajngaaX0
import Derived.Test.YtnijohomnajngaaX4
import Derived.Test.YtnijohomnajngaaX5
import Derived.Test.YtnijohomnajngaaX19
import Derived.Test.YtnijohomnajngaaX25
import Derived.Test.YtnijohomnajngaaX30
import Derived.Test.YtnijohomnajngaaX34
namespace Go.Proofs.Ytnijohomnajngaa.X
open Go.RowKit Go.Proofs.YtnijohomnajngaaW.PrintWords Go.Proofs.YtnijohomnajngaaW.PrintLast Go.Proofs.YtnijohomnajngaaW.PrintMore
attribute [local go_sem] max2_int min2_int max_two min_two max_three min_three max_four min_four   -- for this text's walks alone
set_option linter.unusedVariables false
set_option linter.unusedSimpArgs false

attribute [local go_sem high] eqA30
/-! ### spigotlaw37_alive: function 23 -/
def spigotlaw37_alive.f (k : Nat)  : Option (Bool) := (spigotlaw37_given.f).bind fun bt538 => ((gcra_New.f bt538.1 bt538.2.1 bt538.2.2 10).bind fun bt541 => ((gcra_Ask.f k bt541.1 bt541.2.1 bt541.2.2.1 bt541.2.2.2.1 bt541.2.2.2.2.1 bt541.2.2.2.2.2.1 10 2).bind fun bt549 => ((gcra_Ask.f k bt549.1 bt549.2.1 bt549.2.2.1 bt549.2.2.2.1 bt549.2.2.2.2.1 bt549.2.2.2.2.2.1 10 2).bind fun bt558 => ((gcra_Ask.f k bt558.1 bt558.2.1 bt558.2.2.1 bt558.2.2.2.1 bt558.2.2.2.2.1 bt558.2.2.2.2.2.1 13 2).bind fun bt567 => ((gcra_Bucket.f k bt567.1 bt567.2.1 bt567.2.2.1 bt567.2.2.2.1 bt567.2.2.2.2.1 bt567.2.2.2.2.2.1).bind fun bt576 => ((gcra_Wait.f k bt567.1 bt567.2.1 bt567.2.2.1 bt567.2.2.2.1 bt567.2.2.2.2.1 bt567.2.2.2.2.2.1 1).bind fun bt584 => ((spigotlaw37_tat.f bt541.1 bt541.2.1 bt541.2.2.1 bt541.2.2.2.1 bt541.2.2.2.2.1 bt541.2.2.2.2.2.1 bt541.2.2.2.2.2.2 20 10).bind fun t586 => (if t586 = true then ((spigotlaw37_tat.f bt549.1 bt549.2.1 bt549.2.2.1 bt549.2.2.2.1 bt549.2.2.2.2.1 bt549.2.2.2.2.2.1 bt549.2.2.2.2.2.2.2 30 10).bind fun t587 => (if t587 = true then (if bt549.2.2.2.2.2.2.1 = true then ((spigotlaw37_tat.f bt558.1 bt558.2.1 bt558.2.2.1 bt558.2.2.2.1 bt558.2.2.2.2.1 bt558.2.2.2.2.2.1 bt558.2.2.2.2.2.2.2 30 10).bind fun t588 => (if t588 = true then (if bt558.2.2.2.2.2.2.1 = true then (none) else ((spigotlaw37_tat.f bt567.1 bt567.2.1 bt567.2.2.1 bt567.2.2.2.1 bt567.2.2.2.2.1 bt567.2.2.2.2.2.1 bt567.2.2.2.2.2.2.2 40 13).bind fun t589 => (if t589 = true then (if bt567.2.2.2.2.2.2.1 = true then (if bt576.2.2.2.2.2.2 = 0 then ((spigotlaw37_given.f).bind fun bt590 => (if ((bt576.1 == bt590.1 && (bt576.2.1 == bt590.2.1 && (bt576.2.2.1 == bt590.2.2))) && (bt576.2.2.2.1 == 0 && (bt576.2.2.2.2.1 == 1 && (bt576.2.2.2.2.2.1 == 13)))) = true then (if bt584.2 = 0 then (some (bt584.1 == 2)) else (none)) else (none))) else (none)) else (none)) else (none)))) else (none))) else (none)) else (none))) else (none)))))))))
theorem spigotlaw37_alive.mono : ∀ k, LeO (spigotlaw37_alive.f k ) (spigotlaw37_alive.f (k + 1) ) := by
  intro  k
  unfold spigotlaw37_alive.f
  repeat' first
      | (with_reducible exact gcra_Ask.mono _ _ _ _ _ _ _ _ _)
      | (with_reducible exact gcra_Bucket.mono _ _ _ _ _ _ _)
      | (with_reducible exact gcra_Wait.mono _ _ _ _ _ _ _ _)
      | (with_reducible exact LeO.refl _)
      | (with_reducible exact LeO.none _)
      | (with_reducible refine LeO.ite ?_ ?_)
      | (with_reducible refine LeO.bind ?_ (fun _ => ?_))
      | exact gcra_Ask.mono _ _ _ _ _ _ _ _ _
      | exact gcra_Bucket.mono _ _ _ _ _ _ _
      | exact gcra_Wait.mono _ _ _ _ _ _ _ _
      | exact LeO.none _
      | refine LeO.ite ?_ ?_
      | refine LeO.bind ?_ (fun _ => ?_)
def spigotlaw37_alive.T7 : Bool × List (List Nat × List Nat) := (true, [([], []), ([], []), ([0, 1], [0, 1]), ([2, 2], [2]), ([3], [3]), ([3], [3]), ([4, 5, 3, 3], [3, 4, 5]), ([3, 6], [3, 6]), ([7, 6], [7]), ([8], [8]), ([8, 9], [8, 9]), ([10, 8], [10]), ([11], [11]), ([11], [11]), ([12, 13, 11, 11], [11, 12, 13]), ([11, 14], [11, 14]), ([15, 14], [15]), ([16], [16]), ([17, 16], [16, 17]), ([16, 18], [16, 18]), ([19, 16], [19]), ([20], [20]), ([20], [20]), ([21, 22, 20, 20], [20, 21, 22]), ([20, 23], [20, 23]), ([24, 23], [24]), ([25], [25]), ([25, 26], [25, 26]), ([27, 25], [27]), ([28], [28]), ([29, 28], [28, 29]), ([28, 30], [28, 30]), ([31, 28], [31]), ([32], [32]), ([32, 32], [32]), ([34, 32], [32, 34]), ([33, 35, 32], [32, 33, 35]), ([32, 36], [32, 36]), ([37, 34], [37]), ([38], [38]), ([39, 38], [38, 39]), ([38, 40], [38, 40]), ([41, 38], [41]), ([42], [42]), ([43, 42], [42, 43]), ([42, 44], [42, 44]), ([45, 42, 0, 1, 2, 3, 4, 5, 6, 7, 8, 9, 10, 11, 12, 13, 14, 15, 16, 17, 18, 19, 20, 21, 22, 23, 24, 25, 26, 27, 28, 29, 30, 31, 32, 33, 34, 35, 36, 37, 38, 39, 40, 41, 42, 43, 44, 45], [45])])
def spigotlaw37_alive.B7 : List Nat := [0, 0, 3, 7, 15, 15, 63, 127, 255, 511, 1023, 2047, 4095, 4095, 16383, 32767, 65535, 131071, 262143, 524287, 1048575, 2097151, 2097151, 8388607, 16777215, 33554431, 67108863, 134217727, 268435455, 536870911, 1073741823, 2147483647, 4294967295, 8589934591, 8589934591, 25769803775, 68719476735, 137438953471, 274877906943, 549755813887, 1099511627775, 2199023255551, 4398046511103, 8796093022207, 17592186044415, 35184372088831, 70368744177663]
theorem spigotlaw37_alive.tab7 : rtab .any (opsOf Try.f23 7) = spigotlaw37_alive.T7 := by kernel_rfl
theorem spigotlaw37_alive.bits7 : waitsOk spigotlaw37_alive.T7.2 spigotlaw37_alive.B7 = true := by kernel_rfl
set_option maxHeartbeats 8000000 in
set_option maxRecDepth 100000 in
theorem spigotlaw37_alive.calls (k : Nat)  (r : Bool) (w : World) (h : spigotlaw37_alive.f k  = some r) :
  Calls Try.prog 23 #[] w fun e w' => e = .returned (.bool r) ∧ Below w.heap.size w w' := by
 have hu28 := Try.underlying28
 have hu30 := Try.underlying30
 have HB := Aside0.mk (Below.refl w.heap.size w)
 have H : ((spigotlaw37_given.f).bind fun bt538 => ((gcra_New.f bt538.1 bt538.2.1 bt538.2.2 10).bind fun bt541 => ((gcra_Ask.f k bt541.1 bt541.2.1 bt541.2.2.1 bt541.2.2.2.1 bt541.2.2.2.2.1 bt541.2.2.2.2.2.1 10 2).bind fun bt549 => ((gcra_Ask.f k bt549.1 bt549.2.1 bt549.2.2.1 bt549.2.2.2.1 bt549.2.2.2.2.1 bt549.2.2.2.2.2.1 10 2).bind fun bt558 => ((gcra_Ask.f k bt558.1 bt558.2.1 bt558.2.2.1 bt558.2.2.2.1 bt558.2.2.2.2.1 bt558.2.2.2.2.2.1 13 2).bind fun bt567 => ((gcra_Bucket.f k bt567.1 bt567.2.1 bt567.2.2.1 bt567.2.2.2.1 bt567.2.2.2.2.1 bt567.2.2.2.2.2.1).bind fun bt576 => ((gcra_Wait.f k bt567.1 bt567.2.1 bt567.2.2.1 bt567.2.2.2.1 bt567.2.2.2.2.1 bt567.2.2.2.2.2.1 1).bind fun bt584 => ((spigotlaw37_tat.f bt541.1 bt541.2.1 bt541.2.2.1 bt541.2.2.2.1 bt541.2.2.2.2.1 bt541.2.2.2.2.2.1 bt541.2.2.2.2.2.2 20 10).bind fun t586 => (if t586 = true then ((spigotlaw37_tat.f bt549.1 bt549.2.1 bt549.2.2.1 bt549.2.2.2.1 bt549.2.2.2.2.1 bt549.2.2.2.2.2.1 bt549.2.2.2.2.2.2.2 30 10).bind fun t587 => (if t587 = true then (if bt549.2.2.2.2.2.2.1 = true then ((spigotlaw37_tat.f bt558.1 bt558.2.1 bt558.2.2.1 bt558.2.2.2.1 bt558.2.2.2.2.1 bt558.2.2.2.2.2.1 bt558.2.2.2.2.2.2.2 30 10).bind fun t588 => (if t588 = true then (if bt558.2.2.2.2.2.2.1 = true then (none) else ((spigotlaw37_tat.f bt567.1 bt567.2.1 bt567.2.2.1 bt567.2.2.2.1 bt567.2.2.2.2.1 bt567.2.2.2.2.2.1 bt567.2.2.2.2.2.2.2 40 13).bind fun t589 => (if t589 = true then (if bt567.2.2.2.2.2.2.1 = true then (if bt576.2.2.2.2.2.2 = 0 then ((spigotlaw37_given.f).bind fun bt590 => (if ((bt576.1 == bt590.1 && (bt576.2.1 == bt590.2.1 && (bt576.2.2.1 == bt590.2.2))) && (bt576.2.2.2.1 == 0 && (bt576.2.2.2.2.1 == 1 && (bt576.2.2.2.2.2.1 == 13)))) = true then (if bt584.2 = 0 then (some (bt584.1 == 2)) else (none)) else (none))) else (none)) else (none)) else (none)))) else (none))) else (none)) else (none))) else (none)))))))))) = some r := h
 clear h
 have H0_ := bo_ H; clear H; obtain ⟨⟨t538, t539, t540⟩, A1, H⟩ := H0_
 try dsimp only at H
 have H0_ := bo_ H; clear H; obtain ⟨⟨t541, t542, t543, t544, t545, t546, t547⟩, A2, H⟩ := H0_
 try dsimp only at H
 have H0_ := bo_ H; clear H; obtain ⟨⟨t549, t550, t551, t552, t553, t554, t555, t556⟩, A3, H⟩ := H0_
 try dsimp only at H
 have H0_ := bo_ H; clear H; obtain ⟨⟨t558, t559, t560, t561, t562, t563, t564, t565⟩, A4, H⟩ := H0_
 try dsimp only at H
 have H0_ := bo_ H; clear H; obtain ⟨⟨t567, t568, t569, t570, t571, t572, t573, t574⟩, A5, H⟩ := H0_
 try dsimp only at H
 have H0_ := bo_ H; clear H; obtain ⟨⟨t576, t577, t578, t579, t580, t581, t582⟩, A6, H⟩ := H0_
 try dsimp only at H
 have H0_ := bo_ H; clear H; obtain ⟨⟨t584, t585⟩, A7, H⟩ := H0_
 try dsimp only at H
 have H0_ := bo_ H; clear H; obtain ⟨t586, A8, H⟩ := H0_
 try dsimp only at H
 by_cases c9 : t586 = true
 ·subst c9
  rw [if_pos rfl] at H
  try dsimp only at H
  have H0_ := bo_ H; clear H; obtain ⟨t587, A10, H⟩ := H0_
  try dsimp only at H
  by_cases c11 : t587 = true
  ·subst c11
   rw [if_pos rfl] at H
   try dsimp only at H
   by_cases c12 : t555 = true
   ·subst c12
    rw [if_pos rfl] at H
    try dsimp only at H
    have H0_ := bo_ H; clear H; obtain ⟨t588, A13, H⟩ := H0_
    try dsimp only at H
    by_cases c14 : t588 = true
    ·subst c14
     rw [if_pos rfl] at H
     try dsimp only at H
     by_cases c15 : t564 = true
     ·subst c15
      replace H : (none) = some r := by rw [if_pos rfl] at H; exact H
      exact absurd H (by simp)
     ·replace c15 := Bool.eq_false_iff.mpr c15
      subst c15
      rw [if_neg (show ¬ (false = true) by decide)] at H
      try dsimp only at H
      have H0_ := bo_ H; clear H; obtain ⟨t589, A16, H⟩ := H0_
      try dsimp only at H
      by_cases c17 : t589 = true
      ·subst c17
       rw [if_pos rfl] at H
       try dsimp only at H
       by_cases c18 : t573 = true
       ·subst c18
        rw [if_pos rfl] at H
        try dsimp only at H
        replace H := ct_ H; obtain ⟨c19b0, c19b1, H⟩ := H
        have H0_ := bo_ H; clear H; obtain ⟨⟨t590, t591, t592⟩, A20, H⟩ := H0_
        try dsimp only at H
        by_cases c21 : ((t576 == t590 && (t577 == t591 && (t578 == t592))) && (t579 == 0 && (t580 == 1 && (t581 == 13)))) = true
        rotate_left
        ·rw [if_neg c21] at H; exact absurd H (by simp)
        rw [if_pos c21] at H
        have c21b0 : ((t576 == t590 && (t577 == t591 && (t578 == t592))) && (t579 == 0 && (t580 == 1 && (t581 == 13)))) = true := c21
        clear c21
        replace H := ct_ H; obtain ⟨c22b0, c22b1, H⟩ := H
        obtain rfl := Option.some.inj H
        go_enter Try.func23, Try.ntmps23
        try go_wp2_with (first | ((with_reducible refine gate_callee (f := 24) rfl ?_); (try refine ug_ (by rfl) ?_); refine goesA_ (some 17) Try.func24 #[] ?_; (with_reducible refine (spigotlaw37_given.calls  t538 t539 t540 _ A1.out).mono ?_); rintro e w23 ⟨rfl, hb⟩; refine ⟨_, rfl, ?_⟩; replace HB := bs_ w hb; clear hb) | ((with_reducible refine gate_callee (f := 9) rfl ?_); (try refine ug_ (by rfl) ?_); refine goesA_ (some 18) Try.func9 #[.agg #[.int .i64 t538, .int .i64 t539, .int .i64 t540], .int .u64 10] ?_; (with_reducible refine (gcra_New.calls t538 t539 t540 10 t541 t542 t543 t544 t545 t546 t547 _ A2.out).mono ?_); rintro e w24 ⟨rfl, hb⟩; refine ⟨_, rfl, ?_⟩; replace HB := bs_ w hb; clear hb) | ((with_reducible refine gate_dst (N := 1) rfl ?_); (try refine ug_ (by rfl) ?_); refine bx_ #[.int .i64 0, .int .i64 0, .int .i64 0, .int .u64 0, .int .u64 0, .int .u64 0] 28 ?_; intro gb548 hg w25 BK548 hb; have GW548 := bz_ w hg; replace HB := bs_ w hb; clear hb hg; replace hc548 := ce6_ BK548) | ((with_reducible refine gate_callee (f := 17) rfl ?_); (try refine ug_ (by rfl) ?_); refine goesA_ (some 23) Try.func17 #[.agg #[.int .i64 t541, .int .i64 t542, .int .i64 t543, .int .u64 t544, .int .u64 t545, .int .u64 t546], .int .u64 10, .int .i64 2] ?_; (with_reducible refine (gcra_Ask.calls k t541 t542 t543 t544 t545 t546 10 2 t549 t550 t551 t552 t553 t554 true t556 _ A3.out).mono ?_); rintro e w27 ⟨rfl, hb⟩; refine ⟨_, rfl, ?_⟩; replace BK548 := Aside0.mk (blk_below (g := gb548) (o := .cells #[.int .i64 t541, .int .i64 t542, .int .i64 t543, .int .u64 t544, .int .u64 t545, .int .u64 t546] 28 (0, 0)) (bp6_ (bq_ BK548)) hb); replace HB := bs_ w hb; clear hb) | ((with_reducible refine gate_dst (N := 3) rfl ?_); (try refine ug_ (by rfl) ?_); refine bx_ #[.int .i64 0, .int .i64 0, .int .i64 0, .int .u64 0, .int .u64 0, .int .u64 0] 28 ?_; intro gb557 hg w28 BK557 hb; have GW557 := bz_ w hg; have NB548_557 := bn_ BK548 hg; have NB557_548 := bm_ BK548 hg; replace BK548 := bb_ BK548 hb; replace HB := bs_ w hb; clear hb hg; replace hn557_548 := NB557_548.out; replace hn548_557 := NB548_557.out; replace hc557 := ce6_ BK557) | ((with_reducible refine gate_callee (f := 17) rfl ?_); (try refine ug_ (by rfl) ?_); refine goesA_ (some 29) Try.func17 #[.agg #[.int .i64 t549, .int .i64 t550, .int .i64 t551, .int .u64 t552, .int .u64 t553, .int .u64 t554], .int .u64 10, .int .i64 2] ?_; (with_reducible refine (gcra_Ask.calls k t549 t550 t551 t552 t553 t554 10 2 t558 t559 t560 t561 t562 t563 false t565 _ A4.out).mono ?_); rintro e w31 ⟨rfl, hb⟩; refine ⟨_, rfl, ?_⟩; replace BK548 := bf_ BK548 hb; replace BK557 := Aside0.mk (blk_below (g := gb557) (o := .cells #[.int .i64 t549, .int .i64 t550, .int .i64 t551, .int .u64 t552, .int .u64 t553, .int .u64 t554] 28 (0, 0)) (bp6_ (bq_ BK557)) hb); replace HB := bs_ w hb; clear hb) | ((with_reducible refine gate_dst (N := 6) rfl ?_); (try refine ug_ (by rfl) ?_); refine bx_ #[.int .i64 0, .int .i64 0, .int .i64 0, .int .u64 0, .int .u64 0, .int .u64 0] 28 ?_; intro gb566 hg w32 BK566 hb; have GW566 := bz_ w hg; have NB548_566 := bn_ BK548 hg; have NB566_548 := bm_ BK548 hg; have NB557_566 := bn_ BK557 hg; have NB566_557 := bm_ BK557 hg; replace BK548 := bb_ BK548 hb; replace BK557 := bb_ BK557 hb; replace HB := bs_ w hb; clear hb hg; replace hn566_548 := NB566_548.out; replace hn548_566 := NB548_566.out; replace hn566_557 := NB566_557.out; replace hn557_566 := NB557_566.out; replace hc566 := ce6_ BK566) | ((with_reducible refine gate_callee (f := 17) rfl ?_); (try refine ug_ (by rfl) ?_); refine goesA_ (some 35) Try.func17 #[.agg #[.int .i64 t558, .int .i64 t559, .int .i64 t560, .int .u64 t561, .int .u64 t562, .int .u64 t563], .int .u64 13, .int .i64 2] ?_; (with_reducible refine (gcra_Ask.calls k t558 t559 t560 t561 t562 t563 13 2 t567 t568 t569 t570 t571 t572 true t574 _ A5.out).mono ?_); rintro e w36 ⟨rfl, hb⟩; refine ⟨_, rfl, ?_⟩; replace BK548 := bf_ BK548 hb; replace BK557 := bf_ BK557 hb; replace BK566 := Aside0.mk (blk_below (g := gb566) (o := .cells #[.int .i64 t558, .int .i64 t559, .int .i64 t560, .int .u64 t561, .int .u64 t562, .int .u64 t563] 28 (0, 0)) (bp6_ (bq_ BK566)) hb); replace HB := bs_ w hb; clear hb) | ((with_reducible refine gate_dst (N := 9) rfl ?_); (try refine ug_ (by rfl) ?_); refine bx_ #[.int .i64 0, .int .i64 0, .int .i64 0, .int .u64 0, .int .u64 0, .int .u64 0] 28 ?_; intro gb575 hg w37 BK575 hb; have GW575 := bz_ w hg; have NB548_575 := bn_ BK548 hg; have NB575_548 := bm_ BK548 hg; have NB557_575 := bn_ BK557 hg; have NB575_557 := bm_ BK557 hg; have NB566_575 := bn_ BK566 hg; have NB575_566 := bm_ BK566 hg; replace BK548 := bb_ BK548 hb; replace BK557 := bb_ BK557 hb; replace BK566 := bb_ BK566 hb; replace HB := bs_ w hb; clear hb hg; replace hn575_548 := NB575_548.out; replace hn548_575 := NB548_575.out; replace hn575_557 := NB575_557.out; replace hn557_575 := NB557_575.out; replace hn575_566 := NB575_566.out; replace hn566_575 := NB566_575.out; replace hc575 := ce6_ BK575) | ((with_reducible refine gate_callee (f := 13) rfl ?_); (try refine ug_ (by rfl) ?_); refine goesA_ (some 41) Try.func13 #[.agg #[.int .i64 t567, .int .i64 t568, .int .i64 t569, .int .u64 t570, .int .u64 t571, .int .u64 t572]] ?_; (with_reducible refine (gcra_Bucket.calls k t567 t568 t569 t570 t571 t572 t576 t577 t578 t579 t580 t581 t582 _ A6.out).mono ?_); rintro e w42 ⟨rfl, hb⟩; refine ⟨_, rfl, ?_⟩; replace BK548 := bf_ BK548 hb; replace BK557 := bf_ BK557 hb; replace BK566 := bf_ BK566 hb; replace BK575 := Aside0.mk (blk_below (g := gb575) (o := .cells #[.int .i64 t567, .int .i64 t568, .int .i64 t569, .int .u64 t570, .int .u64 t571, .int .u64 t572] 28 (0, 0)) (bp6_ (bq_ BK575)) hb); replace HB := bs_ w hb; clear hb) | ((with_reducible refine gate_dst (N := 12) rfl ?_); (try refine ug_ (by rfl) ?_); refine bx_ #[.int .i64 0, .int .i64 0, .int .i64 0, .int .i64 0, .int .i64 0, .int .u64 0] 30 ?_; intro gb583 hg w43 BK583 hb; have GW583 := bz_ w hg; have NB548_583 := bn_ BK548 hg; have NB583_548 := bm_ BK548 hg; have NB557_583 := bn_ BK557 hg; have NB583_557 := bm_ BK557 hg; have NB566_583 := bn_ BK566 hg; have NB583_566 := bm_ BK566 hg; have NB575_583 := bn_ BK575 hg; have NB583_575 := bm_ BK575 hg; replace BK548 := bb_ BK548 hb; replace BK557 := bb_ BK557 hb; replace BK566 := bb_ BK566 hb; replace BK575 := bb_ BK575 hb; replace HB := bs_ w hb; clear hb hg; replace hn583_548 := NB583_548.out; replace hn548_583 := NB548_583.out; replace hn583_557 := NB583_557.out; replace hn557_583 := NB557_583.out; replace hn583_566 := NB583_566.out; replace hn566_583 := NB566_583.out; replace hn583_575 := NB583_575.out; replace hn575_583 := NB575_583.out; replace hc583 := ce6_ BK583; replace hc575 := ce6_ BK575) | ((with_reducible refine gate_callee (f := 21) rfl ?_); (try refine ug_ (by rfl) ?_); refine goesA_ (some 46) Try.func21 #[.agg #[.int .i64 t567, .int .i64 t568, .int .i64 t569, .int .u64 t570, .int .u64 t571, .int .u64 t572], .int .i64 1] ?_; (with_reducible refine (gcra_Wait.calls k t567 t568 t569 t570 t571 t572 1 t584 t585 _ A7.out).mono ?_); rintro e w50 ⟨rfl, hb⟩; refine ⟨_, rfl, ?_⟩; replace BK548 := bf_ BK548 hb; replace BK557 := bf_ BK557 hb; replace BK566 := bf_ BK566 hb; replace BK575 := bf_ BK575 hb; replace BK583 := Aside0.mk (blk_below (g := gb583) (o := .cells #[.int .i64 t576, .int .i64 t577, .int .i64 t578, .int .i64 t579, .int .i64 t580, .int .u64 t581] 30 (0, 0)) (bp6_ (bq_ BK583)) hb); replace HB := bs_ w hb; clear hb))
        replace BK548 := Aside0.mk (blk_drew BK548.out)
        replace BK557 := Aside0.mk (blk_drew BK557.out)
        replace BK566 := Aside0.mk (blk_drew BK566.out)
        replace BK575 := Aside0.mk (blk_drew BK575.out)
        replace BK583 := Aside0.mk (blk_drew BK583.out)
        replace HB := Aside0.mk (below_drew1 HB.out)
        refine start_ (n := 47) (S := fun w' => w'.cell? ⟨gb548, 0, none⟩ = some (.int .i64 t541) ∧ w'.cell? ⟨gb548, 1, none⟩ = some (.int .i64 t542) ∧ w'.cell? ⟨gb548, 2, none⟩ = some (.int .i64 t543) ∧ w'.cell? ⟨gb548, 3, none⟩ = some (.int .u64 t544) ∧ w'.cell? ⟨gb548, 4, none⟩ = some (.int .u64 t545) ∧ w'.cell? ⟨gb548, 5, none⟩ = some (.int .u64 t546) ∧ w'.cell? ⟨gb557, 0, none⟩ = some (.int .i64 t549) ∧ w'.cell? ⟨gb557, 1, none⟩ = some (.int .i64 t550) ∧ w'.cell? ⟨gb557, 2, none⟩ = some (.int .i64 t551) ∧ w'.cell? ⟨gb557, 3, none⟩ = some (.int .u64 t552) ∧ w'.cell? ⟨gb557, 4, none⟩ = some (.int .u64 t553) ∧ w'.cell? ⟨gb557, 5, none⟩ = some (.int .u64 t554) ∧ w'.cell? ⟨gb566, 0, none⟩ = some (.int .i64 t558) ∧ w'.cell? ⟨gb566, 1, none⟩ = some (.int .i64 t559) ∧ w'.cell? ⟨gb566, 2, none⟩ = some (.int .i64 t560) ∧ w'.cell? ⟨gb566, 3, none⟩ = some (.int .u64 t561) ∧ w'.cell? ⟨gb566, 4, none⟩ = some (.int .u64 t562) ∧ w'.cell? ⟨gb566, 5, none⟩ = some (.int .u64 t563) ∧ w'.cell? ⟨gb575, 0, none⟩ = some (.int .i64 t567) ∧ w'.cell? ⟨gb575, 1, none⟩ = some (.int .i64 t568) ∧ w'.cell? ⟨gb575, 2, none⟩ = some (.int .i64 t569) ∧ w'.cell? ⟨gb575, 3, none⟩ = some (.int .u64 t570) ∧ w'.cell? ⟨gb575, 4, none⟩ = some (.int .u64 t571) ∧ w'.cell? ⟨gb575, 5, none⟩ = some (.int .u64 t572) ∧ w'.cell? ⟨gb583, 0, none⟩ = some (.int .i64 t576) ∧ w'.cell? ⟨gb583, 1, none⟩ = some (.int .i64 t577) ∧ w'.cell? ⟨gb583, 2, none⟩ = some (.int .i64 t578) ∧ w'.cell? ⟨gb583, 3, none⟩ = some (.int .i64 t579) ∧ w'.cell? ⟨gb583, 4, none⟩ = some (.int .i64 t580) ∧ w'.cell? ⟨gb583, 5, none⟩ = some (.int .u64 t581)) (ds := []) (bl_ 47 0) (by kernel_rfl) rfl (by kernel_rfl) ⟨(blk_cell BK548.out 0).trans rfl, (blk_cell BK548.out 1).trans rfl, (blk_cell BK548.out 2).trans rfl, (blk_cell BK548.out 3).trans rfl, (blk_cell BK548.out 4).trans rfl, (blk_cell BK548.out 5).trans rfl, (blk_cell BK557.out 0).trans rfl, (blk_cell BK557.out 1).trans rfl, (blk_cell BK557.out 2).trans rfl, (blk_cell BK557.out 3).trans rfl, (blk_cell BK557.out 4).trans rfl, (blk_cell BK557.out 5).trans rfl, (blk_cell BK566.out 0).trans rfl, (blk_cell BK566.out 1).trans rfl, (blk_cell BK566.out 2).trans rfl, (blk_cell BK566.out 3).trans rfl, (blk_cell BK566.out 4).trans rfl, (blk_cell BK566.out 5).trans rfl, (blk_cell BK575.out 0).trans rfl, (blk_cell BK575.out 1).trans rfl, (blk_cell BK575.out 2).trans rfl, (blk_cell BK575.out 3).trans rfl, (blk_cell BK575.out 4).trans rfl, (blk_cell BK575.out 5).trans rfl, (blk_cell BK583.out 0).trans rfl, (blk_cell BK583.out 1).trans rfl, (blk_cell BK583.out 2).trans rfl, (blk_cell BK583.out 3).trans rfl, (blk_cell BK583.out 4).trans rfl, (blk_cell BK583.out 5).trans rfl⟩ (fun hHeld => ?_); refine with_tabW spigotlaw37_alive.tab7 spigotlaw37_alive.bits7 (fun HT_ HW_ => ?_)
        generalize w50.drew = w51 at BK548 BK557 BK566 BK575 BK583 HB hHeld ⊢
        refine pa_ 1 (some 50) (bl_ 47 2) HT_ ?_
        refine ta_ 0 (some 49) (bl_ 47 3) HT_ HW_ hHeld ?_
        refine oa_ 2 (some 51) (bl_ 47 7) HT_ fun K hK => ?_
        refine goesB_ Try.func25 #[.agg #[.int .i64 t541, .int .i64 t542, .int .i64 t543, .int .u64 t544, .int .u64 t545, .int .u64 t546], .int .i64 t547, .int .u64 20, .int .u64 10] ?_
        with_reducible refine (spigotlaw37_tat.calls t541 t542 t543 t544 t545 t546 t547 20 10 true _ A8.out).mono ?_
        rintro e w52 ⟨rfl, hb⟩
        refine ⟨_, rfl, ?_⟩
        replace BK548 := bb_ BK548 hb
        replace BK557 := bb_ BK557 hb
        replace BK566 := bb_ BK566 hb
        replace BK575 := bb_ BK575 hb
        replace BK583 := bb_ BK583 hb
        replace HB := bs_ w hb
        clear hb
        refine hK.out _ _ ⟨(blk_cell BK548.out 0).trans rfl, (blk_cell BK548.out 1).trans rfl, (blk_cell BK548.out 2).trans rfl, (blk_cell BK548.out 3).trans rfl, (blk_cell BK548.out 4).trans rfl, (blk_cell BK548.out 5).trans rfl, (blk_cell BK557.out 0).trans rfl, (blk_cell BK557.out 1).trans rfl, (blk_cell BK557.out 2).trans rfl, (blk_cell BK557.out 3).trans rfl, (blk_cell BK557.out 4).trans rfl, (blk_cell BK557.out 5).trans rfl, (blk_cell BK566.out 0).trans rfl, (blk_cell BK566.out 1).trans rfl, (blk_cell BK566.out 2).trans rfl, (blk_cell BK566.out 3).trans rfl, (blk_cell BK566.out 4).trans rfl, (blk_cell BK566.out 5).trans rfl, (blk_cell BK575.out 0).trans rfl, (blk_cell BK575.out 1).trans rfl, (blk_cell BK575.out 2).trans rfl, (blk_cell BK575.out 3).trans rfl, (blk_cell BK575.out 4).trans rfl, (blk_cell BK575.out 5).trans rfl, (blk_cell BK583.out 0).trans rfl, (blk_cell BK583.out 1).trans rfl, (blk_cell BK583.out 2).trans rfl, (blk_cell BK583.out 3).trans rfl, (blk_cell BK583.out 4).trans rfl, (blk_cell BK583.out 5).trans rfl⟩ (fun hHeld => ?_)
        clear hK K
        refine nm_ (some 51) ?_
        refine pa_ 3 (some 52) (bl_ 47 15) HT_ ?_
        refine pa_ 5 (some 54) (bl_ 47 47) HT_ ?_
        refine ta_ 4 (some 53) (bl_ 47 63) HT_ HW_ hHeld ?_
        refine oa_ 6 (some 55) (bl_ 47 127) HT_ fun K hK => ?_
        refine goesB_ Try.func25 #[.agg #[.int .i64 t549, .int .i64 t550, .int .i64 t551, .int .u64 t552, .int .u64 t553, .int .u64 t554], .int .i64 t556, .int .u64 30, .int .u64 10] ?_
        with_reducible refine (spigotlaw37_tat.calls t549 t550 t551 t552 t553 t554 t556 30 10 true _ A10.out).mono ?_
        rintro e w53 ⟨rfl, hb⟩
        refine ⟨_, rfl, ?_⟩
        replace BK548 := bb_ BK548 hb
        replace BK557 := bb_ BK557 hb
        replace BK566 := bb_ BK566 hb
        replace BK575 := bb_ BK575 hb
        replace BK583 := bb_ BK583 hb
        replace HB := bs_ w hb
        clear hb
        refine hK.out _ _ ⟨(blk_cell BK548.out 0).trans rfl, (blk_cell BK548.out 1).trans rfl, (blk_cell BK548.out 2).trans rfl, (blk_cell BK548.out 3).trans rfl, (blk_cell BK548.out 4).trans rfl, (blk_cell BK548.out 5).trans rfl, (blk_cell BK557.out 0).trans rfl, (blk_cell BK557.out 1).trans rfl, (blk_cell BK557.out 2).trans rfl, (blk_cell BK557.out 3).trans rfl, (blk_cell BK557.out 4).trans rfl, (blk_cell BK557.out 5).trans rfl, (blk_cell BK566.out 0).trans rfl, (blk_cell BK566.out 1).trans rfl, (blk_cell BK566.out 2).trans rfl, (blk_cell BK566.out 3).trans rfl, (blk_cell BK566.out 4).trans rfl, (blk_cell BK566.out 5).trans rfl, (blk_cell BK575.out 0).trans rfl, (blk_cell BK575.out 1).trans rfl, (blk_cell BK575.out 2).trans rfl, (blk_cell BK575.out 3).trans rfl, (blk_cell BK575.out 4).trans rfl, (blk_cell BK575.out 5).trans rfl, (blk_cell BK583.out 0).trans rfl, (blk_cell BK583.out 1).trans rfl, (blk_cell BK583.out 2).trans rfl, (blk_cell BK583.out 3).trans rfl, (blk_cell BK583.out 4).trans rfl, (blk_cell BK583.out 5).trans rfl⟩ (fun hHeld => ?_)
        clear hK K
        refine nm_ (some 55) ?_
        refine pa_ 7 (some 56) (bl_ 47 255) HT_ ?_
        refine pa_ 8 (some 57) (bl_ 47 511) HT_ ?_
        refine pa_ 9 (some 58) (bl_ 47 1023) HT_ ?_
        refine pa_ 10 (some 59) (bl_ 47 2047) HT_ ?_
        refine pa_ 11 (some 60) (bl_ 47 4095) HT_ ?_
        refine pa_ 13 (some 62) (bl_ 47 12287) HT_ ?_
        refine ta_ 12 (some 61) (bl_ 47 16383) HT_ HW_ hHeld ?_
        refine oa_ 14 (some 63) (bl_ 47 32767) HT_ fun K hK => ?_
        refine goesB_ Try.func25 #[.agg #[.int .i64 t558, .int .i64 t559, .int .i64 t560, .int .u64 t561, .int .u64 t562, .int .u64 t563], .int .i64 t565, .int .u64 30, .int .u64 10] ?_
        with_reducible refine (spigotlaw37_tat.calls t558 t559 t560 t561 t562 t563 t565 30 10 true _ A13.out).mono ?_
        rintro e w54 ⟨rfl, hb⟩
        refine ⟨_, rfl, ?_⟩
        replace BK548 := bb_ BK548 hb
        replace BK557 := bb_ BK557 hb
        replace BK566 := bb_ BK566 hb
        replace BK575 := bb_ BK575 hb
        replace BK583 := bb_ BK583 hb
        replace HB := bs_ w hb
        clear hb
        refine hK.out _ _ ⟨(blk_cell BK548.out 0).trans rfl, (blk_cell BK548.out 1).trans rfl, (blk_cell BK548.out 2).trans rfl, (blk_cell BK548.out 3).trans rfl, (blk_cell BK548.out 4).trans rfl, (blk_cell BK548.out 5).trans rfl, (blk_cell BK557.out 0).trans rfl, (blk_cell BK557.out 1).trans rfl, (blk_cell BK557.out 2).trans rfl, (blk_cell BK557.out 3).trans rfl, (blk_cell BK557.out 4).trans rfl, (blk_cell BK557.out 5).trans rfl, (blk_cell BK566.out 0).trans rfl, (blk_cell BK566.out 1).trans rfl, (blk_cell BK566.out 2).trans rfl, (blk_cell BK566.out 3).trans rfl, (blk_cell BK566.out 4).trans rfl, (blk_cell BK566.out 5).trans rfl, (blk_cell BK575.out 0).trans rfl, (blk_cell BK575.out 1).trans rfl, (blk_cell BK575.out 2).trans rfl, (blk_cell BK575.out 3).trans rfl, (blk_cell BK575.out 4).trans rfl, (blk_cell BK575.out 5).trans rfl, (blk_cell BK583.out 0).trans rfl, (blk_cell BK583.out 1).trans rfl, (blk_cell BK583.out 2).trans rfl, (blk_cell BK583.out 3).trans rfl, (blk_cell BK583.out 4).trans rfl, (blk_cell BK583.out 5).trans rfl⟩ (fun hHeld => ?_)
        clear hK K
        refine nm_ (some 63) ?_
        refine pa_ 15 (some 64) (bl_ 47 65535) HT_ ?_
        refine pa_ 16 (some 65) (bl_ 47 131071) HT_ ?_
        refine pa_ 17 (some 66) (bl_ 47 262143) HT_ ?_
        refine pa_ 18 (some 67) (bl_ 47 524287) HT_ ?_
        refine pa_ 19 (some 68) (bl_ 47 1048575) HT_ ?_
        refine pa_ 20 (some 69) (bl_ 47 2097151) HT_ ?_
        refine pa_ 22 (some 71) (bl_ 47 6291455) HT_ ?_
        refine ta_ 21 (some 70) (bl_ 47 8388607) HT_ HW_ hHeld ?_
        refine oa_ 23 (some 72) (bl_ 47 16777215) HT_ fun K hK => ?_
        refine goesB_ Try.func25 #[.agg #[.int .i64 t567, .int .i64 t568, .int .i64 t569, .int .u64 t570, .int .u64 t571, .int .u64 t572], .int .i64 t574, .int .u64 40, .int .u64 13] ?_
        with_reducible refine (spigotlaw37_tat.calls t567 t568 t569 t570 t571 t572 t574 40 13 true _ A16.out).mono ?_
        rintro e w55 ⟨rfl, hb⟩
        refine ⟨_, rfl, ?_⟩
        replace BK548 := bb_ BK548 hb
        replace BK557 := bb_ BK557 hb
        replace BK566 := bb_ BK566 hb
        replace BK575 := bb_ BK575 hb
        replace BK583 := bb_ BK583 hb
        replace HB := bs_ w hb
        clear hb
        refine hK.out _ _ ⟨(blk_cell BK548.out 0).trans rfl, (blk_cell BK548.out 1).trans rfl, (blk_cell BK548.out 2).trans rfl, (blk_cell BK548.out 3).trans rfl, (blk_cell BK548.out 4).trans rfl, (blk_cell BK548.out 5).trans rfl, (blk_cell BK557.out 0).trans rfl, (blk_cell BK557.out 1).trans rfl, (blk_cell BK557.out 2).trans rfl, (blk_cell BK557.out 3).trans rfl, (blk_cell BK557.out 4).trans rfl, (blk_cell BK557.out 5).trans rfl, (blk_cell BK566.out 0).trans rfl, (blk_cell BK566.out 1).trans rfl, (blk_cell BK566.out 2).trans rfl, (blk_cell BK566.out 3).trans rfl, (blk_cell BK566.out 4).trans rfl, (blk_cell BK566.out 5).trans rfl, (blk_cell BK575.out 0).trans rfl, (blk_cell BK575.out 1).trans rfl, (blk_cell BK575.out 2).trans rfl, (blk_cell BK575.out 3).trans rfl, (blk_cell BK575.out 4).trans rfl, (blk_cell BK575.out 5).trans rfl, (blk_cell BK583.out 0).trans rfl, (blk_cell BK583.out 1).trans rfl, (blk_cell BK583.out 2).trans rfl, (blk_cell BK583.out 3).trans rfl, (blk_cell BK583.out 4).trans rfl, (blk_cell BK583.out 5).trans rfl⟩ (fun hHeld => ?_)
        clear hK K
        refine nm_ (some 72) ?_
        refine pa_ 24 (some 73) (bl_ 47 33554431) HT_ ?_
        refine pa_ 25 (some 74) (bl_ 47 67108863) HT_ ?_
        refine pa_ 26 (some 75) (bl_ 47 134217727) HT_ ?_
        refine pa_ 27 (some 76) (bl_ 47 268435455) HT_ ?_
        refine pa_ 28 (some 77) (bl_ 47 536870911) HT_ ?_
        refine pa_ 29 (some 78) (bl_ 47 1073741823) HT_ ?_
        refine pa_ 30 (some 79) (bl_ 47 2147483647) HT_ ?_
        refine pa_ 31 (some 80) (bl_ 47 4294967295) HT_ ?_
        refine pa_ 32 (some 81) (bl_ 47 8589934591) HT_ ?_
        refine ta_ 33 (some 82) (bl_ 47 17179869183) HT_ HW_ hHeld ?_
        refine oa_ 34 (some 83) (bl_ 47 34359738367) HT_ fun K hK => ?_
        refine goesB_ Try.func24 #[] ?_
        with_reducible refine (spigotlaw37_given.calls  t590 t591 t592 _ A20.out).mono ?_
        rintro e w56 ⟨rfl, hb⟩
        refine ⟨_, rfl, ?_⟩
        replace BK548 := bb_ BK548 hb
        replace BK557 := bb_ BK557 hb
        replace BK566 := bb_ BK566 hb
        replace BK575 := bb_ BK575 hb
        replace BK583 := bb_ BK583 hb
        replace HB := bs_ w hb
        clear hb
        refine hK.out _ _ ⟨(blk_cell BK548.out 0).trans rfl, (blk_cell BK548.out 1).trans rfl, (blk_cell BK548.out 2).trans rfl, (blk_cell BK548.out 3).trans rfl, (blk_cell BK548.out 4).trans rfl, (blk_cell BK548.out 5).trans rfl, (blk_cell BK557.out 0).trans rfl, (blk_cell BK557.out 1).trans rfl, (blk_cell BK557.out 2).trans rfl, (blk_cell BK557.out 3).trans rfl, (blk_cell BK557.out 4).trans rfl, (blk_cell BK557.out 5).trans rfl, (blk_cell BK566.out 0).trans rfl, (blk_cell BK566.out 1).trans rfl, (blk_cell BK566.out 2).trans rfl, (blk_cell BK566.out 3).trans rfl, (blk_cell BK566.out 4).trans rfl, (blk_cell BK566.out 5).trans rfl, (blk_cell BK575.out 0).trans rfl, (blk_cell BK575.out 1).trans rfl, (blk_cell BK575.out 2).trans rfl, (blk_cell BK575.out 3).trans rfl, (blk_cell BK575.out 4).trans rfl, (blk_cell BK575.out 5).trans rfl, (blk_cell BK583.out 0).trans rfl, (blk_cell BK583.out 1).trans rfl, (blk_cell BK583.out 2).trans rfl, (blk_cell BK583.out 3).trans rfl, (blk_cell BK583.out 4).trans rfl, (blk_cell BK583.out 5).trans rfl⟩ (fun hHeld => ?_)
        clear hK K
        refine nm_ (some 83) ?_
        refine pa_ 35 (some 84) (bl_ 47 68719476735) HT_ ?_
        refine pa_ 36 (some 85) (bl_ 47 137438953471) HT_ ?_
        refine pa_ 37 (some 86) (bl_ 47 274877906943) HT_ ?_
        refine pa_ 38 (some 87) (bl_ 47 549755813887) HT_ ?_
        refine pa_ 39 (some 88) (bl_ 47 1099511627775) HT_ ?_
        refine pa_ 40 (some 89) (bl_ 47 2199023255551) HT_ ?_
        refine pa_ 41 (some 90) (bl_ 47 4398046511103) HT_ ?_
        refine pa_ 42 (some 91) (bl_ 47 8796093022207) HT_ ?_
        refine pa_ 43 (some 92) (bl_ 47 17592186044415) HT_ ?_
        refine pa_ 44 (some 93) (bl_ 47 35184372088831) HT_ ?_
        refine pa_ 45 (some 94) (bl_ 47 70368744177663) HT_ ?_
        refine pa_ 46 (some 0) (bl_ 47 140737488355327) HT_ ?_
        refine done_ (done_of HT_.out (by kernel_rfl)) ?_
        try go_wp2
        go_ret
        exact fi_
       ·replace c18 := Bool.eq_false_iff.mpr c18
        subst c18
        replace H : (none) = some r := by rw [if_neg (show ¬ (false = true) by decide)] at H; exact H
        exact absurd H (by simp)
      ·replace c17 := Bool.eq_false_iff.mpr c17
       subst c17
       replace H : (none) = some r := by rw [if_neg (show ¬ (false = true) by decide)] at H; exact H
       exact absurd H (by simp)
    ·replace c14 := Bool.eq_false_iff.mpr c14
     subst c14
     replace H : (none) = some r := by rw [if_neg (show ¬ (false = true) by decide)] at H; exact H
     exact absurd H (by simp)
   ·replace c12 := Bool.eq_false_iff.mpr c12
    subst c12
    replace H : (none) = some r := by rw [if_neg (show ¬ (false = true) by decide)] at H; exact H
    exact absurd H (by simp)
  ·replace c11 := Bool.eq_false_iff.mpr c11
   subst c11
   replace H : (none) = some r := by rw [if_neg (show ¬ (false = true) by decide)] at H; exact H
   exact absurd H (by simp)
 ·replace c9 := Bool.eq_false_iff.mpr c9
  subst c9
  replace H : (none) = some r := by rw [if_neg (show ¬ (false = true) by decide)] at H; exact H
  exact absurd H (by simp)

end Go.Proofs.Ytnijohomnajngaa.X
