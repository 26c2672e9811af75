-- written by xprint.py, a program of this session over the kit's print
import Derived.Test.YtnijohomnajngaaX0
import Derived.Test.YtnijohomnajngaaX4
import Derived.Test.YtnijohomnajngaaX13
import Derived.Test.YtnijohomnajngaaX27
import Derived.Test.YtnijohomnajngaaX28
import Derived.Test.YtnijohomnajngaaX33
import Derived.Test.YtnijohomnajngaaX45
import Derived.Test.YtnijohomnajngaaX50
namespace Go.Proofs.Ytnijohomnajngaa.X
open Go.RowKit Go.Proofs.YtnijohomnajngaaW.PrintWords Go.Proofs.YtnijohomnajngaaW.PrintLast Go.Proofs.YtnijohomnajngaaW.PrintMore
attribute [local go_sem] max2_int min2_int max_two min_two max_three min_three max_four min_four   -- for this text's walks alone
set_option linter.unusedVariables false
set_option linter.unusedSimpArgs false

attribute [local go_sem high] eqA30
/-! ### spigotlaw37_GcraSame: function 7 -/
def spigotlaw37_GcraSame.j0 : Nat → Int → Int → Bool → Bool → Int → Int → Int → Int → Int → Int → Option (Bool)
  | 0, _, _, _, _, _, _, _, _, _, _ => none
  | k + 1, x1, x2, x7, x30, x825000, x825001, x825002, x825003, x825004, x825005 => if x30 = true then (some x7) else ((gcra_Bucket.f k x825000 x825001 x825002 x825003 x825004 x825005).bind fun bt827 => (if bt827.2.2.2.2.2.2 = 0 then ((spigotref03_Check.f bt827.1 bt827.2.1 bt827.2.2.1 bt827.2.2.2.1 bt827.2.2.2.2.1 bt827.2.2.2.2.2.1).bind fun t835 => (if t835 = 0 then ((bucket_Refill.f k bt827.1 bt827.2.1 bt827.2.2.1 bt827.2.2.2.1 bt827.2.2.2.2.1 bt827.2.2.2.2.2.1 x1).bind fun bt836 => ((gcra_Ask.f k x825000 x825001 x825002 x825003 x825004 x825005 x1 x2).bind fun bt844 => ((gcra_Bucket.f k bt844.1 bt844.2.1 bt844.2.2.1 bt844.2.2.2.1 bt844.2.2.2.2.1 bt844.2.2.2.2.2.1).bind fun bt853 => (if bt836.2.2.2.2.2.2 = 0 then (if bt844.2.2.2.2.2.2.2 = 0 then (if bt853.2.2.2.2.2.2 = 0 then ((bucket_Charge.f bt836.1 bt836.2.1 bt836.2.2.1 bt836.2.2.2.1 bt836.2.2.2.2.1 bt836.2.2.2.2.2.1 x2).bind fun bt861 => (if bt861.2.2.2.2.2.2 = 0 then (if x7 = true then (if bt844.2.2.2.2.2.2.1 = true then (some ((bt853.1 == bt861.1 && (bt853.2.1 == bt861.2.1 && (bt853.2.2.1 == bt861.2.2.1))) && (bt853.2.2.2.1 == bt861.2.2.2.1 && (bt853.2.2.2.2.1 == bt861.2.2.2.2.1 && (bt853.2.2.2.2.2.1 == bt861.2.2.2.2.2.1))))) else (none)) else (none)) else (if x7 = true then (if bt861.2.2.2.2.2.2 = 20 then (if bt844.2.2.2.2.2.2.1 = true then (none) else (some ((bt853.1 == bt836.1 && (bt853.2.1 == bt836.2.1 && (bt853.2.2.1 == bt836.2.2.1))) && (bt853.2.2.2.1 == bt836.2.2.2.1 && (bt853.2.2.2.2.1 == bt836.2.2.2.2.1 && (bt853.2.2.2.2.2.1 == bt836.2.2.2.2.2.1)))))) else (none)) else (none)))) else (none)) else (none)) else (none))))) else (none))) else (none)))
def spigotlaw37_GcraSame.f (k : Nat) (a0_0 : Int) (a0_1 : Int) (a0_2 : Int) (a0_3 : Int) (a0_4 : Int) (a0_5 : Int) (a1 : Int) (a2 : Int) : Option (Bool) := (spigotlaw37_alive.f k).bind fun t825 => ((spigotref37_Check.f k a0_0 a0_1 a0_2 a0_3 a0_4 a0_5).bind fun t826 => (if t826 = 0 then (if a2 < 0 then (spigotlaw37_GcraSame.j0 k a1 a2 t825 true a0_0 a0_1 a0_2 a0_3 a0_4 a0_5) else (spigotlaw37_GcraSame.j0 k a1 a2 t825 (!t825) a0_0 a0_1 a0_2 a0_3 a0_4 a0_5)) else (spigotlaw37_GcraSame.j0 k a1 a2 t825 true a0_0 a0_1 a0_2 a0_3 a0_4 a0_5)))
theorem spigotlaw37_GcraSame.mono_l : ∀ k, (∀ y0 y1 y2 y3 y4 y5 y6 y7 y8 y9, LeO (spigotlaw37_GcraSame.j0 k y0 y1 y2 y3 y4 y5 y6 y7 y8 y9) (spigotlaw37_GcraSame.j0 (k + 1) y0 y1 y2 y3 y4 y5 y6 y7 y8 y9))
  | 0 => fun _ _ _ _ _ _ _ _ _ _ r h => by simp [spigotlaw37_GcraSame.j0] at h
  | k + 1 => by
    have ih0 := spigotlaw37_GcraSame.mono_l k
    · intro y0 y1 y2 y3 y4 y5 y6 y7 y8 y9
      unfold spigotlaw37_GcraSame.j0
      repeat' first
      | (with_reducible exact ih0 _ _ _ _ _ _ _ _ _ _)
      | (with_reducible exact bucket_Refill.mono _ _ _ _ _ _ _ _)
      | (with_reducible exact gcra_Ask.mono _ _ _ _ _ _ _ _ _)
      | (with_reducible exact gcra_Bucket.mono _ _ _ _ _ _ _)
      | (with_reducible exact spigotlaw37_alive.mono _)
      | (with_reducible exact spigotref37_Check.mono _ _ _ _ _ _ _)
      | (with_reducible exact LeO.refl _)
      | (with_reducible exact LeO.none _)
      | (with_reducible refine LeO.ite ?_ ?_)
      | (with_reducible refine LeO.bind ?_ (fun _ => ?_))
      | exact ih0 _ _ _ _ _ _ _ _ _ _
      | exact bucket_Refill.mono _ _ _ _ _ _ _ _
      | exact gcra_Ask.mono _ _ _ _ _ _ _ _ _
      | exact gcra_Bucket.mono _ _ _ _ _ _ _
      | exact spigotlaw37_alive.mono _
      | exact spigotref37_Check.mono _ _ _ _ _ _ _
      | exact LeO.none _
      | refine LeO.ite ?_ ?_
      | refine LeO.bind ?_ (fun _ => ?_)
theorem spigotlaw37_GcraSame.mono : ∀ a0 a1 a2 a3 a4 a5 a6 a7 k, LeO (spigotlaw37_GcraSame.f k a0 a1 a2 a3 a4 a5 a6 a7) (spigotlaw37_GcraSame.f (k + 1) a0 a1 a2 a3 a4 a5 a6 a7) := by
  intro a0 a1 a2 a3 a4 a5 a6 a7 k
  have ih0 := spigotlaw37_GcraSame.mono_l k
  unfold spigotlaw37_GcraSame.f
  repeat' first
      | (with_reducible exact ih0 _ _ _ _ _ _ _ _ _ _)
      | (with_reducible exact bucket_Refill.mono _ _ _ _ _ _ _ _)
      | (with_reducible exact gcra_Ask.mono _ _ _ _ _ _ _ _ _)
      | (with_reducible exact gcra_Bucket.mono _ _ _ _ _ _ _)
      | (with_reducible exact spigotlaw37_alive.mono _)
      | (with_reducible exact spigotref37_Check.mono _ _ _ _ _ _ _)
      | (with_reducible exact LeO.refl _)
      | (with_reducible exact LeO.none _)
      | (with_reducible refine LeO.ite ?_ ?_)
      | (with_reducible refine LeO.bind ?_ (fun _ => ?_))
      | exact ih0 _ _ _ _ _ _ _ _ _ _
      | exact bucket_Refill.mono _ _ _ _ _ _ _ _
      | exact gcra_Ask.mono _ _ _ _ _ _ _ _ _
      | exact gcra_Bucket.mono _ _ _ _ _ _ _
      | exact spigotlaw37_alive.mono _
      | exact spigotref37_Check.mono _ _ _ _ _ _ _
      | exact LeO.none _
      | refine LeO.ite ?_ ?_
      | refine LeO.bind ?_ (fun _ => ?_)
set_option maxHeartbeats 8000000 in
set_option maxRecDepth 100000 in
theorem spigotlaw37_GcraSame.calls (k : Nat) (a0_0 : Int) (a0_1 : Int) (a0_2 : Int) (a0_3 : Int) (a0_4 : Int) (a0_5 : Int) (a1 : Int) (a2 : Int) (r : Bool) (w : World) (h : spigotlaw37_GcraSame.f k a0_0 a0_1 a0_2 a0_3 a0_4 a0_5 a1 a2 = some r) :
  Calls Try.prog 7 #[.agg #[.int .i64 a0_0, .int .i64 a0_1, .int .i64 a0_2, .int .u64 a0_3, .int .u64 a0_4, .int .u64 a0_5], .int .u64 a1, .int .i64 a2] w fun e w' => e = .returned (.bool r) ∧ Below w.heap.size w w' := by
 have hu28 := Try.underlying28
 have hu30 := Try.underlying30
 have HB := Aside0.mk (Below.refl w.heap.size w)
 have H : ((spigotlaw37_alive.f k).bind fun t825 => ((spigotref37_Check.f k a0_0 a0_1 a0_2 a0_3 a0_4 a0_5).bind fun t826 => (if t826 = 0 then (if a2 < 0 then (spigotlaw37_GcraSame.j0 k a1 a2 t825 true a0_0 a0_1 a0_2 a0_3 a0_4 a0_5) else (spigotlaw37_GcraSame.j0 k a1 a2 t825 (!t825) a0_0 a0_1 a0_2 a0_3 a0_4 a0_5)) else (spigotlaw37_GcraSame.j0 k a1 a2 t825 true a0_0 a0_1 a0_2 a0_3 a0_4 a0_5)))) = some r := h
 clear h
 obtain ⟨t825, A4, H⟩ := bo_ H
 try dsimp only at H
 have HC5 := Aside0.mk H
 clear H
 go_enter Try.func7, Try.ntmps7
 go_upto_region 2 with (first | ((with_reducible refine gate_dst (N := 3) rfl ?_); refine bx_ #[.int .i64 a0_0, .int .i64 a0_1, .int .i64 a0_2, .int .u64 a0_3, .int .u64 a0_4, .int .u64 a0_5] 28 ?_; intro gb824 hg w6 BK824 hb; have GW824 := bz_ w hg; replace HB := bs_ w hb; clear hb hg) | ((with_reducible refine gate_callee (f := 23) rfl ?_); refine goesA_ (some 19) Try.func23 #[] ?_; (with_reducible refine (spigotlaw37_alive.calls k  t825 _ A4.out).mono ?_); rintro e w7 ⟨rfl, hb⟩; refine ⟨_, rfl, ?_⟩; replace BK824 := bb_ BK824 hb; replace HB := bs_ w hb; clear hb))
 (try simp only [Act.put, List.setIfInBounds_toArray, List.set_cons_zero, List.set_cons_succ])
 go_cut [30] (fun v30 wc => ∃ (kq : Nat) (x30_4 : Bool), v30 = .bool x30_4 ∧ Aside0 (spigotlaw37_GcraSame.j0 kq a1 a2 t825 x30_4 a0_0 a0_1 a0_2 a0_3 a0_4 a0_5 = some r) ∧ Aside0 (kq ≤ k) ∧ Aside0 (wc.heap[gb824]? = some (.cells #[.int .i64 a0_0, .int .i64 a0_1, .int .i64 a0_2, .int .u64 a0_3, .int .u64 a0_4, .int .u64 a0_5] 28 (0, 0))) ∧ Aside0 (Below w.heap.size w wc))
 case first =>
  have H := HC5.out
  clear HC5
  obtain ⟨t826, A8, H⟩ := bo_ H
  try dsimp only at H
  by_cases c9 : t826 = 0
  ·rw [if_pos c9] at H
   have c9b0 : (t826 == 0) = true := beq_iff_eq.mpr c9
   have c9b1 : (t826 != 0) = false := bne_eq_false_iff_eq.mpr c9
   clear c9
   (first | rw [c9b0] | (simp only [i64_w, i32_w]; rw [c9b0]) | skip)
   by_cases c10 : a2 < 0
   ·rw [if_pos c10] at H
    have c10b0 : decide (a2 < 0) = true := decide_eq_true c10
    clear c10
    have H' := Aside0.mk H
    clear H
    obtain ⟨_, _, _, _, _, _, _, _, _, _, _, _⟩ := ce6_ BK824
    go_wp2_with (first | ((with_reducible refine gate_callee (f := 16) rfl ?_); refine goesA_ (some 21) Try.func16 #[.agg #[.int .i64 a0_0, .int .i64 a0_1, .int .i64 a0_2, .int .u64 a0_3, .int .u64 a0_4, .int .u64 a0_5]] ?_; (with_reducible refine (spigotref37_Check.calls k a0_0 a0_1 a0_2 a0_3 a0_4 a0_5 t826 _ A8.out).mono ?_); rintro e w12 ⟨rfl, hb⟩; refine ⟨_, rfl, ?_⟩; replace BK824 := bb_ BK824 hb; replace HB := bs_ w hb; clear hb))
    go_meet
    case rel => exact ⟨_, (true), rf_, H', al_, ⟨bq_ BK824⟩, bw_⟩
   ·rw [if_neg c10] at H
    have c10b0 : decide (a2 < 0) = false := decide_eq_false c10
    clear c10
    have H' := Aside0.mk H
    clear H
    obtain ⟨_, _, _, _, _, _, _, _, _, _, _, _⟩ := ce6_ BK824
    go_wp2_with (first | ((with_reducible refine gate_callee (f := 16) rfl ?_); refine goesA_ (some 21) Try.func16 #[.agg #[.int .i64 a0_0, .int .i64 a0_1, .int .i64 a0_2, .int .u64 a0_3, .int .u64 a0_4, .int .u64 a0_5]] ?_; (with_reducible refine (spigotref37_Check.calls k a0_0 a0_1 a0_2 a0_3 a0_4 a0_5 t826 _ A8.out).mono ?_); rintro e w14 ⟨rfl, hb⟩; refine ⟨_, rfl, ?_⟩; replace BK824 := bb_ BK824 hb; replace HB := bs_ w hb; clear hb))
    go_meet
    case rel => exact ⟨_, (!t825), rf_, H', al_, ⟨bq_ BK824⟩, bw_⟩
  ·rw [if_neg c9] at H
   have c9b0 : (t826 == 0) = false := beq_eq_false_iff_ne.mpr c9
   have c9b1 : (t826 != 0) = true := bne_iff_ne.mpr c9
   (first | rw [c9b0] | (simp only [i64_w, i32_w]; rw [c9b0]) | skip)
   have H' := Aside0.mk H
   clear H
   obtain ⟨_, _, _, _, _, _, _, _, _, _, _, _⟩ := ce6_ BK824
   go_wp2_with (first | ((with_reducible refine gate_callee (f := 16) rfl ?_); refine goesA_ (some 21) Try.func16 #[.agg #[.int .i64 a0_0, .int .i64 a0_1, .int .i64 a0_2, .int .u64 a0_3, .int .u64 a0_4, .int .u64 a0_5]] ?_; (with_reducible refine (spigotref37_Check.calls k a0_0 a0_1 a0_2 a0_3 a0_4 a0_5 t826 _ A8.out).mono ?_); rintro e w16 ⟨rfl, hb⟩; refine ⟨_, rfl, ?_⟩; replace BK824 := bb_ BK824 hb; replace HB := bs_ w hb; clear hb))
   go_meet
   case rel => exact ⟨_, (true), rf_, H', al_, ⟨bq_ BK824⟩, bw_⟩
 case rest =>
  clear HC5
  obtain ⟨kq, x30_4, rfl, HA, HJ4, BK824, HB⟩ := hcut
  cases kq with
  | zero => exact absurd HA.out (by simp [spigotlaw37_GcraSame.j0])
  | succ kj4 =>
   have H := HA.out
   clear HA
   simp only [spigotlaw37_GcraSame.j0] at H
   by_cases c17 : x30_4 = true
   ·subst c17
    replace H : (some t825) = some r := by rw [if_pos rfl] at H; exact H
    obtain rfl := Option.some.inj H
    go_wp2
    go_ret
    exact fi_
   ·replace c17 := Bool.eq_false_iff.mpr c17
    subst c17
    rw [if_neg (show ¬ (false = true) by decide)] at H
    try dsimp only at H
    obtain ⟨⟨t827, t828, t829, t830, t831, t832, t833⟩, A18, H⟩ := bo_ H
    try dsimp only at H
    by_cases c19 : t833 = 0
    rotate_left
    ·rw [if_neg c19] at H; exact absurd H (by simp)
    rw [if_pos c19] at H
    have c19b0 : (t833 == 0) = true := beq_iff_eq.mpr c19
    have c19b1 : (t833 != 0) = false := bne_eq_false_iff_eq.mpr c19
    clear c19
    obtain ⟨t835, A20, H⟩ := bo_ H
    try dsimp only at H
    by_cases c21 : t835 = 0
    rotate_left
    ·rw [if_neg c21] at H; exact absurd H (by simp)
    rw [if_pos c21] at H
    have c21b0 : (t835 == 0) = true := beq_iff_eq.mpr c21
    have c21b1 : (t835 != 0) = false := bne_eq_false_iff_eq.mpr c21
    clear c21
    obtain ⟨⟨t836, t837, t838, t839, t840, t841, t842⟩, A22, H⟩ := bo_ H
    try dsimp only at H
    obtain ⟨⟨t844, t845, t846, t847, t848, t849, t850, t851⟩, A23, H⟩ := bo_ H
    try dsimp only at H
    obtain ⟨⟨t853, t854, t855, t856, t857, t858, t859⟩, A24, H⟩ := bo_ H
    try dsimp only at H
    by_cases c25 : t842 = 0
    rotate_left
    ·rw [if_neg c25] at H; exact absurd H (by simp)
    rw [if_pos c25] at H
    have c25b0 : (t842 == 0) = true := beq_iff_eq.mpr c25
    have c25b1 : (t842 != 0) = false := bne_eq_false_iff_eq.mpr c25
    clear c25
    by_cases c26 : t851 = 0
    rotate_left
    ·rw [if_neg c26] at H; exact absurd H (by simp)
    rw [if_pos c26] at H
    have c26b0 : (t851 == 0) = true := beq_iff_eq.mpr c26
    have c26b1 : (t851 != 0) = false := bne_eq_false_iff_eq.mpr c26
    clear c26
    by_cases c27 : t859 = 0
    rotate_left
    ·rw [if_neg c27] at H; exact absurd H (by simp)
    rw [if_pos c27] at H
    have c27b0 : (t859 == 0) = true := beq_iff_eq.mpr c27
    have c27b1 : (t859 != 0) = false := bne_eq_false_iff_eq.mpr c27
    clear c27
    obtain ⟨⟨t861, t862, t863, t864, t865, t866, t867⟩, A28, H⟩ := bo_ H
    try dsimp only at H
    by_cases c29 : t867 = 0
    ·rw [if_pos c29] at H
     have c29b0 : (t867 == 0) = true := beq_iff_eq.mpr c29
     have c29b1 : (t867 != 0) = false := bne_eq_false_iff_eq.mpr c29
     clear c29
     by_cases c30 : t825 = true
     ·subst c30
      rw [if_pos rfl] at H
      try dsimp only at H
      by_cases c31 : t850 = true
      ·subst c31
       rw [if_pos rfl] at H
       try dsimp only at H
       obtain rfl := Option.some.inj H
       obtain ⟨_, _, _, _, _, _, _, _, _, _, _, _⟩ := ce6_ BK824
       go_wp2_with (first | ((with_reducible refine gate_callee (f := 13) rfl ?_); refine goesA_ (some 34) Try.func13 #[.agg #[.int .i64 a0_0, .int .i64 a0_1, .int .i64 a0_2, .int .u64 a0_3, .int .u64 a0_4, .int .u64 a0_5]] ?_; (with_reducible refine (gcra_Bucket.calls kj4 a0_0 a0_1 a0_2 a0_3 a0_4 a0_5 t827 t828 t829 t830 t831 t832 t833 _ A18.out).mono ?_); rintro e w33 ⟨rfl, hb⟩; refine ⟨_, rfl, ?_⟩; replace BK824 := bb_ BK824 hb; replace HB := bs_ w hb; clear hb) | ((with_reducible refine gate_dst (N := 8) rfl ?_); refine bx_ #[.int .i64 0, .int .i64 0, .int .i64 0, .int .i64 0, .int .i64 0, .int .u64 0] 30 ?_; intro gb834 hg w34 BK834 hb; have GW834 := bz_ w hg; have GE834 := GW834; have NB824_834 := bn_ BK824 hg; have NB834_824 := bm_ BK824 hg; replace BK824 := bb_ BK824 hb; replace HB := bs_ w hb; clear hb hg; have hnb35 := NB834_824.out; have hnc35 := NB824_834.out; obtain ⟨_, _, _, _, _, _, _, _, _, _, _, _⟩ := ce6_ BK834) | (go_at_call 26; (with_reducible refine (spigotref03_Check.calls t827 t828 t829 t830 t831 t832 t835 _ A20.out).mono ?_); rintro e w37 ⟨rfl, hb⟩; replace BK824 := bf_ BK824 hb; replace BK834 := Aside0.mk (blk_below (g := gb834) (o := .cells #[.int .i64 t827, .int .i64 t828, .int .i64 t829, .int .i64 t830, .int .i64 t831, .int .u64 t832] 30 (0, 0)) (bp6_ (bq_ BK834)) hb); replace HB := bs_ w hb; clear hb; obtain ⟨_, _, _, _, _, _, _, _, _, _, _, _⟩ := ce6_ BK834) | ((with_reducible refine gate_callee (f := 27) rfl ?_); refine goesA_ (some 47) Try.func27 #[.agg #[.int .i64 t827, .int .i64 t828, .int .i64 t829, .int .i64 t830, .int .i64 t831, .int .u64 t832], .int .u64 a1] ?_; (with_reducible refine (bucket_Refill.calls kj4 t827 t828 t829 t830 t831 t832 a1 t836 t837 t838 t839 t840 t841 t842 _ A22.out).mono ?_); rintro e w39 ⟨rfl, hb⟩; refine ⟨_, rfl, ?_⟩; replace BK824 := bb_ BK824 hb; replace BK834 := bb_ BK834 hb; replace HB := bs_ w hb; clear hb) | ((with_reducible refine gate_dst (N := 10) rfl ?_); refine bx_ #[.int .i64 0, .int .i64 0, .int .i64 0, .int .i64 0, .int .i64 0, .int .u64 0] 30 ?_; intro gb843 hg w40 BK843 hb; have GW843 := bz_ w hg; have GE843 := GW843; have NB824_843 := bn_ BK824 hg; have NB843_824 := bm_ BK824 hg; have NB834_843 := bn_ BK834 hg; have NB843_834 := bm_ BK834 hg; replace BK824 := bb_ BK824 hb; replace BK834 := bb_ BK834 hb; replace HB := bs_ w hb; clear hb hg; have hnb41 := NB843_824.out; have hnc41 := NB824_843.out; have hnb42 := NB843_834.out; have hnc42 := NB834_843.out; obtain ⟨_, _, _, _, _, _, _, _, _, _, _, _⟩ := ce6_ BK843; obtain ⟨_, _, _, _, _, _, _, _, _, _, _, _⟩ := ce6_ BK824) | ((with_reducible refine gate_callee (f := 17) rfl ?_); refine goesA_ (some 54) Try.func17 #[.agg #[.int .i64 a0_0, .int .i64 a0_1, .int .i64 a0_2, .int .u64 a0_3, .int .u64 a0_4, .int .u64 a0_5], .int .u64 a1, .int .i64 a2] ?_; (with_reducible refine (gcra_Ask.calls kj4 a0_0 a0_1 a0_2 a0_3 a0_4 a0_5 a1 a2 t844 t845 t846 t847 t848 t849 true t851 _ A23.out).mono ?_); rintro e w45 ⟨rfl, hb⟩; refine ⟨_, rfl, ?_⟩; replace BK824 := bf_ BK824 hb; replace BK834 := bf_ BK834 hb; replace BK843 := Aside0.mk (blk_below (g := gb843) (o := .cells #[.int .i64 t836, .int .i64 t837, .int .i64 t838, .int .i64 t839, .int .i64 t840, .int .u64 t841] 30 (0, 0)) (bp6_ (bq_ BK843)) hb); replace HB := bs_ w hb; clear hb) | ((with_reducible refine gate_dst (N := 12) rfl ?_); refine bx_ #[.int .i64 0, .int .i64 0, .int .i64 0, .int .u64 0, .int .u64 0, .int .u64 0] 28 ?_; intro gb852 hg w46 BK852 hb; have GW852 := bz_ w hg; have GE852 := GW852; have NB824_852 := bn_ BK824 hg; have NB852_824 := bm_ BK824 hg; have NB834_852 := bn_ BK834 hg; have NB852_834 := bm_ BK834 hg; have NB843_852 := bn_ BK843 hg; have NB852_843 := bm_ BK843 hg; replace BK824 := bb_ BK824 hb; replace BK834 := bb_ BK834 hb; replace BK843 := bb_ BK843 hb; replace HB := bs_ w hb; clear hb hg; have hnb47 := NB852_824.out; have hnc47 := NB824_852.out; have hnb48 := NB852_834.out; have hnc48 := NB834_852.out; have hnb49 := NB852_843.out; have hnc49 := NB843_852.out; obtain ⟨_, _, _, _, _, _, _, _, _, _, _, _⟩ := ce6_ BK852) | ((with_reducible refine gate_callee (f := 13) rfl ?_); refine goesA_ (some 60) Try.func13 #[.agg #[.int .i64 t844, .int .i64 t845, .int .i64 t846, .int .u64 t847, .int .u64 t848, .int .u64 t849]] ?_; (with_reducible refine (gcra_Bucket.calls kj4 t844 t845 t846 t847 t848 t849 t853 t854 t855 t856 t857 t858 t859 _ A24.out).mono ?_); rintro e w51 ⟨rfl, hb⟩; refine ⟨_, rfl, ?_⟩; replace BK824 := bf_ BK824 hb; replace BK834 := bf_ BK834 hb; replace BK843 := bf_ BK843 hb; replace BK852 := Aside0.mk (blk_below (g := gb852) (o := .cells #[.int .i64 t844, .int .i64 t845, .int .i64 t846, .int .u64 t847, .int .u64 t848, .int .u64 t849] 28 (0, 0)) (bp6_ (bq_ BK852)) hb); replace HB := bs_ w hb; clear hb) | ((with_reducible refine gate_dst (N := 15) rfl ?_); refine bx_ #[.int .i64 0, .int .i64 0, .int .i64 0, .int .i64 0, .int .i64 0, .int .u64 0] 30 ?_; intro gb860 hg w52 BK860 hb; have GW860 := bz_ w hg; have GE860 := GW860; have NB824_860 := bn_ BK824 hg; have NB860_824 := bm_ BK824 hg; have NB834_860 := bn_ BK834 hg; have NB860_834 := bm_ BK834 hg; have NB843_860 := bn_ BK843 hg; have NB860_843 := bm_ BK843 hg; have NB852_860 := bn_ BK852 hg; have NB860_852 := bm_ BK852 hg; replace BK824 := bb_ BK824 hb; replace BK834 := bb_ BK834 hb; replace BK843 := bb_ BK843 hb; replace BK852 := bb_ BK852 hb; replace HB := bs_ w hb; clear hb hg; have hnb53 := NB860_824.out; have hnc53 := NB824_860.out; have hnb54 := NB860_834.out; have hnc54 := NB834_860.out; have hnb55 := NB860_843.out; have hnc55 := NB843_860.out; have hnb56 := NB860_852.out; have hnc56 := NB852_860.out; obtain ⟨_, _, _, _, _, _, _, _, _, _, _, _⟩ := ce6_ BK860; obtain ⟨_, _, _, _, _, _, _, _, _, _, _, _⟩ := ce6_ BK843) | ((with_reducible refine gate_callee (f := 28) rfl ?_); refine goesA_ (some 76) Try.func28 #[.agg #[.int .i64 t836, .int .i64 t837, .int .i64 t838, .int .i64 t839, .int .i64 t840, .int .u64 t841], .int .i64 a2] ?_; (with_reducible refine (bucket_Charge.calls t836 t837 t838 t839 t840 t841 a2 t861 t862 t863 t864 t865 t866 t867 _ A28.out).mono ?_); rintro e w59 ⟨rfl, hb⟩; refine ⟨_, rfl, ?_⟩; replace BK824 := bf_ BK824 hb; replace BK834 := bf_ BK834 hb; replace BK843 := bf_ BK843 hb; replace BK852 := bf_ BK852 hb; replace BK860 := Aside0.mk (blk_below (g := gb860) (o := .cells #[.int .i64 t853, .int .i64 t854, .int .i64 t855, .int .i64 t856, .int .i64 t857, .int .u64 t858] 30 (0, 0)) (bp6_ (bq_ BK860)) hb); replace HB := bs_ w hb; clear hb) | ((with_reducible refine gate_dst (N := 17) rfl ?_); refine bx_ #[.int .i64 0, .int .i64 0, .int .i64 0, .int .i64 0, .int .i64 0, .int .u64 0] 30 ?_; intro gb868 hg w60 BK868 hb; have GW868 := bz_ w hg; have GE868 := GW868; have NB824_868 := bn_ BK824 hg; have NB868_824 := bm_ BK824 hg; have NB834_868 := bn_ BK834 hg; have NB868_834 := bm_ BK834 hg; have NB843_868 := bn_ BK843 hg; have NB868_843 := bm_ BK843 hg; have NB852_868 := bn_ BK852 hg; have NB868_852 := bm_ BK852 hg; have NB860_868 := bn_ BK860 hg; have NB868_860 := bm_ BK860 hg; replace BK824 := bb_ BK824 hb; replace BK834 := bb_ BK834 hb; replace BK843 := bb_ BK843 hb; replace BK852 := bb_ BK852 hb; replace BK860 := bb_ BK860 hb; replace HB := bs_ w hb; clear hb hg; have hnb61 := NB868_824.out; have hnc61 := NB824_868.out; have hnb62 := NB868_834.out; have hnc62 := NB834_868.out; have hnb63 := NB868_843.out; have hnc63 := NB843_868.out; have hnb64 := NB868_852.out; have hnc64 := NB852_868.out; have hnb65 := NB868_860.out; have hnc65 := NB860_868.out; obtain ⟨_, _, _, _, _, _, _, _, _, _, _, _⟩ := ce6_ BK868; obtain ⟨_, _, _, _, _, _, _, _, _, _, _, _⟩ := ce6_ BK860))
       go_ret
       exact fi_
      ·replace c31 := Bool.eq_false_iff.mpr c31
       subst c31
       replace H : (none) = some r := by rw [if_neg (show ¬ (false = true) by decide)] at H; exact H
       exact absurd H (by simp)
     ·replace c30 := Bool.eq_false_iff.mpr c30
      subst c30
      replace H : (none) = some r := by rw [if_neg (show ¬ (false = true) by decide)] at H; exact H
      exact absurd H (by simp)
    ·rw [if_neg c29] at H
     have c29b0 : (t867 == 0) = false := beq_eq_false_iff_ne.mpr c29
     have c29b1 : (t867 != 0) = true := bne_iff_ne.mpr c29
     by_cases c68 : t825 = true
     ·subst c68
      rw [if_pos rfl] at H
      try dsimp only at H
      by_cases c69 : t867 = 20
      rotate_left
      ·rw [if_neg c69] at H; exact absurd H (by simp)
      rw [if_pos c69] at H
      have c69b0 : (t867 == 20) = true := beq_iff_eq.mpr c69
      have c69b1 : (t867 != 20) = false := bne_eq_false_iff_eq.mpr c69
      clear c69
      by_cases c70 : t850 = true
      ·subst c70
       replace H : (none) = some r := by rw [if_pos rfl] at H; exact H
       exact absurd H (by simp)
      ·replace c70 := Bool.eq_false_iff.mpr c70
       subst c70
       rw [if_neg (show ¬ (false = true) by decide)] at H
       try dsimp only at H
       obtain rfl := Option.some.inj H
       obtain ⟨_, _, _, _, _, _, _, _, _, _, _, _⟩ := ce6_ BK824
       go_wp2_with (first | ((with_reducible refine gate_callee (f := 13) rfl ?_); refine goesA_ (some 34) Try.func13 #[.agg #[.int .i64 a0_0, .int .i64 a0_1, .int .i64 a0_2, .int .u64 a0_3, .int .u64 a0_4, .int .u64 a0_5]] ?_; (with_reducible refine (gcra_Bucket.calls kj4 a0_0 a0_1 a0_2 a0_3 a0_4 a0_5 t827 t828 t829 t830 t831 t832 t833 _ A18.out).mono ?_); rintro e w72 ⟨rfl, hb⟩; refine ⟨_, rfl, ?_⟩; replace BK824 := bb_ BK824 hb; replace HB := bs_ w hb; clear hb) | ((with_reducible refine gate_dst (N := 8) rfl ?_); refine bx_ #[.int .i64 0, .int .i64 0, .int .i64 0, .int .i64 0, .int .i64 0, .int .u64 0] 30 ?_; intro gb834 hg w73 BK834 hb; have GW834 := bz_ w hg; have GE834 := GW834; have NB824_834 := bn_ BK824 hg; have NB834_824 := bm_ BK824 hg; replace BK824 := bb_ BK824 hb; replace HB := bs_ w hb; clear hb hg; have hnb74 := NB834_824.out; have hnc74 := NB824_834.out; obtain ⟨_, _, _, _, _, _, _, _, _, _, _, _⟩ := ce6_ BK834) | (go_at_call 26; (with_reducible refine (spigotref03_Check.calls t827 t828 t829 t830 t831 t832 t835 _ A20.out).mono ?_); rintro e w76 ⟨rfl, hb⟩; replace BK824 := bf_ BK824 hb; replace BK834 := Aside0.mk (blk_below (g := gb834) (o := .cells #[.int .i64 t827, .int .i64 t828, .int .i64 t829, .int .i64 t830, .int .i64 t831, .int .u64 t832] 30 (0, 0)) (bp6_ (bq_ BK834)) hb); replace HB := bs_ w hb; clear hb; obtain ⟨_, _, _, _, _, _, _, _, _, _, _, _⟩ := ce6_ BK834) | ((with_reducible refine gate_callee (f := 27) rfl ?_); refine goesA_ (some 47) Try.func27 #[.agg #[.int .i64 t827, .int .i64 t828, .int .i64 t829, .int .i64 t830, .int .i64 t831, .int .u64 t832], .int .u64 a1] ?_; (with_reducible refine (bucket_Refill.calls kj4 t827 t828 t829 t830 t831 t832 a1 t836 t837 t838 t839 t840 t841 t842 _ A22.out).mono ?_); rintro e w78 ⟨rfl, hb⟩; refine ⟨_, rfl, ?_⟩; replace BK824 := bb_ BK824 hb; replace BK834 := bb_ BK834 hb; replace HB := bs_ w hb; clear hb) | ((with_reducible refine gate_dst (N := 10) rfl ?_); refine bx_ #[.int .i64 0, .int .i64 0, .int .i64 0, .int .i64 0, .int .i64 0, .int .u64 0] 30 ?_; intro gb843 hg w79 BK843 hb; have GW843 := bz_ w hg; have GE843 := GW843; have NB824_843 := bn_ BK824 hg; have NB843_824 := bm_ BK824 hg; have NB834_843 := bn_ BK834 hg; have NB843_834 := bm_ BK834 hg; replace BK824 := bb_ BK824 hb; replace BK834 := bb_ BK834 hb; replace HB := bs_ w hb; clear hb hg; have hnb80 := NB843_824.out; have hnc80 := NB824_843.out; have hnb81 := NB843_834.out; have hnc81 := NB834_843.out; obtain ⟨_, _, _, _, _, _, _, _, _, _, _, _⟩ := ce6_ BK843; obtain ⟨_, _, _, _, _, _, _, _, _, _, _, _⟩ := ce6_ BK824) | ((with_reducible refine gate_callee (f := 17) rfl ?_); refine goesA_ (some 54) Try.func17 #[.agg #[.int .i64 a0_0, .int .i64 a0_1, .int .i64 a0_2, .int .u64 a0_3, .int .u64 a0_4, .int .u64 a0_5], .int .u64 a1, .int .i64 a2] ?_; (with_reducible refine (gcra_Ask.calls kj4 a0_0 a0_1 a0_2 a0_3 a0_4 a0_5 a1 a2 t844 t845 t846 t847 t848 t849 false t851 _ A23.out).mono ?_); rintro e w84 ⟨rfl, hb⟩; refine ⟨_, rfl, ?_⟩; replace BK824 := bf_ BK824 hb; replace BK834 := bf_ BK834 hb; replace BK843 := Aside0.mk (blk_below (g := gb843) (o := .cells #[.int .i64 t836, .int .i64 t837, .int .i64 t838, .int .i64 t839, .int .i64 t840, .int .u64 t841] 30 (0, 0)) (bp6_ (bq_ BK843)) hb); replace HB := bs_ w hb; clear hb) | ((with_reducible refine gate_dst (N := 12) rfl ?_); refine bx_ #[.int .i64 0, .int .i64 0, .int .i64 0, .int .u64 0, .int .u64 0, .int .u64 0] 28 ?_; intro gb852 hg w85 BK852 hb; have GW852 := bz_ w hg; have GE852 := GW852; have NB824_852 := bn_ BK824 hg; have NB852_824 := bm_ BK824 hg; have NB834_852 := bn_ BK834 hg; have NB852_834 := bm_ BK834 hg; have NB843_852 := bn_ BK843 hg; have NB852_843 := bm_ BK843 hg; replace BK824 := bb_ BK824 hb; replace BK834 := bb_ BK834 hb; replace BK843 := bb_ BK843 hb; replace HB := bs_ w hb; clear hb hg; have hnb86 := NB852_824.out; have hnc86 := NB824_852.out; have hnb87 := NB852_834.out; have hnc87 := NB834_852.out; have hnb88 := NB852_843.out; have hnc88 := NB843_852.out; obtain ⟨_, _, _, _, _, _, _, _, _, _, _, _⟩ := ce6_ BK852) | ((with_reducible refine gate_callee (f := 13) rfl ?_); refine goesA_ (some 60) Try.func13 #[.agg #[.int .i64 t844, .int .i64 t845, .int .i64 t846, .int .u64 t847, .int .u64 t848, .int .u64 t849]] ?_; (with_reducible refine (gcra_Bucket.calls kj4 t844 t845 t846 t847 t848 t849 t853 t854 t855 t856 t857 t858 t859 _ A24.out).mono ?_); rintro e w90 ⟨rfl, hb⟩; refine ⟨_, rfl, ?_⟩; replace BK824 := bf_ BK824 hb; replace BK834 := bf_ BK834 hb; replace BK843 := bf_ BK843 hb; replace BK852 := Aside0.mk (blk_below (g := gb852) (o := .cells #[.int .i64 t844, .int .i64 t845, .int .i64 t846, .int .u64 t847, .int .u64 t848, .int .u64 t849] 28 (0, 0)) (bp6_ (bq_ BK852)) hb); replace HB := bs_ w hb; clear hb) | ((with_reducible refine gate_dst (N := 15) rfl ?_); refine bx_ #[.int .i64 0, .int .i64 0, .int .i64 0, .int .i64 0, .int .i64 0, .int .u64 0] 30 ?_; intro gb860 hg w91 BK860 hb; have GW860 := bz_ w hg; have GE860 := GW860; have NB824_860 := bn_ BK824 hg; have NB860_824 := bm_ BK824 hg; have NB834_860 := bn_ BK834 hg; have NB860_834 := bm_ BK834 hg; have NB843_860 := bn_ BK843 hg; have NB860_843 := bm_ BK843 hg; have NB852_860 := bn_ BK852 hg; have NB860_852 := bm_ BK852 hg; replace BK824 := bb_ BK824 hb; replace BK834 := bb_ BK834 hb; replace BK843 := bb_ BK843 hb; replace BK852 := bb_ BK852 hb; replace HB := bs_ w hb; clear hb hg; have hnb92 := NB860_824.out; have hnc92 := NB824_860.out; have hnb93 := NB860_834.out; have hnc93 := NB834_860.out; have hnb94 := NB860_843.out; have hnc94 := NB843_860.out; have hnb95 := NB860_852.out; have hnc95 := NB852_860.out; obtain ⟨_, _, _, _, _, _, _, _, _, _, _, _⟩ := ce6_ BK860; obtain ⟨_, _, _, _, _, _, _, _, _, _, _, _⟩ := ce6_ BK843) | ((with_reducible refine gate_callee (f := 28) rfl ?_); refine goesA_ (some 76) Try.func28 #[.agg #[.int .i64 t836, .int .i64 t837, .int .i64 t838, .int .i64 t839, .int .i64 t840, .int .u64 t841], .int .i64 a2] ?_; (with_reducible refine (bucket_Charge.calls t836 t837 t838 t839 t840 t841 a2 t861 t862 t863 t864 t865 t866 t867 _ A28.out).mono ?_); rintro e w98 ⟨rfl, hb⟩; refine ⟨_, rfl, ?_⟩; replace BK824 := bf_ BK824 hb; replace BK834 := bf_ BK834 hb; replace BK843 := bf_ BK843 hb; replace BK852 := bf_ BK852 hb; replace BK860 := Aside0.mk (blk_below (g := gb860) (o := .cells #[.int .i64 t853, .int .i64 t854, .int .i64 t855, .int .i64 t856, .int .i64 t857, .int .u64 t858] 30 (0, 0)) (bp6_ (bq_ BK860)) hb); replace HB := bs_ w hb; clear hb) | ((with_reducible refine gate_dst (N := 17) rfl ?_); refine bx_ #[.int .i64 0, .int .i64 0, .int .i64 0, .int .i64 0, .int .i64 0, .int .u64 0] 30 ?_; intro gb868 hg w99 BK868 hb; have GW868 := bz_ w hg; have GE868 := GW868; have NB824_868 := bn_ BK824 hg; have NB868_824 := bm_ BK824 hg; have NB834_868 := bn_ BK834 hg; have NB868_834 := bm_ BK834 hg; have NB843_868 := bn_ BK843 hg; have NB868_843 := bm_ BK843 hg; have NB852_868 := bn_ BK852 hg; have NB868_852 := bm_ BK852 hg; have NB860_868 := bn_ BK860 hg; have NB868_860 := bm_ BK860 hg; replace BK824 := bb_ BK824 hb; replace BK834 := bb_ BK834 hb; replace BK843 := bb_ BK843 hb; replace BK852 := bb_ BK852 hb; replace BK860 := bb_ BK860 hb; replace HB := bs_ w hb; clear hb hg; have hnb100 := NB868_824.out; have hnc100 := NB824_868.out; have hnb101 := NB868_834.out; have hnc101 := NB834_868.out; have hnb102 := NB868_843.out; have hnc102 := NB843_868.out; have hnb103 := NB868_852.out; have hnc103 := NB852_868.out; have hnb104 := NB868_860.out; have hnc104 := NB860_868.out; obtain ⟨_, _, _, _, _, _, _, _, _, _, _, _⟩ := ce6_ BK868; obtain ⟨_, _, _, _, _, _, _, _, _, _, _, _⟩ := ce6_ BK860; obtain ⟨_, _, _, _, _, _, _, _, _, _, _, _⟩ := ce6_ BK843))
       go_ret
       exact fi_
     ·replace c68 := Bool.eq_false_iff.mpr c68
      subst c68
      replace H : (none) = some r := by rw [if_neg (show ¬ (false = true) by decide)] at H; exact H
      exact absurd H (by simp)

end Go.Proofs.Ytnijohomnajngaa.X
