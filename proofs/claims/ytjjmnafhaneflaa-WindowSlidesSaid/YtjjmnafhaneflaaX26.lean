-- written by xprint.py, a program of this session over the kit's print
import Derived.Test.YtjjmnafhaneflaaX0
import Derived.Test.YtjjmnafhaneflaaX4
import Derived.Test.YtjjmnafhaneflaaX9
import Derived.Test.YtjjmnafhaneflaaX10
import Derived.Test.YtjjmnafhaneflaaX14
import Derived.Test.YtjjmnafhaneflaaX21
import Derived.Test.YtjjmnafhaneflaaX23
import Derived.Test.YtjjmnafhaneflaaX25
namespace Go.Proofs.Ytjjmnafhaneflaa.X
open Go.RowKit Go.Proofs.YtjjmnafhaneflaaW.PrintWords Go.Proofs.YtjjmnafhaneflaaW.PrintLast Go.Proofs.YtjjmnafhaneflaaW.PrintMore
attribute [local go_sem] max2_int min2_int max_two min_two max_three min_three max_four min_four   -- for this text's walks alone
set_option linter.unusedVariables false
set_option linter.unusedSimpArgs false

/-! ### spigotlaw38_WindowSlides: function 5 -/
def spigotlaw38_WindowSlides.j0 : Nat → List (S58) → Bool → Bool → Int → Int → Option (Bool)
  | 0, _, _, _, _, _ => none
  | k + 1, x1, x5, x30, x298000, x298001 => if x30 = true then (some x5) else ((window_Slide.f k x298000 x298001 x1).bind fun bt302 => (if bt302.2 = 0 then ((spigotref38_Charges.f k bt302.1).bind fun t306 => (if t306 = 0 then (if (bt302.1.length : Int) > (x1.length : Int) then (none) else ((window_Most.f k x298000 x298001 bt302.1).bind fun bt307 => ((window_Most.f k x298000 x298001 x1).bind fun bt309 => ((window_Slide.f k x298000 x298001 bt302.1).bind fun bt311 => (if x5 = true then (if bt307.2 = 0 then (if bt307.1 ≤ x298000 then (if bt309.2 = 0 then ((spigotref38_Same.f k bt302.1 x1).bind fun t315 => (if ((decide (bt309.1 ≤ x298000)) == t315) = true then (if bt311.2 = 0 then ((spigotref38_Same.f k bt311.1 bt302.1).bind fun t316 => (some t316)) else (none)) else (none))) else (none)) else (none)) else (none)) else (none)))))) else (none))) else (none)))
def spigotlaw38_WindowSlides.f (k : Nat) (a0_0 : Int) (a0_1 : Int) (l1 : List (S58)) : Option (Bool) := (spigotlaw38_alive.f k).bind fun t298 => ((spigotref38_Great.f l1).bind fun t299 => (if t299 = true then (spigotlaw38_WindowSlides.j0 k l1 t298 true a0_0 a0_1) else ((spigotref38_Check.f a0_0 a0_1).bind fun t300 => (if t300 = 0 then ((spigotref38_Charges.f k l1).bind fun t301 => (if t301 = 0 then (spigotlaw38_WindowSlides.j0 k l1 t298 (!t298) a0_0 a0_1) else (spigotlaw38_WindowSlides.j0 k l1 t298 true a0_0 a0_1))) else (spigotlaw38_WindowSlides.j0 k l1 t298 true a0_0 a0_1)))))
theorem spigotlaw38_WindowSlides.mono_l : ∀ k, (∀ y0 y1 y2 y3 y4, LeO (spigotlaw38_WindowSlides.j0 k y0 y1 y2 y3 y4) (spigotlaw38_WindowSlides.j0 (k + 1) y0 y1 y2 y3 y4))
  | 0 => fun _ _ _ _ _ r h => by simp [spigotlaw38_WindowSlides.j0] at h
  | k + 1 => by
    have ih0 := spigotlaw38_WindowSlides.mono_l k
    · intro y0 y1 y2 y3 y4
      unfold spigotlaw38_WindowSlides.j0
      repeat' first
      | (with_reducible exact ih0 _ _ _ _ _)
      | (with_reducible exact spigotlaw38_alive.mono _)
      | (with_reducible exact spigotref38_Charges.mono _ _)
      | (with_reducible exact spigotref38_Same.mono _ _ _)
      | (with_reducible exact window_Most.mono _ _ _ _)
      | (with_reducible exact window_Slide.mono _ _ _ _)
      | (with_reducible exact LeO.refl _)
      | (with_reducible exact LeO.none _)
      | (with_reducible refine LeO.ite ?_ ?_)
      | (with_reducible refine LeO.bind ?_ (fun _ => ?_))
      | exact ih0 _ _ _ _ _
      | exact spigotlaw38_alive.mono _
      | exact spigotref38_Charges.mono _ _
      | exact spigotref38_Same.mono _ _ _
      | exact window_Most.mono _ _ _ _
      | exact window_Slide.mono _ _ _ _
      | exact LeO.none _
      | refine LeO.ite ?_ ?_
      | refine LeO.bind ?_ (fun _ => ?_)
theorem spigotlaw38_WindowSlides.mono : ∀ a0 a1 a2 k, LeO (spigotlaw38_WindowSlides.f k a0 a1 a2) (spigotlaw38_WindowSlides.f (k + 1) a0 a1 a2) := by
  intro a0 a1 a2 k
  have ih0 := spigotlaw38_WindowSlides.mono_l k
  unfold spigotlaw38_WindowSlides.f
  repeat' first
      | (with_reducible exact ih0 _ _ _ _ _)
      | (with_reducible exact spigotlaw38_alive.mono _)
      | (with_reducible exact spigotref38_Charges.mono _ _)
      | (with_reducible exact spigotref38_Same.mono _ _ _)
      | (with_reducible exact window_Most.mono _ _ _ _)
      | (with_reducible exact window_Slide.mono _ _ _ _)
      | (with_reducible exact LeO.refl _)
      | (with_reducible exact LeO.none _)
      | (with_reducible refine LeO.ite ?_ ?_)
      | (with_reducible refine LeO.bind ?_ (fun _ => ?_))
      | exact ih0 _ _ _ _ _
      | exact spigotlaw38_alive.mono _
      | exact spigotref38_Charges.mono _ _
      | exact spigotref38_Same.mono _ _ _
      | exact window_Most.mono _ _ _ _
      | exact window_Slide.mono _ _ _ _
      | exact LeO.none _
      | refine LeO.ite ?_ ?_
      | refine LeO.bind ?_ (fun _ => ?_)
def spigotlaw38_WindowSlides.T10 : Bool × List (List Nat × List Nat) := (true, [([], []), ([0], [0]), ([1], [1]), ([2, 1], [1, 2]), ([1, 3], [1, 3]), ([4, 1], [4]), ([5], [5]), ([5], [5]), ([7, 5], [5, 7]), ([6, 8, 5], [5, 6, 8]), ([5, 9], [5, 9]), ([10, 5], [10]), ([11], [11]), ([12, 11], [11, 12]), ([11, 13], [11, 13]), ([14, 11], [14]), ([15], [15]), ([15], [15]), ([17, 15], [15, 17]), ([16, 18, 15], [15, 16, 18]), ([15], [15]), ([15], [15]), ([20, 21, 15, 15], [15, 20, 21]), ([19, 22, 15], [15, 19, 22]), ([15, 23], [15, 23]), ([24, 22], [24]), ([25], [25]), ([26, 25], [25, 26]), ([25, 27], [25, 27]), ([28, 25], [28]), ([29], [29]), ([29], [29]), ([30, 31, 29, 29], [29, 30, 31]), ([29, 32], [29, 32]), ([33, 32, 0, 1, 2, 3, 4, 5, 6, 7, 8, 9, 10, 11, 12, 13, 14, 15, 16, 17, 18, 19, 20, 21, 22, 23, 24, 25, 26, 27, 28, 29, 30, 31, 32, 33], [33])])
def spigotlaw38_WindowSlides.B10 : List Nat := [0, 1, 3, 7, 15, 31, 63, 63, 191, 511, 1023, 2047, 4095, 8191, 16383, 32767, 65535, 65535, 196607, 524287, 65535, 65535, 3211263, 8388607, 16777215, 33554431, 67108863, 134217727, 268435455, 536870911, 1073741823, 1073741823, 4294967295, 8589934591, 17179869183]
theorem spigotlaw38_WindowSlides.tab10 : rtab .any (opsOf Try.f5 10) = spigotlaw38_WindowSlides.T10 := by kernel_rfl
theorem spigotlaw38_WindowSlides.bits10 : waitsOk spigotlaw38_WindowSlides.T10.2 spigotlaw38_WindowSlides.B10 = true := by kernel_rfl
set_option maxHeartbeats 8000000 in
set_option maxRecDepth 100000 in
theorem spigotlaw38_WindowSlides.calls (k : Nat) (a0_0 : Int) (a0_1 : Int) (A1 : Option Addr) (c1 : Nat) (l1 : List (S58)) (r : Bool) (w : World) (hr1 : Kd.C k58 w A1 l1.length l1) (hc1 : l1.length ≤ c1) (h : spigotlaw38_WindowSlides.f k a0_0 a0_1 l1 = some r) :
  Calls Try.prog 5 #[.agg #[.int .i64 a0_0, .int .i64 a0_1], .slice A1 l1.length c1] w fun e w' => e = .returned (.bool r) ∧ Below w.heap.size w w' := by
 have hu23 := Try.underlying23
 have HR1 := Aside0.mk hr1
 have HC1 := Aside0.mk hc1
 clear hr1 hc1
 have HB := Aside0.mk (Below.refl w.heap.size w)
 have H : ((spigotlaw38_alive.f k).bind fun t298 => ((spigotref38_Great.f l1).bind fun t299 => (if t299 = true then (spigotlaw38_WindowSlides.j0 k l1 t298 true a0_0 a0_1) else ((spigotref38_Check.f a0_0 a0_1).bind fun t300 => (if t300 = 0 then ((spigotref38_Charges.f k l1).bind fun t301 => (if t301 = 0 then (spigotlaw38_WindowSlides.j0 k l1 t298 (!t298) a0_0 a0_1) else (spigotlaw38_WindowSlides.j0 k l1 t298 true a0_0 a0_1))) else (spigotlaw38_WindowSlides.j0 k l1 t298 true a0_0 a0_1)))))) = some r := h
 clear h
 obtain ⟨t298, A3, H⟩ := bo_ H
 try dsimp only at H
 have HC4 := Aside0.mk H
 clear H
 go_enter Try.func5, Try.ntmps5
 go_upto_region 2 with (first | ((with_reducible refine gate_dst (N := 2) rfl ?_); (try refine ug_ (by rfl) ?_); refine bx_ #[.int .i64 a0_0, .int .i64 a0_1] 23 ?_; intro gb297 hg w5 BK297 hb; have GW297 := bz_ w hg; replace HB := bs_ w hb; clear hb hg) | ((with_reducible refine gate_callee (f := 26) rfl ?_); (try refine ug_ (by rfl) ?_); refine goesA_ (some 14) Try.func26 #[] ?_; (with_reducible refine (spigotlaw38_alive.calls k  t298 _ A3.out).mono ?_); rintro e w6 ⟨rfl, hb⟩; refine ⟨_, rfl, ?_⟩; replace BK297 := bb_ BK297 hb; replace HB := bs_ w hb; clear hb))
 (try simp only [Act.put, List.setIfInBounds_toArray, List.set_cons_zero, List.set_cons_succ])
 go_cut [30] (fun v30 wc => ∃ (kq : Nat) (x30_3 : Bool), v30 = .bool x30_3 ∧ Aside0 (spigotlaw38_WindowSlides.j0 kq l1 t298 x30_3 a0_0 a0_1 = some r) ∧ Aside0 (kq ≤ k) ∧ Aside0 (wc.heap[gb297]? = some (.cells #[.int .i64 a0_0, .int .i64 a0_1] 23 (0, 0))) ∧ Aside0 (Below w.heap.size w wc))
 case first =>
  have H := HC4.out
  clear HC4
  obtain ⟨t299, A7, H⟩ := bo_ H
  try dsimp only at H
  by_cases c8 : t299 = true
  ·subst c8
   rw [if_pos rfl] at H
   try dsimp only at H
   have H' := Aside0.mk H
   clear H
   go_wp2_with (first | ((with_reducible refine gate_callee (f := 9) rfl ?_); (try refine ug_ (by rfl) ?_); refine goesA_ (some 16) Try.func9 #[.slice A1 l1.length c1] ?_; (with_reducible refine (spigotref38_Great.calls _ _ l1 true _ ?side1 ?side2 A7.out).mono ?_); (case side1 => exact cs_ HR1 HB); (case side2 => exact HC1.out); rintro e w' ⟨rfl, ⟨nd, rfl⟩⟩; refine ⟨_, rfl, ?_⟩))
   go_meet
   case rel => exact ⟨_, (true), rf_, H', al_, ⟨bq_ BK297⟩, bw_⟩
  ·replace c8 := Bool.eq_false_iff.mpr c8
   subst c8
   rw [if_neg (show ¬ (false = true) by decide)] at H
   try dsimp only at H
   obtain ⟨t300, A9, H⟩ := bo_ H
   try dsimp only at H
   by_cases c10 : t300 = 0
   ·rw [if_pos c10] at H
    have c10b0 : (t300 == 0) = true := beq_iff_eq.mpr c10
    have c10b1 : (t300 != 0) = false := bne_eq_false_iff_eq.mpr c10
    clear c10
    (first | rw [c10b0] | (simp only [i64_w, i32_w]; rw [c10b0]) | skip)
    obtain ⟨t301, A11, H⟩ := bo_ H
    replace H : (if t301 = 0 then (spigotlaw38_WindowSlides.j0 k l1 t298 (!t298) a0_0 a0_1) else (spigotlaw38_WindowSlides.j0 k l1 t298 true a0_0 a0_1)) = some r := H
    by_cases c12 : t301 = 0
    ·rw [if_pos c12] at H
     have c12b0 : (t301 == 0) = true := beq_iff_eq.mpr c12
     have c12b1 : (t301 != 0) = false := bne_eq_false_iff_eq.mpr c12
     clear c12
     have H' := Aside0.mk H
     clear H
     go_wp2_with (first | ((with_reducible refine gate_callee (f := 9) rfl ?_); (try refine ug_ (by rfl) ?_); refine goesA_ (some 16) Try.func9 #[.slice A1 l1.length c1] ?_; (with_reducible refine (spigotref38_Great.calls _ _ l1 false _ ?side1 ?side2 A7.out).mono ?_); (case side1 => exact cs_ HR1 HB); (case side2 => exact HC1.out); rintro e w' ⟨rfl, ⟨nd, rfl⟩⟩; refine ⟨_, rfl, ?_⟩; replace hc297 := ce2_ BK297) | (go_at_call 22; (with_reducible refine (spigotref38_Check.calls a0_0 a0_1 t300 _ A9.out).mono ?_); rintro e w14 ⟨rfl, hb⟩; replace BK297 := bb_ BK297 hb; replace HB := bs_ w hb; clear hb) | (go_at_call 24; (with_reducible refine (spigotref38_Charges.calls k _ _ l1 t301 _ ?side1 ?side2 A11.out).mono ?_); (case side1 => exact cs_ HR1 HB); (case side2 => exact HC1.out); rintro e w' ⟨rfl, ⟨nd, rfl⟩⟩))
     go_meet
     case rel => exact ⟨_, (!t298), rf_, H', al_, ⟨bq_ BK297⟩, bw_⟩
    ·rw [if_neg c12] at H
     have c12b0 : (t301 == 0) = false := beq_eq_false_iff_ne.mpr c12
     have c12b1 : (t301 != 0) = true := bne_iff_ne.mpr c12
     have H' := Aside0.mk H
     clear H
     go_wp2_with (first | ((with_reducible refine gate_callee (f := 9) rfl ?_); (try refine ug_ (by rfl) ?_); refine goesA_ (some 16) Try.func9 #[.slice A1 l1.length c1] ?_; (with_reducible refine (spigotref38_Great.calls _ _ l1 false _ ?side1 ?side2 A7.out).mono ?_); (case side1 => exact cs_ HR1 HB); (case side2 => exact HC1.out); rintro e w' ⟨rfl, ⟨nd, rfl⟩⟩; refine ⟨_, rfl, ?_⟩; replace hc297 := ce2_ BK297) | (go_at_call 22; (with_reducible refine (spigotref38_Check.calls a0_0 a0_1 t300 _ A9.out).mono ?_); rintro e w16 ⟨rfl, hb⟩; replace BK297 := bb_ BK297 hb; replace HB := bs_ w hb; clear hb) | (go_at_call 24; (with_reducible refine (spigotref38_Charges.calls k _ _ l1 t301 _ ?side1 ?side2 A11.out).mono ?_); (case side1 => exact cs_ HR1 HB); (case side2 => exact HC1.out); rintro e w' ⟨rfl, ⟨nd, rfl⟩⟩))
     go_meet
     case rel => exact ⟨_, (true), rf_, H', al_, ⟨bq_ BK297⟩, bw_⟩
   ·rw [if_neg c10] at H
    have c10b0 : (t300 == 0) = false := beq_eq_false_iff_ne.mpr c10
    have c10b1 : (t300 != 0) = true := bne_iff_ne.mpr c10
    (first | rw [c10b0] | (simp only [i64_w, i32_w]; rw [c10b0]) | skip)
    have H' := Aside0.mk H
    clear H
    go_wp2_with (first | ((with_reducible refine gate_callee (f := 9) rfl ?_); (try refine ug_ (by rfl) ?_); refine goesA_ (some 16) Try.func9 #[.slice A1 l1.length c1] ?_; (with_reducible refine (spigotref38_Great.calls _ _ l1 false _ ?side1 ?side2 A7.out).mono ?_); (case side1 => exact cs_ HR1 HB); (case side2 => exact HC1.out); rintro e w' ⟨rfl, ⟨nd, rfl⟩⟩; refine ⟨_, rfl, ?_⟩; replace hc297 := ce2_ BK297) | (go_at_call 22; (with_reducible refine (spigotref38_Check.calls a0_0 a0_1 t300 _ A9.out).mono ?_); rintro e w18 ⟨rfl, hb⟩; replace BK297 := bb_ BK297 hb; replace HB := bs_ w hb; clear hb))
    go_meet
    case rel => exact ⟨_, (true), rf_, H', al_, ⟨bq_ BK297⟩, bw_⟩
 case rest =>
  clear HC4
  try clear c1
  obtain ⟨kq, x30_3, rfl, HA, HJ3, BK297, HB⟩ := hcut
  cases kq with
  | zero => exact absurd HA.out (by simp [spigotlaw38_WindowSlides.j0])
  | succ kj3 =>
   have H := HA.out
   clear HA
   simp only [spigotlaw38_WindowSlides.j0] at H
   by_cases c19 : x30_3 = true
   ·subst c19
    replace H : (some t298) = some r := by rw [if_pos rfl] at H; exact H
    obtain rfl := Option.some.inj H
    go_wp2
    go_ret
    exact fi_
   ·replace c19 := Bool.eq_false_iff.mpr c19
    subst c19
    rw [if_neg (show ¬ (false = true) by decide)] at H
    try dsimp only at H
    obtain ⟨⟨t302, t305⟩, A20, H⟩ := bo_ H
    try dsimp only at H
    by_cases c21 : t305 = 0
    rotate_left
    ·rw [if_neg c21] at H; exact absurd H (by simp)
    rw [if_pos c21] at H
    have c21b0 : (t305 == 0) = true := beq_iff_eq.mpr c21
    have c21b1 : (t305 != 0) = false := bne_eq_false_iff_eq.mpr c21
    clear c21
    obtain ⟨t306, A22, H⟩ := bo_ H
    try dsimp only at H
    by_cases c23 : t306 = 0
    rotate_left
    ·rw [if_neg c23] at H; exact absurd H (by simp)
    rw [if_pos c23] at H
    have c23b0 : (t306 == 0) = true := beq_iff_eq.mpr c23
    have c23b1 : (t306 != 0) = false := bne_eq_false_iff_eq.mpr c23
    clear c23
    by_cases c24 : (t302.length : Int) > (l1.length : Int)
    ·rw [if_pos c24] at H; exact absurd H (by simp)
    rw [if_neg c24] at H
    have c24b0 : decide ((l1.length : Int) < (t302.length : Int)) = false := decide_eq_false c24
    have c24b1 : decide (l1.length < t302.length) = false := decide_eq_false (fun h => c24 (Int.ofNat_lt.mpr h))
    clear c24
    obtain ⟨⟨t307, t308⟩, A25, H⟩ := bo_ H
    try dsimp only at H
    obtain ⟨⟨t309, t310⟩, A26, H⟩ := bo_ H
    try dsimp only at H
    obtain ⟨⟨t311, t314⟩, A27, H⟩ := bo_ H
    try dsimp only at H
    by_cases c28 : t298 = true
    ·subst c28
     rw [if_pos rfl] at H
     try dsimp only at H
     by_cases c29 : t308 = 0
     rotate_left
     ·rw [if_neg c29] at H; exact absurd H (by simp)
     rw [if_pos c29] at H
     have c29b0 : (t308 == 0) = true := beq_iff_eq.mpr c29
     have c29b1 : (t308 != 0) = false := bne_eq_false_iff_eq.mpr c29
     clear c29
     by_cases c30 : t307 ≤ a0_0
     rotate_left
     ·rw [if_neg c30] at H; exact absurd H (by simp)
     rw [if_pos c30] at H
     have c30b0 : decide (t307 ≤ a0_0) = true := decide_eq_true c30
     clear c30
     by_cases c31 : t310 = 0
     rotate_left
     ·rw [if_neg c31] at H; exact absurd H (by simp)
     rw [if_pos c31] at H
     have c31b0 : (t310 == 0) = true := beq_iff_eq.mpr c31
     have c31b1 : (t310 != 0) = false := bne_eq_false_iff_eq.mpr c31
     clear c31
     obtain ⟨t315, A32, H⟩ := bo_ H
     try dsimp only at H
     by_cases c33 : ((decide (t309 ≤ a0_0)) == t315) = true
     rotate_left
     ·rw [if_neg c33] at H; exact absurd H (by simp)
     rw [if_pos c33] at H
     have c33b0 : ((decide (t309 ≤ a0_0)) == t315) = true := c33
     (try (have c33b1 : decide ((decide (t309 ≤ a0_0)) = t315) = true := by simpa using c33))
     (try (have c33b2 : ((decide (t309 ≤ a0_0)) == t315) = true := by simpa using c33))
     clear c33
     by_cases c34 : t314 = 0
     rotate_left
     ·rw [if_neg c34] at H; exact absurd H (by simp)
     rw [if_pos c34] at H
     have c34b0 : (t314 == 0) = true := beq_iff_eq.mpr c34
     have c34b1 : (t314 != 0) = false := bne_eq_false_iff_eq.mpr c34
     clear c34
     obtain ⟨t316, A35, H⟩ := bo_ H
     replace H : (some t316) = some r := H
     obtain rfl := Option.some.inj H
     replace hc297 := ce2_ BK297
     try go_wp2_with (first | ((with_reducible refine gate_callee (f := 17) rfl ?_); (try refine ug_ (by rfl) ?_); refine goesA_ (some 35) Try.func17 #[.agg #[.int .i64 a0_0, .int .i64 a0_1], .slice A1 l1.length c1] ?_; (with_reducible refine (window_Slide.calls kj3 a0_0 a0_1 _ _ l1 t302 t305 _ ?side1 ?side2 A20.out).mono ?_); (case side1 => exact cs_ HR1 HB); (case side2 => exact HC1.out); rintro e w37 ⟨v303, rfl, ho0, hb⟩; refine ⟨_, rfl, ?_⟩; have HO304 := Aside0.mk (Kd.R_lower ho0 (below_size bh_)); replace BK297 := bb_ BK297 hb; replace HB := bs_ w hb; (try clear hb); (try clear hb2); (try clear hk); (try clear hi); (try clear ho0); obtain ⟨Ao38, co38, eo38⟩ := Kd.R_slice HO304.out; subst eo38) | (go_at_call 24; (with_reducible refine (spigotref38_Charges.calls kj3 _ _ t302 t306 _ ?side1 ?side2 A22.out).mono ?_); (case side1 => exact cr_ HO304); (case side2 => exact (Kd.R_reads' HO304.out).2.1); rintro e w' ⟨rfl, ⟨nd, rfl⟩⟩; replace hc297 := ce2_ BK297) | ((with_reducible refine gate_callee (f := 12) rfl ?_); (try refine ug_ (by rfl) ?_); refine goesA_ (some 55) Try.func12 #[.agg #[.int .i64 a0_0, .int .i64 a0_1], .slice Ao38 t302.length co38] ?_; (with_reducible refine (window_Most.calls kj3 a0_0 a0_1 _ _ t302 t307 t308 _ ?side1 ?side2 A25.out).mono ?_); (case side1 => exact cr_ HO304); (case side2 => exact (Kd.R_reads' HO304.out).2.1); rintro e w40 ⟨rfl, hb⟩; refine ⟨_, rfl, ?_⟩; replace HO304 := rb_ HO304 hb; replace BK297 := bb_ BK297 hb; replace HB := bs_ w hb; clear hb; replace hc297 := ce2_ BK297) | ((with_reducible refine gate_callee (f := 12) rfl ?_); (try refine ug_ (by rfl) ?_); refine goesA_ (some 61) Try.func12 #[.agg #[.int .i64 a0_0, .int .i64 a0_1], .slice A1 l1.length c1] ?_; (with_reducible refine (window_Most.calls kj3 a0_0 a0_1 _ _ l1 t309 t310 _ ?side1 ?side2 A26.out).mono ?_); (case side1 => exact cs_ HR1 HB); (case side2 => exact HC1.out); rintro e w42 ⟨rfl, hb⟩; refine ⟨_, rfl, ?_⟩; replace HO304 := rb_ HO304 hb; replace BK297 := bb_ BK297 hb; replace HB := bs_ w hb; clear hb; replace hc297 := ce2_ BK297) | ((with_reducible refine gate_callee (f := 17) rfl ?_); (try refine ug_ (by rfl) ?_); refine goesA_ (some 67) Try.func17 #[.agg #[.int .i64 a0_0, .int .i64 a0_1], .slice Ao38 t302.length co38] ?_; (with_reducible refine (window_Slide.calls kj3 a0_0 a0_1 _ _ t302 t311 t314 _ ?side1 ?side2 A27.out).mono ?_); (case side1 => exact cr_ HO304); (case side2 => exact (Kd.R_reads' HO304.out).2.1); rintro e w44 ⟨v312, rfl, ho0, hb⟩; refine ⟨_, rfl, ?_⟩; have HO313 := Aside0.mk (Kd.R_lower (Kd.R_new' ho0 (Kd.R_lt (rs_ HO304))) (below_size bh_)); replace HO304 := Aside0.mk (Kd.R_elder' (rs_ HO304) (Kd.R_base ho0) hb); replace BK297 := bb_ BK297 hb; replace HB := bs_ w hb; (try clear hb); (try clear hb2); (try clear hk); (try clear hi); (try clear ho0)))
     replace HO304 := Aside0.mk (Kd.R_drew HO304.out)
     replace HO313 := Aside0.mk (Kd.R_drew HO313.out)
     replace BK297 := Aside0.mk (blk_drew BK297.out)
     replace HB := Aside0.mk (below_drew1 HB.out)
     refine start_ (n := 35) (S := fun w' => w'.cell? ⟨gb297, 0, none⟩ = some (.int .i64 a0_0) ∧ w'.cell? ⟨gb297, 1, none⟩ = some (.int .i64 a0_1)) (ds := []) (bl_ 35 0) (by kernel_rfl) rfl (by kernel_rfl) (cc2_ BK297) (fun hHeld => ?_); refine with_tabW spigotlaw38_WindowSlides.tab10 spigotlaw38_WindowSlides.bits10 (fun HT_ HW_ => ?_)
     generalize w44.drew = w45 at HO304 HO313 BK297 HB hHeld ⊢
     refine pa_ 0 (some 70) (bl_ 35 1) HT_ ?_
     refine pa_ 1 (some 71) (bl_ 35 3) HT_ ?_
     refine pa_ 2 (some 72) (bl_ 35 7) HT_ ?_
     refine pa_ 3 (some 73) (bl_ 35 15) HT_ ?_
     refine pa_ 4 (some 74) (bl_ 35 31) HT_ ?_
     refine pa_ 5 (some 75) (bl_ 35 63) HT_ ?_
     refine pa_ 6 (some 76) (bl_ 35 127) HT_ ?_
     refine pa_ 7 (some 77) (bl_ 35 255) HT_ ?_
     refine ta_ 8 (some 78) (bl_ 35 511) HT_ HW_ hHeld ?_
     refine pa_ 9 (some 79) (bl_ 35 1023) HT_ ?_
     refine pa_ 10 (some 80) (bl_ 35 2047) HT_ ?_
     refine pa_ 11 (some 81) (bl_ 35 4095) HT_ ?_
     refine pa_ 12 (some 82) (bl_ 35 8191) HT_ ?_
     refine pa_ 13 (some 83) (bl_ 35 16383) HT_ ?_
     refine pa_ 14 (some 84) (bl_ 35 32767) HT_ ?_
     refine pa_ 15 (some 85) (bl_ 35 65535) HT_ ?_
     refine pa_ 16 (some 86) (bl_ 35 131071) HT_ ?_
     refine pa_ 17 (some 87) (bl_ 35 262143) HT_ ?_
     refine pa_ 20 (some 90) (bl_ 35 1310719) HT_ ?_
     refine pa_ 21 (some 91) (bl_ 35 3407871) HT_ ?_
     refine ta_ 18 (some 88) (bl_ 35 3670015) HT_ HW_ hHeld ?_
     refine pa_ 19 (some 89) (bl_ 35 4194303) HT_ ?_
     refine oa_ 22 (some 92) (bl_ 35 8388607) HT_ fun K hK => ?_
     refine goesB_ Try.func25 #[.slice Ao38 t302.length co38, .slice A1 l1.length c1] ?_
     with_reducible refine (spigotref38_Same.calls kj3 _ _ t302 _ _ l1 t315 _ ?side1 ?side2 ?side3 ?side4 A32.out).mono ?_
     (case side1 => exact cr_ HO304)
     (case side2 => exact (Kd.R_reads' HO304.out).2.1)
     (case side3 => exact cs_ HR1 HB)
     (case side4 => exact HC1.out)
     rintro e w' ⟨rfl, ⟨nd, rfl⟩⟩
     refine ⟨_, rfl, ?_⟩
     obtain ⟨Ao46, co46, eo46⟩ := Kd.R_slice HO313.out
     (first | subst eo46 | (injection eo46 with f1_ f2_ f3_; have f4_ := f1_.symm; have f5_ := f3_.symm; clear f1_ f2_ f3_; subst f4_; subst f5_))
     refine hK.out _ _ (cc2_ BK297) (fun hHeld => ?_)
     clear hK K
     refine nm_ (some 92) ?_
     refine pa_ 23 (some 93) (bl_ 35 16777215) HT_ ?_
     refine pa_ 24 (some 94) (bl_ 35 33554431) HT_ ?_
     refine pa_ 25 (some 95) (bl_ 35 67108863) HT_ ?_
     refine pa_ 26 (some 96) (bl_ 35 134217727) HT_ ?_
     refine pa_ 27 (some 97) (bl_ 35 268435455) HT_ ?_
     refine pa_ 28 (some 98) (bl_ 35 536870911) HT_ ?_
     refine pa_ 29 (some 99) (bl_ 35 1073741823) HT_ ?_
     refine pa_ 30 (some 100) (bl_ 35 2147483647) HT_ ?_
     refine pa_ 31 (some 101) (bl_ 35 4294967295) HT_ ?_
     refine oa_ 32 (some 102) (bl_ 35 8589934591) HT_ fun K hK => ?_
     refine goesB_ Try.func25 #[.slice Ao46 t311.length co46, .slice Ao38 t302.length co38] ?_
     with_reducible refine (spigotref38_Same.calls kj3 _ _ t311 _ _ t302 t316 _ ?side1 ?side2 ?side3 ?side4 A35.out).mono ?_
     (case side1 => exact cr_ HO313)
     (case side2 => exact (Kd.R_reads' HO313.out).2.1)
     (case side3 => exact cr_ HO304)
     (case side4 => exact (Kd.R_reads' HO304.out).2.1)
     rintro e w' ⟨rfl, ⟨nd, rfl⟩⟩
     refine ⟨_, rfl, ?_⟩
     refine hK.out _ _ (cc2_ BK297) (fun hHeld => ?_)
     clear hK K
     refine nm_ (some 102) ?_
     refine pa_ 33 (some 103) (bl_ 35 17179869183) HT_ ?_
     refine pa_ 34 (some 4) (bl_ 35 34359738367) HT_ ?_
     refine done_ (done_of HT_.out (by kernel_rfl)) ?_
     try go_wp2
     go_ret
     exact fi_
    ·replace c28 := Bool.eq_false_iff.mpr c28
     subst c28
     replace H : (none) = some r := by rw [if_neg (show ¬ (false = true) by decide)] at H; exact H
     exact absurd H (by simp)

end Go.Proofs.Ytjjmnafhaneflaa.X
