-- written by xprint.py, a program of this session over the kit's print
import Derived.Test.YtjjmnafhaneflaaX0
import Derived.Test.YtjjmnafhaneflaaX4
import Derived.Test.YtjjmnafhaneflaaX9
import Derived.Test.YtjjmnafhaneflaaX10
import Derived.Test.YtjjmnafhaneflaaX14
import Derived.Test.YtjjmnafhaneflaaX21
import Derived.Test.YtjjmnafhaneflaaX23
import Derived.Test.YtjjmnafhaneflaaX25
import Derived.Test.YtjjmnafhaneflaaX35
namespace Go.Proofs.Ytjjmnafhaneflaa.X
open Go.RowKit Go.Proofs.YtjjmnafhaneflaaW.PrintWords Go.Proofs.YtjjmnafhaneflaaW.PrintLast Go.Proofs.YtjjmnafhaneflaaW.PrintMore
attribute [local go_sem] max2_int min2_int max_two min_two max_three min_three max_four min_four   -- for this text's walks alone
set_option linter.unusedVariables false
set_option linter.unusedSimpArgs false

/-! ### spigotlaw38_WindowBucket: function 8 -/
def spigotlaw38_WindowBucket.j0 : Nat → List (S58) → Bool → Bool → Int → Int → Option (Bool)
  | 0, _, _, _, _, _ => none
  | k + 1, x1, x5, x32, x538000, x538001 => if x32 = true then (some x5) else ((window_Limit.f x538000 x538001).bind fun bt542 => ((window_Slide.f k x538000 x538001 x1).bind fun bt547 => (if bt542.2.2.2 = 0 then (if bt542.1 = x538000 then (if bt542.2.1 = x538000 then (if bt542.2.2.1 = x538001 then (if bt547.2 = 0 then ((spigotlaw38_passes.f k bt542.1 bt542.2.1 bt542.2.2.1 bt547.1).bind fun bt551 => ((spigotlaw38_passes.f k bt542.1 bt542.2.1 bt542.2.2.1 x1).bind fun bt555 => ((window_Most.f k x538000 x538001 bt555.1).bind fun bt559 => (if x5 = true then (if bt551.2 = true then ((spigotref38_Same.f k bt551.1 bt547.1).bind fun t561 => (if t561 = true then (if bt555.2 = true then (if bt559.2 = 0 then (if x538001 = 0 then (none) else (some (decide (bt559.1 ≤ (wrap64 ((wrap64 (2 * x538000)) - (wrap64 (Int.tdiv (wrap64 ((wrap64 (x538000 + x538001)) - 1)) x538001)))))))) else (none)) else (none)) else (none))) else (none)) else (none))))) else (none)) else (none)) else (none)) else (none)) else (none))))
def spigotlaw38_WindowBucket.f (k : Nat) (a0_0 : Int) (a0_1 : Int) (l1 : List (S58)) : Option (Bool) := (spigotlaw38_alive.f k).bind fun t538 => ((spigotref38_Great.f l1).bind fun t539 => (if t539 = true then (spigotlaw38_WindowBucket.j0 k l1 t538 true a0_0 a0_1) else ((spigotref38_Check.f a0_0 a0_1).bind fun t540 => (if t540 = 0 then ((spigotref38_Charges.f k l1).bind fun t541 => (if t541 = 0 then (spigotlaw38_WindowBucket.j0 k l1 t538 (!t538) a0_0 a0_1) else (spigotlaw38_WindowBucket.j0 k l1 t538 true a0_0 a0_1))) else (spigotlaw38_WindowBucket.j0 k l1 t538 true a0_0 a0_1)))))
theorem spigotlaw38_WindowBucket.mono_l : ∀ k, (∀ y0 y1 y2 y3 y4, LeO (spigotlaw38_WindowBucket.j0 k y0 y1 y2 y3 y4) (spigotlaw38_WindowBucket.j0 (k + 1) y0 y1 y2 y3 y4))
  | 0 => fun _ _ _ _ _ r h => by simp [spigotlaw38_WindowBucket.j0] at h
  | k + 1 => by
    have ih0 := spigotlaw38_WindowBucket.mono_l k
    · intro y0 y1 y2 y3 y4
      unfold spigotlaw38_WindowBucket.j0
      repeat' first
      | (with_reducible exact ih0 _ _ _ _ _)
      | (with_reducible exact spigotlaw38_alive.mono _)
      | (with_reducible exact spigotlaw38_passes.mono _ _ _ _ _)
      | (with_reducible exact spigotref38_Charges.mono _ _)
      | (with_reducible exact spigotref38_Same.mono _ _ _)
      | (with_reducible exact window_Most.mono _ _ _ _)
      | (with_reducible exact window_Slide.mono _ _ _ _)
      | (with_reducible exact LeO.refl _)
      | (with_reducible exact LeO.none _)
      | (with_reducible refine LeO.ite ?_ ?_)
      | (with_reducible refine LeO.bind ?_ (fun _ => ?_))
      | exact ih0 _ _ _ _ _
      | exact spigotlaw38_alive.mono _
      | exact spigotlaw38_passes.mono _ _ _ _ _
      | exact spigotref38_Charges.mono _ _
      | exact spigotref38_Same.mono _ _ _
      | exact window_Most.mono _ _ _ _
      | exact window_Slide.mono _ _ _ _
      | exact LeO.none _
      | refine LeO.ite ?_ ?_
      | refine LeO.bind ?_ (fun _ => ?_)
theorem spigotlaw38_WindowBucket.mono : ∀ a0 a1 a2 k, LeO (spigotlaw38_WindowBucket.f k a0 a1 a2) (spigotlaw38_WindowBucket.f (k + 1) a0 a1 a2) := by
  intro a0 a1 a2 k
  have ih0 := spigotlaw38_WindowBucket.mono_l k
  unfold spigotlaw38_WindowBucket.f
  repeat' first
      | (with_reducible exact ih0 _ _ _ _ _)
      | (with_reducible exact spigotlaw38_alive.mono _)
      | (with_reducible exact spigotlaw38_passes.mono _ _ _ _ _)
      | (with_reducible exact spigotref38_Charges.mono _ _)
      | (with_reducible exact spigotref38_Same.mono _ _ _)
      | (with_reducible exact window_Most.mono _ _ _ _)
      | (with_reducible exact window_Slide.mono _ _ _ _)
      | (with_reducible exact LeO.refl _)
      | (with_reducible exact LeO.none _)
      | (with_reducible refine LeO.ite ?_ ?_)
      | (with_reducible refine LeO.bind ?_ (fun _ => ?_))
      | exact ih0 _ _ _ _ _
      | exact spigotlaw38_alive.mono _
      | exact spigotlaw38_passes.mono _ _ _ _ _
      | exact spigotref38_Charges.mono _ _
      | exact spigotref38_Same.mono _ _ _
      | exact window_Most.mono _ _ _ _
      | exact window_Slide.mono _ _ _ _
      | exact LeO.none _
      | refine LeO.ite ?_ ?_
      | refine LeO.bind ?_ (fun _ => ?_)
def spigotlaw38_WindowBucket.T11 : Bool × List (List Nat × List Nat) := (true, [([], []), ([0], [0]), ([1], [1]), ([1, 2], [1, 2]), ([3, 1], [3]), ([4], [4]), ([4], [4]), ([5, 6, 4, 4], [4, 5, 6]), ([4, 7], [4, 7]), ([8, 7], [8]), ([9], [9]), ([9, 10], [9, 10]), ([11, 9], [11]), ([12], [12]), ([13, 12], [12, 13]), ([12, 14], [12, 14]), ([15, 12], [15]), ([16], [16]), ([16], [16]), ([18, 16], [16, 18]), ([19, 16], [16, 19]), ([16], [16]), ([21, 16], [16, 21]), ([16], [16]), ([23, 16], [16, 23]), ([22, 24, 16], [16, 22, 24]), ([25, 16], [16, 25]), ([16], [16]), ([27, 16], [16, 27]), ([26, 28, 16], [16, 26, 28]), ([20, 29, 16], [16, 20, 29]), ([17, 30, 16], [16, 17, 30]), ([16, 31], [16, 31]), ([32, 16, 0, 1, 2, 3, 4, 5, 6, 7, 8, 9, 10, 11, 12, 13, 14, 15, 16, 17, 18, 19, 20, 21, 22, 23, 24, 25, 26, 27, 28, 29, 30, 31, 32], [32])])
def spigotlaw38_WindowBucket.B11 : List Nat := [0, 1, 3, 7, 15, 31, 31, 127, 255, 511, 1023, 2047, 4095, 8191, 16383, 32767, 65535, 131071, 131071, 393215, 917503, 131071, 2228223, 131071, 8519679, 31588351, 65142783, 131071, 134348799, 534904831, 1073610751, 2147483647, 4294967295, 8589934591]
theorem spigotlaw38_WindowBucket.tab11 : rtab .any (opsOf Try.f8 11) = spigotlaw38_WindowBucket.T11 := by kernel_rfl
theorem spigotlaw38_WindowBucket.bits11 : waitsOk spigotlaw38_WindowBucket.T11.2 spigotlaw38_WindowBucket.B11 = true := by kernel_rfl
set_option maxHeartbeats 8000000 in
set_option maxRecDepth 100000 in
theorem spigotlaw38_WindowBucket.calls (k : Nat) (a0_0 : Int) (a0_1 : Int) (A1 : Option Addr) (c1 : Nat) (l1 : List (S58)) (r : Bool) (w : World) (hr1 : Kd.C k58 w A1 l1.length l1) (hc1 : l1.length ≤ c1) (h : spigotlaw38_WindowBucket.f k a0_0 a0_1 l1 = some r) :
  Calls Try.prog 8 #[.agg #[.int .i64 a0_0, .int .i64 a0_1], .slice A1 l1.length c1] w fun e w' => e = .returned (.bool r) ∧ Below w.heap.size w w' := by
 have hu23 := Try.underlying23
 have hu43 := Try.underlying43
 have HR1 := Aside0.mk hr1
 have HC1 := Aside0.mk hc1
 clear hr1 hc1
 have HB := Aside0.mk (Below.refl w.heap.size w)
 have H : ((spigotlaw38_alive.f k).bind fun t538 => ((spigotref38_Great.f l1).bind fun t539 => (if t539 = true then (spigotlaw38_WindowBucket.j0 k l1 t538 true a0_0 a0_1) else ((spigotref38_Check.f a0_0 a0_1).bind fun t540 => (if t540 = 0 then ((spigotref38_Charges.f k l1).bind fun t541 => (if t541 = 0 then (spigotlaw38_WindowBucket.j0 k l1 t538 (!t538) a0_0 a0_1) else (spigotlaw38_WindowBucket.j0 k l1 t538 true a0_0 a0_1))) else (spigotlaw38_WindowBucket.j0 k l1 t538 true a0_0 a0_1)))))) = some r := h
 clear h
 obtain ⟨t538, A3, H⟩ := bo_ H
 try dsimp only at H
 have HC4 := Aside0.mk H
 clear H
 go_enter Try.func8, Try.ntmps8
 go_upto_region 2 with (first | ((with_reducible refine gate_dst (N := 2) rfl ?_); (try refine ug_ (by rfl) ?_); refine bx_ #[.int .i64 a0_0, .int .i64 a0_1] 23 ?_; intro gb537 hg w5 BK537 hb; have GW537 := bz_ w hg; replace HB := bs_ w hb; clear hb hg) | ((with_reducible refine gate_callee (f := 26) rfl ?_); (try refine ug_ (by rfl) ?_); refine goesA_ (some 16) Try.func26 #[] ?_; (with_reducible refine (spigotlaw38_alive.calls k  t538 _ A3.out).mono ?_); rintro e w6 ⟨rfl, hb⟩; refine ⟨_, rfl, ?_⟩; replace BK537 := bb_ BK537 hb; replace HB := bs_ w hb; clear hb))
 (try simp only [Act.put, List.setIfInBounds_toArray, List.set_cons_zero, List.set_cons_succ])
 go_cut [32] (fun v32 wc => ∃ (kq : Nat) (x32_3 : Bool), v32 = .bool x32_3 ∧ Aside0 (spigotlaw38_WindowBucket.j0 kq l1 t538 x32_3 a0_0 a0_1 = some r) ∧ Aside0 (kq ≤ k) ∧ Aside0 (wc.heap[gb537]? = some (.cells #[.int .i64 a0_0, .int .i64 a0_1] 23 (0, 0))) ∧ Aside0 (Below w.heap.size w wc))
 case first =>
  have H := HC4.out
  clear HC4
  obtain ⟨t539, A7, H⟩ := bo_ H
  try dsimp only at H
  by_cases c8 : t539 = true
  ·subst c8
   rw [if_pos rfl] at H
   try dsimp only at H
   have H' := Aside0.mk H
   clear H
   go_wp2_with (first | ((with_reducible refine gate_callee (f := 9) rfl ?_); (try refine ug_ (by rfl) ?_); refine goesA_ (some 18) Try.func9 #[.slice A1 l1.length c1] ?_; (with_reducible refine (spigotref38_Great.calls _ _ l1 true _ ?side1 ?side2 A7.out).mono ?_); (case side1 => exact cs_ HR1 HB); (case side2 => exact HC1.out); rintro e w' ⟨rfl, ⟨nd, rfl⟩⟩; refine ⟨_, rfl, ?_⟩))
   go_meet
   case rel => exact ⟨_, (true), rf_, H', al_, ⟨bq_ BK537⟩, bw_⟩
  ·replace c8 := Bool.eq_false_iff.mpr c8
   subst c8
   rw [if_neg (show ¬ (false = true) by decide)] at H
   try dsimp only at H
   obtain ⟨t540, A9, H⟩ := bo_ H
   try dsimp only at H
   by_cases c10 : t540 = 0
   ·rw [if_pos c10] at H
    have c10b0 : (t540 == 0) = true := beq_iff_eq.mpr c10
    have c10b1 : (t540 != 0) = false := bne_eq_false_iff_eq.mpr c10
    clear c10
    (first | rw [c10b0] | (simp only [i64_w, i32_w]; rw [c10b0]) | skip)
    obtain ⟨t541, A11, H⟩ := bo_ H
    replace H : (if t541 = 0 then (spigotlaw38_WindowBucket.j0 k l1 t538 (!t538) a0_0 a0_1) else (spigotlaw38_WindowBucket.j0 k l1 t538 true a0_0 a0_1)) = some r := H
    by_cases c12 : t541 = 0
    ·rw [if_pos c12] at H
     have c12b0 : (t541 == 0) = true := beq_iff_eq.mpr c12
     have c12b1 : (t541 != 0) = false := bne_eq_false_iff_eq.mpr c12
     clear c12
     have H' := Aside0.mk H
     clear H
     go_wp2_with (first | ((with_reducible refine gate_callee (f := 9) rfl ?_); (try refine ug_ (by rfl) ?_); refine goesA_ (some 18) Try.func9 #[.slice A1 l1.length c1] ?_; (with_reducible refine (spigotref38_Great.calls _ _ l1 false _ ?side1 ?side2 A7.out).mono ?_); (case side1 => exact cs_ HR1 HB); (case side2 => exact HC1.out); rintro e w' ⟨rfl, ⟨nd, rfl⟩⟩; refine ⟨_, rfl, ?_⟩; replace hc537 := ce2_ BK537) | (go_at_call 22; (with_reducible refine (spigotref38_Check.calls a0_0 a0_1 t540 _ A9.out).mono ?_); rintro e w14 ⟨rfl, hb⟩; replace BK537 := bb_ BK537 hb; replace HB := bs_ w hb; clear hb) | (go_at_call 24; (with_reducible refine (spigotref38_Charges.calls k _ _ l1 t541 _ ?side1 ?side2 A11.out).mono ?_); (case side1 => exact cs_ HR1 HB); (case side2 => exact HC1.out); rintro e w' ⟨rfl, ⟨nd, rfl⟩⟩))
     go_meet
     case rel => exact ⟨_, (!t538), rf_, H', al_, ⟨bq_ BK537⟩, bw_⟩
    ·rw [if_neg c12] at H
     have c12b0 : (t541 == 0) = false := beq_eq_false_iff_ne.mpr c12
     have c12b1 : (t541 != 0) = true := bne_iff_ne.mpr c12
     have H' := Aside0.mk H
     clear H
     go_wp2_with (first | ((with_reducible refine gate_callee (f := 9) rfl ?_); (try refine ug_ (by rfl) ?_); refine goesA_ (some 18) Try.func9 #[.slice A1 l1.length c1] ?_; (with_reducible refine (spigotref38_Great.calls _ _ l1 false _ ?side1 ?side2 A7.out).mono ?_); (case side1 => exact cs_ HR1 HB); (case side2 => exact HC1.out); rintro e w' ⟨rfl, ⟨nd, rfl⟩⟩; refine ⟨_, rfl, ?_⟩; replace hc537 := ce2_ BK537) | (go_at_call 22; (with_reducible refine (spigotref38_Check.calls a0_0 a0_1 t540 _ A9.out).mono ?_); rintro e w16 ⟨rfl, hb⟩; replace BK537 := bb_ BK537 hb; replace HB := bs_ w hb; clear hb) | (go_at_call 24; (with_reducible refine (spigotref38_Charges.calls k _ _ l1 t541 _ ?side1 ?side2 A11.out).mono ?_); (case side1 => exact cs_ HR1 HB); (case side2 => exact HC1.out); rintro e w' ⟨rfl, ⟨nd, rfl⟩⟩))
     go_meet
     case rel => exact ⟨_, (true), rf_, H', al_, ⟨bq_ BK537⟩, bw_⟩
   ·rw [if_neg c10] at H
    have c10b0 : (t540 == 0) = false := beq_eq_false_iff_ne.mpr c10
    have c10b1 : (t540 != 0) = true := bne_iff_ne.mpr c10
    (first | rw [c10b0] | (simp only [i64_w, i32_w]; rw [c10b0]) | skip)
    have H' := Aside0.mk H
    clear H
    go_wp2_with (first | ((with_reducible refine gate_callee (f := 9) rfl ?_); (try refine ug_ (by rfl) ?_); refine goesA_ (some 18) Try.func9 #[.slice A1 l1.length c1] ?_; (with_reducible refine (spigotref38_Great.calls _ _ l1 false _ ?side1 ?side2 A7.out).mono ?_); (case side1 => exact cs_ HR1 HB); (case side2 => exact HC1.out); rintro e w' ⟨rfl, ⟨nd, rfl⟩⟩; refine ⟨_, rfl, ?_⟩; replace hc537 := ce2_ BK537) | (go_at_call 22; (with_reducible refine (spigotref38_Check.calls a0_0 a0_1 t540 _ A9.out).mono ?_); rintro e w18 ⟨rfl, hb⟩; replace BK537 := bb_ BK537 hb; replace HB := bs_ w hb; clear hb))
    go_meet
    case rel => exact ⟨_, (true), rf_, H', al_, ⟨bq_ BK537⟩, bw_⟩
 case rest =>
  clear HC4
  try clear c1
  obtain ⟨kq, x32_3, rfl, HA, HJ3, BK537, HB⟩ := hcut
  cases kq with
  | zero => exact absurd HA.out (by simp [spigotlaw38_WindowBucket.j0])
  | succ kj3 =>
   have H := HA.out
   clear HA
   simp only [spigotlaw38_WindowBucket.j0] at H
   by_cases c19 : x32_3 = true
   ·subst c19
    replace H : (some t538) = some r := by rw [if_pos rfl] at H; exact H
    obtain rfl := Option.some.inj H
    go_wp2
    go_ret
    exact fi_
   ·replace c19 := Bool.eq_false_iff.mpr c19
    subst c19
    rw [if_neg (show ¬ (false = true) by decide)] at H
    try dsimp only at H
    obtain ⟨⟨t542, t543, t544, t545⟩, A20, H⟩ := bo_ H
    try dsimp only at H
    obtain ⟨⟨t547, t550⟩, A21, H⟩ := bo_ H
    try dsimp only at H
    by_cases c22 : t545 = 0
    rotate_left
    ·rw [if_neg c22] at H; exact absurd H (by simp)
    rw [if_pos c22] at H
    have c22b0 : (t545 == 0) = true := beq_iff_eq.mpr c22
    have c22b1 : (t545 != 0) = false := bne_eq_false_iff_eq.mpr c22
    clear c22
    by_cases c23 : t542 = a0_0
    rotate_left
    ·rw [if_neg c23] at H; exact absurd H (by simp)
    rw [if_pos c23] at H
    have c23b0 : (t542 == a0_0) = true := beq_iff_eq.mpr c23
    have c23b1 : (t542 != a0_0) = false := bne_eq_false_iff_eq.mpr c23
    clear c23
    by_cases c24 : t543 = a0_0
    rotate_left
    ·rw [if_neg c24] at H; exact absurd H (by simp)
    rw [if_pos c24] at H
    have c24b0 : (t543 == a0_0) = true := beq_iff_eq.mpr c24
    have c24b1 : (t543 != a0_0) = false := bne_eq_false_iff_eq.mpr c24
    clear c24
    by_cases c25 : t544 = a0_1
    rotate_left
    ·rw [if_neg c25] at H; exact absurd H (by simp)
    rw [if_pos c25] at H
    have c25b0 : (t544 == a0_1) = true := beq_iff_eq.mpr c25
    have c25b1 : (t544 != a0_1) = false := bne_eq_false_iff_eq.mpr c25
    clear c25
    by_cases c26 : t550 = 0
    rotate_left
    ·rw [if_neg c26] at H; exact absurd H (by simp)
    rw [if_pos c26] at H
    have c26b0 : (t550 == 0) = true := beq_iff_eq.mpr c26
    have c26b1 : (t550 != 0) = false := bne_eq_false_iff_eq.mpr c26
    clear c26
    obtain ⟨⟨t551, t554⟩, A27, H⟩ := bo_ H
    try dsimp only at H
    obtain ⟨⟨t555, t558⟩, A28, H⟩ := bo_ H
    try dsimp only at H
    obtain ⟨⟨t559, t560⟩, A29, H⟩ := bo_ H
    try dsimp only at H
    by_cases c30 : t538 = true
    ·subst c30
     rw [if_pos rfl] at H
     try dsimp only at H
     by_cases c31 : t554 = true
     ·subst c31
      rw [if_pos rfl] at H
      try dsimp only at H
      obtain ⟨t561, A32, H⟩ := bo_ H
      try dsimp only at H
      by_cases c33 : t561 = true
      ·subst c33
       rw [if_pos rfl] at H
       try dsimp only at H
       by_cases c34 : t558 = true
       ·subst c34
        rw [if_pos rfl] at H
        try dsimp only at H
        by_cases c35 : t560 = 0
        rotate_left
        ·rw [if_neg c35] at H; exact absurd H (by simp)
        rw [if_pos c35] at H
        have c35b0 : (t560 == 0) = true := beq_iff_eq.mpr c35
        have c35b1 : (t560 != 0) = false := bne_eq_false_iff_eq.mpr c35
        clear c35
        by_cases c36 : a0_1 = 0
        ·rw [if_pos c36] at H; exact absurd H (by simp)
        rw [if_neg c36] at H
        have c36b0 : (a0_1 == 0) = false := beq_eq_false_iff_ne.mpr c36
        have c36b1 : (a0_1 != 0) = true := bne_iff_ne.mpr c36
        obtain rfl := Option.some.inj H
        replace hc537 := ce2_ BK537
        try go_wp2_with (first | ((with_reducible refine gate_callee (f := 19) rfl ?_); (try refine ug_ (by rfl) ?_); refine goesA_ (some 36) Try.func19 #[.agg #[.int .i64 a0_0, .int .i64 a0_1]] ?_; (with_reducible refine (window_Limit.calls a0_0 a0_1 t542 t543 t544 t545 _ A20.out).mono ?_); rintro e w38 ⟨rfl, hb⟩; refine ⟨_, rfl, ?_⟩; replace BK537 := bb_ BK537 hb; replace HB := bs_ w hb; clear hb) | ((with_reducible refine gate_dst (N := 6) rfl ?_); (try refine ug_ (by rfl) ?_); refine bx_ #[.int .i64 0, .int .i64 0, .int .i64 0] 43 ?_; intro gb546 hg w39 BK546 hb; have GW546 := bz_ w hg; have NB537_546 := bn_ BK537 hg; have NB546_537 := bm_ BK537 hg; replace BK537 := bb_ BK537 hb; replace HB := bs_ w hb; clear hb hg; replace hn546_537 := NB546_537.out; replace hn537_546 := NB537_546.out; replace hc546 := ce3_ BK546; replace hc537 := ce2_ BK537) | ((with_reducible refine gate_callee (f := 17) rfl ?_); (try refine ug_ (by rfl) ?_); refine goesA_ (some 42) Try.func17 #[.agg #[.int .i64 a0_0, .int .i64 a0_1], .slice A1 l1.length c1] ?_; (with_reducible refine (window_Slide.calls kj3 a0_0 a0_1 _ _ l1 t547 t550 _ ?side1 ?side2 A21.out).mono ?_); (case side1 => exact Kd.C_below HR1.out bh_); (case side2 => exact HC1.out); rintro e w43 ⟨v548, rfl, ho0, hb⟩; refine ⟨_, rfl, ?_⟩; have HO549 := Aside0.mk (Kd.R_lower ho0 (below_size bh_)); replace BK537 := bf_ BK537 hb; replace BK546 := Aside0.mk (blk_below (g := gb546) (o := .cells #[.int .i64 t542, .int .i64 t543, .int .i64 t544] 43 (0, 0)) (bp3_ (bq_ BK546)) hb); replace HB := bs_ w hb; (try clear hb); (try clear hb2); (try clear hk); (try clear hi); (try clear ho0); replace hc546 := ce3_ BK546; replace hc537 := ce2_ BK537; obtain ⟨Ao46, co46, eo46⟩ := Kd.R_slice HO549.out; subst eo46) | ((with_reducible refine gate_callee (f := 28) rfl ?_); (try refine ug_ (by rfl) ?_); refine goesA_ (some 75) Try.func28 #[.agg #[.int .i64 t542, .int .i64 t543, .int .i64 t544], .slice Ao46 t547.length co46] ?_; (with_reducible refine (spigotlaw38_passes.calls kj3 t542 t543 t544 _ _ t547 t551 true _ ?side1 ?side2 A27.out).mono ?_); (case side1 => exact cr_ HO549); (case side2 => exact (Kd.R_reads' HO549.out).2.1); rintro e w47 ⟨v552, rfl, ho0, hb⟩; refine ⟨_, rfl, ?_⟩; have HO553 := Aside0.mk (Kd.R_lower (Kd.R_new' ho0 (Kd.R_lt (rs_ HO549))) (below_size bh_)); replace HO549 := Aside0.mk (Kd.R_elder' (rs_ HO549) (Kd.R_base ho0) hb); replace BK537 := bb_ BK537 hb; replace BK546 := bb_ BK546 hb; replace HB := bs_ w hb; (try clear hb); (try clear hb2); (try clear hk); (try clear hi); (try clear ho0); replace hc546 := ce3_ BK546) | ((with_reducible refine gate_callee (f := 28) rfl ?_); (try refine ug_ (by rfl) ?_); refine goesA_ (some 81) Try.func28 #[.agg #[.int .i64 t542, .int .i64 t543, .int .i64 t544], .slice A1 l1.length c1] ?_; (with_reducible refine (spigotlaw38_passes.calls kj3 t542 t543 t544 _ _ l1 t555 true _ ?side1 ?side2 A28.out).mono ?_); (case side1 => exact cs_ HR1 HB); (case side2 => exact HC1.out); rintro e w49 ⟨v556, rfl, ho0, hb⟩; refine ⟨_, rfl, ?_⟩; have HO557 := Aside0.mk (Kd.R_lower (Kd.R_new' (Kd.R_new' ho0 (Kd.R_lt (rs_ HO549))) (Kd.R_lt (rs_ HO553))) (below_size bh_)); replace HO549 := Aside0.mk (Kd.R_elder' (rs_ HO549) (Kd.R_base ho0) hb); replace HO553 := Aside0.mk (Kd.R_elder' (rs_ HO553) (Kd.R_base ho0) hb); replace BK537 := bb_ BK537 hb; replace BK546 := bb_ BK546 hb; replace HB := bs_ w hb; (try clear hb); (try clear hb2); (try clear hk); (try clear hi); (try clear ho0); replace hc537 := ce2_ BK537; obtain ⟨Ao51, co51, eo51⟩ := Kd.R_slice HO557.out; subst eo51) | ((with_reducible refine gate_callee (f := 12) rfl ?_); (try refine ug_ (by rfl) ?_); refine goesA_ (some 87) Try.func12 #[.agg #[.int .i64 a0_0, .int .i64 a0_1], .slice Ao51 t555.length co51] ?_; (with_reducible refine (window_Most.calls kj3 a0_0 a0_1 _ _ t555 t559 t560 _ ?side1 ?side2 A29.out).mono ?_); (case side1 => exact cr_ HO557); (case side2 => exact (Kd.R_reads' HO557.out).2.1); rintro e w52 ⟨rfl, hb⟩; refine ⟨_, rfl, ?_⟩; replace HO549 := rb_ HO549 hb; replace HO553 := rb_ HO553 hb; replace HO557 := rb_ HO557 hb; replace BK537 := bb_ BK537 hb; replace BK546 := bb_ BK546 hb; replace HB := bs_ w hb; clear hb))
        replace HO549 := Aside0.mk (Kd.R_drew HO549.out)
        replace HO553 := Aside0.mk (Kd.R_drew HO553.out)
        replace HO557 := Aside0.mk (Kd.R_drew HO557.out)
        replace BK537 := Aside0.mk (blk_drew BK537.out)
        replace BK546 := Aside0.mk (blk_drew BK546.out)
        replace HB := Aside0.mk (below_drew1 HB.out)
        obtain ⟨Ao54, co54, eo54⟩ := Kd.R_slice HO553.out
        (first | subst eo54 | (injection eo54 with f1_ f2_ f3_; have f4_ := f1_.symm; have f5_ := f3_.symm; clear f1_ f2_ f3_; subst f4_; subst f5_))
        refine start_ (n := 34) (S := fun w' => w'.cell? ⟨gb537, 0, none⟩ = some (.int .i64 a0_0) ∧ w'.cell? ⟨gb537, 1, none⟩ = some (.int .i64 a0_1)) (ds := []) (bl_ 34 0) (by kernel_rfl) rfl (by kernel_rfl) (cc2_ BK537) (fun hHeld => ?_); refine with_tabW spigotlaw38_WindowBucket.tab11 spigotlaw38_WindowBucket.bits11 (fun HT_ HW_ => ?_)
        generalize w52.drew = w53 at HO549 HO553 HO557 BK537 BK546 HB hHeld ⊢
        refine pa_ 0 (some 90) (bl_ 34 1) HT_ ?_
        refine pa_ 1 (some 91) (bl_ 34 3) HT_ ?_
        refine pa_ 2 (some 92) (bl_ 34 7) HT_ ?_
        refine pa_ 3 (some 93) (bl_ 34 15) HT_ ?_
        refine pa_ 4 (some 94) (bl_ 34 31) HT_ ?_
        refine pa_ 5 (some 95) (bl_ 34 63) HT_ ?_
        refine pa_ 6 (some 96) (bl_ 34 127) HT_ ?_
        refine oa_ 7 (some 97) (bl_ 34 255) HT_ fun K hK => ?_
        refine goesB_ Try.func25 #[.slice Ao54 t551.length co54, .slice Ao46 t547.length co46] ?_
        with_reducible refine (spigotref38_Same.calls kj3 _ _ t551 _ _ t547 true _ ?side1 ?side2 ?side3 ?side4 A32.out).mono ?_
        (case side1 => exact cr_ HO553)
        (case side2 => exact (Kd.R_reads' HO553.out).2.1)
        (case side3 => exact cr_ HO549)
        (case side4 => exact (Kd.R_reads' HO549.out).2.1)
        rintro e w' ⟨rfl, ⟨nd, rfl⟩⟩
        refine ⟨_, rfl, ?_⟩
        refine hK.out _ _ (cc2_ BK537) (fun hHeld => ?_)
        clear hK K
        refine nm_ (some 97) ?_
        refine pa_ 8 (some 98) (bl_ 34 511) HT_ ?_
        refine pa_ 9 (some 99) (bl_ 34 1023) HT_ ?_
        refine pa_ 10 (some 100) (bl_ 34 2047) HT_ ?_
        refine pa_ 11 (some 101) (bl_ 34 4095) HT_ ?_
        refine pa_ 12 (some 102) (bl_ 34 8191) HT_ ?_
        refine pa_ 13 (some 103) (bl_ 34 16383) HT_ ?_
        refine pa_ 14 (some 104) (bl_ 34 32767) HT_ ?_
        refine pa_ 15 (some 105) (bl_ 34 65535) HT_ ?_
        refine pa_ 16 (some 106) (bl_ 34 131071) HT_ ?_
        refine pa_ 17 (some 107) (bl_ 34 262143) HT_ ?_
        refine pa_ 18 (some 108) (bl_ 34 524287) HT_ ?_
        refine pa_ 21 (some 111) (bl_ 34 2621439) HT_ ?_
        refine pa_ 23 (some 113) (bl_ 34 11010047) HT_ ?_
        refine pa_ 27 (some 117) (bl_ 34 145227775) HT_ ?_
        refine ta_ 19 (some 109) (bl_ 34 145752063) HT_ HW_ hHeld ?_
        refine pa_ 20 (some 110) (bl_ 34 146800639) HT_ ?_
        refine ta_ 22 (some 112) (bl_ 34 150994943) HT_ HW_ hHeld ?_
        refine ta_ 24 (some 114) (bl_ 34 167772159) HT_ HW_ hHeld ?_
        refine pa_ 25 (some 115) (bl_ 34 201326591) HT_ ?_
        refine pa_ 26 (some 116) (bl_ 34 268435455) HT_ ?_
        refine ta_ 28 (some 118) (bl_ 34 536870911) HT_ HW_ hHeld ?_
        refine pa_ 29 (some 119) (bl_ 34 1073741823) HT_ ?_
        refine pa_ 30 (some 120) (bl_ 34 2147483647) HT_ ?_
        refine pa_ 31 (some 121) (bl_ 34 4294967295) HT_ ?_
        refine pa_ 32 (some 122) (bl_ 34 8589934591) HT_ ?_
        refine pa_ 33 (some 4) (bl_ 34 17179869183) HT_ ?_
        refine done_ (done_of HT_.out (by kernel_rfl)) ?_
        try go_wp2
        go_ret
        exact fi_
       ·replace c34 := Bool.eq_false_iff.mpr c34
        subst c34
        replace H : (none) = some r := by rw [if_neg (show ¬ (false = true) by decide)] at H; exact H
        exact absurd H (by simp)
      ·replace c33 := Bool.eq_false_iff.mpr c33
       subst c33
       replace H : (none) = some r := by rw [if_neg (show ¬ (false = true) by decide)] at H; exact H
       exact absurd H (by simp)
     ·replace c31 := Bool.eq_false_iff.mpr c31
      subst c31
      replace H : (none) = some r := by rw [if_neg (show ¬ (false = true) by decide)] at H; exact H
      exact absurd H (by simp)
    ·replace c30 := Bool.eq_false_iff.mpr c30
     subst c30
     replace H : (none) = some r := by rw [if_neg (show ¬ (false = true) by decide)] at H; exact H
     exact absurd H (by simp)

end Go.Proofs.Ytjjmnafhaneflaa.X
