-- written by xprint.py, a program of this session over the kit's print
import Derived.Test.YtnijohomnajngaaX0
import Derived.Test.YtnijohomnajngaaX28
import Derived.Test.YtnijohomnajngaaX33
import Derived.Test.YtnijohomnajngaaX37
import Derived.Test.YtnijohomnajngaaX39
import Derived.Test.YtnijohomnajngaaX45
namespace Go.Proofs.Ytnijohomnajngaa.X
open Go.RowKit Go.Proofs.YtnijohomnajngaaW.PrintWords Go.Proofs.YtnijohomnajngaaW.PrintLast Go.Proofs.YtnijohomnajngaaW.PrintMore
attribute [local go_sem] max2_int min2_int max_two min_two max_three min_three max_four min_four   -- for this text's walks alone
set_option linter.unusedVariables false
set_option linter.unusedSimpArgs false

/-! ### spigotlaw37_GcraLevel: function 5 -/
def spigotlaw37_GcraLevel.j0 : Nat → Int → Int → Bool → Bool → Int → Int → Int → Int → Int → Int → Option (Bool)
  | 0, _, _, _, _, _, _, _, _, _, _ => none
  | k + 1, x1, x2, x7, x38, x594000, x594001, x594002, x594003, x594004, x594005 => if x38 = true then (some x7) else ((gcra_Level.f k x594000 x594001 x594002 x594003 x594004 x594005 x1).bind fun bt596 => ((gcra_Ask.f k x594000 x594001 x594002 x594003 x594004 x594005 x1 0).bind fun bt598 => ((gcra_Ask.f k x594000 x594001 x594002 x594003 x594004 x594005 x1 x2).bind fun bt607 => (if bt596.2 = 0 then (if bt596.1 < 0 then (none) else (if bt596.1 > x594000 then (none) else (if bt598.2.2.2.2.2.2.2 = 0 then (if bt598.2.2.2.2.2.2.1 = true then (if bt607.2.2.2.2.2.2.2 = 0 then (if (bt607.2.2.2.2.2.2.1 != (decide (x2 ≤ bt596.1))) = true then (none) else ((gcra_Wait.f k x594000 x594001 x594002 x594003 x594004 x594005 x2).bind fun bt616 => (if bt616.2 = 0 then (if bt616.1 = 18446744073709551615 then ((gcra_Ask.f k x594000 x594001 x594002 x594003 x594004 x594005 18446744073709551615 x2).bind fun bt618 => (if x7 = true then (if bt618.2.2.2.2.2.2.2 = 0 then (some (!bt618.2.2.2.2.2.2.1)) else (none)) else (none))) else (if bt616.1 > (IntKind.u64.wrap (18446744073709551615 - x594005)) then (none) else ((gcra_Ask.f k x594000 x594001 x594002 x594003 x594004 x594005 (IntKind.u64.wrap (x594005 + bt616.1)) x2).bind fun bt627 => (if bt627.2.2.2.2.2.2.2 = 0 then (if bt627.2.2.2.2.2.2.1 = true then (if bt616.1 = 0 then (some x7) else ((gcra_Ask.f k x594000 x594001 x594002 x594003 x594004 x594005 (IntKind.u64.wrap ((IntKind.u64.wrap (x594005 + bt616.1)) - 1)) x2).bind fun bt636 => (if x7 = true then (if bt636.2.2.2.2.2.2.2 = 0 then (some (!bt636.2.2.2.2.2.2.1)) else (none)) else (none)))) else (none)) else (none))))) else (none)))) else (none)) else (none)) else (none)))) else (none)))))
def spigotlaw37_GcraLevel.f (k : Nat) (a0_0 : Int) (a0_1 : Int) (a0_2 : Int) (a0_3 : Int) (a0_4 : Int) (a0_5 : Int) (a1 : Int) (a2 : Int) : Option (Bool) := (spigotlaw37_alive.f k).bind fun t594 => ((spigotref37_Check.f k a0_0 a0_1 a0_2 a0_3 a0_4 a0_5).bind fun t595 => (if t595 = 0 then (if a2 < 0 then (spigotlaw37_GcraLevel.j0 k a1 a2 t594 true a0_0 a0_1 a0_2 a0_3 a0_4 a0_5) else (spigotlaw37_GcraLevel.j0 k a1 a2 t594 (!t594) a0_0 a0_1 a0_2 a0_3 a0_4 a0_5)) else (spigotlaw37_GcraLevel.j0 k a1 a2 t594 true a0_0 a0_1 a0_2 a0_3 a0_4 a0_5)))
theorem spigotlaw37_GcraLevel.mono_l : ∀ k, (∀ y0 y1 y2 y3 y4 y5 y6 y7 y8 y9, LeO (spigotlaw37_GcraLevel.j0 k y0 y1 y2 y3 y4 y5 y6 y7 y8 y9) (spigotlaw37_GcraLevel.j0 (k + 1) y0 y1 y2 y3 y4 y5 y6 y7 y8 y9))
  | 0 => fun _ _ _ _ _ _ _ _ _ _ r h => by simp [spigotlaw37_GcraLevel.j0] at h
  | k + 1 => by
    have ih0 := spigotlaw37_GcraLevel.mono_l k
    · intro y0 y1 y2 y3 y4 y5 y6 y7 y8 y9
      unfold spigotlaw37_GcraLevel.j0
      repeat' first
      | (with_reducible exact ih0 _ _ _ _ _ _ _ _ _ _)
      | (with_reducible exact gcra_Ask.mono _ _ _ _ _ _ _ _ _)
      | (with_reducible exact gcra_Level.mono _ _ _ _ _ _ _ _)
      | (with_reducible exact gcra_Wait.mono _ _ _ _ _ _ _ _)
      | (with_reducible exact spigotlaw37_alive.mono _)
      | (with_reducible exact spigotref37_Check.mono _ _ _ _ _ _ _)
      | (with_reducible exact LeO.refl _)
      | (with_reducible exact LeO.none _)
      | (with_reducible refine LeO.ite ?_ ?_)
      | (with_reducible refine LeO.bind ?_ (fun _ => ?_))
      | exact ih0 _ _ _ _ _ _ _ _ _ _
      | exact gcra_Ask.mono _ _ _ _ _ _ _ _ _
      | exact gcra_Level.mono _ _ _ _ _ _ _ _
      | exact gcra_Wait.mono _ _ _ _ _ _ _ _
      | exact spigotlaw37_alive.mono _
      | exact spigotref37_Check.mono _ _ _ _ _ _ _
      | exact LeO.none _
      | refine LeO.ite ?_ ?_
      | refine LeO.bind ?_ (fun _ => ?_)
theorem spigotlaw37_GcraLevel.mono : ∀ a0 a1 a2 a3 a4 a5 a6 a7 k, LeO (spigotlaw37_GcraLevel.f k a0 a1 a2 a3 a4 a5 a6 a7) (spigotlaw37_GcraLevel.f (k + 1) a0 a1 a2 a3 a4 a5 a6 a7) := by
  intro a0 a1 a2 a3 a4 a5 a6 a7 k
  have ih0 := spigotlaw37_GcraLevel.mono_l k
  unfold spigotlaw37_GcraLevel.f
  repeat' first
      | (with_reducible exact ih0 _ _ _ _ _ _ _ _ _ _)
      | (with_reducible exact gcra_Ask.mono _ _ _ _ _ _ _ _ _)
      | (with_reducible exact gcra_Level.mono _ _ _ _ _ _ _ _)
      | (with_reducible exact gcra_Wait.mono _ _ _ _ _ _ _ _)
      | (with_reducible exact spigotlaw37_alive.mono _)
      | (with_reducible exact spigotref37_Check.mono _ _ _ _ _ _ _)
      | (with_reducible exact LeO.refl _)
      | (with_reducible exact LeO.none _)
      | (with_reducible refine LeO.ite ?_ ?_)
      | (with_reducible refine LeO.bind ?_ (fun _ => ?_))
      | exact ih0 _ _ _ _ _ _ _ _ _ _
      | exact gcra_Ask.mono _ _ _ _ _ _ _ _ _
      | exact gcra_Level.mono _ _ _ _ _ _ _ _
      | exact gcra_Wait.mono _ _ _ _ _ _ _ _
      | exact spigotlaw37_alive.mono _
      | exact spigotref37_Check.mono _ _ _ _ _ _ _
      | exact LeO.none _
      | refine LeO.ite ?_ ?_
      | refine LeO.bind ?_ (fun _ => ?_)
set_option maxHeartbeats 8000000 in
set_option maxRecDepth 100000 in
theorem spigotlaw37_GcraLevel.calls (k : Nat) (a0_0 : Int) (a0_1 : Int) (a0_2 : Int) (a0_3 : Int) (a0_4 : Int) (a0_5 : Int) (a1 : Int) (a2 : Int) (r : Bool) (w : World) (h : spigotlaw37_GcraLevel.f k a0_0 a0_1 a0_2 a0_3 a0_4 a0_5 a1 a2 = some r) :
  Calls Try.prog 5 #[.agg #[.int .i64 a0_0, .int .i64 a0_1, .int .i64 a0_2, .int .u64 a0_3, .int .u64 a0_4, .int .u64 a0_5], .int .u64 a1, .int .i64 a2] w fun e w' => e = .returned (.bool r) ∧ Below w.heap.size w w' := by
 have hu28 := Try.underlying28
 have HB := Aside0.mk (Below.refl w.heap.size w)
 have H : ((spigotlaw37_alive.f k).bind fun t594 => ((spigotref37_Check.f k a0_0 a0_1 a0_2 a0_3 a0_4 a0_5).bind fun t595 => (if t595 = 0 then (if a2 < 0 then (spigotlaw37_GcraLevel.j0 k a1 a2 t594 true a0_0 a0_1 a0_2 a0_3 a0_4 a0_5) else (spigotlaw37_GcraLevel.j0 k a1 a2 t594 (!t594) a0_0 a0_1 a0_2 a0_3 a0_4 a0_5)) else (spigotlaw37_GcraLevel.j0 k a1 a2 t594 true a0_0 a0_1 a0_2 a0_3 a0_4 a0_5)))) = some r := h
 clear h
 obtain ⟨t594, A4, H⟩ := bo_ H
 try dsimp only at H
 have HC5 := Aside0.mk H
 clear H
 go_enter Try.func5, Try.ntmps5
 go_upto_region 2 with (first | ((with_reducible refine gate_dst (N := 3) rfl ?_); refine bx_ #[.int .i64 a0_0, .int .i64 a0_1, .int .i64 a0_2, .int .u64 a0_3, .int .u64 a0_4, .int .u64 a0_5] 28 ?_; intro gb593 hg w6 BK593 hb; have GW593 := bz_ w hg; replace HB := bs_ w hb; clear hb hg) | ((with_reducible refine gate_callee (f := 23) rfl ?_); refine goesA_ (some 27) Try.func23 #[] ?_; (with_reducible refine (spigotlaw37_alive.calls k  t594 _ A4.out).mono ?_); rintro e w7 ⟨rfl, hb⟩; refine ⟨_, rfl, ?_⟩; replace BK593 := bb_ BK593 hb; replace HB := bs_ w hb; clear hb))
 (try simp only [Act.put, List.setIfInBounds_toArray, List.set_cons_zero, List.set_cons_succ])
 go_cut [38] (fun v38 wc => ∃ (kq : Nat) (x38_4 : Bool), v38 = .bool x38_4 ∧ Aside0 (spigotlaw37_GcraLevel.j0 kq a1 a2 t594 x38_4 a0_0 a0_1 a0_2 a0_3 a0_4 a0_5 = some r) ∧ Aside0 (kq ≤ k) ∧ Aside0 (wc.heap[gb593]? = some (.cells #[.int .i64 a0_0, .int .i64 a0_1, .int .i64 a0_2, .int .u64 a0_3, .int .u64 a0_4, .int .u64 a0_5] 28 (0, 0))) ∧ Aside0 (Below w.heap.size w wc))
 case first =>
  have H := HC5.out
  clear HC5
  obtain ⟨t595, A8, H⟩ := bo_ H
  try dsimp only at H
  by_cases c9 : t595 = 0
  ·rw [if_pos c9] at H
   have c9b0 : (t595 == 0) = true := beq_iff_eq.mpr c9
   have c9b1 : (t595 != 0) = false := bne_eq_false_iff_eq.mpr c9
   clear c9
   (first | rw [c9b0] | (simp only [i64_w, i32_w]; rw [c9b0]) | skip)
   by_cases c10 : a2 < 0
   ·rw [if_pos c10] at H
    have c10b0 : decide (a2 < 0) = true := decide_eq_true c10
    clear c10
    have H' := Aside0.mk H
    clear H
    obtain ⟨_, _, _, _, _, _, _, _, _, _, _, _⟩ := ce6_ BK593
    go_wp2_with (first | ((with_reducible refine gate_callee (f := 16) rfl ?_); refine goesA_ (some 29) Try.func16 #[.agg #[.int .i64 a0_0, .int .i64 a0_1, .int .i64 a0_2, .int .u64 a0_3, .int .u64 a0_4, .int .u64 a0_5]] ?_; (with_reducible refine (spigotref37_Check.calls k a0_0 a0_1 a0_2 a0_3 a0_4 a0_5 t595 _ A8.out).mono ?_); rintro e w12 ⟨rfl, hb⟩; refine ⟨_, rfl, ?_⟩; replace BK593 := bb_ BK593 hb; replace HB := bs_ w hb; clear hb))
    go_meet
    case rel => exact ⟨_, (true), rf_, H', al_, ⟨bq_ BK593⟩, bw_⟩
   ·rw [if_neg c10] at H
    have c10b0 : decide (a2 < 0) = false := decide_eq_false c10
    clear c10
    have H' := Aside0.mk H
    clear H
    obtain ⟨_, _, _, _, _, _, _, _, _, _, _, _⟩ := ce6_ BK593
    go_wp2_with (first | ((with_reducible refine gate_callee (f := 16) rfl ?_); refine goesA_ (some 29) Try.func16 #[.agg #[.int .i64 a0_0, .int .i64 a0_1, .int .i64 a0_2, .int .u64 a0_3, .int .u64 a0_4, .int .u64 a0_5]] ?_; (with_reducible refine (spigotref37_Check.calls k a0_0 a0_1 a0_2 a0_3 a0_4 a0_5 t595 _ A8.out).mono ?_); rintro e w14 ⟨rfl, hb⟩; refine ⟨_, rfl, ?_⟩; replace BK593 := bb_ BK593 hb; replace HB := bs_ w hb; clear hb))
    go_meet
    case rel => exact ⟨_, (!t594), rf_, H', al_, ⟨bq_ BK593⟩, bw_⟩
  ·rw [if_neg c9] at H
   have c9b0 : (t595 == 0) = false := beq_eq_false_iff_ne.mpr c9
   have c9b1 : (t595 != 0) = true := bne_iff_ne.mpr c9
   (first | rw [c9b0] | (simp only [i64_w, i32_w]; rw [c9b0]) | skip)
   have H' := Aside0.mk H
   clear H
   obtain ⟨_, _, _, _, _, _, _, _, _, _, _, _⟩ := ce6_ BK593
   go_wp2_with (first | ((with_reducible refine gate_callee (f := 16) rfl ?_); refine goesA_ (some 29) Try.func16 #[.agg #[.int .i64 a0_0, .int .i64 a0_1, .int .i64 a0_2, .int .u64 a0_3, .int .u64 a0_4, .int .u64 a0_5]] ?_; (with_reducible refine (spigotref37_Check.calls k a0_0 a0_1 a0_2 a0_3 a0_4 a0_5 t595 _ A8.out).mono ?_); rintro e w16 ⟨rfl, hb⟩; refine ⟨_, rfl, ?_⟩; replace BK593 := bb_ BK593 hb; replace HB := bs_ w hb; clear hb))
   go_meet
   case rel => exact ⟨_, (true), rf_, H', al_, ⟨bq_ BK593⟩, bw_⟩
 case rest =>
  clear HC5
  obtain ⟨kq, x38_4, rfl, HA, HJ4, BK593, HB⟩ := hcut
  cases kq with
  | zero => exact absurd HA.out (by simp [spigotlaw37_GcraLevel.j0])
  | succ kj4 =>
   have H := HA.out
   clear HA
   simp only [spigotlaw37_GcraLevel.j0] at H
   by_cases c17 : x38_4 = true
   ·subst c17
    replace H : (some t594) = some r := by rw [if_pos rfl] at H; exact H
    obtain rfl := Option.some.inj H
    go_wp2
    go_ret
    exact fi_
   ·replace c17 := Bool.eq_false_iff.mpr c17
    subst c17
    rw [if_neg (show ¬ (false = true) by decide)] at H
    try dsimp only at H
    obtain ⟨⟨t596, t597⟩, A18, H⟩ := bo_ H
    try dsimp only at H
    obtain ⟨⟨t598, t599, t600, t601, t602, t603, t604, t605⟩, A19, H⟩ := bo_ H
    try dsimp only at H
    obtain ⟨⟨t607, t608, t609, t610, t611, t612, t613, t614⟩, A20, H⟩ := bo_ H
    try dsimp only at H
    by_cases c21 : t597 = 0
    rotate_left
    ·rw [if_neg c21] at H; exact absurd H (by simp)
    rw [if_pos c21] at H
    have c21b0 : (t597 == 0) = true := beq_iff_eq.mpr c21
    have c21b1 : (t597 != 0) = false := bne_eq_false_iff_eq.mpr c21
    clear c21
    by_cases c22 : t596 < 0
    ·rw [if_pos c22] at H; exact absurd H (by simp)
    rw [if_neg c22] at H
    have c22b0 : decide (t596 < 0) = false := decide_eq_false c22
    clear c22
    by_cases c23 : t596 > a0_0
    ·rw [if_pos c23] at H; exact absurd H (by simp)
    rw [if_neg c23] at H
    have c23b0 : decide (a0_0 < t596) = false := decide_eq_false c23
    clear c23
    by_cases c24 : t605 = 0
    rotate_left
    ·rw [if_neg c24] at H; exact absurd H (by simp)
    rw [if_pos c24] at H
    have c24b0 : (t605 == 0) = true := beq_iff_eq.mpr c24
    have c24b1 : (t605 != 0) = false := bne_eq_false_iff_eq.mpr c24
    clear c24
    by_cases c25 : t604 = true
    ·subst c25
     rw [if_pos rfl] at H
     try dsimp only at H
     by_cases c26 : t614 = 0
     rotate_left
     ·rw [if_neg c26] at H; exact absurd H (by simp)
     rw [if_pos c26] at H
     have c26b0 : (t614 == 0) = true := beq_iff_eq.mpr c26
     have c26b1 : (t614 != 0) = false := bne_eq_false_iff_eq.mpr c26
     clear c26
     by_cases c27 : (t613 != (decide (a2 ≤ t596))) = true
     ·rw [if_pos c27] at H; exact absurd H (by simp)
     rw [if_neg c27] at H
     have c27b0 : (t613 != (decide (a2 ≤ t596))) = false := by simpa using c27
     (try (have c27b1 : decide (t613 = (decide (a2 ≤ t596))) = true := by simpa using c27))
     (try (have c27b2 : (t613 == (decide (a2 ≤ t596))) = true := by simpa using c27))
     clear c27
     obtain ⟨⟨t616, t617⟩, A28, H⟩ := bo_ H
     try dsimp only at H
     by_cases c29 : t617 = 0
     rotate_left
     ·rw [if_neg c29] at H; exact absurd H (by simp)
     rw [if_pos c29] at H
     have c29b0 : (t617 == 0) = true := beq_iff_eq.mpr c29
     have c29b1 : (t617 != 0) = false := bne_eq_false_iff_eq.mpr c29
     clear c29
     by_cases c30 : t616 = 18446744073709551615
     ·rw [if_pos c30] at H
      have c30b0 : (t616 == 18446744073709551615) = true := beq_iff_eq.mpr c30
      have c30b1 : (t616 != 18446744073709551615) = false := bne_eq_false_iff_eq.mpr c30
      clear c30
      obtain ⟨⟨t618, t619, t620, t621, t622, t623, t624, t625⟩, A31, H⟩ := bo_ H
      replace H : (if t594 = true then (if t625 = 0 then (some (!t624)) else (none)) else (none)) = some r := H
      by_cases c32 : t594 = true
      ·subst c32
       replace H : (if t625 = 0 then (some (!t624)) else (none)) = some r := by rw [if_pos rfl] at H; exact H
       by_cases c33 : t625 = 0
       rotate_left
       ·rw [if_neg c33] at H; exact absurd H (by simp)
       rw [if_pos c33] at H
       have c33b0 : (t625 == 0) = true := beq_iff_eq.mpr c33
       have c33b1 : (t625 != 0) = false := bne_eq_false_iff_eq.mpr c33
       clear c33
       obtain rfl := Option.some.inj H
       obtain ⟨_, _, _, _, _, _, _, _, _, _, _, _⟩ := ce6_ BK593
       go_wp2_with (first | ((with_reducible refine gate_callee (f := 19) rfl ?_); refine goesA_ (some 43) Try.func19 #[.agg #[.int .i64 a0_0, .int .i64 a0_1, .int .i64 a0_2, .int .u64 a0_3, .int .u64 a0_4, .int .u64 a0_5], .int .u64 a1] ?_; (with_reducible refine (gcra_Level.calls kj4 a0_0 a0_1 a0_2 a0_3 a0_4 a0_5 a1 t596 t597 _ A18.out).mono ?_); rintro e w35 ⟨rfl, hb⟩; refine ⟨_, rfl, ?_⟩; replace BK593 := bb_ BK593 hb; replace HB := bs_ w hb; clear hb; obtain ⟨_, _, _, _, _, _, _, _, _, _, _, _⟩ := ce6_ BK593) | ((with_reducible refine gate_callee (f := 17) rfl ?_); refine goesA_ (some 49) Try.func17 #[.agg #[.int .i64 a0_0, .int .i64 a0_1, .int .i64 a0_2, .int .u64 a0_3, .int .u64 a0_4, .int .u64 a0_5], .int .u64 a1, .int .i64 0] ?_; (with_reducible refine (gcra_Ask.calls kj4 a0_0 a0_1 a0_2 a0_3 a0_4 a0_5 a1 0 t598 t599 t600 t601 t602 t603 true t605 _ A19.out).mono ?_); rintro e w37 ⟨rfl, hb⟩; refine ⟨_, rfl, ?_⟩; replace BK593 := bb_ BK593 hb; replace HB := bs_ w hb; clear hb) | ((with_reducible refine gate_dst (N := 10) rfl ?_); refine bx_ #[.int .i64 0, .int .i64 0, .int .i64 0, .int .u64 0, .int .u64 0, .int .u64 0] 28 ?_; intro gb606 hg w38 BK606 hb; have GW606 := bz_ w hg; have GE606 := GW606; have NB593_606 := bn_ BK593 hg; have NB606_593 := bm_ BK593 hg; replace BK593 := bb_ BK593 hb; replace HB := bs_ w hb; clear hb hg; have hnb39 := NB606_593.out; have hnc39 := NB593_606.out; obtain ⟨_, _, _, _, _, _, _, _, _, _, _, _⟩ := ce6_ BK606; obtain ⟨_, _, _, _, _, _, _, _, _, _, _, _⟩ := ce6_ BK593) | ((with_reducible refine gate_callee (f := 17) rfl ?_); refine goesA_ (some 57) Try.func17 #[.agg #[.int .i64 a0_0, .int .i64 a0_1, .int .i64 a0_2, .int .u64 a0_3, .int .u64 a0_4, .int .u64 a0_5], .int .u64 a1, .int .i64 a2] ?_; (with_reducible refine (gcra_Ask.calls kj4 a0_0 a0_1 a0_2 a0_3 a0_4 a0_5 a1 a2 t607 t608 t609 t610 t611 t612 t613 t614 _ A20.out).mono ?_); rintro e w42 ⟨rfl, hb⟩; refine ⟨_, rfl, ?_⟩; replace BK593 := bf_ BK593 hb; replace BK606 := Aside0.mk (blk_below (g := gb606) (o := .cells #[.int .i64 t598, .int .i64 t599, .int .i64 t600, .int .u64 t601, .int .u64 t602, .int .u64 t603] 28 (0, 0)) (bp6_ (bq_ BK606)) hb); replace HB := bs_ w hb; clear hb) | ((with_reducible refine gate_dst (N := 13) rfl ?_); refine bx_ #[.int .i64 0, .int .i64 0, .int .i64 0, .int .u64 0, .int .u64 0, .int .u64 0] 28 ?_; intro gb615 hg w43 BK615 hb; have GW615 := bz_ w hg; have GE615 := GW615; have NB593_615 := bn_ BK593 hg; have NB615_593 := bm_ BK593 hg; have NB606_615 := bn_ BK606 hg; have NB615_606 := bm_ BK606 hg; replace BK593 := bb_ BK593 hb; replace BK606 := bb_ BK606 hb; replace HB := bs_ w hb; clear hb hg; have hnb44 := NB615_593.out; have hnc44 := NB593_615.out; have hnb45 := NB615_606.out; have hnc45 := NB606_615.out; obtain ⟨_, _, _, _, _, _, _, _, _, _, _, _⟩ := ce6_ BK615; obtain ⟨_, _, _, _, _, _, _, _, _, _, _, _⟩ := ce6_ BK593) | ((with_reducible refine gate_callee (f := 21) rfl ?_); refine goesA_ (some 96) Try.func21 #[.agg #[.int .i64 a0_0, .int .i64 a0_1, .int .i64 a0_2, .int .u64 a0_3, .int .u64 a0_4, .int .u64 a0_5], .int .i64 a2] ?_; (with_reducible refine (gcra_Wait.calls kj4 a0_0 a0_1 a0_2 a0_3 a0_4 a0_5 a2 t616 t617 _ A28.out).mono ?_); rintro e w48 ⟨rfl, hb⟩; refine ⟨_, rfl, ?_⟩; replace BK593 := bf_ BK593 hb; replace BK606 := bf_ BK606 hb; replace BK615 := Aside0.mk (blk_below (g := gb615) (o := .cells #[.int .i64 t607, .int .i64 t608, .int .i64 t609, .int .u64 t610, .int .u64 t611, .int .u64 t612] 28 (0, 0)) (bp6_ (bq_ BK615)) hb); replace HB := bs_ w hb; clear hb; obtain ⟨_, _, _, _, _, _, _, _, _, _, _, _⟩ := ce6_ BK593) | ((with_reducible refine gate_callee (f := 17) rfl ?_); refine goesA_ (some 106) Try.func17 #[.agg #[.int .i64 a0_0, .int .i64 a0_1, .int .i64 a0_2, .int .u64 a0_3, .int .u64 a0_4, .int .u64 a0_5], .int .u64 18446744073709551615, .int .i64 a2] ?_; (with_reducible refine (gcra_Ask.calls kj4 a0_0 a0_1 a0_2 a0_3 a0_4 a0_5 18446744073709551615 a2 t618 t619 t620 t621 t622 t623 t624 t625 _ A31.out).mono ?_); rintro e w50 ⟨rfl, hb⟩; refine ⟨_, rfl, ?_⟩; replace BK593 := bb_ BK593 hb; replace BK606 := bb_ BK606 hb; replace BK615 := bb_ BK615 hb; replace HB := bs_ w hb; clear hb) | ((with_reducible refine gate_dst (N := 18) rfl ?_); refine bx_ #[.int .i64 0, .int .i64 0, .int .i64 0, .int .u64 0, .int .u64 0, .int .u64 0] 28 ?_; intro gb626 hg w51 BK626 hb; have GW626 := bz_ w hg; have NB593_626 := bn_ BK593 hg; have NB626_593 := bm_ BK593 hg; have NB606_626 := bn_ BK606 hg; have NB626_606 := bm_ BK606 hg; have NB615_626 := bn_ BK615 hg; have NB626_615 := bm_ BK615 hg; replace BK593 := bb_ BK593 hb; replace BK606 := bb_ BK606 hb; replace BK615 := bb_ BK615 hb; replace HB := bs_ w hb; clear hb hg; have hnb52 := NB626_593.out; have hnc52 := NB593_626.out; have hnb53 := NB626_606.out; have hnc53 := NB606_626.out; have hnb54 := NB626_615.out; have hnc54 := NB615_626.out; obtain ⟨_, _, _, _, _, _, _, _, _, _, _, _⟩ := ce6_ BK626))
       go_ret
       exact fi_
      ·replace c32 := Bool.eq_false_iff.mpr c32
       subst c32
       replace H : (none) = some r := by rw [if_neg (show ¬ (false = true) by decide)] at H; exact H
       exact absurd H (by simp)
     ·rw [if_neg c30] at H
      have c30b0 : (t616 == 18446744073709551615) = false := beq_eq_false_iff_ne.mpr c30
      have c30b1 : (t616 != 18446744073709551615) = true := bne_iff_ne.mpr c30
      by_cases c56 : t616 > (IntKind.u64.wrap (18446744073709551615 - a0_5))
      ·rw [if_pos c56] at H; exact absurd H (by simp)
      rw [if_neg c56] at H
      have c56b0 : decide ((IntKind.u64.wrap (18446744073709551615 - a0_5)) < t616) = false := decide_eq_false c56
      clear c56
      obtain ⟨⟨t627, t628, t629, t630, t631, t632, t633, t634⟩, A57, H⟩ := bo_ H
      try dsimp only at H
      by_cases c58 : t634 = 0
      rotate_left
      ·rw [if_neg c58] at H; exact absurd H (by simp)
      rw [if_pos c58] at H
      have c58b0 : (t634 == 0) = true := beq_iff_eq.mpr c58
      have c58b1 : (t634 != 0) = false := bne_eq_false_iff_eq.mpr c58
      clear c58
      by_cases c59 : t633 = true
      ·subst c59
       rw [if_pos rfl] at H
       try dsimp only at H
       by_cases c60 : t616 = 0
       ·rw [if_pos c60] at H
        have c60b0 : (t616 == 0) = true := beq_iff_eq.mpr c60
        have c60b1 : (t616 != 0) = false := bne_eq_false_iff_eq.mpr c60
        clear c60
        obtain rfl := Option.some.inj H
        obtain ⟨_, _, _, _, _, _, _, _, _, _, _, _⟩ := ce6_ BK593
        go_wp2_with (first | ((with_reducible refine gate_callee (f := 19) rfl ?_); refine goesA_ (some 43) Try.func19 #[.agg #[.int .i64 a0_0, .int .i64 a0_1, .int .i64 a0_2, .int .u64 a0_3, .int .u64 a0_4, .int .u64 a0_5], .int .u64 a1] ?_; (with_reducible refine (gcra_Level.calls kj4 a0_0 a0_1 a0_2 a0_3 a0_4 a0_5 a1 t596 t597 _ A18.out).mono ?_); rintro e w62 ⟨rfl, hb⟩; refine ⟨_, rfl, ?_⟩; replace BK593 := bb_ BK593 hb; replace HB := bs_ w hb; clear hb; obtain ⟨_, _, _, _, _, _, _, _, _, _, _, _⟩ := ce6_ BK593) | ((with_reducible refine gate_callee (f := 17) rfl ?_); refine goesA_ (some 49) Try.func17 #[.agg #[.int .i64 a0_0, .int .i64 a0_1, .int .i64 a0_2, .int .u64 a0_3, .int .u64 a0_4, .int .u64 a0_5], .int .u64 a1, .int .i64 0] ?_; (with_reducible refine (gcra_Ask.calls kj4 a0_0 a0_1 a0_2 a0_3 a0_4 a0_5 a1 0 t598 t599 t600 t601 t602 t603 true t605 _ A19.out).mono ?_); rintro e w64 ⟨rfl, hb⟩; refine ⟨_, rfl, ?_⟩; replace BK593 := bb_ BK593 hb; replace HB := bs_ w hb; clear hb) | ((with_reducible refine gate_dst (N := 10) rfl ?_); refine bx_ #[.int .i64 0, .int .i64 0, .int .i64 0, .int .u64 0, .int .u64 0, .int .u64 0] 28 ?_; intro gb606 hg w65 BK606 hb; have GW606 := bz_ w hg; have GE606 := GW606; have NB593_606 := bn_ BK593 hg; have NB606_593 := bm_ BK593 hg; replace BK593 := bb_ BK593 hb; replace HB := bs_ w hb; clear hb hg; have hnb66 := NB606_593.out; have hnc66 := NB593_606.out; obtain ⟨_, _, _, _, _, _, _, _, _, _, _, _⟩ := ce6_ BK606; obtain ⟨_, _, _, _, _, _, _, _, _, _, _, _⟩ := ce6_ BK593) | ((with_reducible refine gate_callee (f := 17) rfl ?_); refine goesA_ (some 57) Try.func17 #[.agg #[.int .i64 a0_0, .int .i64 a0_1, .int .i64 a0_2, .int .u64 a0_3, .int .u64 a0_4, .int .u64 a0_5], .int .u64 a1, .int .i64 a2] ?_; (with_reducible refine (gcra_Ask.calls kj4 a0_0 a0_1 a0_2 a0_3 a0_4 a0_5 a1 a2 t607 t608 t609 t610 t611 t612 t613 t614 _ A20.out).mono ?_); rintro e w69 ⟨rfl, hb⟩; refine ⟨_, rfl, ?_⟩; replace BK593 := bf_ BK593 hb; replace BK606 := Aside0.mk (blk_below (g := gb606) (o := .cells #[.int .i64 t598, .int .i64 t599, .int .i64 t600, .int .u64 t601, .int .u64 t602, .int .u64 t603] 28 (0, 0)) (bp6_ (bq_ BK606)) hb); replace HB := bs_ w hb; clear hb) | ((with_reducible refine gate_dst (N := 13) rfl ?_); refine bx_ #[.int .i64 0, .int .i64 0, .int .i64 0, .int .u64 0, .int .u64 0, .int .u64 0] 28 ?_; intro gb615 hg w70 BK615 hb; have GW615 := bz_ w hg; have GE615 := GW615; have NB593_615 := bn_ BK593 hg; have NB615_593 := bm_ BK593 hg; have NB606_615 := bn_ BK606 hg; have NB615_606 := bm_ BK606 hg; replace BK593 := bb_ BK593 hb; replace BK606 := bb_ BK606 hb; replace HB := bs_ w hb; clear hb hg; have hnb71 := NB615_593.out; have hnc71 := NB593_615.out; have hnb72 := NB615_606.out; have hnc72 := NB606_615.out; obtain ⟨_, _, _, _, _, _, _, _, _, _, _, _⟩ := ce6_ BK615; obtain ⟨_, _, _, _, _, _, _, _, _, _, _, _⟩ := ce6_ BK593) | ((with_reducible refine gate_callee (f := 21) rfl ?_); refine goesA_ (some 96) Try.func21 #[.agg #[.int .i64 a0_0, .int .i64 a0_1, .int .i64 a0_2, .int .u64 a0_3, .int .u64 a0_4, .int .u64 a0_5], .int .i64 a2] ?_; (with_reducible refine (gcra_Wait.calls kj4 a0_0 a0_1 a0_2 a0_3 a0_4 a0_5 a2 t616 t617 _ A28.out).mono ?_); rintro e w75 ⟨rfl, hb⟩; refine ⟨_, rfl, ?_⟩; replace BK593 := bf_ BK593 hb; replace BK606 := bf_ BK606 hb; replace BK615 := Aside0.mk (blk_below (g := gb615) (o := .cells #[.int .i64 t607, .int .i64 t608, .int .i64 t609, .int .u64 t610, .int .u64 t611, .int .u64 t612] 28 (0, 0)) (bp6_ (bq_ BK615)) hb); replace HB := bs_ w hb; clear hb; obtain ⟨_, _, _, _, _, _, _, _, _, _, _, _⟩ := ce6_ BK593) | ((with_reducible refine gate_callee (f := 17) rfl ?_); refine goesA_ (some 131) Try.func17 #[.agg #[.int .i64 a0_0, .int .i64 a0_1, .int .i64 a0_2, .int .u64 a0_3, .int .u64 a0_4, .int .u64 a0_5], .int .u64 (IntKind.u64.wrap (a0_5 + t616)), .int .i64 a2] ?_; (with_reducible refine (gcra_Ask.calls kj4 a0_0 a0_1 a0_2 a0_3 a0_4 a0_5 (IntKind.u64.wrap (a0_5 + t616)) a2 t627 t628 t629 t630 t631 t632 true t634 _ A57.out).mono ?_); rintro e w77 ⟨rfl, hb⟩; refine ⟨_, rfl, ?_⟩; replace BK593 := bb_ BK593 hb; replace BK606 := bb_ BK606 hb; replace BK615 := bb_ BK615 hb; replace HB := bs_ w hb; clear hb) | ((with_reducible refine gate_dst (N := 21) rfl ?_); refine bx_ #[.int .i64 0, .int .i64 0, .int .i64 0, .int .u64 0, .int .u64 0, .int .u64 0] 28 ?_; intro gb635 hg w78 BK635 hb; have GW635 := bz_ w hg; have GE635 := GW635; have NB593_635 := bn_ BK593 hg; have NB635_593 := bm_ BK593 hg; have NB606_635 := bn_ BK606 hg; have NB635_606 := bm_ BK606 hg; have NB615_635 := bn_ BK615 hg; have NB635_615 := bm_ BK615 hg; replace BK593 := bb_ BK593 hb; replace BK606 := bb_ BK606 hb; replace BK615 := bb_ BK615 hb; replace HB := bs_ w hb; clear hb hg; have hnb79 := NB635_593.out; have hnc79 := NB593_635.out; have hnb80 := NB635_606.out; have hnc80 := NB606_635.out; have hnb81 := NB635_615.out; have hnc81 := NB615_635.out; obtain ⟨_, _, _, _, _, _, _, _, _, _, _, _⟩ := ce6_ BK635))
        go_ret
        exact fi_
       ·rw [if_neg c60] at H
        have c60b0 : (t616 == 0) = false := beq_eq_false_iff_ne.mpr c60
        have c60b1 : (t616 != 0) = true := bne_iff_ne.mpr c60
        obtain ⟨⟨t636, t637, t638, t639, t640, t641, t642, t643⟩, A83, H⟩ := bo_ H
        replace H : (if t594 = true then (if t643 = 0 then (some (!t642)) else (none)) else (none)) = some r := H
        by_cases c84 : t594 = true
        ·subst c84
         replace H : (if t643 = 0 then (some (!t642)) else (none)) = some r := by rw [if_pos rfl] at H; exact H
         by_cases c85 : t643 = 0
         rotate_left
         ·rw [if_neg c85] at H; exact absurd H (by simp)
         rw [if_pos c85] at H
         have c85b0 : (t643 == 0) = true := beq_iff_eq.mpr c85
         have c85b1 : (t643 != 0) = false := bne_eq_false_iff_eq.mpr c85
         clear c85
         obtain rfl := Option.some.inj H
         obtain ⟨_, _, _, _, _, _, _, _, _, _, _, _⟩ := ce6_ BK593
         go_wp2_with (first | ((with_reducible refine gate_callee (f := 19) rfl ?_); refine goesA_ (some 43) Try.func19 #[.agg #[.int .i64 a0_0, .int .i64 a0_1, .int .i64 a0_2, .int .u64 a0_3, .int .u64 a0_4, .int .u64 a0_5], .int .u64 a1] ?_; (with_reducible refine (gcra_Level.calls kj4 a0_0 a0_1 a0_2 a0_3 a0_4 a0_5 a1 t596 t597 _ A18.out).mono ?_); rintro e w87 ⟨rfl, hb⟩; refine ⟨_, rfl, ?_⟩; replace BK593 := bb_ BK593 hb; replace HB := bs_ w hb; clear hb; obtain ⟨_, _, _, _, _, _, _, _, _, _, _, _⟩ := ce6_ BK593) | ((with_reducible refine gate_callee (f := 17) rfl ?_); refine goesA_ (some 49) Try.func17 #[.agg #[.int .i64 a0_0, .int .i64 a0_1, .int .i64 a0_2, .int .u64 a0_3, .int .u64 a0_4, .int .u64 a0_5], .int .u64 a1, .int .i64 0] ?_; (with_reducible refine (gcra_Ask.calls kj4 a0_0 a0_1 a0_2 a0_3 a0_4 a0_5 a1 0 t598 t599 t600 t601 t602 t603 true t605 _ A19.out).mono ?_); rintro e w89 ⟨rfl, hb⟩; refine ⟨_, rfl, ?_⟩; replace BK593 := bb_ BK593 hb; replace HB := bs_ w hb; clear hb) | ((with_reducible refine gate_dst (N := 10) rfl ?_); refine bx_ #[.int .i64 0, .int .i64 0, .int .i64 0, .int .u64 0, .int .u64 0, .int .u64 0] 28 ?_; intro gb606 hg w90 BK606 hb; have GW606 := bz_ w hg; have GE606 := GW606; have NB593_606 := bn_ BK593 hg; have NB606_593 := bm_ BK593 hg; replace BK593 := bb_ BK593 hb; replace HB := bs_ w hb; clear hb hg; have hnb91 := NB606_593.out; have hnc91 := NB593_606.out; obtain ⟨_, _, _, _, _, _, _, _, _, _, _, _⟩ := ce6_ BK606; obtain ⟨_, _, _, _, _, _, _, _, _, _, _, _⟩ := ce6_ BK593) | ((with_reducible refine gate_callee (f := 17) rfl ?_); refine goesA_ (some 57) Try.func17 #[.agg #[.int .i64 a0_0, .int .i64 a0_1, .int .i64 a0_2, .int .u64 a0_3, .int .u64 a0_4, .int .u64 a0_5], .int .u64 a1, .int .i64 a2] ?_; (with_reducible refine (gcra_Ask.calls kj4 a0_0 a0_1 a0_2 a0_3 a0_4 a0_5 a1 a2 t607 t608 t609 t610 t611 t612 t613 t614 _ A20.out).mono ?_); rintro e w94 ⟨rfl, hb⟩; refine ⟨_, rfl, ?_⟩; replace BK593 := bf_ BK593 hb; replace BK606 := Aside0.mk (blk_below (g := gb606) (o := .cells #[.int .i64 t598, .int .i64 t599, .int .i64 t600, .int .u64 t601, .int .u64 t602, .int .u64 t603] 28 (0, 0)) (bp6_ (bq_ BK606)) hb); replace HB := bs_ w hb; clear hb) | ((with_reducible refine gate_dst (N := 13) rfl ?_); refine bx_ #[.int .i64 0, .int .i64 0, .int .i64 0, .int .u64 0, .int .u64 0, .int .u64 0] 28 ?_; intro gb615 hg w95 BK615 hb; have GW615 := bz_ w hg; have GE615 := GW615; have NB593_615 := bn_ BK593 hg; have NB615_593 := bm_ BK593 hg; have NB606_615 := bn_ BK606 hg; have NB615_606 := bm_ BK606 hg; replace BK593 := bb_ BK593 hb; replace BK606 := bb_ BK606 hb; replace HB := bs_ w hb; clear hb hg; have hnb96 := NB615_593.out; have hnc96 := NB593_615.out; have hnb97 := NB615_606.out; have hnc97 := NB606_615.out; obtain ⟨_, _, _, _, _, _, _, _, _, _, _, _⟩ := ce6_ BK615; obtain ⟨_, _, _, _, _, _, _, _, _, _, _, _⟩ := ce6_ BK593) | ((with_reducible refine gate_callee (f := 21) rfl ?_); refine goesA_ (some 96) Try.func21 #[.agg #[.int .i64 a0_0, .int .i64 a0_1, .int .i64 a0_2, .int .u64 a0_3, .int .u64 a0_4, .int .u64 a0_5], .int .i64 a2] ?_; (with_reducible refine (gcra_Wait.calls kj4 a0_0 a0_1 a0_2 a0_3 a0_4 a0_5 a2 t616 t617 _ A28.out).mono ?_); rintro e w100 ⟨rfl, hb⟩; refine ⟨_, rfl, ?_⟩; replace BK593 := bf_ BK593 hb; replace BK606 := bf_ BK606 hb; replace BK615 := Aside0.mk (blk_below (g := gb615) (o := .cells #[.int .i64 t607, .int .i64 t608, .int .i64 t609, .int .u64 t610, .int .u64 t611, .int .u64 t612] 28 (0, 0)) (bp6_ (bq_ BK615)) hb); replace HB := bs_ w hb; clear hb; obtain ⟨_, _, _, _, _, _, _, _, _, _, _, _⟩ := ce6_ BK593) | ((with_reducible refine gate_callee (f := 17) rfl ?_); refine goesA_ (some 131) Try.func17 #[.agg #[.int .i64 a0_0, .int .i64 a0_1, .int .i64 a0_2, .int .u64 a0_3, .int .u64 a0_4, .int .u64 a0_5], .int .u64 (IntKind.u64.wrap (a0_5 + t616)), .int .i64 a2] ?_; (with_reducible refine (gcra_Ask.calls kj4 a0_0 a0_1 a0_2 a0_3 a0_4 a0_5 (IntKind.u64.wrap (a0_5 + t616)) a2 t627 t628 t629 t630 t631 t632 true t634 _ A57.out).mono ?_); rintro e w102 ⟨rfl, hb⟩; refine ⟨_, rfl, ?_⟩; replace BK593 := bb_ BK593 hb; replace BK606 := bb_ BK606 hb; replace BK615 := bb_ BK615 hb; replace HB := bs_ w hb; clear hb) | ((with_reducible refine gate_dst (N := 21) rfl ?_); refine bx_ #[.int .i64 0, .int .i64 0, .int .i64 0, .int .u64 0, .int .u64 0, .int .u64 0] 28 ?_; intro gb635 hg w103 BK635 hb; have GW635 := bz_ w hg; have GE635 := GW635; have NB593_635 := bn_ BK593 hg; have NB635_593 := bm_ BK593 hg; have NB606_635 := bn_ BK606 hg; have NB635_606 := bm_ BK606 hg; have NB615_635 := bn_ BK615 hg; have NB635_615 := bm_ BK615 hg; replace BK593 := bb_ BK593 hb; replace BK606 := bb_ BK606 hb; replace BK615 := bb_ BK615 hb; replace HB := bs_ w hb; clear hb hg; have hnb104 := NB635_593.out; have hnc104 := NB593_635.out; have hnb105 := NB635_606.out; have hnc105 := NB606_635.out; have hnb106 := NB635_615.out; have hnc106 := NB615_635.out; obtain ⟨_, _, _, _, _, _, _, _, _, _, _, _⟩ := ce6_ BK635; obtain ⟨_, _, _, _, _, _, _, _, _, _, _, _⟩ := ce6_ BK593) | ((with_reducible refine gate_callee (f := 17) rfl ?_); refine goesA_ (some 152) Try.func17 #[.agg #[.int .i64 a0_0, .int .i64 a0_1, .int .i64 a0_2, .int .u64 a0_3, .int .u64 a0_4, .int .u64 a0_5], .int .u64 (IntKind.u64.wrap ((IntKind.u64.wrap (a0_5 + t616)) - 1)), .int .i64 a2] ?_; (with_reducible refine (gcra_Ask.calls kj4 a0_0 a0_1 a0_2 a0_3 a0_4 a0_5 (IntKind.u64.wrap ((IntKind.u64.wrap (a0_5 + t616)) - 1)) a2 t636 t637 t638 t639 t640 t641 t642 t643 _ A83.out).mono ?_); rintro e w109 ⟨rfl, hb⟩; refine ⟨_, rfl, ?_⟩; replace BK593 := bf_ BK593 hb; replace BK606 := bf_ BK606 hb; replace BK615 := bf_ BK615 hb; replace BK635 := Aside0.mk (blk_below (g := gb635) (o := .cells #[.int .i64 t627, .int .i64 t628, .int .i64 t629, .int .u64 t630, .int .u64 t631, .int .u64 t632] 28 (0, 0)) (bp6_ (bq_ BK635)) hb); replace HB := bs_ w hb; clear hb) | ((with_reducible refine gate_dst (N := 24) rfl ?_); refine bx_ #[.int .i64 0, .int .i64 0, .int .i64 0, .int .u64 0, .int .u64 0, .int .u64 0] 28 ?_; intro gb644 hg w110 BK644 hb; have GW644 := bz_ w hg; have NB593_644 := bn_ BK593 hg; have NB644_593 := bm_ BK593 hg; have NB606_644 := bn_ BK606 hg; have NB644_606 := bm_ BK606 hg; have NB615_644 := bn_ BK615 hg; have NB644_615 := bm_ BK615 hg; have NB635_644 := bn_ BK635 hg; have NB644_635 := bm_ BK635 hg; replace BK593 := bb_ BK593 hb; replace BK606 := bb_ BK606 hb; replace BK615 := bb_ BK615 hb; replace BK635 := bb_ BK635 hb; replace HB := bs_ w hb; clear hb hg; have hnb111 := NB644_593.out; have hnc111 := NB593_644.out; have hnb112 := NB644_606.out; have hnc112 := NB606_644.out; have hnb113 := NB644_615.out; have hnc113 := NB615_644.out; have hnb114 := NB644_635.out; have hnc114 := NB635_644.out; obtain ⟨_, _, _, _, _, _, _, _, _, _, _, _⟩ := ce6_ BK644))
         go_ret
         exact fi_
        ·replace c84 := Bool.eq_false_iff.mpr c84
         subst c84
         replace H : (none) = some r := by rw [if_neg (show ¬ (false = true) by decide)] at H; exact H
         exact absurd H (by simp)
      ·replace c59 := Bool.eq_false_iff.mpr c59
       subst c59
       replace H : (none) = some r := by rw [if_neg (show ¬ (false = true) by decide)] at H; exact H
       exact absurd H (by simp)
    ·replace c25 := Bool.eq_false_iff.mpr c25
     subst c25
     replace H : (none) = some r := by rw [if_neg (show ¬ (false = true) by decide)] at H; exact H
     exact absurd H (by simp)

end Go.Proofs.Ytnijohomnajngaa.X
