-- written by xprint.py, a program of this session over the kit's print
import Derived.Test.YtfdpcnkghmmobaaX0
import Derived.Test.YtfdpcnkghmmobaaX35
import Derived.Test.YtfdpcnkghmmobaaX36
import Derived.Test.YtfdpcnkghmmobaaX37
import Derived.Test.YtfdpcnkghmmobaaX38
import Derived.Test.YtfdpcnkghmmobaaX42
import Derived.Test.YtfdpcnkghmmobaaX43
namespace Go.Proofs.Ytfdpcnkghmmobaa.X
open Go.RowKit Go.Proofs.YtfdpcnkghmmobaaW.PrintWords Go.Proofs.YtfdpcnkghmmobaaW.PrintLast Go.Proofs.YtfdpcnkghmmobaaW.PrintMore
attribute [local go_sem] max2_int min2_int max_two min_two max_three min_three max_four min_four   -- for this text's walks alone
set_option linter.unusedVariables false
set_option linter.unusedSimpArgs false

/-! ### spigotlaw39_WaitParts: function 6 -/
mutual
def spigotlaw39_WaitParts.j0 : Nat → List (S63) → Int → List Int → Int → Bool → Bool → Option (Bool)
  | 0, _, _, _, _, _, _ => none
  | k + 1, x0, x1, x2, x3, x9, x40 => if x40 = true then (some x9) else ((wait_Many.f k x0 x1 x2).bind fun bt602 => (if 0 ≤ x3 then (if x3 ≤ (x2.length : Int) then ((wait_Plan.f k x0 x1 (x2.take (x3 : Int).toNat)).bind fun bt605 => (if bt602.2 = 0 then (if bt602.1 < 0 then (none) else (if bt602.1 > (x2.length : Int) then (none) else (if ((bt605.2.2 == 0) != (decide (x3 ≤ bt602.1))) = true then (none) else (if bt605.2.2 = 0 then (if (bt605.1.length : Int) = x3 then (if x3 > 0 then (if 0 ≤ (wrap64 (x3 - 1)) then (if (wrap64 (x3 - 1)) < (bt605.1.length : Int) then (spigotlaw39_WaitParts.j1 k x0 x1 x2 x3 x9 bt602.1 bt605.1 bt605.2.1 (rd bt605.1 (wrap64 (x3 - 1)))) else (none)) else (none)) else (spigotlaw39_WaitParts.j1 k x0 x1 x2 x3 x9 bt602.1 bt605.1 bt605.2.1 x1)) else (none)) else (if x9 = true then (some (bt605.2.2 == 6)) else (none)))))) else (none))) else (none)) else (none)))
def spigotlaw39_WaitParts.j1 : Nat → List (S63) → Int → List Int → Int → Bool → Int → List Int → List (S63) → Int → Option (Bool)
  | 0, _, _, _, _, _, _, _, _, _ => none
  | k + 1, x0, x1, x2, x3, x9, x10, x12, x13, x15 => if 0 ≤ x3 then (if x3 ≤ (x2.length : Int) then ((wait_Plan.f k x13 x15 (x2.drop (x3 : Int).toNat)).bind fun bt614 => ((wait_Plan.f k x0 x1 x2).bind fun bt621 => (if bt614.2.2 = bt621.2.2 then (if ((bt614.2.2 == 0) != (x10 == (x2.length : Int))) = true then (none) else (if x9 = true then (if bt614.2.2 = 0 then ((some (([] : List Int) : List Int)).bind fun y628 => (if y628.length + x12.length < 17592186044416 then ((some (y628 ++ x12 : List Int)).bind fun y631 => (if y631.length + bt614.1.length < 17592186044416 then ((spigotref39_Same.f k (y631 ++ bt614.1) bt621.1).bind fun t637 => (if t637 = true then ((spigotref04_Same.f k bt614.2.1 bt621.2.1).bind fun t638 => (some t638)) else (none))) else (none))) else (none))) else (some true)) else (none))) else (none)))) else (none)) else (none)
end
def spigotlaw39_WaitParts.f (k : Nat) (l0 : List (S63)) (a1 : Int) (l2 : List Int) (a3 : Int) : Option (Bool) := (spigotlaw39_alive.f k).bind fun t600 => ((spigotlaw39_fit.f k l0 l2).bind fun t601 => (if t601 = true then (if a3 < 0 then (spigotlaw39_WaitParts.j0 k l0 a1 l2 a3 t600 true) else (if a3 > (l2.length : Int) then (spigotlaw39_WaitParts.j0 k l0 a1 l2 a3 t600 true) else (spigotlaw39_WaitParts.j0 k l0 a1 l2 a3 t600 (!t600)))) else (spigotlaw39_WaitParts.j0 k l0 a1 l2 a3 t600 true)))
theorem spigotlaw39_WaitParts.mono_l : ∀ k, (∀ y0 y1 y2 y3 y4 y5, LeO (spigotlaw39_WaitParts.j0 k y0 y1 y2 y3 y4 y5) (spigotlaw39_WaitParts.j0 (k + 1) y0 y1 y2 y3 y4 y5)) ∧ (∀ y0 y1 y2 y3 y4 y5 y6 y7 y8, LeO (spigotlaw39_WaitParts.j1 k y0 y1 y2 y3 y4 y5 y6 y7 y8) (spigotlaw39_WaitParts.j1 (k + 1) y0 y1 y2 y3 y4 y5 y6 y7 y8))
  | 0 => ⟨fun _ _ _ _ _ _ r h => by simp [spigotlaw39_WaitParts.j0] at h, fun _ _ _ _ _ _ _ _ _ r h => by simp [spigotlaw39_WaitParts.j1] at h⟩
  | k + 1 => by
    obtain ⟨ih0, ih1⟩ := spigotlaw39_WaitParts.mono_l k
    refine ⟨?_, ?_⟩
    · intro y0 y1 y2 y3 y4 y5
      unfold spigotlaw39_WaitParts.j0
      repeat' first
      | (with_reducible exact ih0 _ _ _ _ _ _)
      | (with_reducible exact ih1 _ _ _ _ _ _ _ _ _)
      | (with_reducible exact spigotlaw39_alive.mono _)
      | (with_reducible exact spigotlaw39_fit.mono _ _ _)
      | (with_reducible exact spigotref04_Same.mono _ _ _)
      | (with_reducible exact spigotref39_Same.mono _ _ _)
      | (with_reducible exact wait_Many.mono _ _ _ _)
      | (with_reducible exact wait_Plan.mono _ _ _ _)
      | (with_reducible exact LeO.refl _)
      | (with_reducible exact LeO.none _)
      | (with_reducible refine LeO.ite ?_ ?_)
      | (with_reducible refine LeO.bind ?_ (fun _ => ?_))
      | exact ih0 _ _ _ _ _ _
      | exact ih1 _ _ _ _ _ _ _ _ _
      | exact spigotlaw39_alive.mono _
      | exact spigotlaw39_fit.mono _ _ _
      | exact spigotref04_Same.mono _ _ _
      | exact spigotref39_Same.mono _ _ _
      | exact wait_Many.mono _ _ _ _
      | exact wait_Plan.mono _ _ _ _
      | exact LeO.none _
      | refine LeO.ite ?_ ?_
      | refine LeO.bind ?_ (fun _ => ?_)
    · intro y0 y1 y2 y3 y4 y5 y6 y7 y8
      unfold spigotlaw39_WaitParts.j1
      repeat' first
      | (with_reducible exact ih0 _ _ _ _ _ _)
      | (with_reducible exact ih1 _ _ _ _ _ _ _ _ _)
      | (with_reducible exact spigotlaw39_alive.mono _)
      | (with_reducible exact spigotlaw39_fit.mono _ _ _)
      | (with_reducible exact spigotref04_Same.mono _ _ _)
      | (with_reducible exact spigotref39_Same.mono _ _ _)
      | (with_reducible exact wait_Many.mono _ _ _ _)
      | (with_reducible exact wait_Plan.mono _ _ _ _)
      | (with_reducible exact LeO.refl _)
      | (with_reducible exact LeO.none _)
      | (with_reducible refine LeO.ite ?_ ?_)
      | (with_reducible refine LeO.bind ?_ (fun _ => ?_))
      | exact ih0 _ _ _ _ _ _
      | exact ih1 _ _ _ _ _ _ _ _ _
      | exact spigotlaw39_alive.mono _
      | exact spigotlaw39_fit.mono _ _ _
      | exact spigotref04_Same.mono _ _ _
      | exact spigotref39_Same.mono _ _ _
      | exact wait_Many.mono _ _ _ _
      | exact wait_Plan.mono _ _ _ _
      | exact LeO.none _
      | refine LeO.ite ?_ ?_
      | refine LeO.bind ?_ (fun _ => ?_)
theorem spigotlaw39_WaitParts.mono : ∀ a0 a1 a2 a3 k, LeO (spigotlaw39_WaitParts.f k a0 a1 a2 a3) (spigotlaw39_WaitParts.f (k + 1) a0 a1 a2 a3) := by
  intro a0 a1 a2 a3 k
  obtain ⟨ih0, ih1⟩ := spigotlaw39_WaitParts.mono_l k
  unfold spigotlaw39_WaitParts.f
  repeat' first
      | (with_reducible exact ih0 _ _ _ _ _ _)
      | (with_reducible exact ih1 _ _ _ _ _ _ _ _ _)
      | (with_reducible exact spigotlaw39_alive.mono _)
      | (with_reducible exact spigotlaw39_fit.mono _ _ _)
      | (with_reducible exact spigotref04_Same.mono _ _ _)
      | (with_reducible exact spigotref39_Same.mono _ _ _)
      | (with_reducible exact wait_Many.mono _ _ _ _)
      | (with_reducible exact wait_Plan.mono _ _ _ _)
      | (with_reducible exact LeO.refl _)
      | (with_reducible exact LeO.none _)
      | (with_reducible refine LeO.ite ?_ ?_)
      | (with_reducible refine LeO.bind ?_ (fun _ => ?_))
      | exact ih0 _ _ _ _ _ _
      | exact ih1 _ _ _ _ _ _ _ _ _
      | exact spigotlaw39_alive.mono _
      | exact spigotlaw39_fit.mono _ _ _
      | exact spigotref04_Same.mono _ _ _
      | exact spigotref39_Same.mono _ _ _
      | exact wait_Many.mono _ _ _ _
      | exact wait_Plan.mono _ _ _ _
      | exact LeO.none _
      | refine LeO.ite ?_ ?_
      | refine LeO.bind ?_ (fun _ => ?_)
set_option maxHeartbeats 8000000 in
set_option maxRecDepth 100000 in
theorem spigotlaw39_WaitParts.calls (k : Nat) (A0 : Option Addr) (c0 : Nat) (l0 : List (S63)) (a1 : Int) (A2 : Option Addr) (c2 : Nat) (l2 : List Int) (a3 : Int) (r : Bool) (w : World) (hr0 : Kd.C k63 w A0 l0.length l0) (hc0 : l0.length ≤ c0) (hr2 : Kd.C (Kd.int .i64) w A2 l2.length l2) (hc2 : l2.length ≤ c2) (h : spigotlaw39_WaitParts.f k l0 a1 l2 a3 = some r) :
  Calls Try.prog 6 #[.slice A0 l0.length c0, .int .u64 a1, .slice A2 l2.length c2, .int .i64 a3] w fun e w' => e = .returned (.bool r) ∧ Below w.heap.size w w' := by
 have HR0 := Aside0.mk hr0
 have HC0 := Aside0.mk hc0
 clear hr0 hc0
 have HR2 := Aside0.mk hr2
 have HC2 := Aside0.mk hc2
 clear hr2 hc2
 have HB := Aside0.mk (Below.refl w.heap.size w)
 have H : ((spigotlaw39_alive.f k).bind fun t600 => ((spigotlaw39_fit.f k l0 l2).bind fun t601 => (if t601 = true then (if a3 < 0 then (spigotlaw39_WaitParts.j0 k l0 a1 l2 a3 t600 true) else (if a3 > (l2.length : Int) then (spigotlaw39_WaitParts.j0 k l0 a1 l2 a3 t600 true) else (spigotlaw39_WaitParts.j0 k l0 a1 l2 a3 t600 (!t600)))) else (spigotlaw39_WaitParts.j0 k l0 a1 l2 a3 t600 true)))) = some r := h
 clear h
 obtain ⟨t600, A5, H⟩ := bo_ H
 try dsimp only at H
 have HC6 := Aside0.mk H
 clear H
 go_enter Try.func6, Try.ntmps6
 go_upto_region 2 with (first | ((with_reducible refine gate_callee (f := 13) rfl ?_); (try refine ug_ (by rfl) ?_); refine goesA_ (some 22) Try.func13 #[] ?_; (with_reducible refine (spigotlaw39_alive.calls k  t600 _ A5.out).mono ?_); rintro e w7 ⟨rfl, hb⟩; refine ⟨_, rfl, ?_⟩; replace HB := bs_ w hb; clear hb))
 (try simp only [Act.put, List.setIfInBounds_toArray, List.set_cons_zero, List.set_cons_succ])
 go_cut [40] (fun v40 wc => ∃ (kq : Nat) (x40_5 : Bool), v40 = .bool x40_5 ∧ Aside0 (spigotlaw39_WaitParts.j0 kq l0 a1 l2 a3 t600 x40_5 = some r) ∧ Aside0 (kq ≤ k) ∧ Aside0 (Below w.heap.size w wc))
 case first =>
  have H := HC6.out
  clear HC6
  obtain ⟨t601, A8, H⟩ := bo_ H
  try dsimp only at H
  by_cases c9 : t601 = true
  ·subst c9
   rw [if_pos rfl] at H
   try dsimp only at H
   by_cases c10 : a3 < 0
   ·rw [if_pos c10] at H
    have c10b0 : decide (a3 < 0) = true := decide_eq_true c10
    clear c10
    (first | rw [c10b0] | (simp only [i64_w, i32_w]; rw [c10b0]) | skip)
    have H' := Aside0.mk H
    clear H
    go_wp2_with (first | ((with_reducible refine gate_callee (f := 14) rfl ?_); (try refine ug_ (by rfl) ?_); refine goesA_ (some 25) Try.func14 #[.slice A0 l0.length c0, .slice A2 l2.length c2] ?_; (with_reducible refine (spigotlaw39_fit.calls k _ _ l0 _ _ l2 true _ ?side1 ?side2 ?side3 ?side4 A8.out).mono ?_); (case side1 => repeat (first | exact (Kd.C_below HR0.out HB.out) | (with_reducible refine Kd.C_alloc ?_ _) | (with_reducible refine Kd.C_drewN ?_ _) | (with_reducible refine Kd.C_drew ?_))); (case side2 => exact HC0.out); (case side3 => repeat (first | exact (Kd.C_below HR2.out HB.out) | (with_reducible refine Kd.C_alloc ?_ _) | (with_reducible refine Kd.C_drewN ?_ _) | (with_reducible refine Kd.C_drew ?_))); (case side4 => exact HC2.out); rintro e w11 ⟨rfl, hb⟩; refine ⟨_, rfl, ?_⟩; replace HB := bs_ w hb; clear hb))
    go_meet
    case rel => exact ⟨_, (true), rf_, H', al_, bw_⟩
   ·rw [if_neg c10] at H
    have c10b0 : decide (a3 < 0) = false := decide_eq_false c10
    clear c10
    (first | rw [c10b0] | (simp only [i64_w, i32_w]; rw [c10b0]) | skip)
    by_cases c12 : a3 > (l2.length : Int)
    ·rw [if_pos c12] at H
     have c12b0 : decide ((l2.length : Int) < a3) = true := decide_eq_true c12
     clear c12
     have H' := Aside0.mk H
     clear H
     go_wp2_with (first | ((with_reducible refine gate_callee (f := 14) rfl ?_); (try refine ug_ (by rfl) ?_); refine goesA_ (some 25) Try.func14 #[.slice A0 l0.length c0, .slice A2 l2.length c2] ?_; (with_reducible refine (spigotlaw39_fit.calls k _ _ l0 _ _ l2 true _ ?side1 ?side2 ?side3 ?side4 A8.out).mono ?_); (case side1 => repeat (first | exact (Kd.C_below HR0.out HB.out) | (with_reducible refine Kd.C_alloc ?_ _) | (with_reducible refine Kd.C_drewN ?_ _) | (with_reducible refine Kd.C_drew ?_))); (case side2 => exact HC0.out); (case side3 => repeat (first | exact (Kd.C_below HR2.out HB.out) | (with_reducible refine Kd.C_alloc ?_ _) | (with_reducible refine Kd.C_drewN ?_ _) | (with_reducible refine Kd.C_drew ?_))); (case side4 => exact HC2.out); rintro e w13 ⟨rfl, hb⟩; refine ⟨_, rfl, ?_⟩; replace HB := bs_ w hb; clear hb))
     go_meet
     case rel => exact ⟨_, (true), rf_, H', al_, bw_⟩
    ·rw [if_neg c12] at H
     have c12b0 : decide ((l2.length : Int) < a3) = false := decide_eq_false c12
     clear c12
     have H' := Aside0.mk H
     clear H
     go_wp2_with (first | ((with_reducible refine gate_callee (f := 14) rfl ?_); (try refine ug_ (by rfl) ?_); refine goesA_ (some 25) Try.func14 #[.slice A0 l0.length c0, .slice A2 l2.length c2] ?_; (with_reducible refine (spigotlaw39_fit.calls k _ _ l0 _ _ l2 true _ ?side1 ?side2 ?side3 ?side4 A8.out).mono ?_); (case side1 => repeat (first | exact (Kd.C_below HR0.out HB.out) | (with_reducible refine Kd.C_alloc ?_ _) | (with_reducible refine Kd.C_drewN ?_ _) | (with_reducible refine Kd.C_drew ?_))); (case side2 => exact HC0.out); (case side3 => repeat (first | exact (Kd.C_below HR2.out HB.out) | (with_reducible refine Kd.C_alloc ?_ _) | (with_reducible refine Kd.C_drewN ?_ _) | (with_reducible refine Kd.C_drew ?_))); (case side4 => exact HC2.out); rintro e w14 ⟨rfl, hb⟩; refine ⟨_, rfl, ?_⟩; replace HB := bs_ w hb; clear hb))
     go_meet
     case rel => exact ⟨_, (!t600), rf_, H', al_, bw_⟩
  ·replace c9 := Bool.eq_false_iff.mpr c9
   subst c9
   replace H : (spigotlaw39_WaitParts.j0 k l0 a1 l2 a3 t600 true) = some r := by rw [if_neg (show ¬ (false = true) by decide)] at H; exact H
   have H' := Aside0.mk H
   clear H
   go_wp2_with (first | ((with_reducible refine gate_callee (f := 14) rfl ?_); (try refine ug_ (by rfl) ?_); refine goesA_ (some 25) Try.func14 #[.slice A0 l0.length c0, .slice A2 l2.length c2] ?_; (with_reducible refine (spigotlaw39_fit.calls k _ _ l0 _ _ l2 false _ ?side1 ?side2 ?side3 ?side4 A8.out).mono ?_); (case side1 => repeat (first | exact (Kd.C_below HR0.out HB.out) | (with_reducible refine Kd.C_alloc ?_ _) | (with_reducible refine Kd.C_drewN ?_ _) | (with_reducible refine Kd.C_drew ?_))); (case side2 => exact HC0.out); (case side3 => repeat (first | exact (Kd.C_below HR2.out HB.out) | (with_reducible refine Kd.C_alloc ?_ _) | (with_reducible refine Kd.C_drewN ?_ _) | (with_reducible refine Kd.C_drew ?_))); (case side4 => exact HC2.out); rintro e w15 ⟨rfl, hb⟩; refine ⟨_, rfl, ?_⟩; replace HB := bs_ w hb; clear hb))
   go_meet
   case rel => exact ⟨_, (true), rf_, H', al_, bw_⟩
 case rest =>
  clear HC6
  try clear c2
  obtain ⟨kq, x40_5, rfl, HA, HJ5, HB⟩ := hcut
  cases kq with
  | zero => exact absurd HA.out (by simp [spigotlaw39_WaitParts.j0])
  | succ kj5 =>
   have H := HA.out
   clear HA
   simp only [spigotlaw39_WaitParts.j0] at H
   by_cases c16 : x40_5 = true
   ·subst c16
    replace H : (some t600) = some r := by rw [if_pos rfl] at H; exact H
    obtain rfl := Option.some.inj H
    go_wp2
    go_ret
    exact fi_
   ·replace c16 := Bool.eq_false_iff.mpr c16
    subst c16
    rw [if_neg (show ¬ (false = true) by decide)] at H
    try dsimp only at H
    obtain ⟨⟨t602, t603⟩, A17, H⟩ := bo_ H
    try dsimp only at H
    by_cases c18 : 0 ≤ a3
    rotate_left
    ·rw [if_neg c18] at H; exact absurd H (by simp)
    rw [if_pos c18] at H
    have c18b0 := eq_true c18
    have c18b1 : decide (0 ≤ a3) = true := decide_eq_true c18
    clear c18
    by_cases c19 : a3 ≤ (l2.length : Int)
    rotate_left
    ·rw [if_neg c19] at H; exact absurd H (by simp)
    rw [if_pos c19] at H
    have c19b0 := eq_true c19
    have c19b1 : decide (a3 ≤ (l2.length : Int)) = true := decide_eq_true c19
    clear c19
    obtain ⟨⟨t605, t606, t607⟩, A20, H⟩ := bo_ H
    try dsimp only at H
    by_cases c21 : t603 = 0
    rotate_left
    ·rw [if_neg c21] at H; exact absurd H (by simp)
    rw [if_pos c21] at H
    have c21b0 : (t603 == 0) = true := beq_iff_eq.mpr c21
    have c21b1 : (t603 != 0) = false := bne_eq_false_iff_eq.mpr c21
    clear c21
    by_cases c22 : t602 < 0
    ·rw [if_pos c22] at H; exact absurd H (by simp)
    rw [if_neg c22] at H
    have c22b0 : decide (t602 < 0) = false := decide_eq_false c22
    clear c22
    by_cases c23 : t602 > (l2.length : Int)
    ·rw [if_pos c23] at H; exact absurd H (by simp)
    rw [if_neg c23] at H
    have c23b0 : decide ((l2.length : Int) < t602) = false := decide_eq_false c23
    clear c23
    by_cases c24 : ((t607 == 0) != (decide (a3 ≤ t602))) = true
    ·rw [if_pos c24] at H; exact absurd H (by simp)
    rw [if_neg c24] at H
    have c24b0 : ((t607 == 0) != (decide (a3 ≤ t602))) = false := by simpa using c24
    (try (have c24b1 : decide ((t607 == 0) = (decide (a3 ≤ t602))) = true := by simpa using c24))
    (try (have c24b2 : ((t607 == 0) == (decide (a3 ≤ t602))) = true := by simpa using c24))
    clear c24
    by_cases c25 : t607 = 0
    ·rw [if_pos c25] at H
     have c25b0 : (t607 == 0) = true := beq_iff_eq.mpr c25
     (try (have c24b9 : (decide (a3 ≤ t602)) = true := by (have q_ := c24b0; rw [c25b0] at q_; simpa using q_)))
     have c25b1 : (t607 != 0) = false := bne_eq_false_iff_eq.mpr c25
     clear c25
     by_cases c26 : (t605.length : Int) = a3
     rotate_left
     ·rw [if_neg c26] at H; exact absurd H (by simp)
     rw [if_pos c26] at H
     have c26b0 : ((t605.length : Int) == a3) = true := beq_iff_eq.mpr c26
     have c26b1 : ((t605.length : Int) != a3) = false := bne_eq_false_iff_eq.mpr c26
     clear c26
     have HC27 := Aside0.mk H
     clear H
     go_upto_if 92 with (first | ((with_reducible refine gate_callee (f := 19) rfl ?_); (try refine ug_ (by rfl) ?_); refine goesA_ (some 46) Try.func19 #[.slice A0 l0.length c0, .int .u64 a1, .slice A2 l2.length c2] ?_; (with_reducible refine (wait_Many.calls kj5 _ _ l0 a1 _ _ l2 t602 t603 _ ?side1 ?side2 ?side3 ?side4 A17.out).mono ?_); (case side1 => repeat (first | exact (Kd.C_below HR0.out HB.out) | (with_reducible refine Kd.C_alloc ?_ _) | (with_reducible refine Kd.C_drewN ?_ _) | (with_reducible refine Kd.C_drew ?_))); (case side2 => exact HC0.out); (case side3 => repeat (first | exact (Kd.C_below HR2.out HB.out) | (with_reducible refine Kd.C_alloc ?_ _) | (with_reducible refine Kd.C_drewN ?_ _) | (with_reducible refine Kd.C_drew ?_))); (case side4 => exact HC2.out); rintro e w28 ⟨rfl, hb⟩; refine ⟨_, rfl, ?_⟩; replace HB := bs_ w hb; clear hb; obtain ⟨i029, hi029, _, hsz29, _⟩ := info_parts info2; obtain ⟨hcut29, hA29, hC29⟩ := print_take_of (P := Try.prog) (Value.int .i64) 0 24 2 .i64 Try.underlying24 hi029 hsz29 A2 c2 l2 a3 (of_decide_eq_true (by first | (with_reducible assumption) | assumption)) (of_decide_eq_true (by first | (with_reducible assumption) | assumption)) HC2.out; have HR604 := Aside0.mk (Kd.C_of_reads (h1 := fun _ => rfl) (hA29 _ (Kd.reads_of_C HR2.out))); have HC604 := Aside0.mk hC29; clear hA29 hC29 hi029 hsz29) | ((with_reducible refine gate_callee (f := 15) rfl ?_); (try refine ug_ (by rfl) ?_); refine goesL_ (some 55) rfl rfl Try.func15 (by kernel_rfl) rfl #[.slice A0 l0.length c0, .int .u64 a1, .slice A2 (l2.take (a3 : Int).toNat).length c2] rfl (by (try simp only [List.map_toArray, List.map_cons, List.map_nil]); first | done | (rw [show (l2.take (a3 : Int).toNat).length = a3.toNat from (by rw [List.length_take]; have h_ : (a3 : Int) ≤ (l2.length : Int) := of_decide_eq_true (by first | (with_reducible assumption) | assumption); omega)] <;> rfl) | rfl | (simp only [List.length_drop, List.length_take]; rfl)) ?_; (with_reducible refine (wait_Plan.calls kj5 _ _ l0 a1 _ _ (l2.take (a3 : Int).toNat) t605 t606 t607 _ ?side1 ?side2 ?side3 ?side4 A20.out).mono ?_); (case side1 => repeat (first | exact (Kd.C_below HR0.out HB.out) | (with_reducible refine Kd.C_alloc ?_ _) | (with_reducible refine Kd.C_drewN ?_ _) | (with_reducible refine Kd.C_drew ?_))); (case side2 => exact HC0.out); (case side3 => repeat (first | exact (Kd.C_below HR604.out HB.out) | (with_reducible refine Kd.C_alloc ?_ _) | (with_reducible refine Kd.C_drewN ?_ _) | (with_reducible refine Kd.C_drew ?_))); (case side4 => exact HC604.out); rintro e w30 ⟨v608, v610, rfl, ho0, ho1, hb⟩; refine ⟨_, rfl, ?_⟩; have HO609 := Aside0.mk (Kd.R_lower ho0 (below_size (hq_ HB))); have HO611 := Aside0.mk (Kd.R_lower ho1 (below_size (hq_ HB))); replace HB := bs_ w hb; clear hb; (try clear ho0); (try clear ho1); obtain ⟨Ao31, co31, eo31⟩ := Kd.R_slice HO609.out; subst eo31))
     (try simp only [Act.put, List.setIfInBounds_toArray, List.set_cons_zero, List.set_cons_succ])
     go_cut [15] (fun v15 wc => ∃ (kq : Nat) (x15_26 : Int), v15 = .int .u64 x15_26 ∧ Aside0 (spigotlaw39_WaitParts.j1 kq l0 a1 l2 a3 t600 t602 t605 t606 x15_26 = some r) ∧ Aside0 (kq ≤ kj5) ∧ Aside0 (Kd.R (Kd.int .u64) 23 wc w.heap.size (fun _ => True) (.slice Ao31 t605.length co31) t605) ∧ Aside0 (Kd.R k63 63 wc w.heap.size (fun _ => True) v610 t606) ∧ Aside0 (Below w.heap.size w wc))
     case first =>
      have H := HC27.out
      clear HC27
      by_cases c32 : a3 > 0
      ·rw [if_pos c32] at H
       have c32b0 : decide (0 < a3) = true := decide_eq_true c32
       clear c32
       (first | rw [c32b0] | (simp only [i64_w, i32_w]; rw [c32b0]) | skip)
       obtain ⟨ji33, hji33⟩ : ∃ j_ : Int, (wrap64 (a3 - 1)) = j_ := ⟨_, rfl⟩
       replace H : (if 0 ≤ (ji33) then (if (ji33) < (t605.length : Int) then (spigotlaw39_WaitParts.j1 kj5 l0 a1 l2 a3 t600 t602 t605 t606 (rd t605 (ji33))) else (none)) else (none)) = some r := by first | (rw [hji33] at H; exact H) | (simp only [hji33] at H ⊢; exact H)
       have hji33w : (IntKind.i64.wrap (a3 - 1)) = ji33 := (i64_w _).trans hji33
       by_cases c34 : 0 ≤ (ji33)
       rotate_left
       ·rw [if_neg c34] at H; exact absurd H (by simp)
       rw [if_pos c34] at H
       have c34b0 : decide (0 ≤ (ji33)) = true := decide_eq_true c34
       clear c34
       by_cases c35 : (ji33) < (t605.length : Int)
       rotate_left
       ·rw [if_neg c35] at H; exact absurd H (by simp)
       rw [if_pos c35] at H
       have c35b0 : decide ((ji33) < (t605.length : Int)) = true := decide_eq_true c35
       clear c35
       have H' := Aside0.mk H
       clear H
       have p612 : 0 ≤ ((ji33) : Int) := of_decide_eq_true (by first | (with_reducible assumption) | assumption)
       have q612 : (ji33) < (t605.length : Int) := of_decide_eq_true (by first | (with_reducible assumption) | assumption)
       obtain ⟨ad612, e612, hx612_0⟩ := Kd.at_int (Kd.R_reads' HO609.out).2.2 (ji33) p612 q612
       cases e612
       replace p612 := eq_true p612
       replace q612 := eq_true q612
       go_wp2
       go_meet
       case rel => exact ⟨_, (rd t605 (ji33)), (by first | rfl | (simp; done) | (simp only [← hji33] <;> (first | rfl | simp)) | (simp [*]; done)), H', ⟨by have := HJ5.out; first | omega | exact Nat.le_refl _⟩, ⟨by (with_reducible repeat (first | apply Kd.R_alloc | apply Kd.R_drewN | apply Kd.R_drew)); exact HO609.out⟩, ⟨by (with_reducible repeat (first | apply Kd.R_alloc | apply Kd.R_drewN | apply Kd.R_drew)); exact HO611.out⟩, bw_⟩
      ·rw [if_neg c32] at H
       have c32b0 : decide (0 < a3) = false := decide_eq_false c32
       clear c32
       (first | rw [c32b0] | (simp only [i64_w, i32_w]; rw [c32b0]) | skip)
       have H' := Aside0.mk H
       clear H
       go_wp2
       go_meet
       case rel => exact ⟨_, (a1), rf_, H', ⟨by have := HJ5.out; first | omega | exact Nat.le_refl _⟩, ⟨by (with_reducible repeat (first | apply Kd.R_alloc | apply Kd.R_drewN | apply Kd.R_drew)); exact HO609.out⟩, ⟨by (with_reducible repeat (first | apply Kd.R_alloc | apply Kd.R_drewN | apply Kd.R_drew)); exact HO611.out⟩, bw_⟩
     case rest =>
      clear HC27
      try clear c2
      try clear c16
      try clear c18
      try clear c18b0
      try clear c18b1
      try clear c19
      try clear c19b0
      try clear c19b1
      try clear c21
      try clear c21b0
      try clear c21b1
      try clear c22
      try clear c22b0
      try clear c23
      try clear c23b0
      try clear c24
      try clear c24b0
      try clear c24b1
      try clear c24b2
      try clear c25
      try clear c25b0
      try clear c25b1
      try clear c26
      try clear c26b0
      try clear c26b1
      obtain ⟨kq, x15_26, rfl, HA, HJ26, HO_12, HO_13, HB⟩ := hcut
      cases kq with
      | zero => exact absurd HA.out (by simp [spigotlaw39_WaitParts.j1])
      | succ kj26 =>
       have H := HA.out
       clear HA
       simp only [spigotlaw39_WaitParts.j1] at H
       by_cases c36 : 0 ≤ a3
       rotate_left
       ·rw [if_neg c36] at H; exact absurd H (by simp)
       rw [if_pos c36] at H
       have c36b0 := eq_true c36
       have c36b1 : decide (0 ≤ a3) = true := decide_eq_true c36
       clear c36
       by_cases c37 : a3 ≤ (l2.length : Int)
       rotate_left
       ·rw [if_neg c37] at H; exact absurd H (by simp)
       rw [if_pos c37] at H
       have c37b0 := eq_true c37
       have c37b1 : decide (a3 ≤ (l2.length : Int)) = true := decide_eq_true c37
       clear c37
       obtain ⟨⟨t614, t615, t616⟩, A38, H⟩ := bo_ H
       try dsimp only at H
       obtain ⟨⟨t621, t622, t623⟩, A39, H⟩ := bo_ H
       try dsimp only at H
       by_cases c40 : t616 = t623
       rotate_left
       ·rw [if_neg c40] at H; exact absurd H (by simp)
       rw [if_pos c40] at H
       have c40b0 : (t616 == t623) = true := beq_iff_eq.mpr c40
       have c40b1 : (t616 != t623) = false := bne_eq_false_iff_eq.mpr c40
       clear c40
       by_cases c41 : ((t616 == 0) != (t602 == (l2.length : Int))) = true
       ·rw [if_pos c41] at H; exact absurd H (by simp)
       rw [if_neg c41] at H
       have c41b0 : ((t616 == 0) != (t602 == (l2.length : Int))) = false := by simpa using c41
       (try (have c41b1 : decide ((t616 == 0) = (t602 == (l2.length : Int))) = true := by simpa using c41))
       (try (have c41b2 : ((t616 == 0) == (t602 == (l2.length : Int))) = true := by simpa using c41))
       clear c41
       by_cases c42 : t600 = true
       ·subst c42
        rw [if_pos rfl] at H
        try dsimp only at H
        by_cases c43 : t616 = 0
        ·rw [if_pos c43] at H
         have c43b0 : (t616 == 0) = true := beq_iff_eq.mpr c43
         (try (have c41b9 : (t602 == (l2.length : Int)) = true := by (have q_ := c41b0; rw [c43b0] at q_; simpa using q_)))
         have c43b1 : (t616 != 0) = false := bne_eq_false_iff_eq.mpr c43
         clear c43
         obtain ⟨y628, hy628⟩ : ∃ y_ : List Int, y_ = (([] : List Int)) := ⟨_, rfl⟩
         replace H : (if y628.length + t605.length < 17592186044416 then ((some (y628 ++ t605 : List Int)).bind fun y631 => (if y631.length + t614.length < 17592186044416 then ((spigotref39_Same.f kj26 (y631 ++ t614) t621).bind fun t637 => (if t637 = true then ((spigotref04_Same.f kj26 t615 t622).bind fun t638 => (some t638)) else (none))) else (none))) else (none)) = some r := by first | (rw [hy628]; with_reducible exact H) | (have H2_ := (Option.bind_some _ _).symm.trans H; rw [hy628]; with_reducible exact H2_) | (have H2_ := (Option.bind_some _ _).symm.trans H; with_reducible exact H2_) | with_reducible exact H | (rw [hy628]; exact H) | exact H
         have Ny628 := Aside0.mk hy628
         clear hy628
         by_cases c44 : y628.length + t605.length < 17592186044416
         rotate_left
         ·rw [if_neg c44] at H; exact absurd H (by simp)
         rw [if_pos c44] at H
         have LMc44 := Aside0.mk c44
         clear c44
         obtain ⟨y631, hy631⟩ : ∃ y_ : List Int, y_ = (y628 ++ t605) := ⟨_, rfl⟩
         replace H : (if y631.length + t614.length < 17592186044416 then ((spigotref39_Same.f kj26 (y631 ++ t614) t621).bind fun t637 => (if t637 = true then ((spigotref04_Same.f kj26 t615 t622).bind fun t638 => (some t638)) else (none))) else (none)) = some r := by first | (rw [hy631]; with_reducible exact H) | (have H2_ := (Option.bind_some _ _).symm.trans H; rw [hy631]; with_reducible exact H2_) | (have H2_ := (Option.bind_some _ _).symm.trans H; with_reducible exact H2_) | with_reducible exact H | (rw [hy631]; exact H) | exact H
         have Ny631 := Aside0.mk hy631
         clear hy631
         by_cases c45 : y631.length + t614.length < 17592186044416
         rotate_left
         ·rw [if_neg c45] at H; exact absurd H (by simp)
         rw [if_pos c45] at H
         have LMc45 := Aside0.mk c45
         clear c45
         obtain ⟨y634, hy634⟩ : ∃ y_ : List Int, y_ = (y631 ++ t614) := ⟨_, rfl⟩
         replace H : ((spigotref39_Same.f kj26 y634 t621).bind fun t637 => (if t637 = true then ((spigotref04_Same.f kj26 t615 t622).bind fun t638 => (some t638)) else (none))) = some r := by first | (rw [hy634]; with_reducible exact H) | (have H2_ := (Option.bind_some _ _).symm.trans H; rw [hy634]; with_reducible exact H2_) | (have H2_ := (Option.bind_some _ _).symm.trans H; with_reducible exact H2_) | with_reducible exact H | (rw [hy634]; exact H) | exact H
         have Ny634 := Aside0.mk hy634
         clear hy634
         obtain ⟨t637, A46, H⟩ := bo_ H
         replace H : (if t637 = true then ((spigotref04_Same.f kj26 t615 t622).bind fun t638 => (some t638)) else (none)) = some r := H
         by_cases c47 : t637 = true
         ·subst c47
          rw [if_pos rfl] at H
          try dsimp only at H
          obtain ⟨t638, A48, H⟩ := bo_ H
          replace H : (some t638) = some r := H
          obtain rfl := Option.some.inj H
          obtain ⟨i049, hi049, _, hsz49, _⟩ := info_parts info2
          obtain ⟨A49, hcut49, hA49, hC49⟩ := print_drop_of (P := Try.prog) (Value.int .i64) 0 24 2 .i64 Try.underlying24 hi049 hsz49 A2 c2 l2 a3 (of_decide_eq_true (by first | (with_reducible assumption) | assumption)) (of_decide_eq_true (by first | (with_reducible assumption) | assumption)) HC2.out
          have HR613 := Aside0.mk (Kd.C_of_reads (h1 := fun _ => rfl) (hA49 _ (Kd.reads_of_C HR2.out)))
          have HC613 := Aside0.mk hC49
          clear hA49 hC49 hi049 hsz49
          obtain ⟨Ao50, co50, eo50⟩ := Kd.R_slice HO_13.out
          subst eo50
          go_wp2_with (first | ((with_reducible refine gate_callee (f := 15) rfl ?_); (try refine ug_ (by rfl) ?_); refine goesL_ (some 104) rfl rfl Try.func15 (by kernel_rfl) rfl #[.slice Ao50 t606.length co50, .int .u64 x15_26, .slice A49 (l2.drop (a3 : Int).toNat).length (c2 - a3.toNat)] rfl (by (try simp only [List.map_toArray, List.map_cons, List.map_nil]); first | done | (rw [show (l2.drop (a3 : Int).toNat).length = (l2.length - a3.toNat) from List.length_drop] <;> rfl) | rfl | (simp only [List.length_drop, List.length_take]; rfl)) ?_; (with_reducible refine (wait_Plan.calls kj26 _ _ t606 x15_26 _ _ (l2.drop (a3 : Int).toNat) t614 t615 t616 _ ?side1 ?side2 ?side3 ?side4 A38.out).mono ?_); (case side1 => repeat (first | exact (Kd.R_reads' HO_13.out).2.2 | (with_reducible refine Kd.C_alloc ?_ _) | (with_reducible refine Kd.C_drewN ?_ _) | (with_reducible refine Kd.C_drew ?_))); (case side2 => exact (Kd.R_reads' HO_13.out).2.1); (case side3 => repeat (first | exact (Kd.C_below HR613.out HB.out) | (with_reducible refine Kd.C_alloc ?_ _) | (with_reducible refine Kd.C_drewN ?_ _) | (with_reducible refine Kd.C_drew ?_))); (case side4 => exact HC613.out); rintro e w51 ⟨v617, v619, rfl, ho0, ho1, hb⟩; refine ⟨_, rfl, ?_⟩; have HO618 := Aside0.mk (Kd.R_lower (Kd.R_new' ho0 (Kd.R_lt (by (with_reducible repeat (first | apply Kd.R_alloc | apply Kd.R_drewN | apply Kd.R_drew)); exact HO_12.out))) (below_size (hq_ HB))); have HO620 := Aside0.mk (Kd.R_lower (Kd.R_new' ho1 (Kd.R_lt (by (with_reducible repeat (first | apply Kd.R_alloc | apply Kd.R_drewN | apply Kd.R_drew)); exact HO_13.out))) (below_size (hq_ HB))); replace HO_12 := Aside0.mk (Kd.R_elder' (by (with_reducible repeat (first | apply Kd.R_alloc | apply Kd.R_drewN | apply Kd.R_drew)); exact HO_12.out) (Kd.R_base ho0) hb); replace HO_13 := Aside0.mk (Kd.R_elder' (by (with_reducible repeat (first | apply Kd.R_alloc | apply Kd.R_drewN | apply Kd.R_drew)); exact HO_13.out) (Kd.R_base ho1) hb); replace HB := bs_ w hb; (try clear hb); (try clear hb2); (try clear hk); (try clear hi); (try clear ho0); (try clear ho1)) | ((with_reducible refine gate_callee (f := 15) rfl ?_); (try refine ug_ (by rfl) ?_); refine goesA_ (some 112) Try.func15 #[.slice A0 l0.length c0, .int .u64 a1, .slice A2 l2.length c2] ?_; (with_reducible refine (wait_Plan.calls kj26 _ _ l0 a1 _ _ l2 t621 t622 t623 _ ?side1 ?side2 ?side3 ?side4 A39.out).mono ?_); (case side1 => repeat (first | exact (Kd.C_below HR0.out HB.out) | (with_reducible refine Kd.C_alloc ?_ _) | (with_reducible refine Kd.C_drewN ?_ _) | (with_reducible refine Kd.C_drew ?_))); (case side2 => exact HC0.out); (case side3 => repeat (first | exact (Kd.C_below HR2.out HB.out) | (with_reducible refine Kd.C_alloc ?_ _) | (with_reducible refine Kd.C_drewN ?_ _) | (with_reducible refine Kd.C_drew ?_))); (case side4 => exact HC2.out); rintro e w52 ⟨v624, v626, rfl, ho0, ho1, hb⟩; refine ⟨_, rfl, ?_⟩; have HO625 := Aside0.mk (Kd.R_lower (Kd.R_new' (Kd.R_new' ho0 (Kd.R_lt (by (with_reducible repeat (first | apply Kd.R_alloc | apply Kd.R_drewN | apply Kd.R_drew)); exact HO_12.out))) (Kd.R_lt (by (with_reducible repeat (first | apply Kd.R_alloc | apply Kd.R_drewN | apply Kd.R_drew)); exact HO618.out))) (below_size (hq_ HB))); have HO627 := Aside0.mk (Kd.R_lower (Kd.R_new' (Kd.R_new' ho1 (Kd.R_lt (by (with_reducible repeat (first | apply Kd.R_alloc | apply Kd.R_drewN | apply Kd.R_drew)); exact HO_13.out))) (Kd.R_lt (by (with_reducible repeat (first | apply Kd.R_alloc | apply Kd.R_drewN | apply Kd.R_drew)); exact HO620.out))) (below_size (hq_ HB))); replace HO_12 := Aside0.mk (Kd.R_elder' (by (with_reducible repeat (first | apply Kd.R_alloc | apply Kd.R_drewN | apply Kd.R_drew)); exact HO_12.out) (Kd.R_base ho0) hb); replace HO_13 := Aside0.mk (Kd.R_elder' (by (with_reducible repeat (first | apply Kd.R_alloc | apply Kd.R_drewN | apply Kd.R_drew)); exact HO_13.out) (Kd.R_base ho1) hb); replace HO618 := Aside0.mk (Kd.R_elder' (by (with_reducible repeat (first | apply Kd.R_alloc | apply Kd.R_drewN | apply Kd.R_drew)); exact HO618.out) (Kd.R_base ho0) hb); replace HO620 := Aside0.mk (Kd.R_elder' (by (with_reducible repeat (first | apply Kd.R_alloc | apply Kd.R_drewN | apply Kd.R_drew)); exact HO620.out) (Kd.R_base ho1) hb); replace HB := bs_ w hb; (try clear hb); (try clear hb2); (try clear hk); (try clear hi); (try clear ho0); (try clear ho1)) | ((with_reducible refine gate_dst (N := 133) rfl ?_); (try refine ug_ (by rfl) ?_); refine Kd.R_lit (Kd.int .u64) _ 23 ?hg (N := 133) ?hd (xs := ([] : List Int)) (inner := []) (ok := fun _ => True) (okp := fun _ => True) ?hr ?hp (fun _ hk => hk) trivial (Below.refl _ _) (Nat.le_refl _) (by simp) ?_; (case hd => rfl); (case hg => rfl); (case hr => first | (go_simp; done) | (go_simp; rfl)); (case hp => exact (Reps.none _ _)); intro v629 w53 ho54 hb hg_ hnew_; clear hg_ hnew_; (first | rw [← Ny628.out] at ho54 | (simp only [Int.reduceToNat] at ho54; rw [← Ny628.out] at ho54)); have HO630 := Aside0.mk (Kd.R_lower (Kd.R_new' (Kd.R_new' (Kd.R_new' ho54 (Kd.R_lt (by (with_reducible repeat (first | apply Kd.R_alloc | apply Kd.R_drewN | apply Kd.R_drew)); exact HO_12.out))) (Kd.R_lt (by (with_reducible repeat (first | apply Kd.R_alloc | apply Kd.R_drewN | apply Kd.R_drew)); exact HO618.out))) (Kd.R_lt (by (with_reducible repeat (first | apply Kd.R_alloc | apply Kd.R_drewN | apply Kd.R_drew)); exact HO625.out))) (below_size (hq_ HB))); replace HO_12 := Aside0.mk (Kd.R_elder' (by (with_reducible repeat (first | apply Kd.R_alloc | apply Kd.R_drewN | apply Kd.R_drew)); exact HO_12.out) (Kd.R_base ho54) hb); replace HO_13 := Aside0.mk (Kd.R_below (by (with_reducible repeat (first | apply Kd.R_alloc | apply Kd.R_drewN | apply Kd.R_drew)); exact HO_13.out) hb); replace HO618 := Aside0.mk (Kd.R_elder' (by (with_reducible repeat (first | apply Kd.R_alloc | apply Kd.R_drewN | apply Kd.R_drew)); exact HO618.out) (Kd.R_base ho54) hb); replace HO620 := Aside0.mk (Kd.R_below (by (with_reducible repeat (first | apply Kd.R_alloc | apply Kd.R_drewN | apply Kd.R_drew)); exact HO620.out) hb); replace HO625 := Aside0.mk (Kd.R_elder' (by (with_reducible repeat (first | apply Kd.R_alloc | apply Kd.R_drewN | apply Kd.R_drew)); exact HO625.out) (Kd.R_base ho54) hb); replace HO627 := Aside0.mk (Kd.R_below (by (with_reducible repeat (first | apply Kd.R_alloc | apply Kd.R_drewN | apply Kd.R_drew)); exact HO627.out) hb); replace HB := bs_ w hb; clear hb ho54) | ((with_reducible refine gate_builtin (b := .append) (xs := #[.tmp 133, .tmp 134]) rfl ?_); (try refine ug_ (by rfl) ?_); at_builtin; refine Kd.R_append_rows (Kd.int .u64) (w0 := w) w.heap.size rfl (.tmp 133) (.tmp 134) 25 23 (.int .u64 0) 8 rfl Try.underlying25 info23 rfl (by decide) (by omega) v629 y628 t605 _ _ _ (fun k_ => some k_ ≠ (.slice Ao31 t605.length co31 : Value).ownBlock ∧ some k_ ≠ (v617 : Value).ownBlock ∧ some k_ ≠ (v624 : Value).ownBlock) (fun _ => False) rfl rfl ?aO ?aR (fun _ _ h => h) (fun _ h => h.elim) ?aF ?aB ?aS ?aL ?_; (case aR => repeat (first | exact (Kd.R_reads' HO_12.out).2.2 | (with_reducible refine Kd.C_alloc ?_ _) | (with_reducible refine Kd.C_drewN ?_ _) | (with_reducible refine Kd.C_drew ?_))); (case aB => exact (hq_ HB)); (case aF => exact (fun k_ hk => ⟨Kd.fresh' (Kd.R_lt (by (with_reducible repeat (first | apply Kd.R_alloc | apply Kd.R_drewN | apply Kd.R_drew)); exact HO_12.out)) k_ hk, Kd.fresh' (Kd.R_lt (by (with_reducible repeat (first | apply Kd.R_alloc | apply Kd.R_drewN | apply Kd.R_drew)); exact HO618.out)) k_ hk, Kd.fresh' (Kd.R_lt (by (with_reducible repeat (first | apply Kd.R_alloc | apply Kd.R_drewN | apply Kd.R_drew)); exact HO625.out)) k_ hk⟩)); (case aO => exact (by (with_reducible repeat (first | apply Kd.R_alloc | apply Kd.R_drewN | apply Kd.R_drew)); exact Kd.R_mono HO630.out (fun _ hk => ⟨hk.1.1.2, ⟨hk.1.2, hk.2⟩⟩))); (case aS => exact (below_size (hq_ HB))); (case aL => have := LMc44.out; omega); intro v632 w55 ho hb hg hat; rw [← Ny631.out] at ho; have HO633 := Aside0.mk (ho); replace HO_12 := Aside0.mk (Kd.R_after (ok := (fun k_ => some k_ ≠ (v617 : Value).ownBlock ∧ some k_ ≠ (v624 : Value).ownBlock)) (by (with_reducible repeat (first | apply Kd.R_alloc | apply Kd.R_drewN | apply Kd.R_drew)); exact Kd.R_mono HO_12.out (fun _ hk => ⟨⟨hk.1.1.2, hk.1.2⟩, hk.2⟩)) hg hat); replace HO_13 := Aside0.mk (Kd.R_over' (by (with_reducible repeat (first | apply Kd.R_alloc | apply Kd.R_drewN | apply Kd.R_drew)); exact HO_13.out) (Kd.R_typed (by (with_reducible repeat (first | apply Kd.R_alloc | apply Kd.R_drewN | apply Kd.R_drew)); exact HO630.out)) (by decide) hg); replace HO618 := Aside0.mk (Kd.R_after (ok := (fun k_ => some k_ ≠ (.slice Ao31 t605.length co31 : Value).ownBlock ∧ some k_ ≠ (v624 : Value).ownBlock)) (by (with_reducible repeat (first | apply Kd.R_alloc | apply Kd.R_drewN | apply Kd.R_drew)); exact Kd.R_mono HO618.out (fun _ hk => ⟨⟨hk.1.1.2, hk.1.2⟩, hk.2⟩)) hg hat); replace HO620 := Aside0.mk (Kd.R_over' (by (with_reducible repeat (first | apply Kd.R_alloc | apply Kd.R_drewN | apply Kd.R_drew)); exact HO620.out) (Kd.R_typed (by (with_reducible repeat (first | apply Kd.R_alloc | apply Kd.R_drewN | apply Kd.R_drew)); exact HO630.out)) (by decide) hg); replace HO625 := Aside0.mk (Kd.R_after (ok := (fun k_ => some k_ ≠ (.slice Ao31 t605.length co31 : Value).ownBlock ∧ some k_ ≠ (v617 : Value).ownBlock)) (by (with_reducible repeat (first | apply Kd.R_alloc | apply Kd.R_drewN | apply Kd.R_drew)); exact Kd.R_mono HO625.out (fun _ hk => ⟨⟨hk.1.1.2, hk.1.2⟩, hk.2⟩)) hg hat); replace HO627 := Aside0.mk (Kd.R_over' (by (with_reducible repeat (first | apply Kd.R_alloc | apply Kd.R_drewN | apply Kd.R_drew)); exact HO627.out) (Kd.R_typed (by (with_reducible repeat (first | apply Kd.R_alloc | apply Kd.R_drewN | apply Kd.R_drew)); exact HO630.out)) (by decide) hg); replace HB := Aside0.mk (hb); clear HO630; clear ho hb hg hat; obtain ⟨Ao57, co57, eo57⟩ := Kd.R_slice HO618.out; subst eo57) | ((with_reducible refine gate_builtin (b := .append) (xs := #[.tmp 135, .tmp 136]) rfl ?_); (try refine ug_ (by rfl) ?_); at_builtin; refine Kd.R_append_rows (Kd.int .u64) (w0 := w) w.heap.size rfl (.tmp 135) (.tmp 136) 25 23 (.int .u64 0) 8 rfl Try.underlying25 info23 rfl (by decide) (by omega) v632 y631 t614 _ _ _ (fun k_ => some k_ ≠ (.slice Ao31 t605.length co31 : Value).ownBlock ∧ some k_ ≠ (.slice Ao57 t614.length co57 : Value).ownBlock ∧ some k_ ≠ (v624 : Value).ownBlock) (fun _ => False) rfl rfl ?aO ?aR (fun _ _ h => h) (fun _ h => h.elim) ?aF ?aB ?aS ?aL ?_; (case aR => repeat (first | exact (Kd.R_reads' HO618.out).2.2 | (with_reducible refine Kd.C_alloc ?_ _) | (with_reducible refine Kd.C_drewN ?_ _) | (with_reducible refine Kd.C_drew ?_))); (case aB => exact (hq_ HB)); (case aF => exact (fun k_ hk => ⟨Kd.fresh' (Kd.R_lt (by (with_reducible repeat (first | apply Kd.R_alloc | apply Kd.R_drewN | apply Kd.R_drew)); exact HO_12.out)) k_ hk, Kd.fresh' (Kd.R_lt (by (with_reducible repeat (first | apply Kd.R_alloc | apply Kd.R_drewN | apply Kd.R_drew)); exact HO618.out)) k_ hk, Kd.fresh' (Kd.R_lt (by (with_reducible repeat (first | apply Kd.R_alloc | apply Kd.R_drewN | apply Kd.R_drew)); exact HO625.out)) k_ hk⟩)); (case aO => exact (by (with_reducible repeat (first | apply Kd.R_alloc | apply Kd.R_drewN | apply Kd.R_drew)); exact HO633.out)); (case aS => exact (below_size (hq_ HB))); (case aL => have := LMc45.out; omega); intro v635 w56 ho hb hg hat; rw [← Ny634.out] at ho; have HO636 := Aside0.mk (ho); replace HO_12 := Aside0.mk (Kd.R_after (ok := (fun k_ => some k_ ≠ (.slice Ao57 t614.length co57 : Value).ownBlock ∧ some k_ ≠ (v624 : Value).ownBlock)) (by (with_reducible repeat (first | apply Kd.R_alloc | apply Kd.R_drewN | apply Kd.R_drew)); exact HO_12.out) hg hat); replace HO_13 := Aside0.mk (Kd.R_over' (by (with_reducible repeat (first | apply Kd.R_alloc | apply Kd.R_drewN | apply Kd.R_drew)); exact HO_13.out) (Kd.R_typed (by (with_reducible repeat (first | apply Kd.R_alloc | apply Kd.R_drewN | apply Kd.R_drew)); exact HO633.out)) (by decide) hg); replace HO618 := Aside0.mk (Kd.R_after (ok := (fun k_ => some k_ ≠ (.slice Ao31 t605.length co31 : Value).ownBlock ∧ some k_ ≠ (v624 : Value).ownBlock)) (by (with_reducible repeat (first | apply Kd.R_alloc | apply Kd.R_drewN | apply Kd.R_drew)); exact HO618.out) hg hat); replace HO620 := Aside0.mk (Kd.R_over' (by (with_reducible repeat (first | apply Kd.R_alloc | apply Kd.R_drewN | apply Kd.R_drew)); exact HO620.out) (Kd.R_typed (by (with_reducible repeat (first | apply Kd.R_alloc | apply Kd.R_drewN | apply Kd.R_drew)); exact HO633.out)) (by decide) hg); replace HO625 := Aside0.mk (Kd.R_after (ok := (fun k_ => some k_ ≠ (.slice Ao31 t605.length co31 : Value).ownBlock ∧ some k_ ≠ (.slice Ao57 t614.length co57 : Value).ownBlock)) (by (with_reducible repeat (first | apply Kd.R_alloc | apply Kd.R_drewN | apply Kd.R_drew)); exact HO625.out) hg hat); replace HO627 := Aside0.mk (Kd.R_over' (by (with_reducible repeat (first | apply Kd.R_alloc | apply Kd.R_drewN | apply Kd.R_drew)); exact HO627.out) (Kd.R_typed (by (with_reducible repeat (first | apply Kd.R_alloc | apply Kd.R_drewN | apply Kd.R_drew)); exact HO633.out)) (by decide) hg); replace HB := Aside0.mk (hb); clear HO633; clear ho hb hg hat; obtain ⟨Ao58, co58, eo58⟩ := Kd.R_slice HO636.out; subst eo58; obtain ⟨Ao59, co59, eo59⟩ := Kd.R_slice HO625.out; subst eo59) | (go_at_call 23; (with_reducible refine (spigotref39_Same.calls kj26 _ _ y634 _ _ t621 true _ ?side1 ?side2 ?side3 ?side4 A46.out).mono ?_); (case side1 => repeat (first | exact (Kd.R_reads' HO636.out).2.2 | (with_reducible refine Kd.C_alloc ?_ _) | (with_reducible refine Kd.C_drewN ?_ _) | (with_reducible refine Kd.C_drew ?_))); (case side2 => exact (Kd.R_reads' HO636.out).2.1); (case side3 => repeat (first | exact (Kd.R_reads' HO625.out).2.2 | (with_reducible refine Kd.C_alloc ?_ _) | (with_reducible refine Kd.C_drewN ?_ _) | (with_reducible refine Kd.C_drew ?_))); (case side4 => exact (Kd.R_reads' HO625.out).2.1); rintro e w' ⟨rfl, ⟨nd, rfl⟩⟩; obtain ⟨Ao60, co60, eo60⟩ := Kd.R_slice HO620.out; subst eo60; obtain ⟨Ao61, co61, eo61⟩ := Kd.R_slice HO627.out; subst eo61) | (go_at_call 24; (with_reducible refine (spigotref04_Same.calls kj26 _ _ t615 _ _ t622 t638 _ ?side1 ?side2 ?side3 ?side4 A48.out).mono ?_); (case side1 => repeat (first | exact (Kd.R_reads' HO620.out).2.2 | (with_reducible refine Kd.C_alloc ?_ _) | (with_reducible refine Kd.C_drewN ?_ _) | (with_reducible refine Kd.C_drew ?_))); (case side2 => exact (Kd.R_reads' HO620.out).2.1); (case side3 => repeat (first | exact (Kd.R_reads' HO627.out).2.2 | (with_reducible refine Kd.C_alloc ?_ _) | (with_reducible refine Kd.C_drewN ?_ _) | (with_reducible refine Kd.C_drew ?_))); (case side4 => exact (Kd.R_reads' HO627.out).2.1); rintro e w' ⟨rfl, ⟨nd, rfl⟩⟩))
          go_ret
          exact fi_
         ·replace c47 := Bool.eq_false_iff.mpr c47
          subst c47
          replace H : (none) = some r := by rw [if_neg (show ¬ (false = true) by decide)] at H; exact H
          exact absurd H (by simp)
        ·rw [if_neg c43] at H
         have c43b0 : (t616 == 0) = false := beq_eq_false_iff_ne.mpr c43
         (try (have c41b9 : (t602 == (l2.length : Int)) = false := by (have q_ := c41b0; rw [c43b0] at q_; simpa using q_)))
         have c43b1 : (t616 != 0) = true := bne_iff_ne.mpr c43
         obtain rfl := Option.some.inj H
         obtain ⟨i062, hi062, _, hsz62, _⟩ := info_parts info2
         obtain ⟨A62, hcut62, hA62, hC62⟩ := print_drop_of (P := Try.prog) (Value.int .i64) 0 24 2 .i64 Try.underlying24 hi062 hsz62 A2 c2 l2 a3 (of_decide_eq_true (by first | (with_reducible assumption) | assumption)) (of_decide_eq_true (by first | (with_reducible assumption) | assumption)) HC2.out
         have HR613 := Aside0.mk (Kd.C_of_reads (h1 := fun _ => rfl) (hA62 _ (Kd.reads_of_C HR2.out)))
         have HC613 := Aside0.mk hC62
         clear hA62 hC62 hi062 hsz62
         obtain ⟨Ao63, co63, eo63⟩ := Kd.R_slice HO_13.out
         subst eo63
         go_wp2_with (first | ((with_reducible refine gate_callee (f := 15) rfl ?_); (try refine ug_ (by rfl) ?_); refine goesL_ (some 104) rfl rfl Try.func15 (by kernel_rfl) rfl #[.slice Ao63 t606.length co63, .int .u64 x15_26, .slice A62 (l2.drop (a3 : Int).toNat).length (c2 - a3.toNat)] rfl (by (try simp only [List.map_toArray, List.map_cons, List.map_nil]); first | done | (rw [show (l2.drop (a3 : Int).toNat).length = (l2.length - a3.toNat) from List.length_drop] <;> rfl) | rfl | (simp only [List.length_drop, List.length_take]; rfl)) ?_; (with_reducible refine (wait_Plan.calls kj26 _ _ t606 x15_26 _ _ (l2.drop (a3 : Int).toNat) t614 t615 t616 _ ?side1 ?side2 ?side3 ?side4 A38.out).mono ?_); (case side1 => repeat (first | exact (Kd.R_reads' HO_13.out).2.2 | (with_reducible refine Kd.C_alloc ?_ _) | (with_reducible refine Kd.C_drewN ?_ _) | (with_reducible refine Kd.C_drew ?_))); (case side2 => exact (Kd.R_reads' HO_13.out).2.1); (case side3 => repeat (first | exact (Kd.C_below HR613.out HB.out) | (with_reducible refine Kd.C_alloc ?_ _) | (with_reducible refine Kd.C_drewN ?_ _) | (with_reducible refine Kd.C_drew ?_))); (case side4 => exact HC613.out); rintro e w64 ⟨v617, v619, rfl, ho0, ho1, hb⟩; refine ⟨_, rfl, ?_⟩; have HO618 := Aside0.mk (Kd.R_lower (Kd.R_new' ho0 (Kd.R_lt (by (with_reducible repeat (first | apply Kd.R_alloc | apply Kd.R_drewN | apply Kd.R_drew)); exact HO_12.out))) (below_size (hq_ HB))); have HO620 := Aside0.mk (Kd.R_lower (Kd.R_new' ho1 (Kd.R_lt (by (with_reducible repeat (first | apply Kd.R_alloc | apply Kd.R_drewN | apply Kd.R_drew)); exact HO_13.out))) (below_size (hq_ HB))); replace HO_12 := Aside0.mk (Kd.R_elder' (by (with_reducible repeat (first | apply Kd.R_alloc | apply Kd.R_drewN | apply Kd.R_drew)); exact HO_12.out) (Kd.R_base ho0) hb); replace HO_13 := Aside0.mk (Kd.R_elder' (by (with_reducible repeat (first | apply Kd.R_alloc | apply Kd.R_drewN | apply Kd.R_drew)); exact HO_13.out) (Kd.R_base ho1) hb); replace HB := bs_ w hb; (try clear hb); (try clear hb2); (try clear hk); (try clear hi); (try clear ho0); (try clear ho1)) | ((with_reducible refine gate_callee (f := 15) rfl ?_); (try refine ug_ (by rfl) ?_); refine goesA_ (some 112) Try.func15 #[.slice A0 l0.length c0, .int .u64 a1, .slice A2 l2.length c2] ?_; (with_reducible refine (wait_Plan.calls kj26 _ _ l0 a1 _ _ l2 t621 t622 t623 _ ?side1 ?side2 ?side3 ?side4 A39.out).mono ?_); (case side1 => repeat (first | exact (Kd.C_below HR0.out HB.out) | (with_reducible refine Kd.C_alloc ?_ _) | (with_reducible refine Kd.C_drewN ?_ _) | (with_reducible refine Kd.C_drew ?_))); (case side2 => exact HC0.out); (case side3 => repeat (first | exact (Kd.C_below HR2.out HB.out) | (with_reducible refine Kd.C_alloc ?_ _) | (with_reducible refine Kd.C_drewN ?_ _) | (with_reducible refine Kd.C_drew ?_))); (case side4 => exact HC2.out); rintro e w65 ⟨v624, v626, rfl, ho0, ho1, hb⟩; refine ⟨_, rfl, ?_⟩; have HO625 := Aside0.mk (Kd.R_lower (Kd.R_new' (Kd.R_new' ho0 (Kd.R_lt (by (with_reducible repeat (first | apply Kd.R_alloc | apply Kd.R_drewN | apply Kd.R_drew)); exact HO_12.out))) (Kd.R_lt (by (with_reducible repeat (first | apply Kd.R_alloc | apply Kd.R_drewN | apply Kd.R_drew)); exact HO618.out))) (below_size (hq_ HB))); have HO627 := Aside0.mk (Kd.R_lower (Kd.R_new' (Kd.R_new' ho1 (Kd.R_lt (by (with_reducible repeat (first | apply Kd.R_alloc | apply Kd.R_drewN | apply Kd.R_drew)); exact HO_13.out))) (Kd.R_lt (by (with_reducible repeat (first | apply Kd.R_alloc | apply Kd.R_drewN | apply Kd.R_drew)); exact HO620.out))) (below_size (hq_ HB))); replace HO_12 := Aside0.mk (Kd.R_elder' (by (with_reducible repeat (first | apply Kd.R_alloc | apply Kd.R_drewN | apply Kd.R_drew)); exact HO_12.out) (Kd.R_base ho0) hb); replace HO_13 := Aside0.mk (Kd.R_elder' (by (with_reducible repeat (first | apply Kd.R_alloc | apply Kd.R_drewN | apply Kd.R_drew)); exact HO_13.out) (Kd.R_base ho1) hb); replace HO618 := Aside0.mk (Kd.R_elder' (by (with_reducible repeat (first | apply Kd.R_alloc | apply Kd.R_drewN | apply Kd.R_drew)); exact HO618.out) (Kd.R_base ho0) hb); replace HO620 := Aside0.mk (Kd.R_elder' (by (with_reducible repeat (first | apply Kd.R_alloc | apply Kd.R_drewN | apply Kd.R_drew)); exact HO620.out) (Kd.R_base ho1) hb); replace HB := bs_ w hb; (try clear hb); (try clear hb2); (try clear hk); (try clear hi); (try clear ho0); (try clear ho1)))
         go_ret
         exact fi_
       ·replace c42 := Bool.eq_false_iff.mpr c42
        subst c42
        replace H : (none) = some r := by rw [if_neg (show ¬ (false = true) by decide)] at H; exact H
        exact absurd H (by simp)
    ·rw [if_neg c25] at H
     have c25b0 : (t607 == 0) = false := beq_eq_false_iff_ne.mpr c25
     (try (have c24b9 : (decide (a3 ≤ t602)) = false := by (have q_ := c24b0; rw [c25b0] at q_; simpa using q_)))
     have c25b1 : (t607 != 0) = true := bne_iff_ne.mpr c25
     by_cases c66 : t600 = true
     ·subst c66
      replace H : (some (t607 == 6)) = some r := by rw [if_pos rfl] at H; exact H
      obtain rfl := Option.some.inj H
      go_wp2_with (first | ((with_reducible refine gate_callee (f := 19) rfl ?_); (try refine ug_ (by rfl) ?_); refine goesA_ (some 46) Try.func19 #[.slice A0 l0.length c0, .int .u64 a1, .slice A2 l2.length c2] ?_; (with_reducible refine (wait_Many.calls kj5 _ _ l0 a1 _ _ l2 t602 t603 _ ?side1 ?side2 ?side3 ?side4 A17.out).mono ?_); (case side1 => repeat (first | exact (Kd.C_below HR0.out HB.out) | (with_reducible refine Kd.C_alloc ?_ _) | (with_reducible refine Kd.C_drewN ?_ _) | (with_reducible refine Kd.C_drew ?_))); (case side2 => exact HC0.out); (case side3 => repeat (first | exact (Kd.C_below HR2.out HB.out) | (with_reducible refine Kd.C_alloc ?_ _) | (with_reducible refine Kd.C_drewN ?_ _) | (with_reducible refine Kd.C_drew ?_))); (case side4 => exact HC2.out); rintro e w67 ⟨rfl, hb⟩; refine ⟨_, rfl, ?_⟩; replace HB := bs_ w hb; clear hb; obtain ⟨i068, hi068, _, hsz68, _⟩ := info_parts info2; obtain ⟨hcut68, hA68, hC68⟩ := print_take_of (P := Try.prog) (Value.int .i64) 0 24 2 .i64 Try.underlying24 hi068 hsz68 A2 c2 l2 a3 (of_decide_eq_true (by first | (with_reducible assumption) | assumption)) (of_decide_eq_true (by first | (with_reducible assumption) | assumption)) HC2.out; have HR604 := Aside0.mk (Kd.C_of_reads (h1 := fun _ => rfl) (hA68 _ (Kd.reads_of_C HR2.out))); have HC604 := Aside0.mk hC68; clear hA68 hC68 hi068 hsz68) | ((with_reducible refine gate_callee (f := 15) rfl ?_); (try refine ug_ (by rfl) ?_); refine goesL_ (some 55) rfl rfl Try.func15 (by kernel_rfl) rfl #[.slice A0 l0.length c0, .int .u64 a1, .slice A2 (l2.take (a3 : Int).toNat).length c2] rfl (by (try simp only [List.map_toArray, List.map_cons, List.map_nil]); first | done | (rw [show (l2.take (a3 : Int).toNat).length = a3.toNat from (by rw [List.length_take]; have h_ : (a3 : Int) ≤ (l2.length : Int) := of_decide_eq_true (by first | (with_reducible assumption) | assumption); omega)] <;> rfl) | rfl | (simp only [List.length_drop, List.length_take]; rfl)) ?_; (with_reducible refine (wait_Plan.calls kj5 _ _ l0 a1 _ _ (l2.take (a3 : Int).toNat) t605 t606 t607 _ ?side1 ?side2 ?side3 ?side4 A20.out).mono ?_); (case side1 => repeat (first | exact (Kd.C_below HR0.out HB.out) | (with_reducible refine Kd.C_alloc ?_ _) | (with_reducible refine Kd.C_drewN ?_ _) | (with_reducible refine Kd.C_drew ?_))); (case side2 => exact HC0.out); (case side3 => repeat (first | exact (Kd.C_below HR604.out HB.out) | (with_reducible refine Kd.C_alloc ?_ _) | (with_reducible refine Kd.C_drewN ?_ _) | (with_reducible refine Kd.C_drew ?_))); (case side4 => exact HC604.out); rintro e w69 ⟨v608, v610, rfl, ho0, ho1, hb⟩; refine ⟨_, rfl, ?_⟩; have HO609 := Aside0.mk (Kd.R_lower ho0 (below_size (hq_ HB))); have HO611 := Aside0.mk (Kd.R_lower ho1 (below_size (hq_ HB))); replace HB := bs_ w hb; clear hb; (try clear ho0); (try clear ho1)))
      go_ret
      exact fi_
     ·replace c66 := Bool.eq_false_iff.mpr c66
      subst c66
      replace H : (none) = some r := by rw [if_neg (show ¬ (false = true) by decide)] at H; exact H
      exact absurd H (by simp)

end Go.Proofs.Ytfdpcnkghmmobaa.X
