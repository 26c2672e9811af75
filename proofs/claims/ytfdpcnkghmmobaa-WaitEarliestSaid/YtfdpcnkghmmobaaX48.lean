-- written by xprint.py, a program of this session over the kit's print
import Derived.Test.YtfdpcnkghmmobaaX0
import Derived.Test.YtfdpcnkghmmobaaX14
import Derived.Test.YtfdpcnkghmmobaaX18
import Derived.Test.YtfdpcnkghmmobaaX35
import Derived.Test.YtfdpcnkghmmobaaX37
import Derived.Test.YtfdpcnkghmmobaaX38
import Derived.Test.YtfdpcnkghmmobaaX43
namespace Go.Proofs.Ytfdpcnkghmmobaa.X
open Go.RowKit Go.Proofs.YtfdpcnkghmmobaaW.PrintWords Go.Proofs.YtfdpcnkghmmobaaW.PrintLast Go.Proofs.YtfdpcnkghmmobaaW.PrintMore
attribute [local go_sem] max2_int min2_int max_two min_two max_three min_three max_four min_four   -- for this text's walks alone
set_option linter.unusedVariables false
set_option linter.unusedSimpArgs false

/-! ### spigotlaw39_WaitEarliest: function 8 -/
mutual
def spigotlaw39_WaitEarliest.j0 : Nat → List (S63) → Int → List Int → List Int → Bool → Bool → Option (Bool)
  | 0, _, _, _, _, _, _ => none
  | k + 1, x0, x1, x2, x3, x9, x34 => if x34 = true then (some x9) else ((wait_Plan.f k x0 x1 x2).bind fun bt675 => ((wait_Fits.f k x0 x1 x2 x3).bind fun bt682 => (if bt682.2 = 0 then (if bt675.2.2 = 0 then (spigotlaw39_WaitEarliest.j1 k x0 x1 x2 x3 x9 bt675.1 bt675.2.1 bt675.2.2 bt682.1 false) else (if bt675.2.2 = 6 then (spigotlaw39_WaitEarliest.j1 k x0 x1 x2 x3 x9 bt675.1 bt675.2.1 bt675.2.2 bt682.1 bt682.1) else (spigotlaw39_WaitEarliest.j1 k x0 x1 x2 x3 x9 bt675.1 bt675.2.1 bt675.2.2 bt682.1 true))) else (none))))
def spigotlaw39_WaitEarliest.j1 : Nat → List (S63) → Int → List Int → List Int → Bool → List Int → List (S63) → Int → Bool → Bool → Option (Bool)
  | 0, _, _, _, _, _, _, _, _, _, _ => none
  | k + 1, x0, x1, x2, x3, x9, x10, x11, x12, x13, x64 => if x64 = true then (none) else (if x12 = 0 then ((wait_Fits.f k x0 x1 x2 x10).bind fun bt684 => ((levels_Run.f k x0 x10 x2).bind fun bt686 => (if bt684.2 = 0 then (if bt684.1 = true then (if (x10.length : Int) = (x2.length : Int) then (if bt686.2.2 = 0 then ((spigotref04_Same.f k bt686.1 x11).bind fun t693 => (if t693 = true then (if (bt686.2.1.length : Int) = (x2.length : Int) then (spigotlaw39_WaitEarliest.l0 k x1 x3 x9 x10 x13 bt686.2.1 0) else (none)) else (none))) else (none)) else (none)) else (none)) else (none)))) else (if x9 = true then (if (x10.length : Int) = 0 then (some ((x11.length : Int) == 0)) else (none)) else (none)))
def spigotlaw39_WaitEarliest.l0 : Nat → Int → List Int → Bool → List Int → Bool → List Bool → Int → Option (Bool)
  | 0, _, _, _, _, _, _, _ => none
  | k + 1, x1, x3, x9, x10, x13, x18, x20 => if x20 < (x10.length : Int) then (if 0 ≤ x20 then (if (rd x10 x20) < x1 then (none) else (if x20 > 0 then (if 0 ≤ (wrap64 (x20 - 1)) then (if (wrap64 (x20 - 1)) < (x10.length : Int) then (if (rd x10 x20) < (rd x10 (wrap64 (x20 - 1))) then (none) else (if x20 < (x18.length : Int) then (if rdOf false x18 x20 = true then (if x13 = true then (if (x3.length : Int) = (x10.length : Int) then (if x20 < (x3.length : Int) then (if (rd x3 x20) < (rd x10 x20) then (none) else (spigotlaw39_WaitEarliest.l0 k x1 x3 x9 x10 x13 x18 (wrap64 (x20 + 1)))) else (none)) else (none)) else (spigotlaw39_WaitEarliest.l0 k x1 x3 x9 x10 x13 x18 (wrap64 (x20 + 1)))) else (none)) else (none))) else (none)) else (none)) else (if x20 < (x18.length : Int) then (if rdOf false x18 x20 = true then (if x13 = true then (if (x3.length : Int) = (x10.length : Int) then (if x20 < (x3.length : Int) then (if (rd x3 x20) < (rd x10 x20) then (none) else (spigotlaw39_WaitEarliest.l0 k x1 x3 x9 x10 x13 x18 (wrap64 (x20 + 1)))) else (none)) else (none)) else (spigotlaw39_WaitEarliest.l0 k x1 x3 x9 x10 x13 x18 (wrap64 (x20 + 1)))) else (none)) else (none)))) else (none)) else (some x9)
end
def spigotlaw39_WaitEarliest.f (k : Nat) (l0 : List (S63)) (a1 : Int) (l2 : List Int) (l3 : List Int) : Option (Bool) := (spigotlaw39_alive.f k).bind fun t673 => ((spigotlaw39_fit.f k l0 l2).bind fun t674 => (if t674 = true then (if (l3.length : Int) > 60 then (spigotlaw39_WaitEarliest.j0 k l0 a1 l2 l3 t673 true) else (spigotlaw39_WaitEarliest.j0 k l0 a1 l2 l3 t673 (!t673))) else (spigotlaw39_WaitEarliest.j0 k l0 a1 l2 l3 t673 true)))
theorem spigotlaw39_WaitEarliest.mono_l : ∀ k, (∀ y0 y1 y2 y3 y4 y5, LeO (spigotlaw39_WaitEarliest.j0 k y0 y1 y2 y3 y4 y5) (spigotlaw39_WaitEarliest.j0 (k + 1) y0 y1 y2 y3 y4 y5)) ∧ (∀ y0 y1 y2 y3 y4 y5 y6 y7 y8 y9, LeO (spigotlaw39_WaitEarliest.j1 k y0 y1 y2 y3 y4 y5 y6 y7 y8 y9) (spigotlaw39_WaitEarliest.j1 (k + 1) y0 y1 y2 y3 y4 y5 y6 y7 y8 y9)) ∧ (∀ y0 y1 y2 y3 y4 y5 y6, LeO (spigotlaw39_WaitEarliest.l0 k y0 y1 y2 y3 y4 y5 y6) (spigotlaw39_WaitEarliest.l0 (k + 1) y0 y1 y2 y3 y4 y5 y6))
  | 0 => ⟨fun _ _ _ _ _ _ r h => by simp [spigotlaw39_WaitEarliest.j0] at h, fun _ _ _ _ _ _ _ _ _ _ r h => by simp [spigotlaw39_WaitEarliest.j1] at h, fun _ _ _ _ _ _ _ r h => by simp [spigotlaw39_WaitEarliest.l0] at h⟩
  | k + 1 => by
    obtain ⟨ih0, ih1, ih2⟩ := spigotlaw39_WaitEarliest.mono_l k
    refine ⟨?_, ?_, ?_⟩
    · intro y0 y1 y2 y3 y4 y5
      unfold spigotlaw39_WaitEarliest.j0
      repeat' first
      | (with_reducible exact ih0 _ _ _ _ _ _)
      | (with_reducible exact ih1 _ _ _ _ _ _ _ _ _ _)
      | (with_reducible exact ih2 _ _ _ _ _ _ _)
      | (with_reducible exact levels_Run.mono _ _ _ _)
      | (with_reducible exact spigotlaw39_alive.mono _)
      | (with_reducible exact spigotlaw39_fit.mono _ _ _)
      | (with_reducible exact spigotref04_Same.mono _ _ _)
      | (with_reducible exact wait_Fits.mono _ _ _ _ _)
      | (with_reducible exact wait_Plan.mono _ _ _ _)
      | (with_reducible exact LeO.refl _)
      | (with_reducible exact LeO.none _)
      | (with_reducible refine LeO.ite ?_ ?_)
      | (with_reducible refine LeO.bind ?_ (fun _ => ?_))
      | exact ih0 _ _ _ _ _ _
      | exact ih1 _ _ _ _ _ _ _ _ _ _
      | exact ih2 _ _ _ _ _ _ _
      | exact levels_Run.mono _ _ _ _
      | exact spigotlaw39_alive.mono _
      | exact spigotlaw39_fit.mono _ _ _
      | exact spigotref04_Same.mono _ _ _
      | exact wait_Fits.mono _ _ _ _ _
      | exact wait_Plan.mono _ _ _ _
      | exact LeO.none _
      | refine LeO.ite ?_ ?_
      | refine LeO.bind ?_ (fun _ => ?_)
    · intro y0 y1 y2 y3 y4 y5 y6 y7 y8 y9
      unfold spigotlaw39_WaitEarliest.j1
      repeat' first
      | (with_reducible exact ih0 _ _ _ _ _ _)
      | (with_reducible exact ih1 _ _ _ _ _ _ _ _ _ _)
      | (with_reducible exact ih2 _ _ _ _ _ _ _)
      | (with_reducible exact levels_Run.mono _ _ _ _)
      | (with_reducible exact spigotlaw39_alive.mono _)
      | (with_reducible exact spigotlaw39_fit.mono _ _ _)
      | (with_reducible exact spigotref04_Same.mono _ _ _)
      | (with_reducible exact wait_Fits.mono _ _ _ _ _)
      | (with_reducible exact wait_Plan.mono _ _ _ _)
      | (with_reducible exact LeO.refl _)
      | (with_reducible exact LeO.none _)
      | (with_reducible refine LeO.ite ?_ ?_)
      | (with_reducible refine LeO.bind ?_ (fun _ => ?_))
      | exact ih0 _ _ _ _ _ _
      | exact ih1 _ _ _ _ _ _ _ _ _ _
      | exact ih2 _ _ _ _ _ _ _
      | exact levels_Run.mono _ _ _ _
      | exact spigotlaw39_alive.mono _
      | exact spigotlaw39_fit.mono _ _ _
      | exact spigotref04_Same.mono _ _ _
      | exact wait_Fits.mono _ _ _ _ _
      | exact wait_Plan.mono _ _ _ _
      | exact LeO.none _
      | refine LeO.ite ?_ ?_
      | refine LeO.bind ?_ (fun _ => ?_)
    · intro y0 y1 y2 y3 y4 y5 y6
      unfold spigotlaw39_WaitEarliest.l0
      repeat' first
      | (with_reducible exact ih0 _ _ _ _ _ _)
      | (with_reducible exact ih1 _ _ _ _ _ _ _ _ _ _)
      | (with_reducible exact ih2 _ _ _ _ _ _ _)
      | (with_reducible exact levels_Run.mono _ _ _ _)
      | (with_reducible exact spigotlaw39_alive.mono _)
      | (with_reducible exact spigotlaw39_fit.mono _ _ _)
      | (with_reducible exact spigotref04_Same.mono _ _ _)
      | (with_reducible exact wait_Fits.mono _ _ _ _ _)
      | (with_reducible exact wait_Plan.mono _ _ _ _)
      | (with_reducible exact LeO.refl _)
      | (with_reducible exact LeO.none _)
      | (with_reducible refine LeO.ite ?_ ?_)
      | (with_reducible refine LeO.bind ?_ (fun _ => ?_))
      | exact ih0 _ _ _ _ _ _
      | exact ih1 _ _ _ _ _ _ _ _ _ _
      | exact ih2 _ _ _ _ _ _ _
      | exact levels_Run.mono _ _ _ _
      | exact spigotlaw39_alive.mono _
      | exact spigotlaw39_fit.mono _ _ _
      | exact spigotref04_Same.mono _ _ _
      | exact wait_Fits.mono _ _ _ _ _
      | exact wait_Plan.mono _ _ _ _
      | exact LeO.none _
      | refine LeO.ite ?_ ?_
      | refine LeO.bind ?_ (fun _ => ?_)
theorem spigotlaw39_WaitEarliest.mono : ∀ a0 a1 a2 a3 k, LeO (spigotlaw39_WaitEarliest.f k a0 a1 a2 a3) (spigotlaw39_WaitEarliest.f (k + 1) a0 a1 a2 a3) := by
  intro a0 a1 a2 a3 k
  obtain ⟨ih0, ih1, ih2⟩ := spigotlaw39_WaitEarliest.mono_l k
  unfold spigotlaw39_WaitEarliest.f
  repeat' first
      | (with_reducible exact ih0 _ _ _ _ _ _)
      | (with_reducible exact ih1 _ _ _ _ _ _ _ _ _ _)
      | (with_reducible exact ih2 _ _ _ _ _ _ _)
      | (with_reducible exact levels_Run.mono _ _ _ _)
      | (with_reducible exact spigotlaw39_alive.mono _)
      | (with_reducible exact spigotlaw39_fit.mono _ _ _)
      | (with_reducible exact spigotref04_Same.mono _ _ _)
      | (with_reducible exact wait_Fits.mono _ _ _ _ _)
      | (with_reducible exact wait_Plan.mono _ _ _ _)
      | (with_reducible exact LeO.refl _)
      | (with_reducible exact LeO.none _)
      | (with_reducible refine LeO.ite ?_ ?_)
      | (with_reducible refine LeO.bind ?_ (fun _ => ?_))
      | exact ih0 _ _ _ _ _ _
      | exact ih1 _ _ _ _ _ _ _ _ _ _
      | exact ih2 _ _ _ _ _ _ _
      | exact levels_Run.mono _ _ _ _
      | exact spigotlaw39_alive.mono _
      | exact spigotlaw39_fit.mono _ _ _
      | exact spigotref04_Same.mono _ _ _
      | exact wait_Fits.mono _ _ _ _ _
      | exact wait_Plan.mono _ _ _ _
      | exact LeO.none _
      | refine LeO.ite ?_ ?_
      | refine LeO.bind ?_ (fun _ => ?_)
set_option maxHeartbeats 8000000 in
set_option maxRecDepth 100000 in
theorem spigotlaw39_WaitEarliest.calls (k : Nat) (A0 : Option Addr) (c0 : Nat) (l0 : List (S63)) (a1 : Int) (A2 : Option Addr) (c2 : Nat) (l2 : List Int) (A3 : Option Addr) (c3 : Nat) (l3 : List Int) (r : Bool) (w : World) (hr0 : Kd.C k63 w A0 l0.length l0) (hc0 : l0.length ≤ c0) (hr2 : Kd.C (Kd.int .i64) w A2 l2.length l2) (hc2 : l2.length ≤ c2) (hr3 : Kd.C (Kd.int .u64) w A3 l3.length l3) (hc3 : l3.length ≤ c3) (h : spigotlaw39_WaitEarliest.f k l0 a1 l2 l3 = some r) :
  Calls Try.prog 8 #[.slice A0 l0.length c0, .int .u64 a1, .slice A2 l2.length c2, .slice A3 l3.length c3] w fun e w' => e = .returned (.bool r) ∧ Below w.heap.size w w' := by
 have HR0 := Aside0.mk hr0
 have HC0 := Aside0.mk hc0
 clear hr0 hc0
 have HR2 := Aside0.mk hr2
 have HC2 := Aside0.mk hc2
 clear hr2 hc2
 have HR3 := Aside0.mk hr3
 have HC3 := Aside0.mk hc3
 clear hr3 hc3
 have HB := Aside0.mk (Below.refl w.heap.size w)
 have H : ((spigotlaw39_alive.f k).bind fun t673 => ((spigotlaw39_fit.f k l0 l2).bind fun t674 => (if t674 = true then (if (l3.length : Int) > 60 then (spigotlaw39_WaitEarliest.j0 k l0 a1 l2 l3 t673 true) else (spigotlaw39_WaitEarliest.j0 k l0 a1 l2 l3 t673 (!t673))) else (spigotlaw39_WaitEarliest.j0 k l0 a1 l2 l3 t673 true)))) = some r := h
 clear h
 obtain ⟨t673, A5, H⟩ := bo_ H
 try dsimp only at H
 have HC6 := Aside0.mk H
 clear H
 go_enter Try.func8, Try.ntmps8
 go_upto_region 2 with (first | (go_at_call 13; (with_reducible refine (spigotlaw39_alive.calls k  t673 _ A5.out).mono ?_); rintro e w7 ⟨rfl, hb⟩; replace HB := bs_ w hb; clear hb))
 repeat (go_quiet (first | (go_at_call 13; (with_reducible refine (spigotlaw39_alive.calls k  t673 _ A5.out).mono ?_); rintro e w7 ⟨rfl, hb⟩; replace HB := bs_ w hb; clear hb)); go_upto_region 2 with (first | (go_at_call 13; (with_reducible refine (spigotlaw39_alive.calls k  t673 _ A5.out).mono ?_); rintro e w7 ⟨rfl, hb⟩; replace HB := bs_ w hb; clear hb)))
 (try simp only [Act.put, List.setIfInBounds_toArray, List.set_cons_zero, List.set_cons_succ])
 go_cut [34] (fun v34 wc => ∃ (kq : Nat) (x34_5 : Bool), v34 = .bool x34_5 ∧ Aside0 (spigotlaw39_WaitEarliest.j0 kq l0 a1 l2 l3 t673 x34_5 = some r) ∧ Aside0 (kq ≤ k) ∧ Aside0 (Below w.heap.size w wc))
 case first =>
  have H := HC6.out
  clear HC6
  obtain ⟨t674, A8, H⟩ := bo_ H
  try dsimp only at H
  by_cases c9 : t674 = true
  ·subst c9
   rw [if_pos rfl] at H
   try dsimp only at H
   by_cases c10 : (l3.length : Int) > 60
   ·rw [if_pos c10] at H
    have c10b0 : decide (60 < (l3.length : Int)) = true := decide_eq_true c10
    have c10b1 : decide (60 < l3.length) = true := decide_eq_true (by omega)
    clear c10
    (first | rw [c10b0] | (simp only [i64_w, i32_w]; rw [c10b0]) | skip)
    have H' := Aside0.mk H
    clear H
    go_wp2_with (first | (go_at_call 14; (with_reducible refine (spigotlaw39_fit.calls k _ _ l0 _ _ l2 true _ ?side1 ?side2 ?side3 ?side4 A8.out).mono ?_); (case side1 => repeat (first | exact (Kd.C_below HR0.out HB.out) | (with_reducible refine Kd.C_alloc ?_ _) | (with_reducible refine Kd.C_drewN ?_ _) | (with_reducible refine Kd.C_drew ?_))); (case side2 => exact HC0.out); (case side3 => repeat (first | exact (Kd.C_below HR2.out HB.out) | (with_reducible refine Kd.C_alloc ?_ _) | (with_reducible refine Kd.C_drewN ?_ _) | (with_reducible refine Kd.C_drew ?_))); (case side4 => exact HC2.out); rintro e w11 ⟨rfl, hb⟩; replace HB := bs_ w hb; clear hb))
    repeat (go_quiet (first | (go_at_call 14; (with_reducible refine (spigotlaw39_fit.calls k _ _ l0 _ _ l2 true _ ?side1 ?side2 ?side3 ?side4 A8.out).mono ?_); (case side1 => repeat (first | exact (Kd.C_below HR0.out HB.out) | (with_reducible refine Kd.C_alloc ?_ _) | (with_reducible refine Kd.C_drewN ?_ _) | (with_reducible refine Kd.C_drew ?_))); (case side2 => exact HC0.out); (case side3 => repeat (first | exact (Kd.C_below HR2.out HB.out) | (with_reducible refine Kd.C_alloc ?_ _) | (with_reducible refine Kd.C_drewN ?_ _) | (with_reducible refine Kd.C_drew ?_))); (case side4 => exact HC2.out); rintro e w11 ⟨rfl, hb⟩; replace HB := bs_ w hb; clear hb)); try go_wp2_with (first | (go_at_call 14; (with_reducible refine (spigotlaw39_fit.calls k _ _ l0 _ _ l2 true _ ?side1 ?side2 ?side3 ?side4 A8.out).mono ?_); (case side1 => repeat (first | exact (Kd.C_below HR0.out HB.out) | (with_reducible refine Kd.C_alloc ?_ _) | (with_reducible refine Kd.C_drewN ?_ _) | (with_reducible refine Kd.C_drew ?_))); (case side2 => exact HC0.out); (case side3 => repeat (first | exact (Kd.C_below HR2.out HB.out) | (with_reducible refine Kd.C_alloc ?_ _) | (with_reducible refine Kd.C_drewN ?_ _) | (with_reducible refine Kd.C_drew ?_))); (case side4 => exact HC2.out); rintro e w11 ⟨rfl, hb⟩; replace HB := bs_ w hb; clear hb)))
    go_meet
    case rel => exact ⟨_, (true), rf_, H', al_, bw_⟩
   ·rw [if_neg c10] at H
    have c10b0 : decide (60 < (l3.length : Int)) = false := decide_eq_false c10
    have c10b1 : decide (60 < l3.length) = false := decide_eq_false (by omega)
    clear c10
    (first | rw [c10b0] | (simp only [i64_w, i32_w]; rw [c10b0]) | skip)
    have H' := Aside0.mk H
    clear H
    go_wp2_with (first | (go_at_call 14; (with_reducible refine (spigotlaw39_fit.calls k _ _ l0 _ _ l2 true _ ?side1 ?side2 ?side3 ?side4 A8.out).mono ?_); (case side1 => repeat (first | exact (Kd.C_below HR0.out HB.out) | (with_reducible refine Kd.C_alloc ?_ _) | (with_reducible refine Kd.C_drewN ?_ _) | (with_reducible refine Kd.C_drew ?_))); (case side2 => exact HC0.out); (case side3 => repeat (first | exact (Kd.C_below HR2.out HB.out) | (with_reducible refine Kd.C_alloc ?_ _) | (with_reducible refine Kd.C_drewN ?_ _) | (with_reducible refine Kd.C_drew ?_))); (case side4 => exact HC2.out); rintro e w12 ⟨rfl, hb⟩; replace HB := bs_ w hb; clear hb))
    repeat (go_quiet (first | (go_at_call 14; (with_reducible refine (spigotlaw39_fit.calls k _ _ l0 _ _ l2 true _ ?side1 ?side2 ?side3 ?side4 A8.out).mono ?_); (case side1 => repeat (first | exact (Kd.C_below HR0.out HB.out) | (with_reducible refine Kd.C_alloc ?_ _) | (with_reducible refine Kd.C_drewN ?_ _) | (with_reducible refine Kd.C_drew ?_))); (case side2 => exact HC0.out); (case side3 => repeat (first | exact (Kd.C_below HR2.out HB.out) | (with_reducible refine Kd.C_alloc ?_ _) | (with_reducible refine Kd.C_drewN ?_ _) | (with_reducible refine Kd.C_drew ?_))); (case side4 => exact HC2.out); rintro e w12 ⟨rfl, hb⟩; replace HB := bs_ w hb; clear hb)); try go_wp2_with (first | (go_at_call 14; (with_reducible refine (spigotlaw39_fit.calls k _ _ l0 _ _ l2 true _ ?side1 ?side2 ?side3 ?side4 A8.out).mono ?_); (case side1 => repeat (first | exact (Kd.C_below HR0.out HB.out) | (with_reducible refine Kd.C_alloc ?_ _) | (with_reducible refine Kd.C_drewN ?_ _) | (with_reducible refine Kd.C_drew ?_))); (case side2 => exact HC0.out); (case side3 => repeat (first | exact (Kd.C_below HR2.out HB.out) | (with_reducible refine Kd.C_alloc ?_ _) | (with_reducible refine Kd.C_drewN ?_ _) | (with_reducible refine Kd.C_drew ?_))); (case side4 => exact HC2.out); rintro e w12 ⟨rfl, hb⟩; replace HB := bs_ w hb; clear hb)))
    go_meet
    case rel => exact ⟨_, (!t673), rf_, H', al_, bw_⟩
  ·replace c9 := Bool.eq_false_iff.mpr c9
   subst c9
   rw [if_neg (show ¬ (false = true) by decide)] at H
   try dsimp only at H
   have H' := Aside0.mk H
   clear H
   go_wp2_with (first | (go_at_call 14; (with_reducible refine (spigotlaw39_fit.calls k _ _ l0 _ _ l2 false _ ?side1 ?side2 ?side3 ?side4 A8.out).mono ?_); (case side1 => repeat (first | exact (Kd.C_below HR0.out HB.out) | (with_reducible refine Kd.C_alloc ?_ _) | (with_reducible refine Kd.C_drewN ?_ _) | (with_reducible refine Kd.C_drew ?_))); (case side2 => exact HC0.out); (case side3 => repeat (first | exact (Kd.C_below HR2.out HB.out) | (with_reducible refine Kd.C_alloc ?_ _) | (with_reducible refine Kd.C_drewN ?_ _) | (with_reducible refine Kd.C_drew ?_))); (case side4 => exact HC2.out); rintro e w13 ⟨rfl, hb⟩; replace HB := bs_ w hb; clear hb))
   repeat (go_quiet (first | (go_at_call 14; (with_reducible refine (spigotlaw39_fit.calls k _ _ l0 _ _ l2 false _ ?side1 ?side2 ?side3 ?side4 A8.out).mono ?_); (case side1 => repeat (first | exact (Kd.C_below HR0.out HB.out) | (with_reducible refine Kd.C_alloc ?_ _) | (with_reducible refine Kd.C_drewN ?_ _) | (with_reducible refine Kd.C_drew ?_))); (case side2 => exact HC0.out); (case side3 => repeat (first | exact (Kd.C_below HR2.out HB.out) | (with_reducible refine Kd.C_alloc ?_ _) | (with_reducible refine Kd.C_drewN ?_ _) | (with_reducible refine Kd.C_drew ?_))); (case side4 => exact HC2.out); rintro e w13 ⟨rfl, hb⟩; replace HB := bs_ w hb; clear hb)); try go_wp2_with (first | (go_at_call 14; (with_reducible refine (spigotlaw39_fit.calls k _ _ l0 _ _ l2 false _ ?side1 ?side2 ?side3 ?side4 A8.out).mono ?_); (case side1 => repeat (first | exact (Kd.C_below HR0.out HB.out) | (with_reducible refine Kd.C_alloc ?_ _) | (with_reducible refine Kd.C_drewN ?_ _) | (with_reducible refine Kd.C_drew ?_))); (case side2 => exact HC0.out); (case side3 => repeat (first | exact (Kd.C_below HR2.out HB.out) | (with_reducible refine Kd.C_alloc ?_ _) | (with_reducible refine Kd.C_drewN ?_ _) | (with_reducible refine Kd.C_drew ?_))); (case side4 => exact HC2.out); rintro e w13 ⟨rfl, hb⟩; replace HB := bs_ w hb; clear hb)))
   go_meet
   case rel => exact ⟨_, (true), rf_, H', al_, bw_⟩
 case rest =>
  clear HC6
  try clear c2
  try clear c3
  obtain ⟨kq, x34_5, rfl, HA, HJ5, HB⟩ := hcut
  cases kq with
  | zero => exact absurd HA.out (by simp [spigotlaw39_WaitEarliest.j0])
  | succ kj5 =>
   have H := HA.out
   clear HA
   simp only [spigotlaw39_WaitEarliest.j0] at H
   by_cases c14 : x34_5 = true
   ·subst c14
    replace H : (some t673) = some r := by rw [if_pos rfl] at H; exact H
    obtain rfl := Option.some.inj H
    go_wp2
    repeat (go_quiet (fail); try go_wp2)
    go_ret
    exact fi_
   ·replace c14 := Bool.eq_false_iff.mpr c14
    subst c14
    rw [if_neg (show ¬ (false = true) by decide)] at H
    try dsimp only at H
    obtain ⟨⟨t675, t676, t677⟩, A15, H⟩ := bo_ H
    try dsimp only at H
    obtain ⟨⟨t682, t683⟩, A16, H⟩ := bo_ H
    try dsimp only at H
    have HC17 := Aside0.mk H
    clear H
    go_upto_region 6 with (first | (go_at_call 15; (with_reducible refine (wait_Plan.calls kj5 _ _ l0 a1 _ _ l2 t675 t676 t677 _ ?side1 ?side2 ?side3 ?side4 A15.out).mono ?_); (case side1 => repeat (first | exact (Kd.C_below HR0.out HB.out) | (with_reducible refine Kd.C_alloc ?_ _) | (with_reducible refine Kd.C_drewN ?_ _) | (with_reducible refine Kd.C_drew ?_))); (case side2 => exact HC0.out); (case side3 => repeat (first | exact (Kd.C_below HR2.out HB.out) | (with_reducible refine Kd.C_alloc ?_ _) | (with_reducible refine Kd.C_drewN ?_ _) | (with_reducible refine Kd.C_drew ?_))); (case side4 => exact HC2.out); rintro e w18 ⟨v678, v680, rfl, ho0, ho1, hb⟩; have HO679 := Aside0.mk (Kd.R_lower ho0 (below_size (hq_ HB))); have HO681 := Aside0.mk (Kd.R_lower ho1 (below_size (hq_ HB))); replace HB := bs_ w hb; (try clear hb); (try clear hb2); (try clear hk); (try clear hi); (try clear ho0); (try clear ho1)) | (go_at_call 11; (with_reducible refine (wait_Fits.calls kj5 _ _ l0 a1 _ _ l2 _ _ l3 t682 t683 _ ?side1 ?side2 ?side3 ?side4 ?side5 ?side6 A16.out).mono ?_); (case side1 => repeat (first | exact (Kd.C_below HR0.out HB.out) | (with_reducible refine Kd.C_alloc ?_ _) | (with_reducible refine Kd.C_drewN ?_ _) | (with_reducible refine Kd.C_drew ?_))); (case side2 => exact HC0.out); (case side3 => repeat (first | exact (Kd.C_below HR2.out HB.out) | (with_reducible refine Kd.C_alloc ?_ _) | (with_reducible refine Kd.C_drewN ?_ _) | (with_reducible refine Kd.C_drew ?_))); (case side4 => exact HC2.out); (case side5 => repeat (first | exact (Kd.C_below HR3.out HB.out) | (with_reducible refine Kd.C_alloc ?_ _) | (with_reducible refine Kd.C_drewN ?_ _) | (with_reducible refine Kd.C_drew ?_))); (case side6 => exact HC3.out); rintro e w19 ⟨rfl, hb⟩; replace HO679 := Aside0.mk (Kd.R_below (by (with_reducible repeat (first | apply Kd.R_alloc | apply Kd.R_drewN | apply Kd.R_drew)); exact HO679.out) hb); replace HO681 := Aside0.mk (Kd.R_below (by (with_reducible repeat (first | apply Kd.R_alloc | apply Kd.R_drewN | apply Kd.R_drew)); exact HO681.out) hb); replace HB := bs_ w hb; clear hb))
    repeat (go_quiet (first | (go_at_call 15; (with_reducible refine (wait_Plan.calls kj5 _ _ l0 a1 _ _ l2 t675 t676 t677 _ ?side1 ?side2 ?side3 ?side4 A15.out).mono ?_); (case side1 => repeat (first | exact (Kd.C_below HR0.out HB.out) | (with_reducible refine Kd.C_alloc ?_ _) | (with_reducible refine Kd.C_drewN ?_ _) | (with_reducible refine Kd.C_drew ?_))); (case side2 => exact HC0.out); (case side3 => repeat (first | exact (Kd.C_below HR2.out HB.out) | (with_reducible refine Kd.C_alloc ?_ _) | (with_reducible refine Kd.C_drewN ?_ _) | (with_reducible refine Kd.C_drew ?_))); (case side4 => exact HC2.out); rintro e w18 ⟨v678, v680, rfl, ho0, ho1, hb⟩; have HO679 := Aside0.mk (Kd.R_lower ho0 (below_size (hq_ HB))); have HO681 := Aside0.mk (Kd.R_lower ho1 (below_size (hq_ HB))); replace HB := bs_ w hb; (try clear hb); (try clear hb2); (try clear hk); (try clear hi); (try clear ho0); (try clear ho1)) | (go_at_call 11; (with_reducible refine (wait_Fits.calls kj5 _ _ l0 a1 _ _ l2 _ _ l3 t682 t683 _ ?side1 ?side2 ?side3 ?side4 ?side5 ?side6 A16.out).mono ?_); (case side1 => repeat (first | exact (Kd.C_below HR0.out HB.out) | (with_reducible refine Kd.C_alloc ?_ _) | (with_reducible refine Kd.C_drewN ?_ _) | (with_reducible refine Kd.C_drew ?_))); (case side2 => exact HC0.out); (case side3 => repeat (first | exact (Kd.C_below HR2.out HB.out) | (with_reducible refine Kd.C_alloc ?_ _) | (with_reducible refine Kd.C_drewN ?_ _) | (with_reducible refine Kd.C_drew ?_))); (case side4 => exact HC2.out); (case side5 => repeat (first | exact (Kd.C_below HR3.out HB.out) | (with_reducible refine Kd.C_alloc ?_ _) | (with_reducible refine Kd.C_drewN ?_ _) | (with_reducible refine Kd.C_drew ?_))); (case side6 => exact HC3.out); rintro e w19 ⟨rfl, hb⟩; replace HO679 := Aside0.mk (Kd.R_below (by (with_reducible repeat (first | apply Kd.R_alloc | apply Kd.R_drewN | apply Kd.R_drew)); exact HO679.out) hb); replace HO681 := Aside0.mk (Kd.R_below (by (with_reducible repeat (first | apply Kd.R_alloc | apply Kd.R_drewN | apply Kd.R_drew)); exact HO681.out) hb); replace HB := bs_ w hb; clear hb)); go_upto_region 6 with (first | (go_at_call 15; (with_reducible refine (wait_Plan.calls kj5 _ _ l0 a1 _ _ l2 t675 t676 t677 _ ?side1 ?side2 ?side3 ?side4 A15.out).mono ?_); (case side1 => repeat (first | exact (Kd.C_below HR0.out HB.out) | (with_reducible refine Kd.C_alloc ?_ _) | (with_reducible refine Kd.C_drewN ?_ _) | (with_reducible refine Kd.C_drew ?_))); (case side2 => exact HC0.out); (case side3 => repeat (first | exact (Kd.C_below HR2.out HB.out) | (with_reducible refine Kd.C_alloc ?_ _) | (with_reducible refine Kd.C_drewN ?_ _) | (with_reducible refine Kd.C_drew ?_))); (case side4 => exact HC2.out); rintro e w18 ⟨v678, v680, rfl, ho0, ho1, hb⟩; have HO679 := Aside0.mk (Kd.R_lower ho0 (below_size (hq_ HB))); have HO681 := Aside0.mk (Kd.R_lower ho1 (below_size (hq_ HB))); replace HB := bs_ w hb; (try clear hb); (try clear hb2); (try clear hk); (try clear hi); (try clear ho0); (try clear ho1)) | (go_at_call 11; (with_reducible refine (wait_Fits.calls kj5 _ _ l0 a1 _ _ l2 _ _ l3 t682 t683 _ ?side1 ?side2 ?side3 ?side4 ?side5 ?side6 A16.out).mono ?_); (case side1 => repeat (first | exact (Kd.C_below HR0.out HB.out) | (with_reducible refine Kd.C_alloc ?_ _) | (with_reducible refine Kd.C_drewN ?_ _) | (with_reducible refine Kd.C_drew ?_))); (case side2 => exact HC0.out); (case side3 => repeat (first | exact (Kd.C_below HR2.out HB.out) | (with_reducible refine Kd.C_alloc ?_ _) | (with_reducible refine Kd.C_drewN ?_ _) | (with_reducible refine Kd.C_drew ?_))); (case side4 => exact HC2.out); (case side5 => repeat (first | exact (Kd.C_below HR3.out HB.out) | (with_reducible refine Kd.C_alloc ?_ _) | (with_reducible refine Kd.C_drewN ?_ _) | (with_reducible refine Kd.C_drew ?_))); (case side6 => exact HC3.out); rintro e w19 ⟨rfl, hb⟩; replace HO679 := Aside0.mk (Kd.R_below (by (with_reducible repeat (first | apply Kd.R_alloc | apply Kd.R_drewN | apply Kd.R_drew)); exact HO679.out) hb); replace HO681 := Aside0.mk (Kd.R_below (by (with_reducible repeat (first | apply Kd.R_alloc | apply Kd.R_drewN | apply Kd.R_drew)); exact HO681.out) hb); replace HB := bs_ w hb; clear hb)))
    (try simp only [Act.put, List.setIfInBounds_toArray, List.set_cons_zero, List.set_cons_succ])
    go_cut [64] (fun v64 wc => ∃ (kq : Nat) (x64_16 : Bool), v64 = .bool x64_16 ∧ Aside0 (spigotlaw39_WaitEarliest.j1 kq l0 a1 l2 l3 t673 t675 t676 t677 t682 x64_16 = some r) ∧ Aside0 (kq ≤ kj5) ∧ Aside0 (Kd.R (Kd.int .u64) 23 wc w.heap.size (fun _ => True) v678 t675) ∧ Aside0 (Kd.R k63 63 wc w.heap.size (fun _ => True) v680 t676) ∧ Aside0 (Below w.heap.size w wc))
    case first =>
     have H := HC17.out
     clear HC17
     by_cases c20 : t683 = 0
     rotate_left
     ·rw [if_neg c20] at H; exact absurd H (by simp)
     rw [if_pos c20] at H
     have c20b0 : (t683 == 0) = true := beq_iff_eq.mpr c20
     have c20b1 : (t683 != 0) = false := bne_eq_false_iff_eq.mpr c20
     clear c20
     (first | rw [c20b0] | (simp only [i64_w, i32_w]; rw [c20b0]) | skip)
     by_cases c21 : t677 = 0
     ·rw [if_pos c21] at H
      have c21b0 : (t677 == 0) = true := beq_iff_eq.mpr c21
      have c21b1 : (t677 != 0) = false := bne_eq_false_iff_eq.mpr c21
      clear c21
      have H' := Aside0.mk H
      clear H
      go_wp2
      repeat (go_quiet (fail); try go_wp2)
      go_meet
      case rel => exact ⟨_, (false), rf_, H', ⟨by have := HJ5.out; first | omega | exact Nat.le_refl _⟩, ⟨by (with_reducible repeat (first | apply Kd.R_alloc | apply Kd.R_drewN | apply Kd.R_drew)); exact HO679.out⟩, ⟨by (with_reducible repeat (first | apply Kd.R_alloc | apply Kd.R_drewN | apply Kd.R_drew)); exact HO681.out⟩, bw_⟩
     ·rw [if_neg c21] at H
      have c21b0 : (t677 == 0) = false := beq_eq_false_iff_ne.mpr c21
      have c21b1 : (t677 != 0) = true := bne_iff_ne.mpr c21
      by_cases c22 : t677 = 6
      ·rw [if_pos c22] at H
       have c22b0 : (t677 == 6) = true := beq_iff_eq.mpr c22
       have c22b1 : (t677 != 6) = false := bne_eq_false_iff_eq.mpr c22
       clear c22
       have H' := Aside0.mk H
       clear H
       go_wp2
       repeat (go_quiet (fail); try go_wp2)
       go_meet
       case rel => exact ⟨_, (t682), rf_, H', ⟨by have := HJ5.out; first | omega | exact Nat.le_refl _⟩, ⟨by (with_reducible repeat (first | apply Kd.R_alloc | apply Kd.R_drewN | apply Kd.R_drew)); exact HO679.out⟩, ⟨by (with_reducible repeat (first | apply Kd.R_alloc | apply Kd.R_drewN | apply Kd.R_drew)); exact HO681.out⟩, bw_⟩
      ·rw [if_neg c22] at H
       have c22b0 : (t677 == 6) = false := beq_eq_false_iff_ne.mpr c22
       have c22b1 : (t677 != 6) = true := bne_iff_ne.mpr c22
       have H' := Aside0.mk H
       clear H
       go_wp2
       repeat (go_quiet (fail); try go_wp2)
       go_meet
       case rel => exact ⟨_, (true), rf_, H', ⟨by have := HJ5.out; first | omega | exact Nat.le_refl _⟩, ⟨by (with_reducible repeat (first | apply Kd.R_alloc | apply Kd.R_drewN | apply Kd.R_drew)); exact HO679.out⟩, ⟨by (with_reducible repeat (first | apply Kd.R_alloc | apply Kd.R_drewN | apply Kd.R_drew)); exact HO681.out⟩, bw_⟩
    case rest =>
     clear HC17
     try clear c2
     try clear c3
     try clear c14
     obtain ⟨kq, x64_16, rfl, HA, HJ16, HO_10, HO_11, HB⟩ := hcut
     cases kq with
     | zero => exact absurd HA.out (by simp [spigotlaw39_WaitEarliest.j1])
     | succ kj16 =>
      have H := HA.out
      clear HA
      simp only [spigotlaw39_WaitEarliest.j1] at H
      by_cases c23 : x64_16 = true
      ·subst c23
       replace H : (none) = some r := by rw [if_pos rfl] at H; exact H
       exact absurd H (by simp)
      ·replace c23 := Bool.eq_false_iff.mpr c23
       subst c23
       rw [if_neg (show ¬ (false = true) by decide)] at H
       try dsimp only at H
       by_cases c24 : t677 = 0
       ·rw [if_pos c24] at H
        have c24b0 : (t677 == 0) = true := beq_iff_eq.mpr c24
        have c24b1 : (t677 != 0) = false := bne_eq_false_iff_eq.mpr c24
        clear c24
        obtain ⟨⟨t684, t685⟩, A25, H⟩ := bo_ H
        try dsimp only at H
        obtain ⟨⟨t686, t687, t688⟩, A26, H⟩ := bo_ H
        try dsimp only at H
        by_cases c27 : t685 = 0
        rotate_left
        ·rw [if_neg c27] at H; exact absurd H (by simp)
        rw [if_pos c27] at H
        have c27b0 : (t685 == 0) = true := beq_iff_eq.mpr c27
        have c27b1 : (t685 != 0) = false := bne_eq_false_iff_eq.mpr c27
        clear c27
        by_cases c28 : t684 = true
        ·subst c28
         rw [if_pos rfl] at H
         try dsimp only at H
         by_cases c29 : (t675.length : Int) = (l2.length : Int)
         rotate_left
         ·rw [if_neg c29] at H; exact absurd H (by simp)
         rw [if_pos c29] at H
         have c29b0 : ((t675.length : Int) == (l2.length : Int)) = true := beq_iff_eq.mpr c29
         have c29b1 : ((t675.length : Int) != (l2.length : Int)) = false := bne_eq_false_iff_eq.mpr c29
         have c29b2 : (t675.length == l2.length) = true := by first | simpa using c29 | (simp at c29 ⊢; omega)
         clear c29
         by_cases c30 : t688 = 0
         rotate_left
         ·rw [if_neg c30] at H; exact absurd H (by simp)
         rw [if_pos c30] at H
         have c30b0 : (t688 == 0) = true := beq_iff_eq.mpr c30
         have c30b1 : (t688 != 0) = false := bne_eq_false_iff_eq.mpr c30
         clear c30
         obtain ⟨t693, A31, H⟩ := bo_ H
         try dsimp only at H
         by_cases c32 : t693 = true
         ·subst c32
          rw [if_pos rfl] at H
          try dsimp only at H
          by_cases c33 : (t687.length : Int) = (l2.length : Int)
          rotate_left
          ·rw [if_neg c33] at H; exact absurd H (by simp)
          rw [if_pos c33] at H
          have c33b0 : ((t687.length : Int) == (l2.length : Int)) = true := beq_iff_eq.mpr c33
          have c33b1 : ((t687.length : Int) != (l2.length : Int)) = false := bne_eq_false_iff_eq.mpr c33
          have c33b2 : (t687.length == l2.length) = true := by first | simpa using c33 | (simp at c33 ⊢; omega)
          clear c33
          have H' := Aside0.mk H
          clear H
          obtain ⟨Ao34, co34, eo34⟩ := Kd.R_slice HO_10.out
          subst eo34
          go_wp2_with (first | (go_at_call 11; (with_reducible refine (wait_Fits.calls kj16 _ _ l0 a1 _ _ l2 _ _ t675 true t685 _ ?side1 ?side2 ?side3 ?side4 ?side5 ?side6 A25.out).mono ?_); (case side1 => repeat (first | exact (Kd.C_below HR0.out HB.out) | (with_reducible refine Kd.C_alloc ?_ _) | (with_reducible refine Kd.C_drewN ?_ _) | (with_reducible refine Kd.C_drew ?_))); (case side2 => exact HC0.out); (case side3 => repeat (first | exact (Kd.C_below HR2.out HB.out) | (with_reducible refine Kd.C_alloc ?_ _) | (with_reducible refine Kd.C_drewN ?_ _) | (with_reducible refine Kd.C_drew ?_))); (case side4 => exact HC2.out); (case side5 => repeat (first | exact (Kd.R_reads' HO_10.out).2.2 | (with_reducible refine Kd.C_alloc ?_ _) | (with_reducible refine Kd.C_drewN ?_ _) | (with_reducible refine Kd.C_drew ?_))); (case side6 => exact (Kd.R_reads' HO_10.out).2.1); rintro e w35 ⟨rfl, hb⟩; replace HO_10 := Aside0.mk (Kd.R_below (by (with_reducible repeat (first | apply Kd.R_alloc | apply Kd.R_drewN | apply Kd.R_drew)); exact HO_10.out) hb); replace HO_11 := Aside0.mk (Kd.R_below (by (with_reducible repeat (first | apply Kd.R_alloc | apply Kd.R_drewN | apply Kd.R_drew)); exact HO_11.out) hb); replace HB := bs_ w hb; clear hb) | (go_at_call 27; (with_reducible refine (levels_Run.calls kj16 _ _ l0 _ _ t675 _ _ l2 t686 t687 t688 _ ?side1 ?side2 ?side3 ?side4 ?side5 ?side6 A26.out).mono ?_); (case side1 => repeat (first | exact (Kd.C_below HR0.out HB.out) | (with_reducible refine Kd.C_alloc ?_ _) | (with_reducible refine Kd.C_drewN ?_ _) | (with_reducible refine Kd.C_drew ?_))); (case side2 => exact HC0.out); (case side3 => repeat (first | exact (Kd.R_reads' HO_10.out).2.2 | (with_reducible refine Kd.C_alloc ?_ _) | (with_reducible refine Kd.C_drewN ?_ _) | (with_reducible refine Kd.C_drew ?_))); (case side4 => exact (Kd.R_reads' HO_10.out).2.1); (case side5 => repeat (first | exact (Kd.C_below HR2.out HB.out) | (with_reducible refine Kd.C_alloc ?_ _) | (with_reducible refine Kd.C_drewN ?_ _) | (with_reducible refine Kd.C_drew ?_))); (case side6 => exact HC2.out); rintro e w36 ⟨v689, v691, rfl, ho0, ho1, hb⟩; have HO690 := Aside0.mk (Kd.R_lower (Kd.R_new' ho0 (Kd.R_lt (by (with_reducible repeat (first | apply Kd.R_alloc | apply Kd.R_drewN | apply Kd.R_drew)); exact HO_11.out))) (below_size (hq_ HB))); have HO692 := Aside0.mk (Kd.R_lower ho1 (below_size (hq_ HB))); replace HO_10 := Aside0.mk (Kd.R_below (by (with_reducible repeat (first | apply Kd.R_alloc | apply Kd.R_drewN | apply Kd.R_drew)); exact HO_10.out) hb); replace HO_11 := Aside0.mk (Kd.R_elder' (by (with_reducible repeat (first | apply Kd.R_alloc | apply Kd.R_drewN | apply Kd.R_drew)); exact HO_11.out) (Kd.R_base ho0) hb); replace HB := bs_ w hb; (try clear hb); (try clear hb2); (try clear hk); (try clear hi); (try clear ho0); (try clear ho1); obtain ⟨Ao37, co37, eo37⟩ := Kd.R_slice HO690.out; subst eo37; obtain ⟨Ao38, co38, eo38⟩ := Kd.R_slice HO_11.out; subst eo38) | (go_at_call 24; (with_reducible refine (spigotref04_Same.calls kj16 _ _ t686 _ _ t676 true _ ?side1 ?side2 ?side3 ?side4 A31.out).mono ?_); (case side1 => repeat (first | exact (Kd.R_reads' HO690.out).2.2 | (with_reducible refine Kd.C_alloc ?_ _) | (with_reducible refine Kd.C_drewN ?_ _) | (with_reducible refine Kd.C_drew ?_))); (case side2 => exact (Kd.R_reads' HO690.out).2.1); (case side3 => repeat (first | exact (Kd.R_reads' HO_11.out).2.2 | (with_reducible refine Kd.C_alloc ?_ _) | (with_reducible refine Kd.C_drewN ?_ _) | (with_reducible refine Kd.C_drew ?_))); (case side4 => exact (Kd.R_reads' HO_11.out).2.1); rintro e w' ⟨rfl, ⟨nd, rfl⟩⟩; (try first | exact ⟨rfl, _, World.drewN_drewN _ _ _⟩ | exact ⟨rfl, _, Eq.trans (World.drewN_drewN _ _ _) (congrArg (World.drewN _) (Nat.add_assoc _ _ _))⟩); obtain ⟨Ao39, co39, eo39⟩ := Kd.R_slice HO692.out; subst eo39))
          repeat (go_quiet (first | (go_at_call 11; (with_reducible refine (wait_Fits.calls kj16 _ _ l0 a1 _ _ l2 _ _ t675 true t685 _ ?side1 ?side2 ?side3 ?side4 ?side5 ?side6 A25.out).mono ?_); (case side1 => repeat (first | exact (Kd.C_below HR0.out HB.out) | (with_reducible refine Kd.C_alloc ?_ _) | (with_reducible refine Kd.C_drewN ?_ _) | (with_reducible refine Kd.C_drew ?_))); (case side2 => exact HC0.out); (case side3 => repeat (first | exact (Kd.C_below HR2.out HB.out) | (with_reducible refine Kd.C_alloc ?_ _) | (with_reducible refine Kd.C_drewN ?_ _) | (with_reducible refine Kd.C_drew ?_))); (case side4 => exact HC2.out); (case side5 => repeat (first | exact (Kd.R_reads' HO_10.out).2.2 | (with_reducible refine Kd.C_alloc ?_ _) | (with_reducible refine Kd.C_drewN ?_ _) | (with_reducible refine Kd.C_drew ?_))); (case side6 => exact (Kd.R_reads' HO_10.out).2.1); rintro e w35 ⟨rfl, hb⟩; replace HO_10 := Aside0.mk (Kd.R_below (by (with_reducible repeat (first | apply Kd.R_alloc | apply Kd.R_drewN | apply Kd.R_drew)); exact HO_10.out) hb); replace HO_11 := Aside0.mk (Kd.R_below (by (with_reducible repeat (first | apply Kd.R_alloc | apply Kd.R_drewN | apply Kd.R_drew)); exact HO_11.out) hb); replace HB := bs_ w hb; clear hb) | (go_at_call 27; (with_reducible refine (levels_Run.calls kj16 _ _ l0 _ _ t675 _ _ l2 t686 t687 t688 _ ?side1 ?side2 ?side3 ?side4 ?side5 ?side6 A26.out).mono ?_); (case side1 => repeat (first | exact (Kd.C_below HR0.out HB.out) | (with_reducible refine Kd.C_alloc ?_ _) | (with_reducible refine Kd.C_drewN ?_ _) | (with_reducible refine Kd.C_drew ?_))); (case side2 => exact HC0.out); (case side3 => repeat (first | exact (Kd.R_reads' HO_10.out).2.2 | (with_reducible refine Kd.C_alloc ?_ _) | (with_reducible refine Kd.C_drewN ?_ _) | (with_reducible refine Kd.C_drew ?_))); (case side4 => exact (Kd.R_reads' HO_10.out).2.1); (case side5 => repeat (first | exact (Kd.C_below HR2.out HB.out) | (with_reducible refine Kd.C_alloc ?_ _) | (with_reducible refine Kd.C_drewN ?_ _) | (with_reducible refine Kd.C_drew ?_))); (case side6 => exact HC2.out); rintro e w36 ⟨v689, v691, rfl, ho0, ho1, hb⟩; have HO690 := Aside0.mk (Kd.R_lower (Kd.R_new' ho0 (Kd.R_lt (by (with_reducible repeat (first | apply Kd.R_alloc | apply Kd.R_drewN | apply Kd.R_drew)); exact HO_11.out))) (below_size (hq_ HB))); have HO692 := Aside0.mk (Kd.R_lower ho1 (below_size (hq_ HB))); replace HO_10 := Aside0.mk (Kd.R_below (by (with_reducible repeat (first | apply Kd.R_alloc | apply Kd.R_drewN | apply Kd.R_drew)); exact HO_10.out) hb); replace HO_11 := Aside0.mk (Kd.R_elder' (by (with_reducible repeat (first | apply Kd.R_alloc | apply Kd.R_drewN | apply Kd.R_drew)); exact HO_11.out) (Kd.R_base ho0) hb); replace HB := bs_ w hb; (try clear hb); (try clear hb2); (try clear hk); (try clear hi); (try clear ho0); (try clear ho1); obtain ⟨Ao37, co37, eo37⟩ := Kd.R_slice HO690.out; subst eo37; obtain ⟨Ao38, co38, eo38⟩ := Kd.R_slice HO_11.out; subst eo38) | (go_at_call 24; (with_reducible refine (spigotref04_Same.calls kj16 _ _ t686 _ _ t676 true _ ?side1 ?side2 ?side3 ?side4 A31.out).mono ?_); (case side1 => repeat (first | exact (Kd.R_reads' HO690.out).2.2 | (with_reducible refine Kd.C_alloc ?_ _) | (with_reducible refine Kd.C_drewN ?_ _) | (with_reducible refine Kd.C_drew ?_))); (case side2 => exact (Kd.R_reads' HO690.out).2.1); (case side3 => repeat (first | exact (Kd.R_reads' HO_11.out).2.2 | (with_reducible refine Kd.C_alloc ?_ _) | (with_reducible refine Kd.C_drewN ?_ _) | (with_reducible refine Kd.C_drew ?_))); (case side4 => exact (Kd.R_reads' HO_11.out).2.1); rintro e w' ⟨rfl, ⟨nd, rfl⟩⟩; (try first | exact ⟨rfl, _, World.drewN_drewN _ _ _⟩ | exact ⟨rfl, _, Eq.trans (World.drewN_drewN _ _ _) (congrArg (World.drewN _) (Nat.add_assoc _ _ _))⟩); obtain ⟨Ao39, co39, eo39⟩ := Kd.R_slice HO692.out; subst eo39)); try go_wp2_with (first | (go_at_call 11; (with_reducible refine (wait_Fits.calls kj16 _ _ l0 a1 _ _ l2 _ _ t675 true t685 _ ?side1 ?side2 ?side3 ?side4 ?side5 ?side6 A25.out).mono ?_); (case side1 => repeat (first | exact (Kd.C_below HR0.out HB.out) | (with_reducible refine Kd.C_alloc ?_ _) | (with_reducible refine Kd.C_drewN ?_ _) | (with_reducible refine Kd.C_drew ?_))); (case side2 => exact HC0.out); (case side3 => repeat (first | exact (Kd.C_below HR2.out HB.out) | (with_reducible refine Kd.C_alloc ?_ _) | (with_reducible refine Kd.C_drewN ?_ _) | (with_reducible refine Kd.C_drew ?_))); (case side4 => exact HC2.out); (case side5 => repeat (first | exact (Kd.R_reads' HO_10.out).2.2 | (with_reducible refine Kd.C_alloc ?_ _) | (with_reducible refine Kd.C_drewN ?_ _) | (with_reducible refine Kd.C_drew ?_))); (case side6 => exact (Kd.R_reads' HO_10.out).2.1); rintro e w35 ⟨rfl, hb⟩; replace HO_10 := Aside0.mk (Kd.R_below (by (with_reducible repeat (first | apply Kd.R_alloc | apply Kd.R_drewN | apply Kd.R_drew)); exact HO_10.out) hb); replace HO_11 := Aside0.mk (Kd.R_below (by (with_reducible repeat (first | apply Kd.R_alloc | apply Kd.R_drewN | apply Kd.R_drew)); exact HO_11.out) hb); replace HB := bs_ w hb; clear hb) | (go_at_call 27; (with_reducible refine (levels_Run.calls kj16 _ _ l0 _ _ t675 _ _ l2 t686 t687 t688 _ ?side1 ?side2 ?side3 ?side4 ?side5 ?side6 A26.out).mono ?_); (case side1 => repeat (first | exact (Kd.C_below HR0.out HB.out) | (with_reducible refine Kd.C_alloc ?_ _) | (with_reducible refine Kd.C_drewN ?_ _) | (with_reducible refine Kd.C_drew ?_))); (case side2 => exact HC0.out); (case side3 => repeat (first | exact (Kd.R_reads' HO_10.out).2.2 | (with_reducible refine Kd.C_alloc ?_ _) | (with_reducible refine Kd.C_drewN ?_ _) | (with_reducible refine Kd.C_drew ?_))); (case side4 => exact (Kd.R_reads' HO_10.out).2.1); (case side5 => repeat (first | exact (Kd.C_below HR2.out HB.out) | (with_reducible refine Kd.C_alloc ?_ _) | (with_reducible refine Kd.C_drewN ?_ _) | (with_reducible refine Kd.C_drew ?_))); (case side6 => exact HC2.out); rintro e w36 ⟨v689, v691, rfl, ho0, ho1, hb⟩; have HO690 := Aside0.mk (Kd.R_lower (Kd.R_new' ho0 (Kd.R_lt (by (with_reducible repeat (first | apply Kd.R_alloc | apply Kd.R_drewN | apply Kd.R_drew)); exact HO_11.out))) (below_size (hq_ HB))); have HO692 := Aside0.mk (Kd.R_lower ho1 (below_size (hq_ HB))); replace HO_10 := Aside0.mk (Kd.R_below (by (with_reducible repeat (first | apply Kd.R_alloc | apply Kd.R_drewN | apply Kd.R_drew)); exact HO_10.out) hb); replace HO_11 := Aside0.mk (Kd.R_elder' (by (with_reducible repeat (first | apply Kd.R_alloc | apply Kd.R_drewN | apply Kd.R_drew)); exact HO_11.out) (Kd.R_base ho0) hb); replace HB := bs_ w hb; (try clear hb); (try clear hb2); (try clear hk); (try clear hi); (try clear ho0); (try clear ho1); obtain ⟨Ao37, co37, eo37⟩ := Kd.R_slice HO690.out; subst eo37; obtain ⟨Ao38, co38, eo38⟩ := Kd.R_slice HO_11.out; subst eo38) | (go_at_call 24; (with_reducible refine (spigotref04_Same.calls kj16 _ _ t686 _ _ t676 true _ ?side1 ?side2 ?side3 ?side4 A31.out).mono ?_); (case side1 => repeat (first | exact (Kd.R_reads' HO690.out).2.2 | (with_reducible refine Kd.C_alloc ?_ _) | (with_reducible refine Kd.C_drewN ?_ _) | (with_reducible refine Kd.C_drew ?_))); (case side2 => exact (Kd.R_reads' HO690.out).2.1); (case side3 => repeat (first | exact (Kd.R_reads' HO_11.out).2.2 | (with_reducible refine Kd.C_alloc ?_ _) | (with_reducible refine Kd.C_drewN ?_ _) | (with_reducible refine Kd.C_drew ?_))); (case side4 => exact (Kd.R_reads' HO_11.out).2.1); rintro e w' ⟨rfl, ⟨nd, rfl⟩⟩; (try first | exact ⟨rfl, _, World.drewN_drewN _ _ _⟩ | exact ⟨rfl, _, Eq.trans (World.drewN_drewN _ _ _) (congrArg (World.drewN _) (Nat.add_assoc _ _ _))⟩); obtain ⟨Ao39, co39, eo39⟩ := Kd.R_slice HO692.out; subst eo39)))
          go_loopg [20] kj16 (fun kq v20 w' => ∃ (x20_3 : Int), v20 = .int .i64 x20_3 ∧ Aside0 (spigotlaw39_WaitEarliest.l0 kq a1 l3 t673 t675 t682 t687 x20_3 = some r) ∧ Aside0 (kq ≤ kj16) ∧ Aside0 (Kd.R (Kd.int .u64) 23 w' w.heap.size (fun _ => True) (.slice Ao34 t675.length co34) t675) ∧ Aside0 (Kd.R Kd.bool 4 w' w.heap.size (fun _ => True) (.slice Ao39 t687.length co39) t687) ∧ Aside0 (Below w.heap.size w w'))
          case atStart => exact ⟨(0), rf_, H', ⟨Nat.le_refl _⟩, ⟨by (with_reducible repeat (first | apply Kd.R_alloc | apply Kd.R_drewN | apply Kd.R_drew)); exact HO_10.out⟩, ⟨by (with_reducible repeat (first | apply Kd.R_alloc | apply Kd.R_drewN | apply Kd.R_drew)); exact HO692.out⟩, bw_⟩
          case round =>
           clear H'
           try clear c2
           try clear c3
           try clear c14
           try clear c23
           try clear c24
           try clear c24b0
           try clear c24b1
           try clear c27
           try clear c27b0
           try clear c27b1
           try clear c28
           try clear c29
           try clear c29b0
           try clear c29b1
           try clear c29b2
           try clear c30
           try clear c30b0
           try clear c30b1
           try clear c32
           try clear c33
           try clear c33b0
           try clear c33b1
           try clear c33b2
           obtain ⟨x20_3, rfl, HA, HK3, HO_10, HO_18, HB⟩ := hrel
           cases gk with
           | zero => exact absurd HA.out (by simp [spigotlaw39_WaitEarliest.l0])
           | succ k3 =>
            have H := HA.out
            clear HA
            simp only [spigotlaw39_WaitEarliest.l0] at H
            by_cases c40 : x20_3 < (t675.length : Int)
            ·rw [if_pos c40] at H
             have c40b0 : decide (x20_3 < (t675.length : Int)) = true := decide_eq_true c40
             clear c40
             by_cases c41 : 0 ≤ x20_3
             rotate_left
             ·rw [if_neg c41] at H; exact absurd H (by simp)
             rw [if_pos c41] at H
             have c41b0 : decide (0 ≤ x20_3) = true := decide_eq_true c41
             clear c41
             by_cases c42 : (rd t675 x20_3) < a1
             ·rw [if_pos c42] at H; exact absurd H (by simp)
             rw [if_neg c42] at H
             have c42b0 : decide ((rd t675 x20_3) < a1) = false := decide_eq_false c42
             clear c42
             by_cases c43 : x20_3 > 0
             ·rw [if_pos c43] at H
              have c43b0 : decide (0 < x20_3) = true := decide_eq_true c43
              clear c43
              obtain ⟨ji44, hji44⟩ : ∃ j_ : Int, (wrap64 (x20_3 - 1)) = j_ := ⟨_, rfl⟩
              replace H : (if 0 ≤ (ji44) then (if (ji44) < (t675.length : Int) then (if (rd t675 x20_3) < (rd t675 (ji44)) then (none) else (if x20_3 < (t687.length : Int) then (if rdOf false t687 x20_3 = true then (if t682 = true then (if (l3.length : Int) = (t675.length : Int) then (if x20_3 < (l3.length : Int) then (if (rd l3 x20_3) < (rd t675 x20_3) then (none) else (spigotlaw39_WaitEarliest.l0 k3 a1 l3 t673 t675 t682 t687 (wrap64 (x20_3 + 1)))) else (none)) else (none)) else (spigotlaw39_WaitEarliest.l0 k3 a1 l3 t673 t675 t682 t687 (wrap64 (x20_3 + 1)))) else (none)) else (none))) else (none)) else (none)) = some r := by first | (rw [hji44] at H; exact H) | (simp only [hji44] at H ⊢; exact H)
              have hji44w : (IntKind.i64.wrap (x20_3 - 1)) = ji44 := (i64_w _).trans hji44
              by_cases c45 : 0 ≤ (ji44)
              rotate_left
              ·rw [if_neg c45] at H; exact absurd H (by simp)
              rw [if_pos c45] at H
              have c45b0 : decide (0 ≤ (ji44)) = true := decide_eq_true c45
              clear c45
              by_cases c46 : (ji44) < (t675.length : Int)
              rotate_left
              ·rw [if_neg c46] at H; exact absurd H (by simp)
              rw [if_pos c46] at H
              have c46b0 : decide ((ji44) < (t675.length : Int)) = true := decide_eq_true c46
              clear c46
              by_cases c47 : (rd t675 x20_3) < (rd t675 (ji44))
              ·rw [if_pos c47] at H; exact absurd H (by simp)
              rw [if_neg c47] at H
              have c47b0 : decide ((rd t675 x20_3) < (rd t675 (ji44))) = false := decide_eq_false c47
              clear c47
              by_cases c48 : x20_3 < (t687.length : Int)
              rotate_left
              ·rw [if_neg c48] at H; exact absurd H (by simp)
              rw [if_pos c48] at H
              have c48b0 : decide (x20_3 < (t687.length : Int)) = true := decide_eq_true c48
              clear c48
              obtain ⟨bq49, hbq49⟩ : ∃ b_ : Bool, b_ = (rdOf false t687 x20_3) := ⟨_, rfl⟩
              replace H : (if bq49 = true then (if t682 = true then (if (l3.length : Int) = (t675.length : Int) then (if x20_3 < (l3.length : Int) then (if (rd l3 x20_3) < (rd t675 x20_3) then (none) else (spigotlaw39_WaitEarliest.l0 k3 a1 l3 t673 t675 t682 t687 (wrap64 (x20_3 + 1)))) else (none)) else (none)) else (spigotlaw39_WaitEarliest.l0 k3 a1 l3 t673 t675 t682 t687 (wrap64 (x20_3 + 1)))) else (none)) = some r := by rw [← hbq49] at H; exact H
              have Nbq49 := Aside0.mk hbq49
              clear hbq49
              by_cases c50 : bq49 = true
              ·subst c50
               rw [if_pos rfl] at H
               try dsimp only at H
               by_cases c51 : t682 = true
               ·subst c51
                rw [if_pos rfl] at H
                try dsimp only at H
                by_cases c52 : (l3.length : Int) = (t675.length : Int)
                rotate_left
                ·rw [if_neg c52] at H; exact absurd H (by simp)
                rw [if_pos c52] at H
                have c52b0 : ((l3.length : Int) == (t675.length : Int)) = true := beq_iff_eq.mpr c52
                have c52b1 : ((l3.length : Int) != (t675.length : Int)) = false := bne_eq_false_iff_eq.mpr c52
                have c52b2 : (l3.length == t675.length) = true := by first | simpa using c52 | (simp at c52 ⊢; omega)
                clear c52
                by_cases c53 : x20_3 < (l3.length : Int)
                rotate_left
                ·rw [if_neg c53] at H; exact absurd H (by simp)
                rw [if_pos c53] at H
                have c53b0 : decide (x20_3 < (l3.length : Int)) = true := decide_eq_true c53
                clear c53
                by_cases c54 : (rd l3 x20_3) < (rd t675 x20_3)
                ·rw [if_pos c54] at H; exact absurd H (by simp)
                rw [if_neg c54] at H
                have c54b0 : decide ((rd l3 x20_3) < (rd t675 x20_3)) = false := decide_eq_false c54
                clear c54
                have H' := Aside0.mk H
                clear H
                have p694 : 0 ≤ (x20_3 : Int) := of_decide_eq_true (by first | (with_reducible assumption) | assumption)
                have q694 : x20_3 < (t675.length : Int) := of_decide_eq_true (by first | (with_reducible assumption) | assumption)
                obtain ⟨ad694, e694, hx694_0⟩ := Kd.at_int (Kd.R_reads' HO_10.out).2.2 x20_3 p694 q694
                cases e694
                replace p694 := eq_true p694
                replace q694 := eq_true q694
                have p695 : 0 ≤ (x20_3 : Int) := of_decide_eq_true (by first | (with_reducible assumption) | assumption)
                have q695 : x20_3 < (t675.length : Int) := of_decide_eq_true (by first | (with_reducible assumption) | assumption)
                obtain ⟨ad695, e695, hx695_0⟩ := Kd.at_int (Kd.R_reads' HO_10.out).2.2 x20_3 p695 q695
                obtain rfl : ad694 = ad695 := (by injection e695)
                replace p695 := eq_true p695
                replace q695 := eq_true q695
                have p696 : 0 ≤ ((ji44) : Int) := of_decide_eq_true (by first | (with_reducible assumption) | assumption)
                have q696 : (ji44) < (t675.length : Int) := of_decide_eq_true (by first | (with_reducible assumption) | assumption)
                obtain ⟨ad696, e696, hx696_0⟩ := Kd.at_int (Kd.R_reads' HO_10.out).2.2 (ji44) p696 q696
                obtain rfl : ad694 = ad696 := (by injection e696)
                replace p696 := eq_true p696
                replace q696 := eq_true q696
                have p697 : 0 ≤ (x20_3 : Int) := of_decide_eq_true (by first | (with_reducible assumption) | assumption)
                have q697 : x20_3 < (t687.length : Int) := of_decide_eq_true (by first | (with_reducible assumption) | assumption)
                obtain ⟨ad697, e697, hx697_0⟩ := Kd.at_bool (Kd.R_reads' HO_18.out).2.2 x20_3 p697 q697
                (try rw [← Nbq49.out] at hx697_0)
                cases e697
                replace p697 := eq_true p697
                replace q697 := eq_true q697
                have p698 : 0 ≤ (x20_3 : Int) := of_decide_eq_true (by first | (with_reducible assumption) | assumption)
                have q698 : x20_3 < (l3.length : Int) := of_decide_eq_true (by first | (with_reducible assumption) | assumption)
                obtain ⟨ad698, e698, hx698_0⟩ := Kd.at_int HR3.out x20_3 p698 q698
                cases e698
                replace hx698_0 := (HB.out.cell (World.block_lt_of_cell? w _ hx698_0)).trans hx698_0
                replace p698 := eq_true p698
                replace q698 := eq_true q698
                have p699 : 0 ≤ (x20_3 : Int) := of_decide_eq_true (by first | (with_reducible assumption) | assumption)
                have q699 : x20_3 < (t675.length : Int) := of_decide_eq_true (by first | (with_reducible assumption) | assumption)
                obtain ⟨ad699, e699, hx699_0⟩ := Kd.at_int (Kd.R_reads' HO_10.out).2.2 x20_3 p699 q699
                obtain rfl : ad694 = ad699 := (by injection e699)
                replace p699 := eq_true p699
                replace q699 := eq_true q699
                go_wp2
                repeat (go_quiet (fail); try go_wp2)
                go_roundg k3
                case measure => have := HJ5.out; have := HJ16.out; have := HK3.out; omega
                case rel => exact ⟨(wrap64 (x20_3 + 1)), rf_, H', ⟨by have := HJ5.out; have := HJ16.out; have := HK3.out; omega⟩, ⟨by (with_reducible repeat (first | apply Kd.R_alloc | apply Kd.R_drewN | apply Kd.R_drew)); exact HO_10.out⟩, ⟨by (with_reducible repeat (first | apply Kd.R_alloc | apply Kd.R_drewN | apply Kd.R_drew)); exact HO_18.out⟩, bw_⟩
               ·replace c51 := Bool.eq_false_iff.mpr c51
                subst c51
                rw [if_neg (show ¬ (false = true) by decide)] at H
                try dsimp only at H
                have H' := Aside0.mk H
                clear H
                have p694 : 0 ≤ (x20_3 : Int) := of_decide_eq_true (by first | (with_reducible assumption) | assumption)
                have q694 : x20_3 < (t675.length : Int) := of_decide_eq_true (by first | (with_reducible assumption) | assumption)
                obtain ⟨ad694, e694, hx694_0⟩ := Kd.at_int (Kd.R_reads' HO_10.out).2.2 x20_3 p694 q694
                cases e694
                replace p694 := eq_true p694
                replace q694 := eq_true q694
                have p695 : 0 ≤ (x20_3 : Int) := of_decide_eq_true (by first | (with_reducible assumption) | assumption)
                have q695 : x20_3 < (t675.length : Int) := of_decide_eq_true (by first | (with_reducible assumption) | assumption)
                obtain ⟨ad695, e695, hx695_0⟩ := Kd.at_int (Kd.R_reads' HO_10.out).2.2 x20_3 p695 q695
                obtain rfl : ad694 = ad695 := (by injection e695)
                replace p695 := eq_true p695
                replace q695 := eq_true q695
                have p696 : 0 ≤ ((ji44) : Int) := of_decide_eq_true (by first | (with_reducible assumption) | assumption)
                have q696 : (ji44) < (t675.length : Int) := of_decide_eq_true (by first | (with_reducible assumption) | assumption)
                obtain ⟨ad696, e696, hx696_0⟩ := Kd.at_int (Kd.R_reads' HO_10.out).2.2 (ji44) p696 q696
                obtain rfl : ad694 = ad696 := (by injection e696)
                replace p696 := eq_true p696
                replace q696 := eq_true q696
                have p697 : 0 ≤ (x20_3 : Int) := of_decide_eq_true (by first | (with_reducible assumption) | assumption)
                have q697 : x20_3 < (t687.length : Int) := of_decide_eq_true (by first | (with_reducible assumption) | assumption)
                obtain ⟨ad697, e697, hx697_0⟩ := Kd.at_bool (Kd.R_reads' HO_18.out).2.2 x20_3 p697 q697
                (try rw [← Nbq49.out] at hx697_0)
                cases e697
                replace p697 := eq_true p697
                replace q697 := eq_true q697
                go_wp2
                repeat (go_quiet (fail); try go_wp2)
                go_roundg k3
                case measure => have := HJ5.out; have := HJ16.out; have := HK3.out; omega
                case rel => exact ⟨(wrap64 (x20_3 + 1)), rf_, H', ⟨by have := HJ5.out; have := HJ16.out; have := HK3.out; omega⟩, ⟨by (with_reducible repeat (first | apply Kd.R_alloc | apply Kd.R_drewN | apply Kd.R_drew)); exact HO_10.out⟩, ⟨by (with_reducible repeat (first | apply Kd.R_alloc | apply Kd.R_drewN | apply Kd.R_drew)); exact HO_18.out⟩, bw_⟩
              ·replace c50 := Bool.eq_false_iff.mpr c50
               subst c50
               replace H : (none) = some r := by rw [if_neg (show ¬ (false = true) by decide)] at H; exact H
               exact absurd H (by simp)
             ·rw [if_neg c43] at H
              have c43b0 : decide (0 < x20_3) = false := decide_eq_false c43
              clear c43
              by_cases c55 : x20_3 < (t687.length : Int)
              rotate_left
              ·rw [if_neg c55] at H; exact absurd H (by simp)
              rw [if_pos c55] at H
              have c55b0 : decide (x20_3 < (t687.length : Int)) = true := decide_eq_true c55
              clear c55
              obtain ⟨bq56, hbq56⟩ : ∃ b_ : Bool, b_ = (rdOf false t687 x20_3) := ⟨_, rfl⟩
              replace H : (if bq56 = true then (if t682 = true then (if (l3.length : Int) = (t675.length : Int) then (if x20_3 < (l3.length : Int) then (if (rd l3 x20_3) < (rd t675 x20_3) then (none) else (spigotlaw39_WaitEarliest.l0 k3 a1 l3 t673 t675 t682 t687 (wrap64 (x20_3 + 1)))) else (none)) else (none)) else (spigotlaw39_WaitEarliest.l0 k3 a1 l3 t673 t675 t682 t687 (wrap64 (x20_3 + 1)))) else (none)) = some r := by rw [← hbq56] at H; exact H
              have Nbq56 := Aside0.mk hbq56
              clear hbq56
              by_cases c57 : bq56 = true
              ·subst c57
               rw [if_pos rfl] at H
               try dsimp only at H
               by_cases c58 : t682 = true
               ·subst c58
                rw [if_pos rfl] at H
                try dsimp only at H
                by_cases c59 : (l3.length : Int) = (t675.length : Int)
                rotate_left
                ·rw [if_neg c59] at H; exact absurd H (by simp)
                rw [if_pos c59] at H
                have c59b0 : ((l3.length : Int) == (t675.length : Int)) = true := beq_iff_eq.mpr c59
                have c59b1 : ((l3.length : Int) != (t675.length : Int)) = false := bne_eq_false_iff_eq.mpr c59
                have c59b2 : (l3.length == t675.length) = true := by first | simpa using c59 | (simp at c59 ⊢; omega)
                clear c59
                by_cases c60 : x20_3 < (l3.length : Int)
                rotate_left
                ·rw [if_neg c60] at H; exact absurd H (by simp)
                rw [if_pos c60] at H
                have c60b0 : decide (x20_3 < (l3.length : Int)) = true := decide_eq_true c60
                clear c60
                by_cases c61 : (rd l3 x20_3) < (rd t675 x20_3)
                ·rw [if_pos c61] at H; exact absurd H (by simp)
                rw [if_neg c61] at H
                have c61b0 : decide ((rd l3 x20_3) < (rd t675 x20_3)) = false := decide_eq_false c61
                clear c61
                have H' := Aside0.mk H
                clear H
                have p694 : 0 ≤ (x20_3 : Int) := of_decide_eq_true (by first | (with_reducible assumption) | assumption)
                have q694 : x20_3 < (t675.length : Int) := of_decide_eq_true (by first | (with_reducible assumption) | assumption)
                obtain ⟨ad694, e694, hx694_0⟩ := Kd.at_int (Kd.R_reads' HO_10.out).2.2 x20_3 p694 q694
                cases e694
                replace p694 := eq_true p694
                replace q694 := eq_true q694
                have p700 : 0 ≤ (x20_3 : Int) := of_decide_eq_true (by first | (with_reducible assumption) | assumption)
                have q700 : x20_3 < (t687.length : Int) := of_decide_eq_true (by first | (with_reducible assumption) | assumption)
                obtain ⟨ad700, e700, hx700_0⟩ := Kd.at_bool (Kd.R_reads' HO_18.out).2.2 x20_3 p700 q700
                (try rw [← Nbq56.out] at hx700_0)
                cases e700
                replace p700 := eq_true p700
                replace q700 := eq_true q700
                have p701 : 0 ≤ (x20_3 : Int) := of_decide_eq_true (by first | (with_reducible assumption) | assumption)
                have q701 : x20_3 < (l3.length : Int) := of_decide_eq_true (by first | (with_reducible assumption) | assumption)
                obtain ⟨ad701, e701, hx701_0⟩ := Kd.at_int HR3.out x20_3 p701 q701
                cases e701
                replace hx701_0 := (HB.out.cell (World.block_lt_of_cell? w _ hx701_0)).trans hx701_0
                replace p701 := eq_true p701
                replace q701 := eq_true q701
                have p702 : 0 ≤ (x20_3 : Int) := of_decide_eq_true (by first | (with_reducible assumption) | assumption)
                have q702 : x20_3 < (t675.length : Int) := of_decide_eq_true (by first | (with_reducible assumption) | assumption)
                obtain ⟨ad702, e702, hx702_0⟩ := Kd.at_int (Kd.R_reads' HO_10.out).2.2 x20_3 p702 q702
                obtain rfl : ad694 = ad702 := (by injection e702)
                replace p702 := eq_true p702
                replace q702 := eq_true q702
                go_wp2
                repeat (go_quiet (fail); try go_wp2)
                go_roundg k3
                case measure => have := HJ5.out; have := HJ16.out; have := HK3.out; omega
                case rel => exact ⟨(wrap64 (x20_3 + 1)), rf_, H', ⟨by have := HJ5.out; have := HJ16.out; have := HK3.out; omega⟩, ⟨by (with_reducible repeat (first | apply Kd.R_alloc | apply Kd.R_drewN | apply Kd.R_drew)); exact HO_10.out⟩, ⟨by (with_reducible repeat (first | apply Kd.R_alloc | apply Kd.R_drewN | apply Kd.R_drew)); exact HO_18.out⟩, bw_⟩
               ·replace c58 := Bool.eq_false_iff.mpr c58
                subst c58
                rw [if_neg (show ¬ (false = true) by decide)] at H
                try dsimp only at H
                have H' := Aside0.mk H
                clear H
                have p694 : 0 ≤ (x20_3 : Int) := of_decide_eq_true (by first | (with_reducible assumption) | assumption)
                have q694 : x20_3 < (t675.length : Int) := of_decide_eq_true (by first | (with_reducible assumption) | assumption)
                obtain ⟨ad694, e694, hx694_0⟩ := Kd.at_int (Kd.R_reads' HO_10.out).2.2 x20_3 p694 q694
                cases e694
                replace p694 := eq_true p694
                replace q694 := eq_true q694
                have p700 : 0 ≤ (x20_3 : Int) := of_decide_eq_true (by first | (with_reducible assumption) | assumption)
                have q700 : x20_3 < (t687.length : Int) := of_decide_eq_true (by first | (with_reducible assumption) | assumption)
                obtain ⟨ad700, e700, hx700_0⟩ := Kd.at_bool (Kd.R_reads' HO_18.out).2.2 x20_3 p700 q700
                (try rw [← Nbq56.out] at hx700_0)
                cases e700
                replace p700 := eq_true p700
                replace q700 := eq_true q700
                go_wp2
                repeat (go_quiet (fail); try go_wp2)
                go_roundg k3
                case measure => have := HJ5.out; have := HJ16.out; have := HK3.out; omega
                case rel => exact ⟨(wrap64 (x20_3 + 1)), rf_, H', ⟨by have := HJ5.out; have := HJ16.out; have := HK3.out; omega⟩, ⟨by (with_reducible repeat (first | apply Kd.R_alloc | apply Kd.R_drewN | apply Kd.R_drew)); exact HO_10.out⟩, ⟨by (with_reducible repeat (first | apply Kd.R_alloc | apply Kd.R_drewN | apply Kd.R_drew)); exact HO_18.out⟩, bw_⟩
              ·replace c57 := Bool.eq_false_iff.mpr c57
               subst c57
               replace H : (none) = some r := by rw [if_neg (show ¬ (false = true) by decide)] at H; exact H
               exact absurd H (by simp)
            ·rw [if_neg c40] at H
             have c40b0 : decide (x20_3 < (t675.length : Int)) = false := decide_eq_false c40
             clear c40
             obtain rfl := Option.some.inj H
             go_wp2
             repeat (go_quiet (fail); try go_wp2)
             go_ret
             exact fi_
         ·replace c32 := Bool.eq_false_iff.mpr c32
          subst c32
          replace H : (none) = some r := by rw [if_neg (show ¬ (false = true) by decide)] at H; exact H
          exact absurd H (by simp)
        ·replace c28 := Bool.eq_false_iff.mpr c28
         subst c28
         replace H : (none) = some r := by rw [if_neg (show ¬ (false = true) by decide)] at H; exact H
         exact absurd H (by simp)
       ·rw [if_neg c24] at H
        have c24b0 : (t677 == 0) = false := beq_eq_false_iff_ne.mpr c24
        have c24b1 : (t677 != 0) = true := bne_iff_ne.mpr c24
        by_cases c62 : t673 = true
        ·subst c62
         rw [if_pos rfl] at H
         try dsimp only at H
         by_cases c63 : (t675.length : Int) = 0
         rotate_left
         ·rw [if_neg c63] at H; exact absurd H (by simp)
         rw [if_pos c63] at H
         have c63b0 : ((t675.length : Int) == 0) = true := beq_iff_eq.mpr c63
         have c63b1 : ((t675.length : Int) != 0) = false := bne_eq_false_iff_eq.mpr c63
         clear c63
         obtain rfl := Option.some.inj H
         obtain ⟨Ao64, co64, eo64⟩ := Kd.R_slice HO_10.out
         subst eo64
         obtain ⟨Ao65, co65, eo65⟩ := Kd.R_slice HO_11.out
         subst eo65
         go_wp2
         repeat (go_quiet (fail); try go_wp2)
         go_ret
         exact fi_
        ·replace c62 := Bool.eq_false_iff.mpr c62
         subst c62
         replace H : (none) = some r := by rw [if_neg (show ¬ (false = true) by decide)] at H; exact H
         exact absurd H (by simp)

end Go.Proofs.Ytfdpcnkghmmobaa.X
