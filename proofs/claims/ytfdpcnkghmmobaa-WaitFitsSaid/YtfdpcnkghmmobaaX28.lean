-- written by xprint.py, a program of this session over the kit's print
import Derived.Test.YtfdpcnkghmmobaaX0
import Derived.Test.YtfdpcnkghmmobaaX3
import Derived.Test.YtfdpcnkghmmobaaX18
import Derived.Test.YtfdpcnkghmmobaaX27
namespace Go.Proofs.Ytfdpcnkghmmobaa.X
open Go.RowKit Go.Proofs.YtfdpcnkghmmobaaW.PrintWords Go.Proofs.YtfdpcnkghmmobaaW.PrintLast Go.Proofs.YtfdpcnkghmmobaaW.PrintMore
attribute [local go_sem] max2_int min2_int max_two min_two max_three min_three max_four min_four   -- for this text's walks alone
set_option linter.unusedVariables false
set_option linter.unusedSimpArgs false

/-! ### spigotlaw39_WaitFits: function 3 -/
def spigotlaw39_WaitFits.j0 : Nat → List (S63) → Int → List Int → List Int → Bool → Option (Bool)
  | 0, _, _, _, _, _ => none
  | k + 1, x0, x1, x2, x3, x20 => if x20 = true then (some true) else ((wait_Fits.f k x0 x1 x2 x3).bind fun bt299 => ((spigotref39_Fits.f k x0 x1 x2 x3).bind fun bt301 => (if (bt299.1 == bt301.1) = true then (some (bt299.2 == bt301.2)) else (none))))
def spigotlaw39_WaitFits.f (k : Nat) (l0 : List (S63)) (a1 : Int) (l2 : List Int) (l3 : List Int) : Option (Bool) := (spigotref39_Great.f l0 l2).bind fun t298 => (if t298 = true then (spigotlaw39_WaitFits.j0 k l0 a1 l2 l3 true) else (spigotlaw39_WaitFits.j0 k l0 a1 l2 l3 (decide ((l3.length : Int) > 100))))
theorem spigotlaw39_WaitFits.mono_l : ∀ k, (∀ y0 y1 y2 y3 y4, LeO (spigotlaw39_WaitFits.j0 k y0 y1 y2 y3 y4) (spigotlaw39_WaitFits.j0 (k + 1) y0 y1 y2 y3 y4))
  | 0 => fun _ _ _ _ _ r h => by simp [spigotlaw39_WaitFits.j0] at h
  | k + 1 => by
    have ih0 := spigotlaw39_WaitFits.mono_l k
    · intro y0 y1 y2 y3 y4
      unfold spigotlaw39_WaitFits.j0
      repeat' first
      | (with_reducible exact ih0 _ _ _ _ _)
      | (with_reducible exact spigotref39_Fits.mono _ _ _ _ _)
      | (with_reducible exact wait_Fits.mono _ _ _ _ _)
      | (with_reducible exact LeO.refl _)
      | (with_reducible exact LeO.none _)
      | (with_reducible refine LeO.ite ?_ ?_)
      | (with_reducible refine LeO.bind ?_ (fun _ => ?_))
      | exact ih0 _ _ _ _ _
      | exact spigotref39_Fits.mono _ _ _ _ _
      | exact wait_Fits.mono _ _ _ _ _
      | exact LeO.none _
      | refine LeO.ite ?_ ?_
      | refine LeO.bind ?_ (fun _ => ?_)
theorem spigotlaw39_WaitFits.mono : ∀ a0 a1 a2 a3 k, LeO (spigotlaw39_WaitFits.f k a0 a1 a2 a3) (spigotlaw39_WaitFits.f (k + 1) a0 a1 a2 a3) := by
  intro a0 a1 a2 a3 k
  have ih0 := spigotlaw39_WaitFits.mono_l k
  unfold spigotlaw39_WaitFits.f
  repeat' first
      | (with_reducible exact ih0 _ _ _ _ _)
      | (with_reducible exact spigotref39_Fits.mono _ _ _ _ _)
      | (with_reducible exact wait_Fits.mono _ _ _ _ _)
      | (with_reducible exact LeO.refl _)
      | (with_reducible exact LeO.none _)
      | (with_reducible refine LeO.ite ?_ ?_)
      | (with_reducible refine LeO.bind ?_ (fun _ => ?_))
      | exact ih0 _ _ _ _ _
      | exact spigotref39_Fits.mono _ _ _ _ _
      | exact wait_Fits.mono _ _ _ _ _
      | exact LeO.none _
      | refine LeO.ite ?_ ?_
      | refine LeO.bind ?_ (fun _ => ?_)
set_option maxHeartbeats 8000000 in
set_option maxRecDepth 100000 in
theorem spigotlaw39_WaitFits.calls (k : Nat) (A0 : Option Addr) (c0 : Nat) (l0 : List (S63)) (a1 : Int) (A2 : Option Addr) (c2 : Nat) (l2 : List Int) (A3 : Option Addr) (c3 : Nat) (l3 : List Int) (r : Bool) (w : World) (hr0 : Kd.C k63 w A0 l0.length l0) (hc0 : l0.length ≤ c0) (hr2 : Kd.C (Kd.int .i64) w A2 l2.length l2) (hc2 : l2.length ≤ c2) (hr3 : Kd.C (Kd.int .u64) w A3 l3.length l3) (hc3 : l3.length ≤ c3) (h : spigotlaw39_WaitFits.f k l0 a1 l2 l3 = some r) :
  Calls Try.prog 3 #[.slice A0 l0.length c0, .int .u64 a1, .slice A2 l2.length c2, .slice A3 l3.length c3] w fun e w' => e = .returned (.bool r) ∧ Below w.heap.size w w' := by
 have HR0 := Aside0.mk hr0
 have HC0 := Aside0.mk hc0
 clear hr0 hc0
 have HR2 := Aside0.mk hr2
 have HC2 := Aside0.mk hc2
 clear hr2 hc2
 have HR3 := Aside0.mk hr3
 have HC3 := Aside0.mk hc3
 clear hr3 hc3
 have HB := Aside0.mk (Below.refl w.heap.size w)
 have H : ((spigotref39_Great.f l0 l2).bind fun t298 => (if t298 = true then (spigotlaw39_WaitFits.j0 k l0 a1 l2 l3 true) else (spigotlaw39_WaitFits.j0 k l0 a1 l2 l3 (decide ((l3.length : Int) > 100))))) = some r := h
 clear h
 have HC5 := Aside0.mk H
 clear H
 go_enter Try.func3, Try.ntmps3
 go_upto_region 1 with (fail)
 go_cut [20] (fun v20 wc => ∃ (kq : Nat) (x20_4 : Bool), v20 = .bool x20_4 ∧ Aside0 (spigotlaw39_WaitFits.j0 kq l0 a1 l2 l3 x20_4 = some r) ∧ Aside0 (kq ≤ k) ∧ Aside0 (Below w.heap.size w wc))
 case first =>
  have H := HC5.out
  clear HC5
  obtain ⟨t298, A6, H⟩ := bo_ H
  replace H : (if t298 = true then (spigotlaw39_WaitFits.j0 k l0 a1 l2 l3 true) else (spigotlaw39_WaitFits.j0 k l0 a1 l2 l3 (decide ((l3.length : Int) > 100)))) = some r := H
  by_cases c7 : t298 = true
  ·subst c7
   replace H : (spigotlaw39_WaitFits.j0 k l0 a1 l2 l3 true) = some r := by rw [if_pos rfl] at H; exact H
   have H' := Aside0.mk H
   clear H
   go_wp2_with (first | ((with_reducible refine gate_callee (f := 10) rfl ?_); (try refine ug_ (by rfl) ?_); refine goesA_ (some 15) Try.func10 #[.slice A0 l0.length c0, .slice A2 l2.length c2] ?_; (with_reducible refine (spigotref39_Great.calls _ _ l0 _ _ l2 true _ ?side1 ?side2 ?side3 ?side4 A6.out).mono ?_); (case side1 => repeat (first | exact (Kd.C_below HR0.out HB.out) | (with_reducible refine Kd.C_alloc ?_ _) | (with_reducible refine Kd.C_drewN ?_ _) | (with_reducible refine Kd.C_drew ?_))); (case side2 => exact HC0.out); (case side3 => repeat (first | exact (Kd.C_below HR2.out HB.out) | (with_reducible refine Kd.C_alloc ?_ _) | (with_reducible refine Kd.C_drewN ?_ _) | (with_reducible refine Kd.C_drew ?_))); (case side4 => exact HC2.out); rintro e w' ⟨rfl, ⟨nd, rfl⟩⟩; refine ⟨_, rfl, ?_⟩))
   go_meet
   case rel => exact ⟨_, (true), rf_, H', al_, bw_⟩
  ·replace c7 := Bool.eq_false_iff.mpr c7
   subst c7
   rw [if_neg (show ¬ (false = true) by decide)] at H
   try dsimp only at H
   have H' := Aside0.mk H
   clear H
   go_wp2_with (first | ((with_reducible refine gate_callee (f := 10) rfl ?_); (try refine ug_ (by rfl) ?_); refine goesA_ (some 15) Try.func10 #[.slice A0 l0.length c0, .slice A2 l2.length c2] ?_; (with_reducible refine (spigotref39_Great.calls _ _ l0 _ _ l2 false _ ?side1 ?side2 ?side3 ?side4 A6.out).mono ?_); (case side1 => repeat (first | exact (Kd.C_below HR0.out HB.out) | (with_reducible refine Kd.C_alloc ?_ _) | (with_reducible refine Kd.C_drewN ?_ _) | (with_reducible refine Kd.C_drew ?_))); (case side2 => exact HC0.out); (case side3 => repeat (first | exact (Kd.C_below HR2.out HB.out) | (with_reducible refine Kd.C_alloc ?_ _) | (with_reducible refine Kd.C_drewN ?_ _) | (with_reducible refine Kd.C_drew ?_))); (case side4 => exact HC2.out); rintro e w' ⟨rfl, ⟨nd, rfl⟩⟩; refine ⟨_, rfl, ?_⟩))
   go_meet
   case rel => exact ⟨_, (decide ((l3.length : Int) > 100)), rf_, H', al_, bw_⟩
 case rest =>
  clear HC5
  try clear c2
  try clear c3
  obtain ⟨kq, x20_4, rfl, HA, HJ4, HB⟩ := hcut
  cases kq with
  | zero => exact absurd HA.out (by simp [spigotlaw39_WaitFits.j0])
  | succ kj4 =>
   have H := HA.out
   clear HA
   simp only [spigotlaw39_WaitFits.j0] at H
   by_cases c8 : x20_4 = true
   ·subst c8
    replace H : (some true) = some r := by rw [if_pos rfl] at H; exact H
    obtain rfl := Option.some.inj H
    go_wp2
    go_ret
    exact fi_
   ·replace c8 := Bool.eq_false_iff.mpr c8
    subst c8
    rw [if_neg (show ¬ (false = true) by decide)] at H
    try dsimp only at H
    obtain ⟨⟨t299, t300⟩, A9, H⟩ := bo_ H
    replace H : ((spigotref39_Fits.f kj4 l0 a1 l2 l3).bind fun bt301 => (if (t299 == bt301.1) = true then (some (t300 == bt301.2)) else (none))) = some r := H
    obtain ⟨⟨t301, t302⟩, A10, H⟩ := bo_ H
    replace H : (if (t299 == t301) = true then (some (t300 == t302)) else (none)) = some r := H
    by_cases c11 : (t299 == t301) = true
    rotate_left
    ·rw [if_neg c11] at H; exact absurd H (by simp)
    rw [if_pos c11] at H
    have c11b0 : (t299 == t301) = true := c11
    (try (have c11b1 : decide (t299 = t301) = true := by simpa using c11))
    (try (have c11b2 : (t299 == t301) = true := by simpa using c11))
    clear c11
    obtain rfl := Option.some.inj H
    go_wp2_with (first | ((with_reducible refine gate_callee (f := 11) rfl ?_); (try refine ug_ (by rfl) ?_); refine goesA_ (some 26) Try.func11 #[.slice A0 l0.length c0, .int .u64 a1, .slice A2 l2.length c2, .slice A3 l3.length c3] ?_; (with_reducible refine (wait_Fits.calls kj4 _ _ l0 a1 _ _ l2 _ _ l3 t299 t300 _ ?side1 ?side2 ?side3 ?side4 ?side5 ?side6 A9.out).mono ?_); (case side1 => repeat (first | exact (Kd.C_below HR0.out HB.out) | (with_reducible refine Kd.C_alloc ?_ _) | (with_reducible refine Kd.C_drewN ?_ _) | (with_reducible refine Kd.C_drew ?_))); (case side2 => exact HC0.out); (case side3 => repeat (first | exact (Kd.C_below HR2.out HB.out) | (with_reducible refine Kd.C_alloc ?_ _) | (with_reducible refine Kd.C_drewN ?_ _) | (with_reducible refine Kd.C_drew ?_))); (case side4 => exact HC2.out); (case side5 => repeat (first | exact (Kd.C_below HR3.out HB.out) | (with_reducible refine Kd.C_alloc ?_ _) | (with_reducible refine Kd.C_drewN ?_ _) | (with_reducible refine Kd.C_drew ?_))); (case side6 => exact HC3.out); rintro e w12 ⟨rfl, hb⟩; refine ⟨_, rfl, ?_⟩; replace HB := bs_ w hb; clear hb) | ((with_reducible refine gate_callee (f := 12) rfl ?_); (try refine ug_ (by rfl) ?_); refine goesA_ (some 34) Try.func12 #[.slice A0 l0.length c0, .int .u64 a1, .slice A2 l2.length c2, .slice A3 l3.length c3] ?_; (with_reducible refine (spigotref39_Fits.calls kj4 (fun k_ => k_ < w.heap.size) _ _ l0 a1 _ _ l2 _ _ l3 t301 t302 _ ?side1 ?side2 ?side3 ?side4 ?side5 A10.out).mono ?_); (case side1 => exact Kd.V_mk HC0.out (Kd.F_below (Kd.C_F k63_heap HR0.out) (hq_ HB))); (case side2 => repeat (first | exact (Kd.C_below HR2.out HB.out) | (with_reducible refine Kd.C_alloc ?_ _) | (with_reducible refine Kd.C_drewN ?_ _) | (with_reducible refine Kd.C_drew ?_))); (case side3 => exact HC2.out); (case side4 => repeat (first | exact (Kd.C_below HR3.out HB.out) | (with_reducible refine Kd.C_alloc ?_ _) | (with_reducible refine Kd.C_drewN ?_ _) | (with_reducible refine Kd.C_drew ?_))); (case side5 => exact HC3.out); rintro e w13 ⟨rfl, hb⟩; refine ⟨_, rfl, ?_⟩; replace HB := bs_ w hb; clear hb))
    go_ret
    exact fi_

end Go.Proofs.Ytfdpcnkghmmobaa.X
