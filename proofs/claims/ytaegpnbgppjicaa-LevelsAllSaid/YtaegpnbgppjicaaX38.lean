-- written by xprint.py, a program of this session over the kit's print
import Derived.Test.YtaegpnbgppjicaaX0
import Derived.Test.YtaegpnbgppjicaaX1
import Derived.Test.YtaegpnbgppjicaaX11
import Derived.Test.YtaegpnbgppjicaaX26
import Derived.Test.YtaegpnbgppjicaaX29
import Derived.Test.YtaegpnbgppjicaaX30
import Derived.Test.YtaegpnbgppjicaaX37
namespace Go.Proofs.Ytaegpnbgppjicaa.X
open Go.RowKit Go.Proofs.YtaegpnbgppjicaaW.PrintWords Go.Proofs.YtaegpnbgppjicaaW.PrintLast Go.Proofs.YtaegpnbgppjicaaW.PrintMore
attribute [local go_sem] max2_int min2_int max_two min_two max_three min_three max_four min_four   -- for this text's walks alone
set_option linter.unusedVariables false
set_option linter.unusedSimpArgs false

attribute [local go_sem high] eqA37
/-! ### spigotlaw04_LevelsAll: function 7 -/
mutual
def spigotlaw04_LevelsAll.j0 : Nat → List (S37) → Int → Int → Bool → Option (Bool)
  | 0, _, _, _, _ => none
  | k + 1, x0, x1, x2, x32 => if x32 = true then ((spigotlaw04_alive.f k).bind fun t535 => (some t535)) else ((levels_Take.f k x0 x1 x2).bind fun bt536 => ((levels_Refill.f k x0 x1).bind fun bt541 => ((levels_Holds.f k bt541.1 x2).bind fun bt545 => (if bt536.2.2 = 0 then (if bt541.2 = 0 then (if bt545.2 = 0 then (if (bt536.1.length : Int) = (x0.length : Int) then (if (bt541.1.length : Int) = (x0.length : Int) then (if (bt545.1 != bt536.2.1) = true then (none) else (spigotlaw04_LevelsAll.l0 k x0 x1 x2 bt536.1 bt536.2.1 bt541.1 true 0)) else (none)) else (none)) else (none)) else (none)) else (none)))))
def spigotlaw04_LevelsAll.l0 : Nat → List (S37) → Int → Int → List (S37) → Bool → List (S37) → Bool → Int → Option (Bool)
  | 0, _, _, _, _, _, _, _, _ => none
  | k + 1, x0, x1, x2, x7, x8, x10, x14, x15 => if x15 < (x0.length : Int) then (if 0 ≤ x15 then ((bucket_Refill.f k ((rd_T37 x0 x15).f0.f0) ((rd_T37 x0 x15).f0.f1) ((rd_T37 x0 x15).f0.f2) ((rd_T37 x0 x15).f1) ((rd_T37 x0 x15).f2) ((rd_T37 x0 x15).f3) x1).bind fun bt548 => ((bucket_Charge.f bt548.1 bt548.2.1 bt548.2.2.1 bt548.2.2.2.1 bt548.2.2.2.2.1 bt548.2.2.2.2.2.1 x2).bind fun bt556 => (if bt548.2.2.2.2.2.2 = 0 then (if x15 < (x10.length : Int) then (if ((!(bt548.1 == ((rd_T37 x10 x15).f0.f0)) || (!(bt548.2.1 == ((rd_T37 x10 x15).f0.f1)) || (!(bt548.2.2.1 == ((rd_T37 x10 x15).f0.f2))))) || (!(bt548.2.2.2.1 == ((rd_T37 x10 x15).f1)) || (!(bt548.2.2.2.2.1 == ((rd_T37 x10 x15).f2)) || (!(bt548.2.2.2.2.2.1 == ((rd_T37 x10 x15).f3)))))) = true then (none) else (if x8 = true then (if bt556.2.2.2.2.2.2 = 0 then (if x15 < (x7.length : Int) then (if ((!(((rd_T37 x7 x15).f0.f0) == bt556.1) || (!(((rd_T37 x7 x15).f0.f1) == bt556.2.1) || (!(((rd_T37 x7 x15).f0.f2) == bt556.2.2.1)))) || (!(((rd_T37 x7 x15).f1) == bt556.2.2.2.1) || (!(((rd_T37 x7 x15).f2) == bt556.2.2.2.2.1) || (!(((rd_T37 x7 x15).f3) == bt556.2.2.2.2.2.1))))) = true then (none) else (if x14 = true then (spigotlaw04_LevelsAll.l0 k x0 x1 x2 x7 x8 x10 (bt556.2.2.2.2.2.2 == 0) (wrap64 (x15 + 1))) else (spigotlaw04_LevelsAll.l0 k x0 x1 x2 x7 x8 x10 false (wrap64 (x15 + 1))))) else (none)) else (none)) else (if x15 < (x7.length : Int) then (if ((!(((rd_T37 x7 x15).f0.f0) == bt548.1) || (!(((rd_T37 x7 x15).f0.f1) == bt548.2.1) || (!(((rd_T37 x7 x15).f0.f2) == bt548.2.2.1)))) || (!(((rd_T37 x7 x15).f1) == bt548.2.2.2.1) || (!(((rd_T37 x7 x15).f2) == bt548.2.2.2.2.1) || (!(((rd_T37 x7 x15).f3) == bt548.2.2.2.2.2.1))))) = true then (none) else (if x14 = true then (spigotlaw04_LevelsAll.l0 k x0 x1 x2 x7 x8 x10 (bt556.2.2.2.2.2.2 == 0) (wrap64 (x15 + 1))) else (spigotlaw04_LevelsAll.l0 k x0 x1 x2 x7 x8 x10 false (wrap64 (x15 + 1))))) else (none)))) else (none)) else (none)))) else (none)) else (if (x14 != x8) = true then (none) else (spigotlaw04_LevelsAll.l1 k x0 x1 x2 x7 x8 ([] : List (S37)) (wrap64 ((x0.length : Int) - 1))))
def spigotlaw04_LevelsAll.l1 : Nat → List (S37) → Int → Int → List (S37) → Bool → List (S37) → Int → Option (Bool)
  | 0, _, _, _, _, _, _, _ => none
  | k + 1, x0, x1, x2, x7, x8, x20, x21 => if x21 ≥ 0 then (if 0 ≤ x21 then (if x21 < (x0.length : Int) then (if x20.length < 2932031007402 then (spigotlaw04_LevelsAll.l1 k x0 x1 x2 x7 x8 (x20 ++ [(⟨(⟨(rd_T37 x0 x21).f0.f0, (rd_T37 x0 x21).f0.f1, (rd_T37 x0 x21).f0.f2⟩ : S34), (rd_T37 x0 x21).f1, (rd_T37 x0 x21).f2, (rd_T37 x0 x21).f3⟩ : S37)]) (wrap64 (x21 - 1))) else (none)) else (none)) else (none)) else ((levels_Take.f k x20 x1 x2).bind fun bt571 => (if bt571.2.2 = 0 then (if (bt571.2.1 != x8) = true then (none) else (if (bt571.1.length : Int) = (x7.length : Int) then (spigotlaw04_LevelsAll.l2 k x2 x7 x8 bt571.1 0) else (none))) else (none)))
def spigotlaw04_LevelsAll.l2 : Nat → Int → List (S37) → Bool → List (S37) → Int → Option (Bool)
  | 0, _, _, _, _, _ => none
  | k + 1, x2, x7, x8, x22, x25 => if x25 < (x7.length : Int) then (if 0 ≤ (wrap64 ((wrap64 ((x7.length : Int) - 1)) - x25)) then (if (wrap64 ((wrap64 ((x7.length : Int) - 1)) - x25)) < (x22.length : Int) then (if 0 ≤ x25 then (if ((!(((rd_T37 x22 (wrap64 ((wrap64 ((x7.length : Int) - 1)) - x25))).f0.f0) == ((rd_T37 x7 x25).f0.f0)) || (!(((rd_T37 x22 (wrap64 ((wrap64 ((x7.length : Int) - 1)) - x25))).f0.f1) == ((rd_T37 x7 x25).f0.f1)) || (!(((rd_T37 x22 (wrap64 ((wrap64 ((x7.length : Int) - 1)) - x25))).f0.f2) == ((rd_T37 x7 x25).f0.f2))))) || (!(((rd_T37 x22 (wrap64 ((wrap64 ((x7.length : Int) - 1)) - x25))).f1) == ((rd_T37 x7 x25).f1)) || (!(((rd_T37 x22 (wrap64 ((wrap64 ((x7.length : Int) - 1)) - x25))).f2) == ((rd_T37 x7 x25).f2)) || (!(((rd_T37 x22 (wrap64 ((wrap64 ((x7.length : Int) - 1)) - x25))).f3) == ((rd_T37 x7 x25).f3)))))) = true then (none) else (spigotlaw04_LevelsAll.l2 k x2 x7 x8 x22 (wrap64 (x25 + 1)))) else (none)) else (none)) else (none)) else (if x2 > 0 then ((spigotlaw04_alive.f k).bind fun t578 => (some t578)) else (if x8 = true then ((spigotlaw04_alive.f k).bind fun t579 => (some t579)) else (none)))
end
def spigotlaw04_LevelsAll.f (k : Nat) (l0 : List (S37)) (a1 : Int) (a2 : Int) : Option (Bool) := (spigotlaw04_fit.f k l0).bind fun t534 => (if t534 = true then (spigotlaw04_LevelsAll.j0 k l0 a1 a2 (decide (a2 < 0))) else (spigotlaw04_LevelsAll.j0 k l0 a1 a2 true))
theorem spigotlaw04_LevelsAll.mono_l : ∀ k, (∀ y0 y1 y2 y3, LeO (spigotlaw04_LevelsAll.j0 k y0 y1 y2 y3) (spigotlaw04_LevelsAll.j0 (k + 1) y0 y1 y2 y3)) ∧ (∀ y0 y1 y2 y3 y4 y5 y6 y7, LeO (spigotlaw04_LevelsAll.l0 k y0 y1 y2 y3 y4 y5 y6 y7) (spigotlaw04_LevelsAll.l0 (k + 1) y0 y1 y2 y3 y4 y5 y6 y7)) ∧ (∀ y0 y1 y2 y3 y4 y5 y6, LeO (spigotlaw04_LevelsAll.l1 k y0 y1 y2 y3 y4 y5 y6) (spigotlaw04_LevelsAll.l1 (k + 1) y0 y1 y2 y3 y4 y5 y6)) ∧ (∀ y0 y1 y2 y3 y4, LeO (spigotlaw04_LevelsAll.l2 k y0 y1 y2 y3 y4) (spigotlaw04_LevelsAll.l2 (k + 1) y0 y1 y2 y3 y4))
  | 0 => ⟨fun _ _ _ _ r h => by simp [spigotlaw04_LevelsAll.j0] at h, fun _ _ _ _ _ _ _ _ r h => by simp [spigotlaw04_LevelsAll.l0] at h, fun _ _ _ _ _ _ _ r h => by simp [spigotlaw04_LevelsAll.l1] at h, fun _ _ _ _ _ r h => by simp [spigotlaw04_LevelsAll.l2] at h⟩
  | k + 1 => by
    obtain ⟨ih0, ih1, ih2, ih3⟩ := spigotlaw04_LevelsAll.mono_l k
    refine ⟨?_, ?_, ?_, ?_⟩
    · intro y0 y1 y2 y3
      unfold spigotlaw04_LevelsAll.j0
      repeat' first
      | (with_reducible exact ih0 _ _ _ _)
      | (with_reducible exact ih1 _ _ _ _ _ _ _ _)
      | (with_reducible exact ih2 _ _ _ _ _ _ _)
      | (with_reducible exact ih3 _ _ _ _ _)
      | (with_reducible exact bucket_Refill.mono _ _ _ _ _ _ _ _)
      | (with_reducible exact levels_Holds.mono _ _ _)
      | (with_reducible exact levels_Refill.mono _ _ _)
      | (with_reducible exact levels_Take.mono _ _ _ _)
      | (with_reducible exact spigotlaw04_alive.mono _)
      | (with_reducible exact spigotlaw04_fit.mono _ _)
      | (with_reducible exact LeO.refl _)
      | (with_reducible exact LeO.none _)
      | (with_reducible refine LeO.ite ?_ ?_)
      | (with_reducible refine LeO.bind ?_ (fun _ => ?_))
      | exact ih0 _ _ _ _
      | exact ih1 _ _ _ _ _ _ _ _
      | exact ih2 _ _ _ _ _ _ _
      | exact ih3 _ _ _ _ _
      | exact bucket_Refill.mono _ _ _ _ _ _ _ _
      | exact levels_Holds.mono _ _ _
      | exact levels_Refill.mono _ _ _
      | exact levels_Take.mono _ _ _ _
      | exact spigotlaw04_alive.mono _
      | exact spigotlaw04_fit.mono _ _
      | exact LeO.none _
      | refine LeO.ite ?_ ?_
      | refine LeO.bind ?_ (fun _ => ?_)
    · intro y0 y1 y2 y3 y4 y5 y6 y7
      unfold spigotlaw04_LevelsAll.l0
      repeat' first
      | (with_reducible exact ih0 _ _ _ _)
      | (with_reducible exact ih1 _ _ _ _ _ _ _ _)
      | (with_reducible exact ih2 _ _ _ _ _ _ _)
      | (with_reducible exact ih3 _ _ _ _ _)
      | (with_reducible exact bucket_Refill.mono _ _ _ _ _ _ _ _)
      | (with_reducible exact levels_Holds.mono _ _ _)
      | (with_reducible exact levels_Refill.mono _ _ _)
      | (with_reducible exact levels_Take.mono _ _ _ _)
      | (with_reducible exact spigotlaw04_alive.mono _)
      | (with_reducible exact spigotlaw04_fit.mono _ _)
      | (with_reducible exact LeO.refl _)
      | (with_reducible exact LeO.none _)
      | (with_reducible refine LeO.ite ?_ ?_)
      | (with_reducible refine LeO.bind ?_ (fun _ => ?_))
      | exact ih0 _ _ _ _
      | exact ih1 _ _ _ _ _ _ _ _
      | exact ih2 _ _ _ _ _ _ _
      | exact ih3 _ _ _ _ _
      | exact bucket_Refill.mono _ _ _ _ _ _ _ _
      | exact levels_Holds.mono _ _ _
      | exact levels_Refill.mono _ _ _
      | exact levels_Take.mono _ _ _ _
      | exact spigotlaw04_alive.mono _
      | exact spigotlaw04_fit.mono _ _
      | exact LeO.none _
      | refine LeO.ite ?_ ?_
      | refine LeO.bind ?_ (fun _ => ?_)
    · intro y0 y1 y2 y3 y4 y5 y6
      unfold spigotlaw04_LevelsAll.l1
      repeat' first
      | (with_reducible exact ih0 _ _ _ _)
      | (with_reducible exact ih1 _ _ _ _ _ _ _ _)
      | (with_reducible exact ih2 _ _ _ _ _ _ _)
      | (with_reducible exact ih3 _ _ _ _ _)
      | (with_reducible exact bucket_Refill.mono _ _ _ _ _ _ _ _)
      | (with_reducible exact levels_Holds.mono _ _ _)
      | (with_reducible exact levels_Refill.mono _ _ _)
      | (with_reducible exact levels_Take.mono _ _ _ _)
      | (with_reducible exact spigotlaw04_alive.mono _)
      | (with_reducible exact spigotlaw04_fit.mono _ _)
      | (with_reducible exact LeO.refl _)
      | (with_reducible exact LeO.none _)
      | (with_reducible refine LeO.ite ?_ ?_)
      | (with_reducible refine LeO.bind ?_ (fun _ => ?_))
      | exact ih0 _ _ _ _
      | exact ih1 _ _ _ _ _ _ _ _
      | exact ih2 _ _ _ _ _ _ _
      | exact ih3 _ _ _ _ _
      | exact bucket_Refill.mono _ _ _ _ _ _ _ _
      | exact levels_Holds.mono _ _ _
      | exact levels_Refill.mono _ _ _
      | exact levels_Take.mono _ _ _ _
      | exact spigotlaw04_alive.mono _
      | exact spigotlaw04_fit.mono _ _
      | exact LeO.none _
      | refine LeO.ite ?_ ?_
      | refine LeO.bind ?_ (fun _ => ?_)
    · intro y0 y1 y2 y3 y4
      unfold spigotlaw04_LevelsAll.l2
      repeat' first
      | (with_reducible exact ih0 _ _ _ _)
      | (with_reducible exact ih1 _ _ _ _ _ _ _ _)
      | (with_reducible exact ih2 _ _ _ _ _ _ _)
      | (with_reducible exact ih3 _ _ _ _ _)
      | (with_reducible exact bucket_Refill.mono _ _ _ _ _ _ _ _)
      | (with_reducible exact levels_Holds.mono _ _ _)
      | (with_reducible exact levels_Refill.mono _ _ _)
      | (with_reducible exact levels_Take.mono _ _ _ _)
      | (with_reducible exact spigotlaw04_alive.mono _)
      | (with_reducible exact spigotlaw04_fit.mono _ _)
      | (with_reducible exact LeO.refl _)
      | (with_reducible exact LeO.none _)
      | (with_reducible refine LeO.ite ?_ ?_)
      | (with_reducible refine LeO.bind ?_ (fun _ => ?_))
      | exact ih0 _ _ _ _
      | exact ih1 _ _ _ _ _ _ _ _
      | exact ih2 _ _ _ _ _ _ _
      | exact ih3 _ _ _ _ _
      | exact bucket_Refill.mono _ _ _ _ _ _ _ _
      | exact levels_Holds.mono _ _ _
      | exact levels_Refill.mono _ _ _
      | exact levels_Take.mono _ _ _ _
      | exact spigotlaw04_alive.mono _
      | exact spigotlaw04_fit.mono _ _
      | exact LeO.none _
      | refine LeO.ite ?_ ?_
      | refine LeO.bind ?_ (fun _ => ?_)
theorem spigotlaw04_LevelsAll.mono : ∀ a0 a1 a2 k, LeO (spigotlaw04_LevelsAll.f k a0 a1 a2) (spigotlaw04_LevelsAll.f (k + 1) a0 a1 a2) := by
  intro a0 a1 a2 k
  obtain ⟨ih0, ih1, ih2, ih3⟩ := spigotlaw04_LevelsAll.mono_l k
  unfold spigotlaw04_LevelsAll.f
  repeat' first
      | (with_reducible exact ih0 _ _ _ _)
      | (with_reducible exact ih1 _ _ _ _ _ _ _ _)
      | (with_reducible exact ih2 _ _ _ _ _ _ _)
      | (with_reducible exact ih3 _ _ _ _ _)
      | (with_reducible exact bucket_Refill.mono _ _ _ _ _ _ _ _)
      | (with_reducible exact levels_Holds.mono _ _ _)
      | (with_reducible exact levels_Refill.mono _ _ _)
      | (with_reducible exact levels_Take.mono _ _ _ _)
      | (with_reducible exact spigotlaw04_alive.mono _)
      | (with_reducible exact spigotlaw04_fit.mono _ _)
      | (with_reducible exact LeO.refl _)
      | (with_reducible exact LeO.none _)
      | (with_reducible refine LeO.ite ?_ ?_)
      | (with_reducible refine LeO.bind ?_ (fun _ => ?_))
      | exact ih0 _ _ _ _
      | exact ih1 _ _ _ _ _ _ _ _
      | exact ih2 _ _ _ _ _ _ _
      | exact ih3 _ _ _ _ _
      | exact bucket_Refill.mono _ _ _ _ _ _ _ _
      | exact levels_Holds.mono _ _ _
      | exact levels_Refill.mono _ _ _
      | exact levels_Take.mono _ _ _ _
      | exact spigotlaw04_alive.mono _
      | exact spigotlaw04_fit.mono _ _
      | exact LeO.none _
      | refine LeO.ite ?_ ?_
      | refine LeO.bind ?_ (fun _ => ?_)
set_option maxHeartbeats 8000000 in
set_option maxRecDepth 100000 in
theorem spigotlaw04_LevelsAll.calls (k : Nat) (A0 : Option Addr) (c0 : Nat) (l0 : List (S37)) (a1 : Int) (a2 : Int) (r : Bool) (w : World) (hr0 : Kd.C k37 w A0 l0.length l0) (hc0 : l0.length ≤ c0) (h : spigotlaw04_LevelsAll.f k l0 a1 a2 = some r) :
  Calls Try.prog 7 #[.slice A0 l0.length c0, .int .u64 a1, .int .i64 a2] w fun e w' => e = .returned (.bool r) ∧ Below w.heap.size w w' := by
 have hu37 := Try.underlying37
 have HR0 := Aside0.mk hr0
 have HC0 := Aside0.mk hc0
 clear hr0 hc0
 have HB := Aside0.mk (Below.refl w.heap.size w)
 have H : ((spigotlaw04_fit.f k l0).bind fun t534 => (if t534 = true then (spigotlaw04_LevelsAll.j0 k l0 a1 a2 (decide (a2 < 0))) else (spigotlaw04_LevelsAll.j0 k l0 a1 a2 true))) = some r := h
 clear h
 have HC4 := Aside0.mk H
 clear H
 go_enter Try.func7, Try.ntmps7
 go_upto_region 1 with (fail)
 repeat (go_quiet (fail); go_upto_region 1 with (fail))
 go_cut [32] (fun v32 wc => ∃ (kq : Nat) (x32_3 : Bool), v32 = .bool x32_3 ∧ Aside0 (spigotlaw04_LevelsAll.j0 kq l0 a1 a2 x32_3 = some r) ∧ Aside0 (kq ≤ k) ∧ Aside0 (Below w.heap.size w wc))
 case first =>
  have H := HC4.out
  clear HC4
  obtain ⟨t534, A5, H⟩ := bo_ H
  replace H : (if t534 = true then (spigotlaw04_LevelsAll.j0 k l0 a1 a2 (decide (a2 < 0))) else (spigotlaw04_LevelsAll.j0 k l0 a1 a2 true)) = some r := H
  by_cases c6 : t534 = true
  ·subst c6
   rw [if_pos rfl] at H
   try dsimp only at H
   have H' := Aside0.mk H
   clear H
   go_wp2_with (first | (go_at_call 16; (with_reducible refine (spigotlaw04_fit.calls k _ _ l0 true _ ?side1 ?side2 A5.out).mono ?_); (case side1 => exact cs_ HR0 HB); (case side2 => exact HC0.out); rintro e w7 ⟨rfl, hb⟩; replace HB := bs_ w hb; clear hb))
   repeat (go_quiet (first | (go_at_call 16; (with_reducible refine (spigotlaw04_fit.calls k _ _ l0 true _ ?side1 ?side2 A5.out).mono ?_); (case side1 => exact cs_ HR0 HB); (case side2 => exact HC0.out); rintro e w7 ⟨rfl, hb⟩; replace HB := bs_ w hb; clear hb)); try go_wp2_with (first | (go_at_call 16; (with_reducible refine (spigotlaw04_fit.calls k _ _ l0 true _ ?side1 ?side2 A5.out).mono ?_); (case side1 => exact cs_ HR0 HB); (case side2 => exact HC0.out); rintro e w7 ⟨rfl, hb⟩; replace HB := bs_ w hb; clear hb)))
   go_meet
   case rel => exact ⟨_, (decide (a2 < 0)), rf_, H', al_, bw_⟩
  ·replace c6 := Bool.eq_false_iff.mpr c6
   subst c6
   replace H : (spigotlaw04_LevelsAll.j0 k l0 a1 a2 true) = some r := by rw [if_neg (show ¬ (false = true) by decide)] at H; exact H
   have H' := Aside0.mk H
   clear H
   go_wp2_with (first | (go_at_call 16; (with_reducible refine (spigotlaw04_fit.calls k _ _ l0 false _ ?side1 ?side2 A5.out).mono ?_); (case side1 => exact cs_ HR0 HB); (case side2 => exact HC0.out); rintro e w8 ⟨rfl, hb⟩; replace HB := bs_ w hb; clear hb))
   repeat (go_quiet (first | (go_at_call 16; (with_reducible refine (spigotlaw04_fit.calls k _ _ l0 false _ ?side1 ?side2 A5.out).mono ?_); (case side1 => exact cs_ HR0 HB); (case side2 => exact HC0.out); rintro e w8 ⟨rfl, hb⟩; replace HB := bs_ w hb; clear hb)); try go_wp2_with (first | (go_at_call 16; (with_reducible refine (spigotlaw04_fit.calls k _ _ l0 false _ ?side1 ?side2 A5.out).mono ?_); (case side1 => exact cs_ HR0 HB); (case side2 => exact HC0.out); rintro e w8 ⟨rfl, hb⟩; replace HB := bs_ w hb; clear hb)))
   go_meet
   case rel => exact ⟨_, (true), rf_, H', al_, bw_⟩
 case rest =>
  clear HC4
  obtain ⟨kq, x32_3, rfl, HA, HJ3, HB⟩ := hcut
  cases kq with
  | zero => exact absurd HA.out (by simp [spigotlaw04_LevelsAll.j0])
  | succ kj3 =>
   have H := HA.out
   clear HA
   simp only [spigotlaw04_LevelsAll.j0] at H
   by_cases c9 : x32_3 = true
   ·subst c9
    rw [if_pos rfl] at H
    try dsimp only at H
    obtain ⟨t535, A10, H⟩ := bo_ H
    replace H : (some t535) = some r := H
    obtain rfl := Option.some.inj H
    go_wp2_with (first | (go_at_call 17; (with_reducible refine (spigotlaw04_alive.calls kj3  t535 _ A10.out).mono ?_); rintro e w11 ⟨rfl, hb⟩; replace HB := bs_ w hb; clear hb))
    repeat (go_quiet (first | (go_at_call 17; (with_reducible refine (spigotlaw04_alive.calls kj3  t535 _ A10.out).mono ?_); rintro e w11 ⟨rfl, hb⟩; replace HB := bs_ w hb; clear hb)); try go_wp2_with (first | (go_at_call 17; (with_reducible refine (spigotlaw04_alive.calls kj3  t535 _ A10.out).mono ?_); rintro e w11 ⟨rfl, hb⟩; replace HB := bs_ w hb; clear hb)))
    go_ret
    exact fi_
   ·replace c9 := Bool.eq_false_iff.mpr c9
    subst c9
    rw [if_neg (show ¬ (false = true) by decide)] at H
    try dsimp only at H
    obtain ⟨⟨t536, t537, t538⟩, A12, H⟩ := bo_ H
    try dsimp only at H
    obtain ⟨⟨t541, t542⟩, A13, H⟩ := bo_ H
    try dsimp only at H
    obtain ⟨⟨t545, t546⟩, A14, H⟩ := bo_ H
    try dsimp only at H
    by_cases c15 : t538 = 0
    rotate_left
    ·rw [if_neg c15] at H; exact absurd H (by simp)
    rw [if_pos c15] at H
    have c15b0 : (t538 == 0) = true := beq_iff_eq.mpr c15
    have c15b1 : (t538 != 0) = false := bne_eq_false_iff_eq.mpr c15
    clear c15
    by_cases c16 : t542 = 0
    rotate_left
    ·rw [if_neg c16] at H; exact absurd H (by simp)
    rw [if_pos c16] at H
    have c16b0 : (t542 == 0) = true := beq_iff_eq.mpr c16
    have c16b1 : (t542 != 0) = false := bne_eq_false_iff_eq.mpr c16
    clear c16
    by_cases c17 : t546 = 0
    rotate_left
    ·rw [if_neg c17] at H; exact absurd H (by simp)
    rw [if_pos c17] at H
    have c17b0 : (t546 == 0) = true := beq_iff_eq.mpr c17
    have c17b1 : (t546 != 0) = false := bne_eq_false_iff_eq.mpr c17
    clear c17
    by_cases c18 : (t536.length : Int) = (l0.length : Int)
    rotate_left
    ·rw [if_neg c18] at H; exact absurd H (by simp)
    rw [if_pos c18] at H
    have c18b0 : ((t536.length : Int) == (l0.length : Int)) = true := beq_iff_eq.mpr c18
    have c18b1 : ((t536.length : Int) != (l0.length : Int)) = false := bne_eq_false_iff_eq.mpr c18
    have c18b2 : (t536.length == l0.length) = true := by first | simpa using c18 | (simp at c18 ⊢; omega)
    clear c18
    by_cases c19 : (t541.length : Int) = (l0.length : Int)
    rotate_left
    ·rw [if_neg c19] at H; exact absurd H (by simp)
    rw [if_pos c19] at H
    have c19b0 : ((t541.length : Int) == (l0.length : Int)) = true := beq_iff_eq.mpr c19
    have c19b1 : ((t541.length : Int) != (l0.length : Int)) = false := bne_eq_false_iff_eq.mpr c19
    have c19b2 : (t541.length == l0.length) = true := by first | simpa using c19 | (simp at c19 ⊢; omega)
    clear c19
    by_cases c20 : (t545 != t537) = true
    ·rw [if_pos c20] at H; exact absurd H (by simp)
    rw [if_neg c20] at H
    have c20b0 : (t545 != t537) = false := by simpa using c20
    (try (have c20b1 : decide (t545 = t537) = true := by simpa using c20))
    (try (have c20b2 : (t545 == t537) = true := by simpa using c20))
    clear c20
    have H' := Aside0.mk H
    clear H
    go_wp2_with (first | (go_at_call 23; (with_reducible refine (levels_Take.calls kj3 _ _ l0 a1 a2 t536 t537 t538 _ ?side1 ?side2 A12.out).mono ?_); (case side1 => exact cs_ HR0 HB); (case side2 => exact HC0.out); rintro e w21 ⟨v539, rfl, ho0, hb⟩; have HO540 := Aside0.mk (Kd.R_lower ho0 (below_size (hq_ HB))); replace HB := bs_ w hb; (try clear hb); (try clear hb2); (try clear hk); (try clear hi); (try clear ho0)) | (go_at_call 19; (with_reducible refine (levels_Refill.calls kj3 _ _ l0 a1 t541 t542 _ ?side1 ?side2 A13.out).mono ?_); (case side1 => exact cs_ HR0 HB); (case side2 => exact HC0.out); rintro e w22 ⟨v543, rfl, ho0, hb⟩; have HO544 := Aside0.mk (Kd.R_lower (Kd.R_new' ho0 (Kd.R_lt (rs_ HO540))) (below_size (hq_ HB))); replace HO540 := Aside0.mk (Kd.R_elder' (rs_ HO540) (Kd.R_base ho0) hb); replace HB := bs_ w hb; (try clear hb); (try clear hb2); (try clear hk); (try clear hi); (try clear ho0); obtain ⟨Ao23, co23, eo23⟩ := Kd.R_slice HO544.out; subst eo23) | (go_at_call 20; (with_reducible refine (levels_Holds.calls kj3 _ _ t541 a2 t545 t546 _ ?side1 ?side2 A14.out).mono ?_); (case side1 => exact cr_ HO544); (case side2 => exact (Kd.R_reads' HO544.out).2.1); rintro e w24 ⟨rfl, hb⟩; replace HO540 := rb_ HO540 hb; replace HO544 := rb_ HO544 hb; replace HB := bs_ w hb; clear hb; obtain ⟨Ao25, co25, eo25⟩ := Kd.R_slice HO540.out; subst eo25))
    repeat (go_quiet (first | (go_at_call 23; (with_reducible refine (levels_Take.calls kj3 _ _ l0 a1 a2 t536 t537 t538 _ ?side1 ?side2 A12.out).mono ?_); (case side1 => exact cs_ HR0 HB); (case side2 => exact HC0.out); rintro e w21 ⟨v539, rfl, ho0, hb⟩; have HO540 := Aside0.mk (Kd.R_lower ho0 (below_size (hq_ HB))); replace HB := bs_ w hb; (try clear hb); (try clear hb2); (try clear hk); (try clear hi); (try clear ho0)) | (go_at_call 19; (with_reducible refine (levels_Refill.calls kj3 _ _ l0 a1 t541 t542 _ ?side1 ?side2 A13.out).mono ?_); (case side1 => exact cs_ HR0 HB); (case side2 => exact HC0.out); rintro e w22 ⟨v543, rfl, ho0, hb⟩; have HO544 := Aside0.mk (Kd.R_lower (Kd.R_new' ho0 (Kd.R_lt (rs_ HO540))) (below_size (hq_ HB))); replace HO540 := Aside0.mk (Kd.R_elder' (rs_ HO540) (Kd.R_base ho0) hb); replace HB := bs_ w hb; (try clear hb); (try clear hb2); (try clear hk); (try clear hi); (try clear ho0); obtain ⟨Ao23, co23, eo23⟩ := Kd.R_slice HO544.out; subst eo23) | (go_at_call 20; (with_reducible refine (levels_Holds.calls kj3 _ _ t541 a2 t545 t546 _ ?side1 ?side2 A14.out).mono ?_); (case side1 => exact cr_ HO544); (case side2 => exact (Kd.R_reads' HO544.out).2.1); rintro e w24 ⟨rfl, hb⟩; replace HO540 := rb_ HO540 hb; replace HO544 := rb_ HO544 hb; replace HB := bs_ w hb; clear hb; obtain ⟨Ao25, co25, eo25⟩ := Kd.R_slice HO540.out; subst eo25)); try go_wp2_with (first | (go_at_call 23; (with_reducible refine (levels_Take.calls kj3 _ _ l0 a1 a2 t536 t537 t538 _ ?side1 ?side2 A12.out).mono ?_); (case side1 => exact cs_ HR0 HB); (case side2 => exact HC0.out); rintro e w21 ⟨v539, rfl, ho0, hb⟩; have HO540 := Aside0.mk (Kd.R_lower ho0 (below_size (hq_ HB))); replace HB := bs_ w hb; (try clear hb); (try clear hb2); (try clear hk); (try clear hi); (try clear ho0)) | (go_at_call 19; (with_reducible refine (levels_Refill.calls kj3 _ _ l0 a1 t541 t542 _ ?side1 ?side2 A13.out).mono ?_); (case side1 => exact cs_ HR0 HB); (case side2 => exact HC0.out); rintro e w22 ⟨v543, rfl, ho0, hb⟩; have HO544 := Aside0.mk (Kd.R_lower (Kd.R_new' ho0 (Kd.R_lt (rs_ HO540))) (below_size (hq_ HB))); replace HO540 := Aside0.mk (Kd.R_elder' (rs_ HO540) (Kd.R_base ho0) hb); replace HB := bs_ w hb; (try clear hb); (try clear hb2); (try clear hk); (try clear hi); (try clear ho0); obtain ⟨Ao23, co23, eo23⟩ := Kd.R_slice HO544.out; subst eo23) | (go_at_call 20; (with_reducible refine (levels_Holds.calls kj3 _ _ t541 a2 t545 t546 _ ?side1 ?side2 A14.out).mono ?_); (case side1 => exact cr_ HO544); (case side2 => exact (Kd.R_reads' HO544.out).2.1); rintro e w24 ⟨rfl, hb⟩; replace HO540 := rb_ HO540 hb; replace HO544 := rb_ HO544 hb; replace HB := bs_ w hb; clear hb; obtain ⟨Ao25, co25, eo25⟩ := Kd.R_slice HO540.out; subst eo25)))
    go_loopg [14, 15] kj3 (fun kq v14 v15 w' => ∃ (x14_2 : Bool) (x15_2 : Int), v14 = .bool x14_2 ∧ v15 = .int .i64 x15_2 ∧ Aside0 (spigotlaw04_LevelsAll.l0 kq l0 a1 a2 t536 t537 t541 x14_2 x15_2 = some r) ∧ Aside0 (kq ≤ kj3) ∧ Aside0 (Kd.R k37 37 w' w.heap.size (fun k_ => some k_ ≠ ((.slice Ao23 t541.length co23) : Value).ownBlock) (.slice Ao25 t536.length co25) t536) ∧ Aside0 (Kd.R k37 37 w' w.heap.size (fun k_ => some k_ ≠ ((.slice Ao25 t536.length co25) : Value).ownBlock) (.slice Ao23 t541.length co23) t541) ∧ Aside0 (Below w.heap.size w w'))
    case atStart => exact ⟨(true), (0), rf_, rf_, H', ⟨Nat.le_refl _⟩, ⟨by (with_reducible repeat (first | apply Kd.R_alloc | apply Kd.R_drewN | apply Kd.R_drew)); exact Kd.R_mono HO540.out (fun _ hk => hk.2)⟩, ⟨by (with_reducible repeat (first | apply Kd.R_alloc | apply Kd.R_drewN | apply Kd.R_drew)); exact Kd.R_mono HO544.out (fun _ hk => hk.2)⟩, bw_⟩
    case round =>
     clear H'
     try clear c9
     try clear c15
     try clear c15b0
     try clear c15b1
     try clear c16
     try clear c16b0
     try clear c16b1
     try clear c17
     try clear c17b0
     try clear c17b1
     try clear c18
     try clear c18b0
     try clear c18b1
     try clear c18b2
     try clear c19
     try clear c19b0
     try clear c19b1
     try clear c19b2
     try clear c20
     try clear c20b0
     try clear c20b1
     try clear c20b2
     obtain ⟨x14_2, x15_2, rfl, rfl, HA, HK2, HO_7, HO_10, HB⟩ := hrel
     cases gk with
     | zero => exact absurd HA.out (by simp [spigotlaw04_LevelsAll.l0])
     | succ k2 =>
      have H := HA.out
      clear HA
      simp only [spigotlaw04_LevelsAll.l0] at H
      by_cases c26 : x15_2 < (l0.length : Int)
      ·rw [if_pos c26] at H
       have c26b0 : decide (x15_2 < (l0.length : Int)) = true := decide_eq_true c26
       clear c26
       by_cases c27 : 0 ≤ x15_2
       rotate_left
       ·rw [if_neg c27] at H; exact absurd H (by simp)
       rw [if_pos c27] at H
       have c27b0 : decide (0 ≤ x15_2) = true := decide_eq_true c27
       clear c27
       obtain ⟨⟨t548, t549, t550, t551, t552, t553, t554⟩, A28, H⟩ := bo_ H
       try dsimp only at H
       obtain ⟨⟨t556, t557, t558, t559, t560, t561, t562⟩, A29, H⟩ := bo_ H
       try dsimp only at H
       by_cases c30 : t554 = 0
       rotate_left
       ·rw [if_neg c30] at H; exact absurd H (by simp)
       rw [if_pos c30] at H
       have c30b0 : (t554 == 0) = true := beq_iff_eq.mpr c30
       have c30b1 : (t554 != 0) = false := bne_eq_false_iff_eq.mpr c30
       clear c30
       by_cases c31 : x15_2 < (t541.length : Int)
       rotate_left
       ·rw [if_neg c31] at H; exact absurd H (by simp)
       rw [if_pos c31] at H
       have c31b0 : decide (x15_2 < (t541.length : Int)) = true := decide_eq_true c31
       clear c31
       by_cases c32 : ((!(t548 == ((rd_T37 t541 x15_2).f0.f0)) || (!(t549 == ((rd_T37 t541 x15_2).f0.f1)) || (!(t550 == ((rd_T37 t541 x15_2).f0.f2))))) || (!(t551 == ((rd_T37 t541 x15_2).f1)) || (!(t552 == ((rd_T37 t541 x15_2).f2)) || (!(t553 == ((rd_T37 t541 x15_2).f3)))))) = true
       ·rw [if_pos c32] at H; exact absurd H (by simp)
       rw [if_neg c32] at H
       have c32b0 : ((!(t548 == ((rd_T37 t541 x15_2).f0.f0)) || (!(t549 == ((rd_T37 t541 x15_2).f0.f1)) || (!(t550 == ((rd_T37 t541 x15_2).f0.f2))))) || (!(t551 == ((rd_T37 t541 x15_2).f1)) || (!(t552 == ((rd_T37 t541 x15_2).f2)) || (!(t553 == ((rd_T37 t541 x15_2).f3)))))) = false := by simpa using c32
       clear c32
       by_cases c33 : t537 = true
       ·subst c33
        rw [if_pos rfl] at H
        try dsimp only at H
        by_cases c34 : t562 = 0
        rotate_left
        ·rw [if_neg c34] at H; exact absurd H (by simp)
        rw [if_pos c34] at H
        have c34b0 : (t562 == 0) = true := beq_iff_eq.mpr c34
        have c34b1 : (t562 != 0) = false := bne_eq_false_iff_eq.mpr c34
        clear c34
        by_cases c35 : x15_2 < (t536.length : Int)
        rotate_left
        ·rw [if_neg c35] at H; exact absurd H (by simp)
        rw [if_pos c35] at H
        have c35b0 : decide (x15_2 < (t536.length : Int)) = true := decide_eq_true c35
        clear c35
        by_cases c36 : ((!(((rd_T37 t536 x15_2).f0.f0) == t556) || (!(((rd_T37 t536 x15_2).f0.f1) == t557) || (!(((rd_T37 t536 x15_2).f0.f2) == t558)))) || (!(((rd_T37 t536 x15_2).f1) == t559) || (!(((rd_T37 t536 x15_2).f2) == t560) || (!(((rd_T37 t536 x15_2).f3) == t561))))) = true
        ·rw [if_pos c36] at H; exact absurd H (by simp)
        rw [if_neg c36] at H
        have c36b0 : ((!(((rd_T37 t536 x15_2).f0.f0) == t556) || (!(((rd_T37 t536 x15_2).f0.f1) == t557) || (!(((rd_T37 t536 x15_2).f0.f2) == t558)))) || (!(((rd_T37 t536 x15_2).f1) == t559) || (!(((rd_T37 t536 x15_2).f2) == t560) || (!(((rd_T37 t536 x15_2).f3) == t561))))) = false := by simpa using c36
        clear c36
        by_cases c37 : x14_2 = true
        ·subst c37
         rw [if_pos rfl] at H
         try dsimp only at H
         have H' := Aside0.mk H
         clear H
         have p547 : 0 ≤ (x15_2 : Int) := of_decide_eq_true (by first | (with_reducible assumption) | assumption)
         have q547 : x15_2 < (l0.length : Int) := of_decide_eq_true (by first | (with_reducible assumption) | assumption)
         obtain ⟨ad547, e547, hx547_0, hx547_1, hx547_2, hx547_3, hx547_4, hx547_5⟩ := at_T37 HR0.out x15_2 p547 q547
         cases e547
         replace hx547_0 := (HB.out.cell (World.block_lt_of_cell? w _ hx547_0)).trans hx547_0
         replace hx547_1 := (HB.out.cell (World.block_lt_of_cell? w _ hx547_1)).trans hx547_1
         replace hx547_2 := (HB.out.cell (World.block_lt_of_cell? w _ hx547_2)).trans hx547_2
         replace hx547_3 := (HB.out.cell (World.block_lt_of_cell? w _ hx547_3)).trans hx547_3
         replace hx547_4 := (HB.out.cell (World.block_lt_of_cell? w _ hx547_4)).trans hx547_4
         replace hx547_5 := (HB.out.cell (World.block_lt_of_cell? w _ hx547_5)).trans hx547_5
         replace p547 := eq_true p547
         replace q547 := eq_true q547
         go_wp2_with (first | (go_at_call 29; (with_reducible refine (bucket_Refill.calls k2 ((rd_T37 l0 x15_2).f0.f0) ((rd_T37 l0 x15_2).f0.f1) ((rd_T37 l0 x15_2).f0.f2) ((rd_T37 l0 x15_2).f1) ((rd_T37 l0 x15_2).f2) ((rd_T37 l0 x15_2).f3) a1 t548 t549 t550 t551 t552 t553 t554 _ A28.out).mono ?_); rintro e w38 ⟨rfl, hb⟩; replace HO_7 := rb_ HO_7 hb; replace HO_10 := rb_ HO_10 hb; replace HB := bs_ w hb; clear hb) | ((with_reducible refine gate_dst (N := 16) rfl ?_); (try refine ug_ (by rfl) ?_); refine bx_ #[.int .i64 0, .int .i64 0, .int .i64 0, .int .i64 0, .int .i64 0, .int .u64 0] 37 ?_; intro gb555 hg w39 BK555 hb; have GW555 := bz_ w hg; have GE555 := GW555; replace HO_7 := Aside0.mk (Kd.R_below (Kd.R_elderB (rs_ HO_7) gb555 (Nat.le_of_eq hg.symm)) hb); replace HO_10 := Aside0.mk (Kd.R_below (Kd.R_elderB (rs_ HO_10) gb555 (Nat.le_of_eq hg.symm)) hb); replace HB := bs_ w hb; clear hb hg; obtain ⟨hcz40_0, hcz40_1, hcz40_2, hcz40_3, hcz40_4, hcz40_5, hfz40_0, hfz40_1, hfz40_2, hfz40_3, hfz40_4, hfz40_5⟩ := ce6_ BK555) | (go_at_call 30; (with_reducible refine (bucket_Charge.calls t548 t549 t550 t551 t552 t553 a2 t556 t557 t558 t559 t560 t561 t562 _ A29.out).mono ?_); rintro e w41 ⟨rfl, hb⟩; replace HO_7 := Aside0.mk (Kd.R_below (by (with_reducible repeat (first | apply Kd.R_alloc | apply Kd.R_drewN | apply Kd.R_drew)); exact (Kd.R_mono (Kd.R_far (p := ⟨gb555, 5, none⟩) (Kd.R_far (p := ⟨gb555, 4, none⟩) (Kd.R_far (p := ⟨gb555, 3, none⟩) (Kd.R_far (p := ⟨gb555, 2, none⟩) (Kd.R_far (p := ⟨gb555, 1, none⟩) (Kd.R_far (p := ⟨gb555, 0, none⟩) (Kd.R_mono HO_7.out (fun k_ hk => (⟨hk, hk.2⟩ : _ ∧ k_ ≠ gb555))) (fun _ hk => hk.2) (.int .i64 t548)) (fun _ hk => hk.2) (.int .i64 t549)) (fun _ hk => hk.2) (.int .i64 t550)) (fun _ hk => hk.2) (.int .i64 t551)) (fun _ hk => hk.2) (.int .i64 t552)) (fun _ hk => hk.2) (.int .u64 t553)) (fun _ h_ => h_.1))) hb); replace HO_10 := Aside0.mk (Kd.R_below (by (with_reducible repeat (first | apply Kd.R_alloc | apply Kd.R_drewN | apply Kd.R_drew)); exact (Kd.R_mono (Kd.R_far (p := ⟨gb555, 5, none⟩) (Kd.R_far (p := ⟨gb555, 4, none⟩) (Kd.R_far (p := ⟨gb555, 3, none⟩) (Kd.R_far (p := ⟨gb555, 2, none⟩) (Kd.R_far (p := ⟨gb555, 1, none⟩) (Kd.R_far (p := ⟨gb555, 0, none⟩) (Kd.R_mono HO_10.out (fun k_ hk => (⟨hk, hk.2⟩ : _ ∧ k_ ≠ gb555))) (fun _ hk => hk.2) (.int .i64 t548)) (fun _ hk => hk.2) (.int .i64 t549)) (fun _ hk => hk.2) (.int .i64 t550)) (fun _ hk => hk.2) (.int .i64 t551)) (fun _ hk => hk.2) (.int .i64 t552)) (fun _ hk => hk.2) (.int .u64 t553)) (fun _ h_ => h_.1))) hb); replace BK555 := Aside0.mk (blk_below (g := gb555) (o := .cells #[.int .i64 t548, .int .i64 t549, .int .i64 t550, .int .i64 t551, .int .i64 t552, .int .u64 t553] 37 (0, 0)) (bp6_ (bq_ BK555)) hb); replace HB := bs_ w hb; clear hb) | ((with_reducible refine gate_dst (N := 18) rfl ?_); (try refine ug_ (by rfl) ?_); refine bx_ #[.int .i64 0, .int .i64 0, .int .i64 0, .int .i64 0, .int .i64 0, .int .u64 0] 37 ?_; intro gb563 hg w42 BK563 hb; have GW563 := bz_ w hg; have GE563 := GW563; have NB555_563 := bn_ BK555 hg; have NB563_555 := bm_ BK555 hg; replace HO_7 := Aside0.mk (Kd.R_below (Kd.R_elderB (rs_ HO_7) gb563 (Nat.le_of_eq hg.symm)) hb); replace HO_10 := Aside0.mk (Kd.R_below (Kd.R_elderB (rs_ HO_10) gb563 (Nat.le_of_eq hg.symm)) hb); replace BK555 := bb_ BK555 hb; replace HB := bs_ w hb; clear hb hg; have hnb43 := NB563_555.out; have hnc43 := NB555_563.out; obtain ⟨hcz44_0, hcz44_1, hcz44_2, hcz44_3, hcz44_4, hcz44_5, hfz44_0, hfz44_1, hfz44_2, hfz44_3, hfz44_4, hfz44_5⟩ := ce6_ BK563; obtain ⟨hcz45_0, hcz45_1, hcz45_2, hcz45_3, hcz45_4, hcz45_5, hfz45_0, hfz45_1, hfz45_2, hfz45_3, hfz45_4, hfz45_5⟩ := ce6_ BK555; have p564 : 0 ≤ (x15_2 : Int) := of_decide_eq_true (by first | (with_reducible assumption) | assumption); have q564 : x15_2 < (t541.length : Int) := of_decide_eq_true (by first | (with_reducible assumption) | assumption); obtain ⟨ad564, e564, hx564_0, hx564_1, hx564_2, hx564_3, hx564_4, hx564_5⟩ := at_T37 (Kd.R_reads' HO_10.out).2.2 x15_2 p564 q564; cases e564; have hn564 : ad564.block ≠ gb563 := Kd.own_blk (rn_ HO_10.out BK563.out); replace hx564_0 := cx6_ gb563 (.int .i64 t556) (.int .i64 t557) (.int .i64 t558) (.int .i64 t559) (.int .i64 t560) (.int .u64 t561) hx564_0; replace hx564_1 := cx6_ gb563 (.int .i64 t556) (.int .i64 t557) (.int .i64 t558) (.int .i64 t559) (.int .i64 t560) (.int .u64 t561) hx564_1; replace hx564_2 := cx6_ gb563 (.int .i64 t556) (.int .i64 t557) (.int .i64 t558) (.int .i64 t559) (.int .i64 t560) (.int .u64 t561) hx564_2; replace hx564_3 := cx6_ gb563 (.int .i64 t556) (.int .i64 t557) (.int .i64 t558) (.int .i64 t559) (.int .i64 t560) (.int .u64 t561) hx564_3; replace hx564_4 := cx6_ gb563 (.int .i64 t556) (.int .i64 t557) (.int .i64 t558) (.int .i64 t559) (.int .i64 t560) (.int .u64 t561) hx564_4; replace hx564_5 := cx6_ gb563 (.int .i64 t556) (.int .i64 t557) (.int .i64 t558) (.int .i64 t559) (.int .i64 t560) (.int .u64 t561) hx564_5; (try have hy564_0 := cy6_ hx564_0); (try have hy564_1 := cy6_ hx564_1); (try have hy564_2 := cy6_ hx564_2); (try have hy564_3 := cy6_ hx564_3); (try have hy564_4 := cy6_ hx564_4); (try have hy564_5 := cy6_ hx564_5); clear hn564; replace p564 := eq_true p564; replace q564 := eq_true q564; have p565 : 0 ≤ (x15_2 : Int) := of_decide_eq_true (by first | (with_reducible assumption) | assumption); have q565 : x15_2 < (t536.length : Int) := of_decide_eq_true (by first | (with_reducible assumption) | assumption); obtain ⟨ad565, e565, hx565_0, hx565_1, hx565_2, hx565_3, hx565_4, hx565_5⟩ := at_T37 (Kd.R_reads' HO_7.out).2.2 x15_2 p565 q565; cases e565; have hn565 : ad565.block ≠ gb563 := Kd.own_blk (rn_ HO_7.out BK563.out); replace hx565_0 := cx6_ gb563 (.int .i64 t556) (.int .i64 t557) (.int .i64 t558) (.int .i64 t559) (.int .i64 t560) (.int .u64 t561) hx565_0; replace hx565_1 := cx6_ gb563 (.int .i64 t556) (.int .i64 t557) (.int .i64 t558) (.int .i64 t559) (.int .i64 t560) (.int .u64 t561) hx565_1; replace hx565_2 := cx6_ gb563 (.int .i64 t556) (.int .i64 t557) (.int .i64 t558) (.int .i64 t559) (.int .i64 t560) (.int .u64 t561) hx565_2; replace hx565_3 := cx6_ gb563 (.int .i64 t556) (.int .i64 t557) (.int .i64 t558) (.int .i64 t559) (.int .i64 t560) (.int .u64 t561) hx565_3; replace hx565_4 := cx6_ gb563 (.int .i64 t556) (.int .i64 t557) (.int .i64 t558) (.int .i64 t559) (.int .i64 t560) (.int .u64 t561) hx565_4; replace hx565_5 := cx6_ gb563 (.int .i64 t556) (.int .i64 t557) (.int .i64 t558) (.int .i64 t559) (.int .i64 t560) (.int .u64 t561) hx565_5; (try have hy565_0 := cy6_ hx565_0); (try have hy565_1 := cy6_ hx565_1); (try have hy565_2 := cy6_ hx565_2); (try have hy565_3 := cy6_ hx565_3); (try have hy565_4 := cy6_ hx565_4); (try have hy565_5 := cy6_ hx565_5); clear hn565; replace p565 := eq_true p565; replace q565 := eq_true q565))
         repeat (go_quiet (first | (go_at_call 29; (with_reducible refine (bucket_Refill.calls k2 ((rd_T37 l0 x15_2).f0.f0) ((rd_T37 l0 x15_2).f0.f1) ((rd_T37 l0 x15_2).f0.f2) ((rd_T37 l0 x15_2).f1) ((rd_T37 l0 x15_2).f2) ((rd_T37 l0 x15_2).f3) a1 t548 t549 t550 t551 t552 t553 t554 _ A28.out).mono ?_); rintro e w38 ⟨rfl, hb⟩; replace HO_7 := rb_ HO_7 hb; replace HO_10 := rb_ HO_10 hb; replace HB := bs_ w hb; clear hb) | ((with_reducible refine gate_dst (N := 16) rfl ?_); (try refine ug_ (by rfl) ?_); refine bx_ #[.int .i64 0, .int .i64 0, .int .i64 0, .int .i64 0, .int .i64 0, .int .u64 0] 37 ?_; intro gb555 hg w39 BK555 hb; have GW555 := bz_ w hg; have GE555 := GW555; replace HO_7 := Aside0.mk (Kd.R_below (Kd.R_elderB (rs_ HO_7) gb555 (Nat.le_of_eq hg.symm)) hb); replace HO_10 := Aside0.mk (Kd.R_below (Kd.R_elderB (rs_ HO_10) gb555 (Nat.le_of_eq hg.symm)) hb); replace HB := bs_ w hb; clear hb hg; obtain ⟨hcz40_0, hcz40_1, hcz40_2, hcz40_3, hcz40_4, hcz40_5, hfz40_0, hfz40_1, hfz40_2, hfz40_3, hfz40_4, hfz40_5⟩ := ce6_ BK555) | (go_at_call 30; (with_reducible refine (bucket_Charge.calls t548 t549 t550 t551 t552 t553 a2 t556 t557 t558 t559 t560 t561 t562 _ A29.out).mono ?_); rintro e w41 ⟨rfl, hb⟩; replace HO_7 := Aside0.mk (Kd.R_below (by (with_reducible repeat (first | apply Kd.R_alloc | apply Kd.R_drewN | apply Kd.R_drew)); exact (Kd.R_mono (Kd.R_far (p := ⟨gb555, 5, none⟩) (Kd.R_far (p := ⟨gb555, 4, none⟩) (Kd.R_far (p := ⟨gb555, 3, none⟩) (Kd.R_far (p := ⟨gb555, 2, none⟩) (Kd.R_far (p := ⟨gb555, 1, none⟩) (Kd.R_far (p := ⟨gb555, 0, none⟩) (Kd.R_mono HO_7.out (fun k_ hk => (⟨hk, hk.2⟩ : _ ∧ k_ ≠ gb555))) (fun _ hk => hk.2) (.int .i64 t548)) (fun _ hk => hk.2) (.int .i64 t549)) (fun _ hk => hk.2) (.int .i64 t550)) (fun _ hk => hk.2) (.int .i64 t551)) (fun _ hk => hk.2) (.int .i64 t552)) (fun _ hk => hk.2) (.int .u64 t553)) (fun _ h_ => h_.1))) hb); replace HO_10 := Aside0.mk (Kd.R_below (by (with_reducible repeat (first | apply Kd.R_alloc | apply Kd.R_drewN | apply Kd.R_drew)); exact (Kd.R_mono (Kd.R_far (p := ⟨gb555, 5, none⟩) (Kd.R_far (p := ⟨gb555, 4, none⟩) (Kd.R_far (p := ⟨gb555, 3, none⟩) (Kd.R_far (p := ⟨gb555, 2, none⟩) (Kd.R_far (p := ⟨gb555, 1, none⟩) (Kd.R_far (p := ⟨gb555, 0, none⟩) (Kd.R_mono HO_10.out (fun k_ hk => (⟨hk, hk.2⟩ : _ ∧ k_ ≠ gb555))) (fun _ hk => hk.2) (.int .i64 t548)) (fun _ hk => hk.2) (.int .i64 t549)) (fun _ hk => hk.2) (.int .i64 t550)) (fun _ hk => hk.2) (.int .i64 t551)) (fun _ hk => hk.2) (.int .i64 t552)) (fun _ hk => hk.2) (.int .u64 t553)) (fun _ h_ => h_.1))) hb); replace BK555 := Aside0.mk (blk_below (g := gb555) (o := .cells #[.int .i64 t548, .int .i64 t549, .int .i64 t550, .int .i64 t551, .int .i64 t552, .int .u64 t553] 37 (0, 0)) (bp6_ (bq_ BK555)) hb); replace HB := bs_ w hb; clear hb) | ((with_reducible refine gate_dst (N := 18) rfl ?_); (try refine ug_ (by rfl) ?_); refine bx_ #[.int .i64 0, .int .i64 0, .int .i64 0, .int .i64 0, .int .i64 0, .int .u64 0] 37 ?_; intro gb563 hg w42 BK563 hb; have GW563 := bz_ w hg; have GE563 := GW563; have NB555_563 := bn_ BK555 hg; have NB563_555 := bm_ BK555 hg; replace HO_7 := Aside0.mk (Kd.R_below (Kd.R_elderB (rs_ HO_7) gb563 (Nat.le_of_eq hg.symm)) hb); replace HO_10 := Aside0.mk (Kd.R_below (Kd.R_elderB (rs_ HO_10) gb563 (Nat.le_of_eq hg.symm)) hb); replace BK555 := bb_ BK555 hb; replace HB := bs_ w hb; clear hb hg; have hnb43 := NB563_555.out; have hnc43 := NB555_563.out; obtain ⟨hcz44_0, hcz44_1, hcz44_2, hcz44_3, hcz44_4, hcz44_5, hfz44_0, hfz44_1, hfz44_2, hfz44_3, hfz44_4, hfz44_5⟩ := ce6_ BK563; obtain ⟨hcz45_0, hcz45_1, hcz45_2, hcz45_3, hcz45_4, hcz45_5, hfz45_0, hfz45_1, hfz45_2, hfz45_3, hfz45_4, hfz45_5⟩ := ce6_ BK555; have p564 : 0 ≤ (x15_2 : Int) := of_decide_eq_true (by first | (with_reducible assumption) | assumption); have q564 : x15_2 < (t541.length : Int) := of_decide_eq_true (by first | (with_reducible assumption) | assumption); obtain ⟨ad564, e564, hx564_0, hx564_1, hx564_2, hx564_3, hx564_4, hx564_5⟩ := at_T37 (Kd.R_reads' HO_10.out).2.2 x15_2 p564 q564; cases e564; have hn564 : ad564.block ≠ gb563 := Kd.own_blk (rn_ HO_10.out BK563.out); replace hx564_0 := cx6_ gb563 (.int .i64 t556) (.int .i64 t557) (.int .i64 t558) (.int .i64 t559) (.int .i64 t560) (.int .u64 t561) hx564_0; replace hx564_1 := cx6_ gb563 (.int .i64 t556) (.int .i64 t557) (.int .i64 t558) (.int .i64 t559) (.int .i64 t560) (.int .u64 t561) hx564_1; replace hx564_2 := cx6_ gb563 (.int .i64 t556) (.int .i64 t557) (.int .i64 t558) (.int .i64 t559) (.int .i64 t560) (.int .u64 t561) hx564_2; replace hx564_3 := cx6_ gb563 (.int .i64 t556) (.int .i64 t557) (.int .i64 t558) (.int .i64 t559) (.int .i64 t560) (.int .u64 t561) hx564_3; replace hx564_4 := cx6_ gb563 (.int .i64 t556) (.int .i64 t557) (.int .i64 t558) (.int .i64 t559) (.int .i64 t560) (.int .u64 t561) hx564_4; replace hx564_5 := cx6_ gb563 (.int .i64 t556) (.int .i64 t557) (.int .i64 t558) (.int .i64 t559) (.int .i64 t560) (.int .u64 t561) hx564_5; (try have hy564_0 := cy6_ hx564_0); (try have hy564_1 := cy6_ hx564_1); (try have hy564_2 := cy6_ hx564_2); (try have hy564_3 := cy6_ hx564_3); (try have hy564_4 := cy6_ hx564_4); (try have hy564_5 := cy6_ hx564_5); clear hn564; replace p564 := eq_true p564; replace q564 := eq_true q564; have p565 : 0 ≤ (x15_2 : Int) := of_decide_eq_true (by first | (with_reducible assumption) | assumption); have q565 : x15_2 < (t536.length : Int) := of_decide_eq_true (by first | (with_reducible assumption) | assumption); obtain ⟨ad565, e565, hx565_0, hx565_1, hx565_2, hx565_3, hx565_4, hx565_5⟩ := at_T37 (Kd.R_reads' HO_7.out).2.2 x15_2 p565 q565; cases e565; have hn565 : ad565.block ≠ gb563 := Kd.own_blk (rn_ HO_7.out BK563.out); replace hx565_0 := cx6_ gb563 (.int .i64 t556) (.int .i64 t557) (.int .i64 t558) (.int .i64 t559) (.int .i64 t560) (.int .u64 t561) hx565_0; replace hx565_1 := cx6_ gb563 (.int .i64 t556) (.int .i64 t557) (.int .i64 t558) (.int .i64 t559) (.int .i64 t560) (.int .u64 t561) hx565_1; replace hx565_2 := cx6_ gb563 (.int .i64 t556) (.int .i64 t557) (.int .i64 t558) (.int .i64 t559) (.int .i64 t560) (.int .u64 t561) hx565_2; replace hx565_3 := cx6_ gb563 (.int .i64 t556) (.int .i64 t557) (.int .i64 t558) (.int .i64 t559) (.int .i64 t560) (.int .u64 t561) hx565_3; replace hx565_4 := cx6_ gb563 (.int .i64 t556) (.int .i64 t557) (.int .i64 t558) (.int .i64 t559) (.int .i64 t560) (.int .u64 t561) hx565_4; replace hx565_5 := cx6_ gb563 (.int .i64 t556) (.int .i64 t557) (.int .i64 t558) (.int .i64 t559) (.int .i64 t560) (.int .u64 t561) hx565_5; (try have hy565_0 := cy6_ hx565_0); (try have hy565_1 := cy6_ hx565_1); (try have hy565_2 := cy6_ hx565_2); (try have hy565_3 := cy6_ hx565_3); (try have hy565_4 := cy6_ hx565_4); (try have hy565_5 := cy6_ hx565_5); clear hn565; replace p565 := eq_true p565; replace q565 := eq_true q565)); try go_wp2_with (first | (go_at_call 29; (with_reducible refine (bucket_Refill.calls k2 ((rd_T37 l0 x15_2).f0.f0) ((rd_T37 l0 x15_2).f0.f1) ((rd_T37 l0 x15_2).f0.f2) ((rd_T37 l0 x15_2).f1) ((rd_T37 l0 x15_2).f2) ((rd_T37 l0 x15_2).f3) a1 t548 t549 t550 t551 t552 t553 t554 _ A28.out).mono ?_); rintro e w38 ⟨rfl, hb⟩; replace HO_7 := rb_ HO_7 hb; replace HO_10 := rb_ HO_10 hb; replace HB := bs_ w hb; clear hb) | ((with_reducible refine gate_dst (N := 16) rfl ?_); (try refine ug_ (by rfl) ?_); refine bx_ #[.int .i64 0, .int .i64 0, .int .i64 0, .int .i64 0, .int .i64 0, .int .u64 0] 37 ?_; intro gb555 hg w39 BK555 hb; have GW555 := bz_ w hg; have GE555 := GW555; replace HO_7 := Aside0.mk (Kd.R_below (Kd.R_elderB (rs_ HO_7) gb555 (Nat.le_of_eq hg.symm)) hb); replace HO_10 := Aside0.mk (Kd.R_below (Kd.R_elderB (rs_ HO_10) gb555 (Nat.le_of_eq hg.symm)) hb); replace HB := bs_ w hb; clear hb hg; obtain ⟨hcz40_0, hcz40_1, hcz40_2, hcz40_3, hcz40_4, hcz40_5, hfz40_0, hfz40_1, hfz40_2, hfz40_3, hfz40_4, hfz40_5⟩ := ce6_ BK555) | (go_at_call 30; (with_reducible refine (bucket_Charge.calls t548 t549 t550 t551 t552 t553 a2 t556 t557 t558 t559 t560 t561 t562 _ A29.out).mono ?_); rintro e w41 ⟨rfl, hb⟩; replace HO_7 := Aside0.mk (Kd.R_below (by (with_reducible repeat (first | apply Kd.R_alloc | apply Kd.R_drewN | apply Kd.R_drew)); exact (Kd.R_mono (Kd.R_far (p := ⟨gb555, 5, none⟩) (Kd.R_far (p := ⟨gb555, 4, none⟩) (Kd.R_far (p := ⟨gb555, 3, none⟩) (Kd.R_far (p := ⟨gb555, 2, none⟩) (Kd.R_far (p := ⟨gb555, 1, none⟩) (Kd.R_far (p := ⟨gb555, 0, none⟩) (Kd.R_mono HO_7.out (fun k_ hk => (⟨hk, hk.2⟩ : _ ∧ k_ ≠ gb555))) (fun _ hk => hk.2) (.int .i64 t548)) (fun _ hk => hk.2) (.int .i64 t549)) (fun _ hk => hk.2) (.int .i64 t550)) (fun _ hk => hk.2) (.int .i64 t551)) (fun _ hk => hk.2) (.int .i64 t552)) (fun _ hk => hk.2) (.int .u64 t553)) (fun _ h_ => h_.1))) hb); replace HO_10 := Aside0.mk (Kd.R_below (by (with_reducible repeat (first | apply Kd.R_alloc | apply Kd.R_drewN | apply Kd.R_drew)); exact (Kd.R_mono (Kd.R_far (p := ⟨gb555, 5, none⟩) (Kd.R_far (p := ⟨gb555, 4, none⟩) (Kd.R_far (p := ⟨gb555, 3, none⟩) (Kd.R_far (p := ⟨gb555, 2, none⟩) (Kd.R_far (p := ⟨gb555, 1, none⟩) (Kd.R_far (p := ⟨gb555, 0, none⟩) (Kd.R_mono HO_10.out (fun k_ hk => (⟨hk, hk.2⟩ : _ ∧ k_ ≠ gb555))) (fun _ hk => hk.2) (.int .i64 t548)) (fun _ hk => hk.2) (.int .i64 t549)) (fun _ hk => hk.2) (.int .i64 t550)) (fun _ hk => hk.2) (.int .i64 t551)) (fun _ hk => hk.2) (.int .i64 t552)) (fun _ hk => hk.2) (.int .u64 t553)) (fun _ h_ => h_.1))) hb); replace BK555 := Aside0.mk (blk_below (g := gb555) (o := .cells #[.int .i64 t548, .int .i64 t549, .int .i64 t550, .int .i64 t551, .int .i64 t552, .int .u64 t553] 37 (0, 0)) (bp6_ (bq_ BK555)) hb); replace HB := bs_ w hb; clear hb) | ((with_reducible refine gate_dst (N := 18) rfl ?_); (try refine ug_ (by rfl) ?_); refine bx_ #[.int .i64 0, .int .i64 0, .int .i64 0, .int .i64 0, .int .i64 0, .int .u64 0] 37 ?_; intro gb563 hg w42 BK563 hb; have GW563 := bz_ w hg; have GE563 := GW563; have NB555_563 := bn_ BK555 hg; have NB563_555 := bm_ BK555 hg; replace HO_7 := Aside0.mk (Kd.R_below (Kd.R_elderB (rs_ HO_7) gb563 (Nat.le_of_eq hg.symm)) hb); replace HO_10 := Aside0.mk (Kd.R_below (Kd.R_elderB (rs_ HO_10) gb563 (Nat.le_of_eq hg.symm)) hb); replace BK555 := bb_ BK555 hb; replace HB := bs_ w hb; clear hb hg; have hnb43 := NB563_555.out; have hnc43 := NB555_563.out; obtain ⟨hcz44_0, hcz44_1, hcz44_2, hcz44_3, hcz44_4, hcz44_5, hfz44_0, hfz44_1, hfz44_2, hfz44_3, hfz44_4, hfz44_5⟩ := ce6_ BK563; obtain ⟨hcz45_0, hcz45_1, hcz45_2, hcz45_3, hcz45_4, hcz45_5, hfz45_0, hfz45_1, hfz45_2, hfz45_3, hfz45_4, hfz45_5⟩ := ce6_ BK555; have p564 : 0 ≤ (x15_2 : Int) := of_decide_eq_true (by first | (with_reducible assumption) | assumption); have q564 : x15_2 < (t541.length : Int) := of_decide_eq_true (by first | (with_reducible assumption) | assumption); obtain ⟨ad564, e564, hx564_0, hx564_1, hx564_2, hx564_3, hx564_4, hx564_5⟩ := at_T37 (Kd.R_reads' HO_10.out).2.2 x15_2 p564 q564; cases e564; have hn564 : ad564.block ≠ gb563 := Kd.own_blk (rn_ HO_10.out BK563.out); replace hx564_0 := cx6_ gb563 (.int .i64 t556) (.int .i64 t557) (.int .i64 t558) (.int .i64 t559) (.int .i64 t560) (.int .u64 t561) hx564_0; replace hx564_1 := cx6_ gb563 (.int .i64 t556) (.int .i64 t557) (.int .i64 t558) (.int .i64 t559) (.int .i64 t560) (.int .u64 t561) hx564_1; replace hx564_2 := cx6_ gb563 (.int .i64 t556) (.int .i64 t557) (.int .i64 t558) (.int .i64 t559) (.int .i64 t560) (.int .u64 t561) hx564_2; replace hx564_3 := cx6_ gb563 (.int .i64 t556) (.int .i64 t557) (.int .i64 t558) (.int .i64 t559) (.int .i64 t560) (.int .u64 t561) hx564_3; replace hx564_4 := cx6_ gb563 (.int .i64 t556) (.int .i64 t557) (.int .i64 t558) (.int .i64 t559) (.int .i64 t560) (.int .u64 t561) hx564_4; replace hx564_5 := cx6_ gb563 (.int .i64 t556) (.int .i64 t557) (.int .i64 t558) (.int .i64 t559) (.int .i64 t560) (.int .u64 t561) hx564_5; (try have hy564_0 := cy6_ hx564_0); (try have hy564_1 := cy6_ hx564_1); (try have hy564_2 := cy6_ hx564_2); (try have hy564_3 := cy6_ hx564_3); (try have hy564_4 := cy6_ hx564_4); (try have hy564_5 := cy6_ hx564_5); clear hn564; replace p564 := eq_true p564; replace q564 := eq_true q564; have p565 : 0 ≤ (x15_2 : Int) := of_decide_eq_true (by first | (with_reducible assumption) | assumption); have q565 : x15_2 < (t536.length : Int) := of_decide_eq_true (by first | (with_reducible assumption) | assumption); obtain ⟨ad565, e565, hx565_0, hx565_1, hx565_2, hx565_3, hx565_4, hx565_5⟩ := at_T37 (Kd.R_reads' HO_7.out).2.2 x15_2 p565 q565; cases e565; have hn565 : ad565.block ≠ gb563 := Kd.own_blk (rn_ HO_7.out BK563.out); replace hx565_0 := cx6_ gb563 (.int .i64 t556) (.int .i64 t557) (.int .i64 t558) (.int .i64 t559) (.int .i64 t560) (.int .u64 t561) hx565_0; replace hx565_1 := cx6_ gb563 (.int .i64 t556) (.int .i64 t557) (.int .i64 t558) (.int .i64 t559) (.int .i64 t560) (.int .u64 t561) hx565_1; replace hx565_2 := cx6_ gb563 (.int .i64 t556) (.int .i64 t557) (.int .i64 t558) (.int .i64 t559) (.int .i64 t560) (.int .u64 t561) hx565_2; replace hx565_3 := cx6_ gb563 (.int .i64 t556) (.int .i64 t557) (.int .i64 t558) (.int .i64 t559) (.int .i64 t560) (.int .u64 t561) hx565_3; replace hx565_4 := cx6_ gb563 (.int .i64 t556) (.int .i64 t557) (.int .i64 t558) (.int .i64 t559) (.int .i64 t560) (.int .u64 t561) hx565_4; replace hx565_5 := cx6_ gb563 (.int .i64 t556) (.int .i64 t557) (.int .i64 t558) (.int .i64 t559) (.int .i64 t560) (.int .u64 t561) hx565_5; (try have hy565_0 := cy6_ hx565_0); (try have hy565_1 := cy6_ hx565_1); (try have hy565_2 := cy6_ hx565_2); (try have hy565_3 := cy6_ hx565_3); (try have hy565_4 := cy6_ hx565_4); (try have hy565_5 := cy6_ hx565_5); clear hn565; replace p565 := eq_true p565; replace q565 := eq_true q565)))
         go_roundg k2
         case measure => have := HJ3.out; have := HK2.out; omega
         case rel => exact ⟨((t562 == 0)), (wrap64 (x15_2 + 1)), rf_, rf_, H', ⟨by have := HJ3.out; have := HK2.out; omega⟩, ⟨by (with_reducible repeat (first | apply Kd.R_alloc | apply Kd.R_drewN | apply Kd.R_drew)); exact Kd.R_mono (Kd.R_far (p := ⟨gb563, 5, none⟩) (Kd.R_far (p := ⟨gb563, 4, none⟩) (Kd.R_far (p := ⟨gb563, 3, none⟩) (Kd.R_far (p := ⟨gb563, 2, none⟩) (Kd.R_far (p := ⟨gb563, 1, none⟩) (Kd.R_far (p := ⟨gb563, 0, none⟩) (Kd.R_mono HO_7.out (fun k_ hk => (⟨hk, hk.2⟩ : _ ∧ k_ ≠ gb563))) (fun _ hk => hk.2) (.int .i64 t556)) (fun _ hk => hk.2) (.int .i64 t557)) (fun _ hk => hk.2) (.int .i64 t558)) (fun _ hk => hk.2) (.int .i64 t559)) (fun _ hk => hk.2) (.int .i64 t560)) (fun _ hk => hk.2) (.int .u64 t561)) (fun _ hk => hk.1.1.1)⟩, ⟨by (with_reducible repeat (first | apply Kd.R_alloc | apply Kd.R_drewN | apply Kd.R_drew)); exact Kd.R_mono (Kd.R_far (p := ⟨gb563, 5, none⟩) (Kd.R_far (p := ⟨gb563, 4, none⟩) (Kd.R_far (p := ⟨gb563, 3, none⟩) (Kd.R_far (p := ⟨gb563, 2, none⟩) (Kd.R_far (p := ⟨gb563, 1, none⟩) (Kd.R_far (p := ⟨gb563, 0, none⟩) (Kd.R_mono HO_10.out (fun k_ hk => (⟨hk, hk.2⟩ : _ ∧ k_ ≠ gb563))) (fun _ hk => hk.2) (.int .i64 t556)) (fun _ hk => hk.2) (.int .i64 t557)) (fun _ hk => hk.2) (.int .i64 t558)) (fun _ hk => hk.2) (.int .i64 t559)) (fun _ hk => hk.2) (.int .i64 t560)) (fun _ hk => hk.2) (.int .u64 t561)) (fun _ hk => hk.1.1.1)⟩, bw_⟩
        ·replace c37 := Bool.eq_false_iff.mpr c37
         subst c37
         rw [if_neg (show ¬ (false = true) by decide)] at H
         try dsimp only at H
         have H' := Aside0.mk H
         clear H
         have p547 : 0 ≤ (x15_2 : Int) := of_decide_eq_true (by first | (with_reducible assumption) | assumption)
         have q547 : x15_2 < (l0.length : Int) := of_decide_eq_true (by first | (with_reducible assumption) | assumption)
         obtain ⟨ad547, e547, hx547_0, hx547_1, hx547_2, hx547_3, hx547_4, hx547_5⟩ := at_T37 HR0.out x15_2 p547 q547
         cases e547
         replace hx547_0 := (HB.out.cell (World.block_lt_of_cell? w _ hx547_0)).trans hx547_0
         replace hx547_1 := (HB.out.cell (World.block_lt_of_cell? w _ hx547_1)).trans hx547_1
         replace hx547_2 := (HB.out.cell (World.block_lt_of_cell? w _ hx547_2)).trans hx547_2
         replace hx547_3 := (HB.out.cell (World.block_lt_of_cell? w _ hx547_3)).trans hx547_3
         replace hx547_4 := (HB.out.cell (World.block_lt_of_cell? w _ hx547_4)).trans hx547_4
         replace hx547_5 := (HB.out.cell (World.block_lt_of_cell? w _ hx547_5)).trans hx547_5
         replace p547 := eq_true p547
         replace q547 := eq_true q547
         go_wp2_with (first | (go_at_call 29; (with_reducible refine (bucket_Refill.calls k2 ((rd_T37 l0 x15_2).f0.f0) ((rd_T37 l0 x15_2).f0.f1) ((rd_T37 l0 x15_2).f0.f2) ((rd_T37 l0 x15_2).f1) ((rd_T37 l0 x15_2).f2) ((rd_T37 l0 x15_2).f3) a1 t548 t549 t550 t551 t552 t553 t554 _ A28.out).mono ?_); rintro e w46 ⟨rfl, hb⟩; replace HO_7 := rb_ HO_7 hb; replace HO_10 := rb_ HO_10 hb; replace HB := bs_ w hb; clear hb) | ((with_reducible refine gate_dst (N := 16) rfl ?_); (try refine ug_ (by rfl) ?_); refine bx_ #[.int .i64 0, .int .i64 0, .int .i64 0, .int .i64 0, .int .i64 0, .int .u64 0] 37 ?_; intro gb555 hg w47 BK555 hb; have GW555 := bz_ w hg; have GE555 := GW555; replace HO_7 := Aside0.mk (Kd.R_below (Kd.R_elderB (rs_ HO_7) gb555 (Nat.le_of_eq hg.symm)) hb); replace HO_10 := Aside0.mk (Kd.R_below (Kd.R_elderB (rs_ HO_10) gb555 (Nat.le_of_eq hg.symm)) hb); replace HB := bs_ w hb; clear hb hg; obtain ⟨hcz48_0, hcz48_1, hcz48_2, hcz48_3, hcz48_4, hcz48_5, hfz48_0, hfz48_1, hfz48_2, hfz48_3, hfz48_4, hfz48_5⟩ := ce6_ BK555) | (go_at_call 30; (with_reducible refine (bucket_Charge.calls t548 t549 t550 t551 t552 t553 a2 t556 t557 t558 t559 t560 t561 t562 _ A29.out).mono ?_); rintro e w49 ⟨rfl, hb⟩; replace HO_7 := Aside0.mk (Kd.R_below (by (with_reducible repeat (first | apply Kd.R_alloc | apply Kd.R_drewN | apply Kd.R_drew)); exact (Kd.R_mono (Kd.R_far (p := ⟨gb555, 5, none⟩) (Kd.R_far (p := ⟨gb555, 4, none⟩) (Kd.R_far (p := ⟨gb555, 3, none⟩) (Kd.R_far (p := ⟨gb555, 2, none⟩) (Kd.R_far (p := ⟨gb555, 1, none⟩) (Kd.R_far (p := ⟨gb555, 0, none⟩) (Kd.R_mono HO_7.out (fun k_ hk => (⟨hk, hk.2⟩ : _ ∧ k_ ≠ gb555))) (fun _ hk => hk.2) (.int .i64 t548)) (fun _ hk => hk.2) (.int .i64 t549)) (fun _ hk => hk.2) (.int .i64 t550)) (fun _ hk => hk.2) (.int .i64 t551)) (fun _ hk => hk.2) (.int .i64 t552)) (fun _ hk => hk.2) (.int .u64 t553)) (fun _ h_ => h_.1))) hb); replace HO_10 := Aside0.mk (Kd.R_below (by (with_reducible repeat (first | apply Kd.R_alloc | apply Kd.R_drewN | apply Kd.R_drew)); exact (Kd.R_mono (Kd.R_far (p := ⟨gb555, 5, none⟩) (Kd.R_far (p := ⟨gb555, 4, none⟩) (Kd.R_far (p := ⟨gb555, 3, none⟩) (Kd.R_far (p := ⟨gb555, 2, none⟩) (Kd.R_far (p := ⟨gb555, 1, none⟩) (Kd.R_far (p := ⟨gb555, 0, none⟩) (Kd.R_mono HO_10.out (fun k_ hk => (⟨hk, hk.2⟩ : _ ∧ k_ ≠ gb555))) (fun _ hk => hk.2) (.int .i64 t548)) (fun _ hk => hk.2) (.int .i64 t549)) (fun _ hk => hk.2) (.int .i64 t550)) (fun _ hk => hk.2) (.int .i64 t551)) (fun _ hk => hk.2) (.int .i64 t552)) (fun _ hk => hk.2) (.int .u64 t553)) (fun _ h_ => h_.1))) hb); replace BK555 := Aside0.mk (blk_below (g := gb555) (o := .cells #[.int .i64 t548, .int .i64 t549, .int .i64 t550, .int .i64 t551, .int .i64 t552, .int .u64 t553] 37 (0, 0)) (bp6_ (bq_ BK555)) hb); replace HB := bs_ w hb; clear hb) | ((with_reducible refine gate_dst (N := 18) rfl ?_); (try refine ug_ (by rfl) ?_); refine bx_ #[.int .i64 0, .int .i64 0, .int .i64 0, .int .i64 0, .int .i64 0, .int .u64 0] 37 ?_; intro gb563 hg w50 BK563 hb; have GW563 := bz_ w hg; have GE563 := GW563; have NB555_563 := bn_ BK555 hg; have NB563_555 := bm_ BK555 hg; replace HO_7 := Aside0.mk (Kd.R_below (Kd.R_elderB (rs_ HO_7) gb563 (Nat.le_of_eq hg.symm)) hb); replace HO_10 := Aside0.mk (Kd.R_below (Kd.R_elderB (rs_ HO_10) gb563 (Nat.le_of_eq hg.symm)) hb); replace BK555 := bb_ BK555 hb; replace HB := bs_ w hb; clear hb hg; have hnb51 := NB563_555.out; have hnc51 := NB555_563.out; obtain ⟨hcz52_0, hcz52_1, hcz52_2, hcz52_3, hcz52_4, hcz52_5, hfz52_0, hfz52_1, hfz52_2, hfz52_3, hfz52_4, hfz52_5⟩ := ce6_ BK563; obtain ⟨hcz53_0, hcz53_1, hcz53_2, hcz53_3, hcz53_4, hcz53_5, hfz53_0, hfz53_1, hfz53_2, hfz53_3, hfz53_4, hfz53_5⟩ := ce6_ BK555; have p564 : 0 ≤ (x15_2 : Int) := of_decide_eq_true (by first | (with_reducible assumption) | assumption); have q564 : x15_2 < (t541.length : Int) := of_decide_eq_true (by first | (with_reducible assumption) | assumption); obtain ⟨ad564, e564, hx564_0, hx564_1, hx564_2, hx564_3, hx564_4, hx564_5⟩ := at_T37 (Kd.R_reads' HO_10.out).2.2 x15_2 p564 q564; cases e564; have hn564 : ad564.block ≠ gb563 := Kd.own_blk (rn_ HO_10.out BK563.out); replace hx564_0 := cx6_ gb563 (.int .i64 t556) (.int .i64 t557) (.int .i64 t558) (.int .i64 t559) (.int .i64 t560) (.int .u64 t561) hx564_0; replace hx564_1 := cx6_ gb563 (.int .i64 t556) (.int .i64 t557) (.int .i64 t558) (.int .i64 t559) (.int .i64 t560) (.int .u64 t561) hx564_1; replace hx564_2 := cx6_ gb563 (.int .i64 t556) (.int .i64 t557) (.int .i64 t558) (.int .i64 t559) (.int .i64 t560) (.int .u64 t561) hx564_2; replace hx564_3 := cx6_ gb563 (.int .i64 t556) (.int .i64 t557) (.int .i64 t558) (.int .i64 t559) (.int .i64 t560) (.int .u64 t561) hx564_3; replace hx564_4 := cx6_ gb563 (.int .i64 t556) (.int .i64 t557) (.int .i64 t558) (.int .i64 t559) (.int .i64 t560) (.int .u64 t561) hx564_4; replace hx564_5 := cx6_ gb563 (.int .i64 t556) (.int .i64 t557) (.int .i64 t558) (.int .i64 t559) (.int .i64 t560) (.int .u64 t561) hx564_5; (try have hy564_0 := cy6_ hx564_0); (try have hy564_1 := cy6_ hx564_1); (try have hy564_2 := cy6_ hx564_2); (try have hy564_3 := cy6_ hx564_3); (try have hy564_4 := cy6_ hx564_4); (try have hy564_5 := cy6_ hx564_5); clear hn564; replace p564 := eq_true p564; replace q564 := eq_true q564; have p565 : 0 ≤ (x15_2 : Int) := of_decide_eq_true (by first | (with_reducible assumption) | assumption); have q565 : x15_2 < (t536.length : Int) := of_decide_eq_true (by first | (with_reducible assumption) | assumption); obtain ⟨ad565, e565, hx565_0, hx565_1, hx565_2, hx565_3, hx565_4, hx565_5⟩ := at_T37 (Kd.R_reads' HO_7.out).2.2 x15_2 p565 q565; cases e565; have hn565 : ad565.block ≠ gb563 := Kd.own_blk (rn_ HO_7.out BK563.out); replace hx565_0 := cx6_ gb563 (.int .i64 t556) (.int .i64 t557) (.int .i64 t558) (.int .i64 t559) (.int .i64 t560) (.int .u64 t561) hx565_0; replace hx565_1 := cx6_ gb563 (.int .i64 t556) (.int .i64 t557) (.int .i64 t558) (.int .i64 t559) (.int .i64 t560) (.int .u64 t561) hx565_1; replace hx565_2 := cx6_ gb563 (.int .i64 t556) (.int .i64 t557) (.int .i64 t558) (.int .i64 t559) (.int .i64 t560) (.int .u64 t561) hx565_2; replace hx565_3 := cx6_ gb563 (.int .i64 t556) (.int .i64 t557) (.int .i64 t558) (.int .i64 t559) (.int .i64 t560) (.int .u64 t561) hx565_3; replace hx565_4 := cx6_ gb563 (.int .i64 t556) (.int .i64 t557) (.int .i64 t558) (.int .i64 t559) (.int .i64 t560) (.int .u64 t561) hx565_4; replace hx565_5 := cx6_ gb563 (.int .i64 t556) (.int .i64 t557) (.int .i64 t558) (.int .i64 t559) (.int .i64 t560) (.int .u64 t561) hx565_5; (try have hy565_0 := cy6_ hx565_0); (try have hy565_1 := cy6_ hx565_1); (try have hy565_2 := cy6_ hx565_2); (try have hy565_3 := cy6_ hx565_3); (try have hy565_4 := cy6_ hx565_4); (try have hy565_5 := cy6_ hx565_5); clear hn565; replace p565 := eq_true p565; replace q565 := eq_true q565))
         repeat (go_quiet (first | (go_at_call 29; (with_reducible refine (bucket_Refill.calls k2 ((rd_T37 l0 x15_2).f0.f0) ((rd_T37 l0 x15_2).f0.f1) ((rd_T37 l0 x15_2).f0.f2) ((rd_T37 l0 x15_2).f1) ((rd_T37 l0 x15_2).f2) ((rd_T37 l0 x15_2).f3) a1 t548 t549 t550 t551 t552 t553 t554 _ A28.out).mono ?_); rintro e w46 ⟨rfl, hb⟩; replace HO_7 := rb_ HO_7 hb; replace HO_10 := rb_ HO_10 hb; replace HB := bs_ w hb; clear hb) | ((with_reducible refine gate_dst (N := 16) rfl ?_); (try refine ug_ (by rfl) ?_); refine bx_ #[.int .i64 0, .int .i64 0, .int .i64 0, .int .i64 0, .int .i64 0, .int .u64 0] 37 ?_; intro gb555 hg w47 BK555 hb; have GW555 := bz_ w hg; have GE555 := GW555; replace HO_7 := Aside0.mk (Kd.R_below (Kd.R_elderB (rs_ HO_7) gb555 (Nat.le_of_eq hg.symm)) hb); replace HO_10 := Aside0.mk (Kd.R_below (Kd.R_elderB (rs_ HO_10) gb555 (Nat.le_of_eq hg.symm)) hb); replace HB := bs_ w hb; clear hb hg; obtain ⟨hcz48_0, hcz48_1, hcz48_2, hcz48_3, hcz48_4, hcz48_5, hfz48_0, hfz48_1, hfz48_2, hfz48_3, hfz48_4, hfz48_5⟩ := ce6_ BK555) | (go_at_call 30; (with_reducible refine (bucket_Charge.calls t548 t549 t550 t551 t552 t553 a2 t556 t557 t558 t559 t560 t561 t562 _ A29.out).mono ?_); rintro e w49 ⟨rfl, hb⟩; replace HO_7 := Aside0.mk (Kd.R_below (by (with_reducible repeat (first | apply Kd.R_alloc | apply Kd.R_drewN | apply Kd.R_drew)); exact (Kd.R_mono (Kd.R_far (p := ⟨gb555, 5, none⟩) (Kd.R_far (p := ⟨gb555, 4, none⟩) (Kd.R_far (p := ⟨gb555, 3, none⟩) (Kd.R_far (p := ⟨gb555, 2, none⟩) (Kd.R_far (p := ⟨gb555, 1, none⟩) (Kd.R_far (p := ⟨gb555, 0, none⟩) (Kd.R_mono HO_7.out (fun k_ hk => (⟨hk, hk.2⟩ : _ ∧ k_ ≠ gb555))) (fun _ hk => hk.2) (.int .i64 t548)) (fun _ hk => hk.2) (.int .i64 t549)) (fun _ hk => hk.2) (.int .i64 t550)) (fun _ hk => hk.2) (.int .i64 t551)) (fun _ hk => hk.2) (.int .i64 t552)) (fun _ hk => hk.2) (.int .u64 t553)) (fun _ h_ => h_.1))) hb); replace HO_10 := Aside0.mk (Kd.R_below (by (with_reducible repeat (first | apply Kd.R_alloc | apply Kd.R_drewN | apply Kd.R_drew)); exact (Kd.R_mono (Kd.R_far (p := ⟨gb555, 5, none⟩) (Kd.R_far (p := ⟨gb555, 4, none⟩) (Kd.R_far (p := ⟨gb555, 3, none⟩) (Kd.R_far (p := ⟨gb555, 2, none⟩) (Kd.R_far (p := ⟨gb555, 1, none⟩) (Kd.R_far (p := ⟨gb555, 0, none⟩) (Kd.R_mono HO_10.out (fun k_ hk => (⟨hk, hk.2⟩ : _ ∧ k_ ≠ gb555))) (fun _ hk => hk.2) (.int .i64 t548)) (fun _ hk => hk.2) (.int .i64 t549)) (fun _ hk => hk.2) (.int .i64 t550)) (fun _ hk => hk.2) (.int .i64 t551)) (fun _ hk => hk.2) (.int .i64 t552)) (fun _ hk => hk.2) (.int .u64 t553)) (fun _ h_ => h_.1))) hb); replace BK555 := Aside0.mk (blk_below (g := gb555) (o := .cells #[.int .i64 t548, .int .i64 t549, .int .i64 t550, .int .i64 t551, .int .i64 t552, .int .u64 t553] 37 (0, 0)) (bp6_ (bq_ BK555)) hb); replace HB := bs_ w hb; clear hb) | ((with_reducible refine gate_dst (N := 18) rfl ?_); (try refine ug_ (by rfl) ?_); refine bx_ #[.int .i64 0, .int .i64 0, .int .i64 0, .int .i64 0, .int .i64 0, .int .u64 0] 37 ?_; intro gb563 hg w50 BK563 hb; have GW563 := bz_ w hg; have GE563 := GW563; have NB555_563 := bn_ BK555 hg; have NB563_555 := bm_ BK555 hg; replace HO_7 := Aside0.mk (Kd.R_below (Kd.R_elderB (rs_ HO_7) gb563 (Nat.le_of_eq hg.symm)) hb); replace HO_10 := Aside0.mk (Kd.R_below (Kd.R_elderB (rs_ HO_10) gb563 (Nat.le_of_eq hg.symm)) hb); replace BK555 := bb_ BK555 hb; replace HB := bs_ w hb; clear hb hg; have hnb51 := NB563_555.out; have hnc51 := NB555_563.out; obtain ⟨hcz52_0, hcz52_1, hcz52_2, hcz52_3, hcz52_4, hcz52_5, hfz52_0, hfz52_1, hfz52_2, hfz52_3, hfz52_4, hfz52_5⟩ := ce6_ BK563; obtain ⟨hcz53_0, hcz53_1, hcz53_2, hcz53_3, hcz53_4, hcz53_5, hfz53_0, hfz53_1, hfz53_2, hfz53_3, hfz53_4, hfz53_5⟩ := ce6_ BK555; have p564 : 0 ≤ (x15_2 : Int) := of_decide_eq_true (by first | (with_reducible assumption) | assumption); have q564 : x15_2 < (t541.length : Int) := of_decide_eq_true (by first | (with_reducible assumption) | assumption); obtain ⟨ad564, e564, hx564_0, hx564_1, hx564_2, hx564_3, hx564_4, hx564_5⟩ := at_T37 (Kd.R_reads' HO_10.out).2.2 x15_2 p564 q564; cases e564; have hn564 : ad564.block ≠ gb563 := Kd.own_blk (rn_ HO_10.out BK563.out); replace hx564_0 := cx6_ gb563 (.int .i64 t556) (.int .i64 t557) (.int .i64 t558) (.int .i64 t559) (.int .i64 t560) (.int .u64 t561) hx564_0; replace hx564_1 := cx6_ gb563 (.int .i64 t556) (.int .i64 t557) (.int .i64 t558) (.int .i64 t559) (.int .i64 t560) (.int .u64 t561) hx564_1; replace hx564_2 := cx6_ gb563 (.int .i64 t556) (.int .i64 t557) (.int .i64 t558) (.int .i64 t559) (.int .i64 t560) (.int .u64 t561) hx564_2; replace hx564_3 := cx6_ gb563 (.int .i64 t556) (.int .i64 t557) (.int .i64 t558) (.int .i64 t559) (.int .i64 t560) (.int .u64 t561) hx564_3; replace hx564_4 := cx6_ gb563 (.int .i64 t556) (.int .i64 t557) (.int .i64 t558) (.int .i64 t559) (.int .i64 t560) (.int .u64 t561) hx564_4; replace hx564_5 := cx6_ gb563 (.int .i64 t556) (.int .i64 t557) (.int .i64 t558) (.int .i64 t559) (.int .i64 t560) (.int .u64 t561) hx564_5; (try have hy564_0 := cy6_ hx564_0); (try have hy564_1 := cy6_ hx564_1); (try have hy564_2 := cy6_ hx564_2); (try have hy564_3 := cy6_ hx564_3); (try have hy564_4 := cy6_ hx564_4); (try have hy564_5 := cy6_ hx564_5); clear hn564; replace p564 := eq_true p564; replace q564 := eq_true q564; have p565 : 0 ≤ (x15_2 : Int) := of_decide_eq_true (by first | (with_reducible assumption) | assumption); have q565 : x15_2 < (t536.length : Int) := of_decide_eq_true (by first | (with_reducible assumption) | assumption); obtain ⟨ad565, e565, hx565_0, hx565_1, hx565_2, hx565_3, hx565_4, hx565_5⟩ := at_T37 (Kd.R_reads' HO_7.out).2.2 x15_2 p565 q565; cases e565; have hn565 : ad565.block ≠ gb563 := Kd.own_blk (rn_ HO_7.out BK563.out); replace hx565_0 := cx6_ gb563 (.int .i64 t556) (.int .i64 t557) (.int .i64 t558) (.int .i64 t559) (.int .i64 t560) (.int .u64 t561) hx565_0; replace hx565_1 := cx6_ gb563 (.int .i64 t556) (.int .i64 t557) (.int .i64 t558) (.int .i64 t559) (.int .i64 t560) (.int .u64 t561) hx565_1; replace hx565_2 := cx6_ gb563 (.int .i64 t556) (.int .i64 t557) (.int .i64 t558) (.int .i64 t559) (.int .i64 t560) (.int .u64 t561) hx565_2; replace hx565_3 := cx6_ gb563 (.int .i64 t556) (.int .i64 t557) (.int .i64 t558) (.int .i64 t559) (.int .i64 t560) (.int .u64 t561) hx565_3; replace hx565_4 := cx6_ gb563 (.int .i64 t556) (.int .i64 t557) (.int .i64 t558) (.int .i64 t559) (.int .i64 t560) (.int .u64 t561) hx565_4; replace hx565_5 := cx6_ gb563 (.int .i64 t556) (.int .i64 t557) (.int .i64 t558) (.int .i64 t559) (.int .i64 t560) (.int .u64 t561) hx565_5; (try have hy565_0 := cy6_ hx565_0); (try have hy565_1 := cy6_ hx565_1); (try have hy565_2 := cy6_ hx565_2); (try have hy565_3 := cy6_ hx565_3); (try have hy565_4 := cy6_ hx565_4); (try have hy565_5 := cy6_ hx565_5); clear hn565; replace p565 := eq_true p565; replace q565 := eq_true q565)); try go_wp2_with (first | (go_at_call 29; (with_reducible refine (bucket_Refill.calls k2 ((rd_T37 l0 x15_2).f0.f0) ((rd_T37 l0 x15_2).f0.f1) ((rd_T37 l0 x15_2).f0.f2) ((rd_T37 l0 x15_2).f1) ((rd_T37 l0 x15_2).f2) ((rd_T37 l0 x15_2).f3) a1 t548 t549 t550 t551 t552 t553 t554 _ A28.out).mono ?_); rintro e w46 ⟨rfl, hb⟩; replace HO_7 := rb_ HO_7 hb; replace HO_10 := rb_ HO_10 hb; replace HB := bs_ w hb; clear hb) | ((with_reducible refine gate_dst (N := 16) rfl ?_); (try refine ug_ (by rfl) ?_); refine bx_ #[.int .i64 0, .int .i64 0, .int .i64 0, .int .i64 0, .int .i64 0, .int .u64 0] 37 ?_; intro gb555 hg w47 BK555 hb; have GW555 := bz_ w hg; have GE555 := GW555; replace HO_7 := Aside0.mk (Kd.R_below (Kd.R_elderB (rs_ HO_7) gb555 (Nat.le_of_eq hg.symm)) hb); replace HO_10 := Aside0.mk (Kd.R_below (Kd.R_elderB (rs_ HO_10) gb555 (Nat.le_of_eq hg.symm)) hb); replace HB := bs_ w hb; clear hb hg; obtain ⟨hcz48_0, hcz48_1, hcz48_2, hcz48_3, hcz48_4, hcz48_5, hfz48_0, hfz48_1, hfz48_2, hfz48_3, hfz48_4, hfz48_5⟩ := ce6_ BK555) | (go_at_call 30; (with_reducible refine (bucket_Charge.calls t548 t549 t550 t551 t552 t553 a2 t556 t557 t558 t559 t560 t561 t562 _ A29.out).mono ?_); rintro e w49 ⟨rfl, hb⟩; replace HO_7 := Aside0.mk (Kd.R_below (by (with_reducible repeat (first | apply Kd.R_alloc | apply Kd.R_drewN | apply Kd.R_drew)); exact (Kd.R_mono (Kd.R_far (p := ⟨gb555, 5, none⟩) (Kd.R_far (p := ⟨gb555, 4, none⟩) (Kd.R_far (p := ⟨gb555, 3, none⟩) (Kd.R_far (p := ⟨gb555, 2, none⟩) (Kd.R_far (p := ⟨gb555, 1, none⟩) (Kd.R_far (p := ⟨gb555, 0, none⟩) (Kd.R_mono HO_7.out (fun k_ hk => (⟨hk, hk.2⟩ : _ ∧ k_ ≠ gb555))) (fun _ hk => hk.2) (.int .i64 t548)) (fun _ hk => hk.2) (.int .i64 t549)) (fun _ hk => hk.2) (.int .i64 t550)) (fun _ hk => hk.2) (.int .i64 t551)) (fun _ hk => hk.2) (.int .i64 t552)) (fun _ hk => hk.2) (.int .u64 t553)) (fun _ h_ => h_.1))) hb); replace HO_10 := Aside0.mk (Kd.R_below (by (with_reducible repeat (first | apply Kd.R_alloc | apply Kd.R_drewN | apply Kd.R_drew)); exact (Kd.R_mono (Kd.R_far (p := ⟨gb555, 5, none⟩) (Kd.R_far (p := ⟨gb555, 4, none⟩) (Kd.R_far (p := ⟨gb555, 3, none⟩) (Kd.R_far (p := ⟨gb555, 2, none⟩) (Kd.R_far (p := ⟨gb555, 1, none⟩) (Kd.R_far (p := ⟨gb555, 0, none⟩) (Kd.R_mono HO_10.out (fun k_ hk => (⟨hk, hk.2⟩ : _ ∧ k_ ≠ gb555))) (fun _ hk => hk.2) (.int .i64 t548)) (fun _ hk => hk.2) (.int .i64 t549)) (fun _ hk => hk.2) (.int .i64 t550)) (fun _ hk => hk.2) (.int .i64 t551)) (fun _ hk => hk.2) (.int .i64 t552)) (fun _ hk => hk.2) (.int .u64 t553)) (fun _ h_ => h_.1))) hb); replace BK555 := Aside0.mk (blk_below (g := gb555) (o := .cells #[.int .i64 t548, .int .i64 t549, .int .i64 t550, .int .i64 t551, .int .i64 t552, .int .u64 t553] 37 (0, 0)) (bp6_ (bq_ BK555)) hb); replace HB := bs_ w hb; clear hb) | ((with_reducible refine gate_dst (N := 18) rfl ?_); (try refine ug_ (by rfl) ?_); refine bx_ #[.int .i64 0, .int .i64 0, .int .i64 0, .int .i64 0, .int .i64 0, .int .u64 0] 37 ?_; intro gb563 hg w50 BK563 hb; have GW563 := bz_ w hg; have GE563 := GW563; have NB555_563 := bn_ BK555 hg; have NB563_555 := bm_ BK555 hg; replace HO_7 := Aside0.mk (Kd.R_below (Kd.R_elderB (rs_ HO_7) gb563 (Nat.le_of_eq hg.symm)) hb); replace HO_10 := Aside0.mk (Kd.R_below (Kd.R_elderB (rs_ HO_10) gb563 (Nat.le_of_eq hg.symm)) hb); replace BK555 := bb_ BK555 hb; replace HB := bs_ w hb; clear hb hg; have hnb51 := NB563_555.out; have hnc51 := NB555_563.out; obtain ⟨hcz52_0, hcz52_1, hcz52_2, hcz52_3, hcz52_4, hcz52_5, hfz52_0, hfz52_1, hfz52_2, hfz52_3, hfz52_4, hfz52_5⟩ := ce6_ BK563; obtain ⟨hcz53_0, hcz53_1, hcz53_2, hcz53_3, hcz53_4, hcz53_5, hfz53_0, hfz53_1, hfz53_2, hfz53_3, hfz53_4, hfz53_5⟩ := ce6_ BK555; have p564 : 0 ≤ (x15_2 : Int) := of_decide_eq_true (by first | (with_reducible assumption) | assumption); have q564 : x15_2 < (t541.length : Int) := of_decide_eq_true (by first | (with_reducible assumption) | assumption); obtain ⟨ad564, e564, hx564_0, hx564_1, hx564_2, hx564_3, hx564_4, hx564_5⟩ := at_T37 (Kd.R_reads' HO_10.out).2.2 x15_2 p564 q564; cases e564; have hn564 : ad564.block ≠ gb563 := Kd.own_blk (rn_ HO_10.out BK563.out); replace hx564_0 := cx6_ gb563 (.int .i64 t556) (.int .i64 t557) (.int .i64 t558) (.int .i64 t559) (.int .i64 t560) (.int .u64 t561) hx564_0; replace hx564_1 := cx6_ gb563 (.int .i64 t556) (.int .i64 t557) (.int .i64 t558) (.int .i64 t559) (.int .i64 t560) (.int .u64 t561) hx564_1; replace hx564_2 := cx6_ gb563 (.int .i64 t556) (.int .i64 t557) (.int .i64 t558) (.int .i64 t559) (.int .i64 t560) (.int .u64 t561) hx564_2; replace hx564_3 := cx6_ gb563 (.int .i64 t556) (.int .i64 t557) (.int .i64 t558) (.int .i64 t559) (.int .i64 t560) (.int .u64 t561) hx564_3; replace hx564_4 := cx6_ gb563 (.int .i64 t556) (.int .i64 t557) (.int .i64 t558) (.int .i64 t559) (.int .i64 t560) (.int .u64 t561) hx564_4; replace hx564_5 := cx6_ gb563 (.int .i64 t556) (.int .i64 t557) (.int .i64 t558) (.int .i64 t559) (.int .i64 t560) (.int .u64 t561) hx564_5; (try have hy564_0 := cy6_ hx564_0); (try have hy564_1 := cy6_ hx564_1); (try have hy564_2 := cy6_ hx564_2); (try have hy564_3 := cy6_ hx564_3); (try have hy564_4 := cy6_ hx564_4); (try have hy564_5 := cy6_ hx564_5); clear hn564; replace p564 := eq_true p564; replace q564 := eq_true q564; have p565 : 0 ≤ (x15_2 : Int) := of_decide_eq_true (by first | (with_reducible assumption) | assumption); have q565 : x15_2 < (t536.length : Int) := of_decide_eq_true (by first | (with_reducible assumption) | assumption); obtain ⟨ad565, e565, hx565_0, hx565_1, hx565_2, hx565_3, hx565_4, hx565_5⟩ := at_T37 (Kd.R_reads' HO_7.out).2.2 x15_2 p565 q565; cases e565; have hn565 : ad565.block ≠ gb563 := Kd.own_blk (rn_ HO_7.out BK563.out); replace hx565_0 := cx6_ gb563 (.int .i64 t556) (.int .i64 t557) (.int .i64 t558) (.int .i64 t559) (.int .i64 t560) (.int .u64 t561) hx565_0; replace hx565_1 := cx6_ gb563 (.int .i64 t556) (.int .i64 t557) (.int .i64 t558) (.int .i64 t559) (.int .i64 t560) (.int .u64 t561) hx565_1; replace hx565_2 := cx6_ gb563 (.int .i64 t556) (.int .i64 t557) (.int .i64 t558) (.int .i64 t559) (.int .i64 t560) (.int .u64 t561) hx565_2; replace hx565_3 := cx6_ gb563 (.int .i64 t556) (.int .i64 t557) (.int .i64 t558) (.int .i64 t559) (.int .i64 t560) (.int .u64 t561) hx565_3; replace hx565_4 := cx6_ gb563 (.int .i64 t556) (.int .i64 t557) (.int .i64 t558) (.int .i64 t559) (.int .i64 t560) (.int .u64 t561) hx565_4; replace hx565_5 := cx6_ gb563 (.int .i64 t556) (.int .i64 t557) (.int .i64 t558) (.int .i64 t559) (.int .i64 t560) (.int .u64 t561) hx565_5; (try have hy565_0 := cy6_ hx565_0); (try have hy565_1 := cy6_ hx565_1); (try have hy565_2 := cy6_ hx565_2); (try have hy565_3 := cy6_ hx565_3); (try have hy565_4 := cy6_ hx565_4); (try have hy565_5 := cy6_ hx565_5); clear hn565; replace p565 := eq_true p565; replace q565 := eq_true q565)))
         go_roundg k2
         case measure => have := HJ3.out; have := HK2.out; omega
         case rel => exact ⟨(false), (wrap64 (x15_2 + 1)), rf_, rf_, H', ⟨by have := HJ3.out; have := HK2.out; omega⟩, ⟨by (with_reducible repeat (first | apply Kd.R_alloc | apply Kd.R_drewN | apply Kd.R_drew)); exact Kd.R_mono (Kd.R_far (p := ⟨gb563, 5, none⟩) (Kd.R_far (p := ⟨gb563, 4, none⟩) (Kd.R_far (p := ⟨gb563, 3, none⟩) (Kd.R_far (p := ⟨gb563, 2, none⟩) (Kd.R_far (p := ⟨gb563, 1, none⟩) (Kd.R_far (p := ⟨gb563, 0, none⟩) (Kd.R_mono HO_7.out (fun k_ hk => (⟨hk, hk.2⟩ : _ ∧ k_ ≠ gb563))) (fun _ hk => hk.2) (.int .i64 t556)) (fun _ hk => hk.2) (.int .i64 t557)) (fun _ hk => hk.2) (.int .i64 t558)) (fun _ hk => hk.2) (.int .i64 t559)) (fun _ hk => hk.2) (.int .i64 t560)) (fun _ hk => hk.2) (.int .u64 t561)) (fun _ hk => hk.1.1.1)⟩, ⟨by (with_reducible repeat (first | apply Kd.R_alloc | apply Kd.R_drewN | apply Kd.R_drew)); exact Kd.R_mono (Kd.R_far (p := ⟨gb563, 5, none⟩) (Kd.R_far (p := ⟨gb563, 4, none⟩) (Kd.R_far (p := ⟨gb563, 3, none⟩) (Kd.R_far (p := ⟨gb563, 2, none⟩) (Kd.R_far (p := ⟨gb563, 1, none⟩) (Kd.R_far (p := ⟨gb563, 0, none⟩) (Kd.R_mono HO_10.out (fun k_ hk => (⟨hk, hk.2⟩ : _ ∧ k_ ≠ gb563))) (fun _ hk => hk.2) (.int .i64 t556)) (fun _ hk => hk.2) (.int .i64 t557)) (fun _ hk => hk.2) (.int .i64 t558)) (fun _ hk => hk.2) (.int .i64 t559)) (fun _ hk => hk.2) (.int .i64 t560)) (fun _ hk => hk.2) (.int .u64 t561)) (fun _ hk => hk.1.1.1)⟩, bw_⟩
       ·replace c33 := Bool.eq_false_iff.mpr c33
        subst c33
        rw [if_neg (show ¬ (false = true) by decide)] at H
        try dsimp only at H
        by_cases c54 : x15_2 < (t536.length : Int)
        rotate_left
        ·rw [if_neg c54] at H; exact absurd H (by simp)
        rw [if_pos c54] at H
        have c54b0 : decide (x15_2 < (t536.length : Int)) = true := decide_eq_true c54
        clear c54
        by_cases c55 : ((!(((rd_T37 t536 x15_2).f0.f0) == t548) || (!(((rd_T37 t536 x15_2).f0.f1) == t549) || (!(((rd_T37 t536 x15_2).f0.f2) == t550)))) || (!(((rd_T37 t536 x15_2).f1) == t551) || (!(((rd_T37 t536 x15_2).f2) == t552) || (!(((rd_T37 t536 x15_2).f3) == t553))))) = true
        ·rw [if_pos c55] at H; exact absurd H (by simp)
        rw [if_neg c55] at H
        have c55b0 : ((!(((rd_T37 t536 x15_2).f0.f0) == t548) || (!(((rd_T37 t536 x15_2).f0.f1) == t549) || (!(((rd_T37 t536 x15_2).f0.f2) == t550)))) || (!(((rd_T37 t536 x15_2).f1) == t551) || (!(((rd_T37 t536 x15_2).f2) == t552) || (!(((rd_T37 t536 x15_2).f3) == t553))))) = false := by simpa using c55
        clear c55
        by_cases c56 : x14_2 = true
        ·subst c56
         rw [if_pos rfl] at H
         try dsimp only at H
         have H' := Aside0.mk H
         clear H
         have p547 : 0 ≤ (x15_2 : Int) := of_decide_eq_true (by first | (with_reducible assumption) | assumption)
         have q547 : x15_2 < (l0.length : Int) := of_decide_eq_true (by first | (with_reducible assumption) | assumption)
         obtain ⟨ad547, e547, hx547_0, hx547_1, hx547_2, hx547_3, hx547_4, hx547_5⟩ := at_T37 HR0.out x15_2 p547 q547
         cases e547
         replace hx547_0 := (HB.out.cell (World.block_lt_of_cell? w _ hx547_0)).trans hx547_0
         replace hx547_1 := (HB.out.cell (World.block_lt_of_cell? w _ hx547_1)).trans hx547_1
         replace hx547_2 := (HB.out.cell (World.block_lt_of_cell? w _ hx547_2)).trans hx547_2
         replace hx547_3 := (HB.out.cell (World.block_lt_of_cell? w _ hx547_3)).trans hx547_3
         replace hx547_4 := (HB.out.cell (World.block_lt_of_cell? w _ hx547_4)).trans hx547_4
         replace hx547_5 := (HB.out.cell (World.block_lt_of_cell? w _ hx547_5)).trans hx547_5
         replace p547 := eq_true p547
         replace q547 := eq_true q547
         go_wp2_with (first | (go_at_call 29; (with_reducible refine (bucket_Refill.calls k2 ((rd_T37 l0 x15_2).f0.f0) ((rd_T37 l0 x15_2).f0.f1) ((rd_T37 l0 x15_2).f0.f2) ((rd_T37 l0 x15_2).f1) ((rd_T37 l0 x15_2).f2) ((rd_T37 l0 x15_2).f3) a1 t548 t549 t550 t551 t552 t553 t554 _ A28.out).mono ?_); rintro e w57 ⟨rfl, hb⟩; replace HO_7 := rb_ HO_7 hb; replace HO_10 := rb_ HO_10 hb; replace HB := bs_ w hb; clear hb) | ((with_reducible refine gate_dst (N := 16) rfl ?_); (try refine ug_ (by rfl) ?_); refine bx_ #[.int .i64 0, .int .i64 0, .int .i64 0, .int .i64 0, .int .i64 0, .int .u64 0] 37 ?_; intro gb555 hg w58 BK555 hb; have GW555 := bz_ w hg; have GE555 := GW555; replace HO_7 := Aside0.mk (Kd.R_below (Kd.R_elderB (rs_ HO_7) gb555 (Nat.le_of_eq hg.symm)) hb); replace HO_10 := Aside0.mk (Kd.R_below (Kd.R_elderB (rs_ HO_10) gb555 (Nat.le_of_eq hg.symm)) hb); replace HB := bs_ w hb; clear hb hg; obtain ⟨hcz59_0, hcz59_1, hcz59_2, hcz59_3, hcz59_4, hcz59_5, hfz59_0, hfz59_1, hfz59_2, hfz59_3, hfz59_4, hfz59_5⟩ := ce6_ BK555) | (go_at_call 30; (with_reducible refine (bucket_Charge.calls t548 t549 t550 t551 t552 t553 a2 t556 t557 t558 t559 t560 t561 t562 _ A29.out).mono ?_); rintro e w60 ⟨rfl, hb⟩; replace HO_7 := Aside0.mk (Kd.R_below (by (with_reducible repeat (first | apply Kd.R_alloc | apply Kd.R_drewN | apply Kd.R_drew)); exact (Kd.R_mono (Kd.R_far (p := ⟨gb555, 5, none⟩) (Kd.R_far (p := ⟨gb555, 4, none⟩) (Kd.R_far (p := ⟨gb555, 3, none⟩) (Kd.R_far (p := ⟨gb555, 2, none⟩) (Kd.R_far (p := ⟨gb555, 1, none⟩) (Kd.R_far (p := ⟨gb555, 0, none⟩) (Kd.R_mono HO_7.out (fun k_ hk => (⟨hk, hk.2⟩ : _ ∧ k_ ≠ gb555))) (fun _ hk => hk.2) (.int .i64 t548)) (fun _ hk => hk.2) (.int .i64 t549)) (fun _ hk => hk.2) (.int .i64 t550)) (fun _ hk => hk.2) (.int .i64 t551)) (fun _ hk => hk.2) (.int .i64 t552)) (fun _ hk => hk.2) (.int .u64 t553)) (fun _ h_ => h_.1))) hb); replace HO_10 := Aside0.mk (Kd.R_below (by (with_reducible repeat (first | apply Kd.R_alloc | apply Kd.R_drewN | apply Kd.R_drew)); exact (Kd.R_mono (Kd.R_far (p := ⟨gb555, 5, none⟩) (Kd.R_far (p := ⟨gb555, 4, none⟩) (Kd.R_far (p := ⟨gb555, 3, none⟩) (Kd.R_far (p := ⟨gb555, 2, none⟩) (Kd.R_far (p := ⟨gb555, 1, none⟩) (Kd.R_far (p := ⟨gb555, 0, none⟩) (Kd.R_mono HO_10.out (fun k_ hk => (⟨hk, hk.2⟩ : _ ∧ k_ ≠ gb555))) (fun _ hk => hk.2) (.int .i64 t548)) (fun _ hk => hk.2) (.int .i64 t549)) (fun _ hk => hk.2) (.int .i64 t550)) (fun _ hk => hk.2) (.int .i64 t551)) (fun _ hk => hk.2) (.int .i64 t552)) (fun _ hk => hk.2) (.int .u64 t553)) (fun _ h_ => h_.1))) hb); replace BK555 := Aside0.mk (blk_below (g := gb555) (o := .cells #[.int .i64 t548, .int .i64 t549, .int .i64 t550, .int .i64 t551, .int .i64 t552, .int .u64 t553] 37 (0, 0)) (bp6_ (bq_ BK555)) hb); replace HB := bs_ w hb; clear hb) | ((with_reducible refine gate_dst (N := 18) rfl ?_); (try refine ug_ (by rfl) ?_); refine bx_ #[.int .i64 0, .int .i64 0, .int .i64 0, .int .i64 0, .int .i64 0, .int .u64 0] 37 ?_; intro gb563 hg w61 BK563 hb; have GW563 := bz_ w hg; have GE563 := GW563; have NB555_563 := bn_ BK555 hg; have NB563_555 := bm_ BK555 hg; replace HO_7 := Aside0.mk (Kd.R_below (Kd.R_elderB (rs_ HO_7) gb563 (Nat.le_of_eq hg.symm)) hb); replace HO_10 := Aside0.mk (Kd.R_below (Kd.R_elderB (rs_ HO_10) gb563 (Nat.le_of_eq hg.symm)) hb); replace BK555 := bb_ BK555 hb; replace HB := bs_ w hb; clear hb hg; have hnb62 := NB563_555.out; have hnc62 := NB555_563.out; obtain ⟨hcz63_0, hcz63_1, hcz63_2, hcz63_3, hcz63_4, hcz63_5, hfz63_0, hfz63_1, hfz63_2, hfz63_3, hfz63_4, hfz63_5⟩ := ce6_ BK563; obtain ⟨hcz64_0, hcz64_1, hcz64_2, hcz64_3, hcz64_4, hcz64_5, hfz64_0, hfz64_1, hfz64_2, hfz64_3, hfz64_4, hfz64_5⟩ := ce6_ BK555; have p564 : 0 ≤ (x15_2 : Int) := of_decide_eq_true (by first | (with_reducible assumption) | assumption); have q564 : x15_2 < (t541.length : Int) := of_decide_eq_true (by first | (with_reducible assumption) | assumption); obtain ⟨ad564, e564, hx564_0, hx564_1, hx564_2, hx564_3, hx564_4, hx564_5⟩ := at_T37 (Kd.R_reads' HO_10.out).2.2 x15_2 p564 q564; cases e564; have hn564 : ad564.block ≠ gb563 := Kd.own_blk (rn_ HO_10.out BK563.out); replace hx564_0 := cx6_ gb563 (.int .i64 t556) (.int .i64 t557) (.int .i64 t558) (.int .i64 t559) (.int .i64 t560) (.int .u64 t561) hx564_0; replace hx564_1 := cx6_ gb563 (.int .i64 t556) (.int .i64 t557) (.int .i64 t558) (.int .i64 t559) (.int .i64 t560) (.int .u64 t561) hx564_1; replace hx564_2 := cx6_ gb563 (.int .i64 t556) (.int .i64 t557) (.int .i64 t558) (.int .i64 t559) (.int .i64 t560) (.int .u64 t561) hx564_2; replace hx564_3 := cx6_ gb563 (.int .i64 t556) (.int .i64 t557) (.int .i64 t558) (.int .i64 t559) (.int .i64 t560) (.int .u64 t561) hx564_3; replace hx564_4 := cx6_ gb563 (.int .i64 t556) (.int .i64 t557) (.int .i64 t558) (.int .i64 t559) (.int .i64 t560) (.int .u64 t561) hx564_4; replace hx564_5 := cx6_ gb563 (.int .i64 t556) (.int .i64 t557) (.int .i64 t558) (.int .i64 t559) (.int .i64 t560) (.int .u64 t561) hx564_5; (try have hy564_0 := cy6_ hx564_0); (try have hy564_1 := cy6_ hx564_1); (try have hy564_2 := cy6_ hx564_2); (try have hy564_3 := cy6_ hx564_3); (try have hy564_4 := cy6_ hx564_4); (try have hy564_5 := cy6_ hx564_5); clear hn564; replace p564 := eq_true p564; replace q564 := eq_true q564; have p566 : 0 ≤ (x15_2 : Int) := of_decide_eq_true (by first | (with_reducible assumption) | assumption); have q566 : x15_2 < (t536.length : Int) := of_decide_eq_true (by first | (with_reducible assumption) | assumption); obtain ⟨ad566, e566, hx566_0, hx566_1, hx566_2, hx566_3, hx566_4, hx566_5⟩ := at_T37 (Kd.R_reads' HO_7.out).2.2 x15_2 p566 q566; cases e566; have hn566 : ad566.block ≠ gb563 := Kd.own_blk (rn_ HO_7.out BK563.out); replace hx566_0 := cx6_ gb563 (.int .i64 t556) (.int .i64 t557) (.int .i64 t558) (.int .i64 t559) (.int .i64 t560) (.int .u64 t561) hx566_0; replace hx566_1 := cx6_ gb563 (.int .i64 t556) (.int .i64 t557) (.int .i64 t558) (.int .i64 t559) (.int .i64 t560) (.int .u64 t561) hx566_1; replace hx566_2 := cx6_ gb563 (.int .i64 t556) (.int .i64 t557) (.int .i64 t558) (.int .i64 t559) (.int .i64 t560) (.int .u64 t561) hx566_2; replace hx566_3 := cx6_ gb563 (.int .i64 t556) (.int .i64 t557) (.int .i64 t558) (.int .i64 t559) (.int .i64 t560) (.int .u64 t561) hx566_3; replace hx566_4 := cx6_ gb563 (.int .i64 t556) (.int .i64 t557) (.int .i64 t558) (.int .i64 t559) (.int .i64 t560) (.int .u64 t561) hx566_4; replace hx566_5 := cx6_ gb563 (.int .i64 t556) (.int .i64 t557) (.int .i64 t558) (.int .i64 t559) (.int .i64 t560) (.int .u64 t561) hx566_5; (try have hy566_0 := cy6_ hx566_0); (try have hy566_1 := cy6_ hx566_1); (try have hy566_2 := cy6_ hx566_2); (try have hy566_3 := cy6_ hx566_3); (try have hy566_4 := cy6_ hx566_4); (try have hy566_5 := cy6_ hx566_5); clear hn566; replace p566 := eq_true p566; replace q566 := eq_true q566))
         repeat (go_quiet (first | (go_at_call 29; (with_reducible refine (bucket_Refill.calls k2 ((rd_T37 l0 x15_2).f0.f0) ((rd_T37 l0 x15_2).f0.f1) ((rd_T37 l0 x15_2).f0.f2) ((rd_T37 l0 x15_2).f1) ((rd_T37 l0 x15_2).f2) ((rd_T37 l0 x15_2).f3) a1 t548 t549 t550 t551 t552 t553 t554 _ A28.out).mono ?_); rintro e w57 ⟨rfl, hb⟩; replace HO_7 := rb_ HO_7 hb; replace HO_10 := rb_ HO_10 hb; replace HB := bs_ w hb; clear hb) | ((with_reducible refine gate_dst (N := 16) rfl ?_); (try refine ug_ (by rfl) ?_); refine bx_ #[.int .i64 0, .int .i64 0, .int .i64 0, .int .i64 0, .int .i64 0, .int .u64 0] 37 ?_; intro gb555 hg w58 BK555 hb; have GW555 := bz_ w hg; have GE555 := GW555; replace HO_7 := Aside0.mk (Kd.R_below (Kd.R_elderB (rs_ HO_7) gb555 (Nat.le_of_eq hg.symm)) hb); replace HO_10 := Aside0.mk (Kd.R_below (Kd.R_elderB (rs_ HO_10) gb555 (Nat.le_of_eq hg.symm)) hb); replace HB := bs_ w hb; clear hb hg; obtain ⟨hcz59_0, hcz59_1, hcz59_2, hcz59_3, hcz59_4, hcz59_5, hfz59_0, hfz59_1, hfz59_2, hfz59_3, hfz59_4, hfz59_5⟩ := ce6_ BK555) | (go_at_call 30; (with_reducible refine (bucket_Charge.calls t548 t549 t550 t551 t552 t553 a2 t556 t557 t558 t559 t560 t561 t562 _ A29.out).mono ?_); rintro e w60 ⟨rfl, hb⟩; replace HO_7 := Aside0.mk (Kd.R_below (by (with_reducible repeat (first | apply Kd.R_alloc | apply Kd.R_drewN | apply Kd.R_drew)); exact (Kd.R_mono (Kd.R_far (p := ⟨gb555, 5, none⟩) (Kd.R_far (p := ⟨gb555, 4, none⟩) (Kd.R_far (p := ⟨gb555, 3, none⟩) (Kd.R_far (p := ⟨gb555, 2, none⟩) (Kd.R_far (p := ⟨gb555, 1, none⟩) (Kd.R_far (p := ⟨gb555, 0, none⟩) (Kd.R_mono HO_7.out (fun k_ hk => (⟨hk, hk.2⟩ : _ ∧ k_ ≠ gb555))) (fun _ hk => hk.2) (.int .i64 t548)) (fun _ hk => hk.2) (.int .i64 t549)) (fun _ hk => hk.2) (.int .i64 t550)) (fun _ hk => hk.2) (.int .i64 t551)) (fun _ hk => hk.2) (.int .i64 t552)) (fun _ hk => hk.2) (.int .u64 t553)) (fun _ h_ => h_.1))) hb); replace HO_10 := Aside0.mk (Kd.R_below (by (with_reducible repeat (first | apply Kd.R_alloc | apply Kd.R_drewN | apply Kd.R_drew)); exact (Kd.R_mono (Kd.R_far (p := ⟨gb555, 5, none⟩) (Kd.R_far (p := ⟨gb555, 4, none⟩) (Kd.R_far (p := ⟨gb555, 3, none⟩) (Kd.R_far (p := ⟨gb555, 2, none⟩) (Kd.R_far (p := ⟨gb555, 1, none⟩) (Kd.R_far (p := ⟨gb555, 0, none⟩) (Kd.R_mono HO_10.out (fun k_ hk => (⟨hk, hk.2⟩ : _ ∧ k_ ≠ gb555))) (fun _ hk => hk.2) (.int .i64 t548)) (fun _ hk => hk.2) (.int .i64 t549)) (fun _ hk => hk.2) (.int .i64 t550)) (fun _ hk => hk.2) (.int .i64 t551)) (fun _ hk => hk.2) (.int .i64 t552)) (fun _ hk => hk.2) (.int .u64 t553)) (fun _ h_ => h_.1))) hb); replace BK555 := Aside0.mk (blk_below (g := gb555) (o := .cells #[.int .i64 t548, .int .i64 t549, .int .i64 t550, .int .i64 t551, .int .i64 t552, .int .u64 t553] 37 (0, 0)) (bp6_ (bq_ BK555)) hb); replace HB := bs_ w hb; clear hb) | ((with_reducible refine gate_dst (N := 18) rfl ?_); (try refine ug_ (by rfl) ?_); refine bx_ #[.int .i64 0, .int .i64 0, .int .i64 0, .int .i64 0, .int .i64 0, .int .u64 0] 37 ?_; intro gb563 hg w61 BK563 hb; have GW563 := bz_ w hg; have GE563 := GW563; have NB555_563 := bn_ BK555 hg; have NB563_555 := bm_ BK555 hg; replace HO_7 := Aside0.mk (Kd.R_below (Kd.R_elderB (rs_ HO_7) gb563 (Nat.le_of_eq hg.symm)) hb); replace HO_10 := Aside0.mk (Kd.R_below (Kd.R_elderB (rs_ HO_10) gb563 (Nat.le_of_eq hg.symm)) hb); replace BK555 := bb_ BK555 hb; replace HB := bs_ w hb; clear hb hg; have hnb62 := NB563_555.out; have hnc62 := NB555_563.out; obtain ⟨hcz63_0, hcz63_1, hcz63_2, hcz63_3, hcz63_4, hcz63_5, hfz63_0, hfz63_1, hfz63_2, hfz63_3, hfz63_4, hfz63_5⟩ := ce6_ BK563; obtain ⟨hcz64_0, hcz64_1, hcz64_2, hcz64_3, hcz64_4, hcz64_5, hfz64_0, hfz64_1, hfz64_2, hfz64_3, hfz64_4, hfz64_5⟩ := ce6_ BK555; have p564 : 0 ≤ (x15_2 : Int) := of_decide_eq_true (by first | (with_reducible assumption) | assumption); have q564 : x15_2 < (t541.length : Int) := of_decide_eq_true (by first | (with_reducible assumption) | assumption); obtain ⟨ad564, e564, hx564_0, hx564_1, hx564_2, hx564_3, hx564_4, hx564_5⟩ := at_T37 (Kd.R_reads' HO_10.out).2.2 x15_2 p564 q564; cases e564; have hn564 : ad564.block ≠ gb563 := Kd.own_blk (rn_ HO_10.out BK563.out); replace hx564_0 := cx6_ gb563 (.int .i64 t556) (.int .i64 t557) (.int .i64 t558) (.int .i64 t559) (.int .i64 t560) (.int .u64 t561) hx564_0; replace hx564_1 := cx6_ gb563 (.int .i64 t556) (.int .i64 t557) (.int .i64 t558) (.int .i64 t559) (.int .i64 t560) (.int .u64 t561) hx564_1; replace hx564_2 := cx6_ gb563 (.int .i64 t556) (.int .i64 t557) (.int .i64 t558) (.int .i64 t559) (.int .i64 t560) (.int .u64 t561) hx564_2; replace hx564_3 := cx6_ gb563 (.int .i64 t556) (.int .i64 t557) (.int .i64 t558) (.int .i64 t559) (.int .i64 t560) (.int .u64 t561) hx564_3; replace hx564_4 := cx6_ gb563 (.int .i64 t556) (.int .i64 t557) (.int .i64 t558) (.int .i64 t559) (.int .i64 t560) (.int .u64 t561) hx564_4; replace hx564_5 := cx6_ gb563 (.int .i64 t556) (.int .i64 t557) (.int .i64 t558) (.int .i64 t559) (.int .i64 t560) (.int .u64 t561) hx564_5; (try have hy564_0 := cy6_ hx564_0); (try have hy564_1 := cy6_ hx564_1); (try have hy564_2 := cy6_ hx564_2); (try have hy564_3 := cy6_ hx564_3); (try have hy564_4 := cy6_ hx564_4); (try have hy564_5 := cy6_ hx564_5); clear hn564; replace p564 := eq_true p564; replace q564 := eq_true q564; have p566 : 0 ≤ (x15_2 : Int) := of_decide_eq_true (by first | (with_reducible assumption) | assumption); have q566 : x15_2 < (t536.length : Int) := of_decide_eq_true (by first | (with_reducible assumption) | assumption); obtain ⟨ad566, e566, hx566_0, hx566_1, hx566_2, hx566_3, hx566_4, hx566_5⟩ := at_T37 (Kd.R_reads' HO_7.out).2.2 x15_2 p566 q566; cases e566; have hn566 : ad566.block ≠ gb563 := Kd.own_blk (rn_ HO_7.out BK563.out); replace hx566_0 := cx6_ gb563 (.int .i64 t556) (.int .i64 t557) (.int .i64 t558) (.int .i64 t559) (.int .i64 t560) (.int .u64 t561) hx566_0; replace hx566_1 := cx6_ gb563 (.int .i64 t556) (.int .i64 t557) (.int .i64 t558) (.int .i64 t559) (.int .i64 t560) (.int .u64 t561) hx566_1; replace hx566_2 := cx6_ gb563 (.int .i64 t556) (.int .i64 t557) (.int .i64 t558) (.int .i64 t559) (.int .i64 t560) (.int .u64 t561) hx566_2; replace hx566_3 := cx6_ gb563 (.int .i64 t556) (.int .i64 t557) (.int .i64 t558) (.int .i64 t559) (.int .i64 t560) (.int .u64 t561) hx566_3; replace hx566_4 := cx6_ gb563 (.int .i64 t556) (.int .i64 t557) (.int .i64 t558) (.int .i64 t559) (.int .i64 t560) (.int .u64 t561) hx566_4; replace hx566_5 := cx6_ gb563 (.int .i64 t556) (.int .i64 t557) (.int .i64 t558) (.int .i64 t559) (.int .i64 t560) (.int .u64 t561) hx566_5; (try have hy566_0 := cy6_ hx566_0); (try have hy566_1 := cy6_ hx566_1); (try have hy566_2 := cy6_ hx566_2); (try have hy566_3 := cy6_ hx566_3); (try have hy566_4 := cy6_ hx566_4); (try have hy566_5 := cy6_ hx566_5); clear hn566; replace p566 := eq_true p566; replace q566 := eq_true q566)); try go_wp2_with (first | (go_at_call 29; (with_reducible refine (bucket_Refill.calls k2 ((rd_T37 l0 x15_2).f0.f0) ((rd_T37 l0 x15_2).f0.f1) ((rd_T37 l0 x15_2).f0.f2) ((rd_T37 l0 x15_2).f1) ((rd_T37 l0 x15_2).f2) ((rd_T37 l0 x15_2).f3) a1 t548 t549 t550 t551 t552 t553 t554 _ A28.out).mono ?_); rintro e w57 ⟨rfl, hb⟩; replace HO_7 := rb_ HO_7 hb; replace HO_10 := rb_ HO_10 hb; replace HB := bs_ w hb; clear hb) | ((with_reducible refine gate_dst (N := 16) rfl ?_); (try refine ug_ (by rfl) ?_); refine bx_ #[.int .i64 0, .int .i64 0, .int .i64 0, .int .i64 0, .int .i64 0, .int .u64 0] 37 ?_; intro gb555 hg w58 BK555 hb; have GW555 := bz_ w hg; have GE555 := GW555; replace HO_7 := Aside0.mk (Kd.R_below (Kd.R_elderB (rs_ HO_7) gb555 (Nat.le_of_eq hg.symm)) hb); replace HO_10 := Aside0.mk (Kd.R_below (Kd.R_elderB (rs_ HO_10) gb555 (Nat.le_of_eq hg.symm)) hb); replace HB := bs_ w hb; clear hb hg; obtain ⟨hcz59_0, hcz59_1, hcz59_2, hcz59_3, hcz59_4, hcz59_5, hfz59_0, hfz59_1, hfz59_2, hfz59_3, hfz59_4, hfz59_5⟩ := ce6_ BK555) | (go_at_call 30; (with_reducible refine (bucket_Charge.calls t548 t549 t550 t551 t552 t553 a2 t556 t557 t558 t559 t560 t561 t562 _ A29.out).mono ?_); rintro e w60 ⟨rfl, hb⟩; replace HO_7 := Aside0.mk (Kd.R_below (by (with_reducible repeat (first | apply Kd.R_alloc | apply Kd.R_drewN | apply Kd.R_drew)); exact (Kd.R_mono (Kd.R_far (p := ⟨gb555, 5, none⟩) (Kd.R_far (p := ⟨gb555, 4, none⟩) (Kd.R_far (p := ⟨gb555, 3, none⟩) (Kd.R_far (p := ⟨gb555, 2, none⟩) (Kd.R_far (p := ⟨gb555, 1, none⟩) (Kd.R_far (p := ⟨gb555, 0, none⟩) (Kd.R_mono HO_7.out (fun k_ hk => (⟨hk, hk.2⟩ : _ ∧ k_ ≠ gb555))) (fun _ hk => hk.2) (.int .i64 t548)) (fun _ hk => hk.2) (.int .i64 t549)) (fun _ hk => hk.2) (.int .i64 t550)) (fun _ hk => hk.2) (.int .i64 t551)) (fun _ hk => hk.2) (.int .i64 t552)) (fun _ hk => hk.2) (.int .u64 t553)) (fun _ h_ => h_.1))) hb); replace HO_10 := Aside0.mk (Kd.R_below (by (with_reducible repeat (first | apply Kd.R_alloc | apply Kd.R_drewN | apply Kd.R_drew)); exact (Kd.R_mono (Kd.R_far (p := ⟨gb555, 5, none⟩) (Kd.R_far (p := ⟨gb555, 4, none⟩) (Kd.R_far (p := ⟨gb555, 3, none⟩) (Kd.R_far (p := ⟨gb555, 2, none⟩) (Kd.R_far (p := ⟨gb555, 1, none⟩) (Kd.R_far (p := ⟨gb555, 0, none⟩) (Kd.R_mono HO_10.out (fun k_ hk => (⟨hk, hk.2⟩ : _ ∧ k_ ≠ gb555))) (fun _ hk => hk.2) (.int .i64 t548)) (fun _ hk => hk.2) (.int .i64 t549)) (fun _ hk => hk.2) (.int .i64 t550)) (fun _ hk => hk.2) (.int .i64 t551)) (fun _ hk => hk.2) (.int .i64 t552)) (fun _ hk => hk.2) (.int .u64 t553)) (fun _ h_ => h_.1))) hb); replace BK555 := Aside0.mk (blk_below (g := gb555) (o := .cells #[.int .i64 t548, .int .i64 t549, .int .i64 t550, .int .i64 t551, .int .i64 t552, .int .u64 t553] 37 (0, 0)) (bp6_ (bq_ BK555)) hb); replace HB := bs_ w hb; clear hb) | ((with_reducible refine gate_dst (N := 18) rfl ?_); (try refine ug_ (by rfl) ?_); refine bx_ #[.int .i64 0, .int .i64 0, .int .i64 0, .int .i64 0, .int .i64 0, .int .u64 0] 37 ?_; intro gb563 hg w61 BK563 hb; have GW563 := bz_ w hg; have GE563 := GW563; have NB555_563 := bn_ BK555 hg; have NB563_555 := bm_ BK555 hg; replace HO_7 := Aside0.mk (Kd.R_below (Kd.R_elderB (rs_ HO_7) gb563 (Nat.le_of_eq hg.symm)) hb); replace HO_10 := Aside0.mk (Kd.R_below (Kd.R_elderB (rs_ HO_10) gb563 (Nat.le_of_eq hg.symm)) hb); replace BK555 := bb_ BK555 hb; replace HB := bs_ w hb; clear hb hg; have hnb62 := NB563_555.out; have hnc62 := NB555_563.out; obtain ⟨hcz63_0, hcz63_1, hcz63_2, hcz63_3, hcz63_4, hcz63_5, hfz63_0, hfz63_1, hfz63_2, hfz63_3, hfz63_4, hfz63_5⟩ := ce6_ BK563; obtain ⟨hcz64_0, hcz64_1, hcz64_2, hcz64_3, hcz64_4, hcz64_5, hfz64_0, hfz64_1, hfz64_2, hfz64_3, hfz64_4, hfz64_5⟩ := ce6_ BK555; have p564 : 0 ≤ (x15_2 : Int) := of_decide_eq_true (by first | (with_reducible assumption) | assumption); have q564 : x15_2 < (t541.length : Int) := of_decide_eq_true (by first | (with_reducible assumption) | assumption); obtain ⟨ad564, e564, hx564_0, hx564_1, hx564_2, hx564_3, hx564_4, hx564_5⟩ := at_T37 (Kd.R_reads' HO_10.out).2.2 x15_2 p564 q564; cases e564; have hn564 : ad564.block ≠ gb563 := Kd.own_blk (rn_ HO_10.out BK563.out); replace hx564_0 := cx6_ gb563 (.int .i64 t556) (.int .i64 t557) (.int .i64 t558) (.int .i64 t559) (.int .i64 t560) (.int .u64 t561) hx564_0; replace hx564_1 := cx6_ gb563 (.int .i64 t556) (.int .i64 t557) (.int .i64 t558) (.int .i64 t559) (.int .i64 t560) (.int .u64 t561) hx564_1; replace hx564_2 := cx6_ gb563 (.int .i64 t556) (.int .i64 t557) (.int .i64 t558) (.int .i64 t559) (.int .i64 t560) (.int .u64 t561) hx564_2; replace hx564_3 := cx6_ gb563 (.int .i64 t556) (.int .i64 t557) (.int .i64 t558) (.int .i64 t559) (.int .i64 t560) (.int .u64 t561) hx564_3; replace hx564_4 := cx6_ gb563 (.int .i64 t556) (.int .i64 t557) (.int .i64 t558) (.int .i64 t559) (.int .i64 t560) (.int .u64 t561) hx564_4; replace hx564_5 := cx6_ gb563 (.int .i64 t556) (.int .i64 t557) (.int .i64 t558) (.int .i64 t559) (.int .i64 t560) (.int .u64 t561) hx564_5; (try have hy564_0 := cy6_ hx564_0); (try have hy564_1 := cy6_ hx564_1); (try have hy564_2 := cy6_ hx564_2); (try have hy564_3 := cy6_ hx564_3); (try have hy564_4 := cy6_ hx564_4); (try have hy564_5 := cy6_ hx564_5); clear hn564; replace p564 := eq_true p564; replace q564 := eq_true q564; have p566 : 0 ≤ (x15_2 : Int) := of_decide_eq_true (by first | (with_reducible assumption) | assumption); have q566 : x15_2 < (t536.length : Int) := of_decide_eq_true (by first | (with_reducible assumption) | assumption); obtain ⟨ad566, e566, hx566_0, hx566_1, hx566_2, hx566_3, hx566_4, hx566_5⟩ := at_T37 (Kd.R_reads' HO_7.out).2.2 x15_2 p566 q566; cases e566; have hn566 : ad566.block ≠ gb563 := Kd.own_blk (rn_ HO_7.out BK563.out); replace hx566_0 := cx6_ gb563 (.int .i64 t556) (.int .i64 t557) (.int .i64 t558) (.int .i64 t559) (.int .i64 t560) (.int .u64 t561) hx566_0; replace hx566_1 := cx6_ gb563 (.int .i64 t556) (.int .i64 t557) (.int .i64 t558) (.int .i64 t559) (.int .i64 t560) (.int .u64 t561) hx566_1; replace hx566_2 := cx6_ gb563 (.int .i64 t556) (.int .i64 t557) (.int .i64 t558) (.int .i64 t559) (.int .i64 t560) (.int .u64 t561) hx566_2; replace hx566_3 := cx6_ gb563 (.int .i64 t556) (.int .i64 t557) (.int .i64 t558) (.int .i64 t559) (.int .i64 t560) (.int .u64 t561) hx566_3; replace hx566_4 := cx6_ gb563 (.int .i64 t556) (.int .i64 t557) (.int .i64 t558) (.int .i64 t559) (.int .i64 t560) (.int .u64 t561) hx566_4; replace hx566_5 := cx6_ gb563 (.int .i64 t556) (.int .i64 t557) (.int .i64 t558) (.int .i64 t559) (.int .i64 t560) (.int .u64 t561) hx566_5; (try have hy566_0 := cy6_ hx566_0); (try have hy566_1 := cy6_ hx566_1); (try have hy566_2 := cy6_ hx566_2); (try have hy566_3 := cy6_ hx566_3); (try have hy566_4 := cy6_ hx566_4); (try have hy566_5 := cy6_ hx566_5); clear hn566; replace p566 := eq_true p566; replace q566 := eq_true q566)))
         go_roundg k2
         case measure => have := HJ3.out; have := HK2.out; omega
         case rel => exact ⟨((t562 == 0)), (wrap64 (x15_2 + 1)), rf_, rf_, H', ⟨by have := HJ3.out; have := HK2.out; omega⟩, ⟨by (with_reducible repeat (first | apply Kd.R_alloc | apply Kd.R_drewN | apply Kd.R_drew)); exact Kd.R_mono (Kd.R_far (p := ⟨gb563, 5, none⟩) (Kd.R_far (p := ⟨gb563, 4, none⟩) (Kd.R_far (p := ⟨gb563, 3, none⟩) (Kd.R_far (p := ⟨gb563, 2, none⟩) (Kd.R_far (p := ⟨gb563, 1, none⟩) (Kd.R_far (p := ⟨gb563, 0, none⟩) (Kd.R_mono HO_7.out (fun k_ hk => (⟨hk, hk.2⟩ : _ ∧ k_ ≠ gb563))) (fun _ hk => hk.2) (.int .i64 t556)) (fun _ hk => hk.2) (.int .i64 t557)) (fun _ hk => hk.2) (.int .i64 t558)) (fun _ hk => hk.2) (.int .i64 t559)) (fun _ hk => hk.2) (.int .i64 t560)) (fun _ hk => hk.2) (.int .u64 t561)) (fun _ hk => hk.1.1.1)⟩, ⟨by (with_reducible repeat (first | apply Kd.R_alloc | apply Kd.R_drewN | apply Kd.R_drew)); exact Kd.R_mono (Kd.R_far (p := ⟨gb563, 5, none⟩) (Kd.R_far (p := ⟨gb563, 4, none⟩) (Kd.R_far (p := ⟨gb563, 3, none⟩) (Kd.R_far (p := ⟨gb563, 2, none⟩) (Kd.R_far (p := ⟨gb563, 1, none⟩) (Kd.R_far (p := ⟨gb563, 0, none⟩) (Kd.R_mono HO_10.out (fun k_ hk => (⟨hk, hk.2⟩ : _ ∧ k_ ≠ gb563))) (fun _ hk => hk.2) (.int .i64 t556)) (fun _ hk => hk.2) (.int .i64 t557)) (fun _ hk => hk.2) (.int .i64 t558)) (fun _ hk => hk.2) (.int .i64 t559)) (fun _ hk => hk.2) (.int .i64 t560)) (fun _ hk => hk.2) (.int .u64 t561)) (fun _ hk => hk.1.1.1)⟩, bw_⟩
        ·replace c56 := Bool.eq_false_iff.mpr c56
         subst c56
         rw [if_neg (show ¬ (false = true) by decide)] at H
         try dsimp only at H
         have H' := Aside0.mk H
         clear H
         have p547 : 0 ≤ (x15_2 : Int) := of_decide_eq_true (by first | (with_reducible assumption) | assumption)
         have q547 : x15_2 < (l0.length : Int) := of_decide_eq_true (by first | (with_reducible assumption) | assumption)
         obtain ⟨ad547, e547, hx547_0, hx547_1, hx547_2, hx547_3, hx547_4, hx547_5⟩ := at_T37 HR0.out x15_2 p547 q547
         cases e547
         replace hx547_0 := (HB.out.cell (World.block_lt_of_cell? w _ hx547_0)).trans hx547_0
         replace hx547_1 := (HB.out.cell (World.block_lt_of_cell? w _ hx547_1)).trans hx547_1
         replace hx547_2 := (HB.out.cell (World.block_lt_of_cell? w _ hx547_2)).trans hx547_2
         replace hx547_3 := (HB.out.cell (World.block_lt_of_cell? w _ hx547_3)).trans hx547_3
         replace hx547_4 := (HB.out.cell (World.block_lt_of_cell? w _ hx547_4)).trans hx547_4
         replace hx547_5 := (HB.out.cell (World.block_lt_of_cell? w _ hx547_5)).trans hx547_5
         replace p547 := eq_true p547
         replace q547 := eq_true q547
         go_wp2_with (first | (go_at_call 29; (with_reducible refine (bucket_Refill.calls k2 ((rd_T37 l0 x15_2).f0.f0) ((rd_T37 l0 x15_2).f0.f1) ((rd_T37 l0 x15_2).f0.f2) ((rd_T37 l0 x15_2).f1) ((rd_T37 l0 x15_2).f2) ((rd_T37 l0 x15_2).f3) a1 t548 t549 t550 t551 t552 t553 t554 _ A28.out).mono ?_); rintro e w65 ⟨rfl, hb⟩; replace HO_7 := rb_ HO_7 hb; replace HO_10 := rb_ HO_10 hb; replace HB := bs_ w hb; clear hb) | ((with_reducible refine gate_dst (N := 16) rfl ?_); (try refine ug_ (by rfl) ?_); refine bx_ #[.int .i64 0, .int .i64 0, .int .i64 0, .int .i64 0, .int .i64 0, .int .u64 0] 37 ?_; intro gb555 hg w66 BK555 hb; have GW555 := bz_ w hg; have GE555 := GW555; replace HO_7 := Aside0.mk (Kd.R_below (Kd.R_elderB (rs_ HO_7) gb555 (Nat.le_of_eq hg.symm)) hb); replace HO_10 := Aside0.mk (Kd.R_below (Kd.R_elderB (rs_ HO_10) gb555 (Nat.le_of_eq hg.symm)) hb); replace HB := bs_ w hb; clear hb hg; obtain ⟨hcz67_0, hcz67_1, hcz67_2, hcz67_3, hcz67_4, hcz67_5, hfz67_0, hfz67_1, hfz67_2, hfz67_3, hfz67_4, hfz67_5⟩ := ce6_ BK555) | (go_at_call 30; (with_reducible refine (bucket_Charge.calls t548 t549 t550 t551 t552 t553 a2 t556 t557 t558 t559 t560 t561 t562 _ A29.out).mono ?_); rintro e w68 ⟨rfl, hb⟩; replace HO_7 := Aside0.mk (Kd.R_below (by (with_reducible repeat (first | apply Kd.R_alloc | apply Kd.R_drewN | apply Kd.R_drew)); exact (Kd.R_mono (Kd.R_far (p := ⟨gb555, 5, none⟩) (Kd.R_far (p := ⟨gb555, 4, none⟩) (Kd.R_far (p := ⟨gb555, 3, none⟩) (Kd.R_far (p := ⟨gb555, 2, none⟩) (Kd.R_far (p := ⟨gb555, 1, none⟩) (Kd.R_far (p := ⟨gb555, 0, none⟩) (Kd.R_mono HO_7.out (fun k_ hk => (⟨hk, hk.2⟩ : _ ∧ k_ ≠ gb555))) (fun _ hk => hk.2) (.int .i64 t548)) (fun _ hk => hk.2) (.int .i64 t549)) (fun _ hk => hk.2) (.int .i64 t550)) (fun _ hk => hk.2) (.int .i64 t551)) (fun _ hk => hk.2) (.int .i64 t552)) (fun _ hk => hk.2) (.int .u64 t553)) (fun _ h_ => h_.1))) hb); replace HO_10 := Aside0.mk (Kd.R_below (by (with_reducible repeat (first | apply Kd.R_alloc | apply Kd.R_drewN | apply Kd.R_drew)); exact (Kd.R_mono (Kd.R_far (p := ⟨gb555, 5, none⟩) (Kd.R_far (p := ⟨gb555, 4, none⟩) (Kd.R_far (p := ⟨gb555, 3, none⟩) (Kd.R_far (p := ⟨gb555, 2, none⟩) (Kd.R_far (p := ⟨gb555, 1, none⟩) (Kd.R_far (p := ⟨gb555, 0, none⟩) (Kd.R_mono HO_10.out (fun k_ hk => (⟨hk, hk.2⟩ : _ ∧ k_ ≠ gb555))) (fun _ hk => hk.2) (.int .i64 t548)) (fun _ hk => hk.2) (.int .i64 t549)) (fun _ hk => hk.2) (.int .i64 t550)) (fun _ hk => hk.2) (.int .i64 t551)) (fun _ hk => hk.2) (.int .i64 t552)) (fun _ hk => hk.2) (.int .u64 t553)) (fun _ h_ => h_.1))) hb); replace BK555 := Aside0.mk (blk_below (g := gb555) (o := .cells #[.int .i64 t548, .int .i64 t549, .int .i64 t550, .int .i64 t551, .int .i64 t552, .int .u64 t553] 37 (0, 0)) (bp6_ (bq_ BK555)) hb); replace HB := bs_ w hb; clear hb) | ((with_reducible refine gate_dst (N := 18) rfl ?_); (try refine ug_ (by rfl) ?_); refine bx_ #[.int .i64 0, .int .i64 0, .int .i64 0, .int .i64 0, .int .i64 0, .int .u64 0] 37 ?_; intro gb563 hg w69 BK563 hb; have GW563 := bz_ w hg; have GE563 := GW563; have NB555_563 := bn_ BK555 hg; have NB563_555 := bm_ BK555 hg; replace HO_7 := Aside0.mk (Kd.R_below (Kd.R_elderB (rs_ HO_7) gb563 (Nat.le_of_eq hg.symm)) hb); replace HO_10 := Aside0.mk (Kd.R_below (Kd.R_elderB (rs_ HO_10) gb563 (Nat.le_of_eq hg.symm)) hb); replace BK555 := bb_ BK555 hb; replace HB := bs_ w hb; clear hb hg; have hnb70 := NB563_555.out; have hnc70 := NB555_563.out; obtain ⟨hcz71_0, hcz71_1, hcz71_2, hcz71_3, hcz71_4, hcz71_5, hfz71_0, hfz71_1, hfz71_2, hfz71_3, hfz71_4, hfz71_5⟩ := ce6_ BK563; obtain ⟨hcz72_0, hcz72_1, hcz72_2, hcz72_3, hcz72_4, hcz72_5, hfz72_0, hfz72_1, hfz72_2, hfz72_3, hfz72_4, hfz72_5⟩ := ce6_ BK555; have p564 : 0 ≤ (x15_2 : Int) := of_decide_eq_true (by first | (with_reducible assumption) | assumption); have q564 : x15_2 < (t541.length : Int) := of_decide_eq_true (by first | (with_reducible assumption) | assumption); obtain ⟨ad564, e564, hx564_0, hx564_1, hx564_2, hx564_3, hx564_4, hx564_5⟩ := at_T37 (Kd.R_reads' HO_10.out).2.2 x15_2 p564 q564; cases e564; have hn564 : ad564.block ≠ gb563 := Kd.own_blk (rn_ HO_10.out BK563.out); replace hx564_0 := cx6_ gb563 (.int .i64 t556) (.int .i64 t557) (.int .i64 t558) (.int .i64 t559) (.int .i64 t560) (.int .u64 t561) hx564_0; replace hx564_1 := cx6_ gb563 (.int .i64 t556) (.int .i64 t557) (.int .i64 t558) (.int .i64 t559) (.int .i64 t560) (.int .u64 t561) hx564_1; replace hx564_2 := cx6_ gb563 (.int .i64 t556) (.int .i64 t557) (.int .i64 t558) (.int .i64 t559) (.int .i64 t560) (.int .u64 t561) hx564_2; replace hx564_3 := cx6_ gb563 (.int .i64 t556) (.int .i64 t557) (.int .i64 t558) (.int .i64 t559) (.int .i64 t560) (.int .u64 t561) hx564_3; replace hx564_4 := cx6_ gb563 (.int .i64 t556) (.int .i64 t557) (.int .i64 t558) (.int .i64 t559) (.int .i64 t560) (.int .u64 t561) hx564_4; replace hx564_5 := cx6_ gb563 (.int .i64 t556) (.int .i64 t557) (.int .i64 t558) (.int .i64 t559) (.int .i64 t560) (.int .u64 t561) hx564_5; (try have hy564_0 := cy6_ hx564_0); (try have hy564_1 := cy6_ hx564_1); (try have hy564_2 := cy6_ hx564_2); (try have hy564_3 := cy6_ hx564_3); (try have hy564_4 := cy6_ hx564_4); (try have hy564_5 := cy6_ hx564_5); clear hn564; replace p564 := eq_true p564; replace q564 := eq_true q564; have p566 : 0 ≤ (x15_2 : Int) := of_decide_eq_true (by first | (with_reducible assumption) | assumption); have q566 : x15_2 < (t536.length : Int) := of_decide_eq_true (by first | (with_reducible assumption) | assumption); obtain ⟨ad566, e566, hx566_0, hx566_1, hx566_2, hx566_3, hx566_4, hx566_5⟩ := at_T37 (Kd.R_reads' HO_7.out).2.2 x15_2 p566 q566; cases e566; have hn566 : ad566.block ≠ gb563 := Kd.own_blk (rn_ HO_7.out BK563.out); replace hx566_0 := cx6_ gb563 (.int .i64 t556) (.int .i64 t557) (.int .i64 t558) (.int .i64 t559) (.int .i64 t560) (.int .u64 t561) hx566_0; replace hx566_1 := cx6_ gb563 (.int .i64 t556) (.int .i64 t557) (.int .i64 t558) (.int .i64 t559) (.int .i64 t560) (.int .u64 t561) hx566_1; replace hx566_2 := cx6_ gb563 (.int .i64 t556) (.int .i64 t557) (.int .i64 t558) (.int .i64 t559) (.int .i64 t560) (.int .u64 t561) hx566_2; replace hx566_3 := cx6_ gb563 (.int .i64 t556) (.int .i64 t557) (.int .i64 t558) (.int .i64 t559) (.int .i64 t560) (.int .u64 t561) hx566_3; replace hx566_4 := cx6_ gb563 (.int .i64 t556) (.int .i64 t557) (.int .i64 t558) (.int .i64 t559) (.int .i64 t560) (.int .u64 t561) hx566_4; replace hx566_5 := cx6_ gb563 (.int .i64 t556) (.int .i64 t557) (.int .i64 t558) (.int .i64 t559) (.int .i64 t560) (.int .u64 t561) hx566_5; (try have hy566_0 := cy6_ hx566_0); (try have hy566_1 := cy6_ hx566_1); (try have hy566_2 := cy6_ hx566_2); (try have hy566_3 := cy6_ hx566_3); (try have hy566_4 := cy6_ hx566_4); (try have hy566_5 := cy6_ hx566_5); clear hn566; replace p566 := eq_true p566; replace q566 := eq_true q566))
         repeat (go_quiet (first | (go_at_call 29; (with_reducible refine (bucket_Refill.calls k2 ((rd_T37 l0 x15_2).f0.f0) ((rd_T37 l0 x15_2).f0.f1) ((rd_T37 l0 x15_2).f0.f2) ((rd_T37 l0 x15_2).f1) ((rd_T37 l0 x15_2).f2) ((rd_T37 l0 x15_2).f3) a1 t548 t549 t550 t551 t552 t553 t554 _ A28.out).mono ?_); rintro e w65 ⟨rfl, hb⟩; replace HO_7 := rb_ HO_7 hb; replace HO_10 := rb_ HO_10 hb; replace HB := bs_ w hb; clear hb) | ((with_reducible refine gate_dst (N := 16) rfl ?_); (try refine ug_ (by rfl) ?_); refine bx_ #[.int .i64 0, .int .i64 0, .int .i64 0, .int .i64 0, .int .i64 0, .int .u64 0] 37 ?_; intro gb555 hg w66 BK555 hb; have GW555 := bz_ w hg; have GE555 := GW555; replace HO_7 := Aside0.mk (Kd.R_below (Kd.R_elderB (rs_ HO_7) gb555 (Nat.le_of_eq hg.symm)) hb); replace HO_10 := Aside0.mk (Kd.R_below (Kd.R_elderB (rs_ HO_10) gb555 (Nat.le_of_eq hg.symm)) hb); replace HB := bs_ w hb; clear hb hg; obtain ⟨hcz67_0, hcz67_1, hcz67_2, hcz67_3, hcz67_4, hcz67_5, hfz67_0, hfz67_1, hfz67_2, hfz67_3, hfz67_4, hfz67_5⟩ := ce6_ BK555) | (go_at_call 30; (with_reducible refine (bucket_Charge.calls t548 t549 t550 t551 t552 t553 a2 t556 t557 t558 t559 t560 t561 t562 _ A29.out).mono ?_); rintro e w68 ⟨rfl, hb⟩; replace HO_7 := Aside0.mk (Kd.R_below (by (with_reducible repeat (first | apply Kd.R_alloc | apply Kd.R_drewN | apply Kd.R_drew)); exact (Kd.R_mono (Kd.R_far (p := ⟨gb555, 5, none⟩) (Kd.R_far (p := ⟨gb555, 4, none⟩) (Kd.R_far (p := ⟨gb555, 3, none⟩) (Kd.R_far (p := ⟨gb555, 2, none⟩) (Kd.R_far (p := ⟨gb555, 1, none⟩) (Kd.R_far (p := ⟨gb555, 0, none⟩) (Kd.R_mono HO_7.out (fun k_ hk => (⟨hk, hk.2⟩ : _ ∧ k_ ≠ gb555))) (fun _ hk => hk.2) (.int .i64 t548)) (fun _ hk => hk.2) (.int .i64 t549)) (fun _ hk => hk.2) (.int .i64 t550)) (fun _ hk => hk.2) (.int .i64 t551)) (fun _ hk => hk.2) (.int .i64 t552)) (fun _ hk => hk.2) (.int .u64 t553)) (fun _ h_ => h_.1))) hb); replace HO_10 := Aside0.mk (Kd.R_below (by (with_reducible repeat (first | apply Kd.R_alloc | apply Kd.R_drewN | apply Kd.R_drew)); exact (Kd.R_mono (Kd.R_far (p := ⟨gb555, 5, none⟩) (Kd.R_far (p := ⟨gb555, 4, none⟩) (Kd.R_far (p := ⟨gb555, 3, none⟩) (Kd.R_far (p := ⟨gb555, 2, none⟩) (Kd.R_far (p := ⟨gb555, 1, none⟩) (Kd.R_far (p := ⟨gb555, 0, none⟩) (Kd.R_mono HO_10.out (fun k_ hk => (⟨hk, hk.2⟩ : _ ∧ k_ ≠ gb555))) (fun _ hk => hk.2) (.int .i64 t548)) (fun _ hk => hk.2) (.int .i64 t549)) (fun _ hk => hk.2) (.int .i64 t550)) (fun _ hk => hk.2) (.int .i64 t551)) (fun _ hk => hk.2) (.int .i64 t552)) (fun _ hk => hk.2) (.int .u64 t553)) (fun _ h_ => h_.1))) hb); replace BK555 := Aside0.mk (blk_below (g := gb555) (o := .cells #[.int .i64 t548, .int .i64 t549, .int .i64 t550, .int .i64 t551, .int .i64 t552, .int .u64 t553] 37 (0, 0)) (bp6_ (bq_ BK555)) hb); replace HB := bs_ w hb; clear hb) | ((with_reducible refine gate_dst (N := 18) rfl ?_); (try refine ug_ (by rfl) ?_); refine bx_ #[.int .i64 0, .int .i64 0, .int .i64 0, .int .i64 0, .int .i64 0, .int .u64 0] 37 ?_; intro gb563 hg w69 BK563 hb; have GW563 := bz_ w hg; have GE563 := GW563; have NB555_563 := bn_ BK555 hg; have NB563_555 := bm_ BK555 hg; replace HO_7 := Aside0.mk (Kd.R_below (Kd.R_elderB (rs_ HO_7) gb563 (Nat.le_of_eq hg.symm)) hb); replace HO_10 := Aside0.mk (Kd.R_below (Kd.R_elderB (rs_ HO_10) gb563 (Nat.le_of_eq hg.symm)) hb); replace BK555 := bb_ BK555 hb; replace HB := bs_ w hb; clear hb hg; have hnb70 := NB563_555.out; have hnc70 := NB555_563.out; obtain ⟨hcz71_0, hcz71_1, hcz71_2, hcz71_3, hcz71_4, hcz71_5, hfz71_0, hfz71_1, hfz71_2, hfz71_3, hfz71_4, hfz71_5⟩ := ce6_ BK563; obtain ⟨hcz72_0, hcz72_1, hcz72_2, hcz72_3, hcz72_4, hcz72_5, hfz72_0, hfz72_1, hfz72_2, hfz72_3, hfz72_4, hfz72_5⟩ := ce6_ BK555; have p564 : 0 ≤ (x15_2 : Int) := of_decide_eq_true (by first | (with_reducible assumption) | assumption); have q564 : x15_2 < (t541.length : Int) := of_decide_eq_true (by first | (with_reducible assumption) | assumption); obtain ⟨ad564, e564, hx564_0, hx564_1, hx564_2, hx564_3, hx564_4, hx564_5⟩ := at_T37 (Kd.R_reads' HO_10.out).2.2 x15_2 p564 q564; cases e564; have hn564 : ad564.block ≠ gb563 := Kd.own_blk (rn_ HO_10.out BK563.out); replace hx564_0 := cx6_ gb563 (.int .i64 t556) (.int .i64 t557) (.int .i64 t558) (.int .i64 t559) (.int .i64 t560) (.int .u64 t561) hx564_0; replace hx564_1 := cx6_ gb563 (.int .i64 t556) (.int .i64 t557) (.int .i64 t558) (.int .i64 t559) (.int .i64 t560) (.int .u64 t561) hx564_1; replace hx564_2 := cx6_ gb563 (.int .i64 t556) (.int .i64 t557) (.int .i64 t558) (.int .i64 t559) (.int .i64 t560) (.int .u64 t561) hx564_2; replace hx564_3 := cx6_ gb563 (.int .i64 t556) (.int .i64 t557) (.int .i64 t558) (.int .i64 t559) (.int .i64 t560) (.int .u64 t561) hx564_3; replace hx564_4 := cx6_ gb563 (.int .i64 t556) (.int .i64 t557) (.int .i64 t558) (.int .i64 t559) (.int .i64 t560) (.int .u64 t561) hx564_4; replace hx564_5 := cx6_ gb563 (.int .i64 t556) (.int .i64 t557) (.int .i64 t558) (.int .i64 t559) (.int .i64 t560) (.int .u64 t561) hx564_5; (try have hy564_0 := cy6_ hx564_0); (try have hy564_1 := cy6_ hx564_1); (try have hy564_2 := cy6_ hx564_2); (try have hy564_3 := cy6_ hx564_3); (try have hy564_4 := cy6_ hx564_4); (try have hy564_5 := cy6_ hx564_5); clear hn564; replace p564 := eq_true p564; replace q564 := eq_true q564; have p566 : 0 ≤ (x15_2 : Int) := of_decide_eq_true (by first | (with_reducible assumption) | assumption); have q566 : x15_2 < (t536.length : Int) := of_decide_eq_true (by first | (with_reducible assumption) | assumption); obtain ⟨ad566, e566, hx566_0, hx566_1, hx566_2, hx566_3, hx566_4, hx566_5⟩ := at_T37 (Kd.R_reads' HO_7.out).2.2 x15_2 p566 q566; cases e566; have hn566 : ad566.block ≠ gb563 := Kd.own_blk (rn_ HO_7.out BK563.out); replace hx566_0 := cx6_ gb563 (.int .i64 t556) (.int .i64 t557) (.int .i64 t558) (.int .i64 t559) (.int .i64 t560) (.int .u64 t561) hx566_0; replace hx566_1 := cx6_ gb563 (.int .i64 t556) (.int .i64 t557) (.int .i64 t558) (.int .i64 t559) (.int .i64 t560) (.int .u64 t561) hx566_1; replace hx566_2 := cx6_ gb563 (.int .i64 t556) (.int .i64 t557) (.int .i64 t558) (.int .i64 t559) (.int .i64 t560) (.int .u64 t561) hx566_2; replace hx566_3 := cx6_ gb563 (.int .i64 t556) (.int .i64 t557) (.int .i64 t558) (.int .i64 t559) (.int .i64 t560) (.int .u64 t561) hx566_3; replace hx566_4 := cx6_ gb563 (.int .i64 t556) (.int .i64 t557) (.int .i64 t558) (.int .i64 t559) (.int .i64 t560) (.int .u64 t561) hx566_4; replace hx566_5 := cx6_ gb563 (.int .i64 t556) (.int .i64 t557) (.int .i64 t558) (.int .i64 t559) (.int .i64 t560) (.int .u64 t561) hx566_5; (try have hy566_0 := cy6_ hx566_0); (try have hy566_1 := cy6_ hx566_1); (try have hy566_2 := cy6_ hx566_2); (try have hy566_3 := cy6_ hx566_3); (try have hy566_4 := cy6_ hx566_4); (try have hy566_5 := cy6_ hx566_5); clear hn566; replace p566 := eq_true p566; replace q566 := eq_true q566)); try go_wp2_with (first | (go_at_call 29; (with_reducible refine (bucket_Refill.calls k2 ((rd_T37 l0 x15_2).f0.f0) ((rd_T37 l0 x15_2).f0.f1) ((rd_T37 l0 x15_2).f0.f2) ((rd_T37 l0 x15_2).f1) ((rd_T37 l0 x15_2).f2) ((rd_T37 l0 x15_2).f3) a1 t548 t549 t550 t551 t552 t553 t554 _ A28.out).mono ?_); rintro e w65 ⟨rfl, hb⟩; replace HO_7 := rb_ HO_7 hb; replace HO_10 := rb_ HO_10 hb; replace HB := bs_ w hb; clear hb) | ((with_reducible refine gate_dst (N := 16) rfl ?_); (try refine ug_ (by rfl) ?_); refine bx_ #[.int .i64 0, .int .i64 0, .int .i64 0, .int .i64 0, .int .i64 0, .int .u64 0] 37 ?_; intro gb555 hg w66 BK555 hb; have GW555 := bz_ w hg; have GE555 := GW555; replace HO_7 := Aside0.mk (Kd.R_below (Kd.R_elderB (rs_ HO_7) gb555 (Nat.le_of_eq hg.symm)) hb); replace HO_10 := Aside0.mk (Kd.R_below (Kd.R_elderB (rs_ HO_10) gb555 (Nat.le_of_eq hg.symm)) hb); replace HB := bs_ w hb; clear hb hg; obtain ⟨hcz67_0, hcz67_1, hcz67_2, hcz67_3, hcz67_4, hcz67_5, hfz67_0, hfz67_1, hfz67_2, hfz67_3, hfz67_4, hfz67_5⟩ := ce6_ BK555) | (go_at_call 30; (with_reducible refine (bucket_Charge.calls t548 t549 t550 t551 t552 t553 a2 t556 t557 t558 t559 t560 t561 t562 _ A29.out).mono ?_); rintro e w68 ⟨rfl, hb⟩; replace HO_7 := Aside0.mk (Kd.R_below (by (with_reducible repeat (first | apply Kd.R_alloc | apply Kd.R_drewN | apply Kd.R_drew)); exact (Kd.R_mono (Kd.R_far (p := ⟨gb555, 5, none⟩) (Kd.R_far (p := ⟨gb555, 4, none⟩) (Kd.R_far (p := ⟨gb555, 3, none⟩) (Kd.R_far (p := ⟨gb555, 2, none⟩) (Kd.R_far (p := ⟨gb555, 1, none⟩) (Kd.R_far (p := ⟨gb555, 0, none⟩) (Kd.R_mono HO_7.out (fun k_ hk => (⟨hk, hk.2⟩ : _ ∧ k_ ≠ gb555))) (fun _ hk => hk.2) (.int .i64 t548)) (fun _ hk => hk.2) (.int .i64 t549)) (fun _ hk => hk.2) (.int .i64 t550)) (fun _ hk => hk.2) (.int .i64 t551)) (fun _ hk => hk.2) (.int .i64 t552)) (fun _ hk => hk.2) (.int .u64 t553)) (fun _ h_ => h_.1))) hb); replace HO_10 := Aside0.mk (Kd.R_below (by (with_reducible repeat (first | apply Kd.R_alloc | apply Kd.R_drewN | apply Kd.R_drew)); exact (Kd.R_mono (Kd.R_far (p := ⟨gb555, 5, none⟩) (Kd.R_far (p := ⟨gb555, 4, none⟩) (Kd.R_far (p := ⟨gb555, 3, none⟩) (Kd.R_far (p := ⟨gb555, 2, none⟩) (Kd.R_far (p := ⟨gb555, 1, none⟩) (Kd.R_far (p := ⟨gb555, 0, none⟩) (Kd.R_mono HO_10.out (fun k_ hk => (⟨hk, hk.2⟩ : _ ∧ k_ ≠ gb555))) (fun _ hk => hk.2) (.int .i64 t548)) (fun _ hk => hk.2) (.int .i64 t549)) (fun _ hk => hk.2) (.int .i64 t550)) (fun _ hk => hk.2) (.int .i64 t551)) (fun _ hk => hk.2) (.int .i64 t552)) (fun _ hk => hk.2) (.int .u64 t553)) (fun _ h_ => h_.1))) hb); replace BK555 := Aside0.mk (blk_below (g := gb555) (o := .cells #[.int .i64 t548, .int .i64 t549, .int .i64 t550, .int .i64 t551, .int .i64 t552, .int .u64 t553] 37 (0, 0)) (bp6_ (bq_ BK555)) hb); replace HB := bs_ w hb; clear hb) | ((with_reducible refine gate_dst (N := 18) rfl ?_); (try refine ug_ (by rfl) ?_); refine bx_ #[.int .i64 0, .int .i64 0, .int .i64 0, .int .i64 0, .int .i64 0, .int .u64 0] 37 ?_; intro gb563 hg w69 BK563 hb; have GW563 := bz_ w hg; have GE563 := GW563; have NB555_563 := bn_ BK555 hg; have NB563_555 := bm_ BK555 hg; replace HO_7 := Aside0.mk (Kd.R_below (Kd.R_elderB (rs_ HO_7) gb563 (Nat.le_of_eq hg.symm)) hb); replace HO_10 := Aside0.mk (Kd.R_below (Kd.R_elderB (rs_ HO_10) gb563 (Nat.le_of_eq hg.symm)) hb); replace BK555 := bb_ BK555 hb; replace HB := bs_ w hb; clear hb hg; have hnb70 := NB563_555.out; have hnc70 := NB555_563.out; obtain ⟨hcz71_0, hcz71_1, hcz71_2, hcz71_3, hcz71_4, hcz71_5, hfz71_0, hfz71_1, hfz71_2, hfz71_3, hfz71_4, hfz71_5⟩ := ce6_ BK563; obtain ⟨hcz72_0, hcz72_1, hcz72_2, hcz72_3, hcz72_4, hcz72_5, hfz72_0, hfz72_1, hfz72_2, hfz72_3, hfz72_4, hfz72_5⟩ := ce6_ BK555; have p564 : 0 ≤ (x15_2 : Int) := of_decide_eq_true (by first | (with_reducible assumption) | assumption); have q564 : x15_2 < (t541.length : Int) := of_decide_eq_true (by first | (with_reducible assumption) | assumption); obtain ⟨ad564, e564, hx564_0, hx564_1, hx564_2, hx564_3, hx564_4, hx564_5⟩ := at_T37 (Kd.R_reads' HO_10.out).2.2 x15_2 p564 q564; cases e564; have hn564 : ad564.block ≠ gb563 := Kd.own_blk (rn_ HO_10.out BK563.out); replace hx564_0 := cx6_ gb563 (.int .i64 t556) (.int .i64 t557) (.int .i64 t558) (.int .i64 t559) (.int .i64 t560) (.int .u64 t561) hx564_0; replace hx564_1 := cx6_ gb563 (.int .i64 t556) (.int .i64 t557) (.int .i64 t558) (.int .i64 t559) (.int .i64 t560) (.int .u64 t561) hx564_1; replace hx564_2 := cx6_ gb563 (.int .i64 t556) (.int .i64 t557) (.int .i64 t558) (.int .i64 t559) (.int .i64 t560) (.int .u64 t561) hx564_2; replace hx564_3 := cx6_ gb563 (.int .i64 t556) (.int .i64 t557) (.int .i64 t558) (.int .i64 t559) (.int .i64 t560) (.int .u64 t561) hx564_3; replace hx564_4 := cx6_ gb563 (.int .i64 t556) (.int .i64 t557) (.int .i64 t558) (.int .i64 t559) (.int .i64 t560) (.int .u64 t561) hx564_4; replace hx564_5 := cx6_ gb563 (.int .i64 t556) (.int .i64 t557) (.int .i64 t558) (.int .i64 t559) (.int .i64 t560) (.int .u64 t561) hx564_5; (try have hy564_0 := cy6_ hx564_0); (try have hy564_1 := cy6_ hx564_1); (try have hy564_2 := cy6_ hx564_2); (try have hy564_3 := cy6_ hx564_3); (try have hy564_4 := cy6_ hx564_4); (try have hy564_5 := cy6_ hx564_5); clear hn564; replace p564 := eq_true p564; replace q564 := eq_true q564; have p566 : 0 ≤ (x15_2 : Int) := of_decide_eq_true (by first | (with_reducible assumption) | assumption); have q566 : x15_2 < (t536.length : Int) := of_decide_eq_true (by first | (with_reducible assumption) | assumption); obtain ⟨ad566, e566, hx566_0, hx566_1, hx566_2, hx566_3, hx566_4, hx566_5⟩ := at_T37 (Kd.R_reads' HO_7.out).2.2 x15_2 p566 q566; cases e566; have hn566 : ad566.block ≠ gb563 := Kd.own_blk (rn_ HO_7.out BK563.out); replace hx566_0 := cx6_ gb563 (.int .i64 t556) (.int .i64 t557) (.int .i64 t558) (.int .i64 t559) (.int .i64 t560) (.int .u64 t561) hx566_0; replace hx566_1 := cx6_ gb563 (.int .i64 t556) (.int .i64 t557) (.int .i64 t558) (.int .i64 t559) (.int .i64 t560) (.int .u64 t561) hx566_1; replace hx566_2 := cx6_ gb563 (.int .i64 t556) (.int .i64 t557) (.int .i64 t558) (.int .i64 t559) (.int .i64 t560) (.int .u64 t561) hx566_2; replace hx566_3 := cx6_ gb563 (.int .i64 t556) (.int .i64 t557) (.int .i64 t558) (.int .i64 t559) (.int .i64 t560) (.int .u64 t561) hx566_3; replace hx566_4 := cx6_ gb563 (.int .i64 t556) (.int .i64 t557) (.int .i64 t558) (.int .i64 t559) (.int .i64 t560) (.int .u64 t561) hx566_4; replace hx566_5 := cx6_ gb563 (.int .i64 t556) (.int .i64 t557) (.int .i64 t558) (.int .i64 t559) (.int .i64 t560) (.int .u64 t561) hx566_5; (try have hy566_0 := cy6_ hx566_0); (try have hy566_1 := cy6_ hx566_1); (try have hy566_2 := cy6_ hx566_2); (try have hy566_3 := cy6_ hx566_3); (try have hy566_4 := cy6_ hx566_4); (try have hy566_5 := cy6_ hx566_5); clear hn566; replace p566 := eq_true p566; replace q566 := eq_true q566)))
         go_roundg k2
         case measure => have := HJ3.out; have := HK2.out; omega
         case rel => exact ⟨(false), (wrap64 (x15_2 + 1)), rf_, rf_, H', ⟨by have := HJ3.out; have := HK2.out; omega⟩, ⟨by (with_reducible repeat (first | apply Kd.R_alloc | apply Kd.R_drewN | apply Kd.R_drew)); exact Kd.R_mono (Kd.R_far (p := ⟨gb563, 5, none⟩) (Kd.R_far (p := ⟨gb563, 4, none⟩) (Kd.R_far (p := ⟨gb563, 3, none⟩) (Kd.R_far (p := ⟨gb563, 2, none⟩) (Kd.R_far (p := ⟨gb563, 1, none⟩) (Kd.R_far (p := ⟨gb563, 0, none⟩) (Kd.R_mono HO_7.out (fun k_ hk => (⟨hk, hk.2⟩ : _ ∧ k_ ≠ gb563))) (fun _ hk => hk.2) (.int .i64 t556)) (fun _ hk => hk.2) (.int .i64 t557)) (fun _ hk => hk.2) (.int .i64 t558)) (fun _ hk => hk.2) (.int .i64 t559)) (fun _ hk => hk.2) (.int .i64 t560)) (fun _ hk => hk.2) (.int .u64 t561)) (fun _ hk => hk.1.1.1)⟩, ⟨by (with_reducible repeat (first | apply Kd.R_alloc | apply Kd.R_drewN | apply Kd.R_drew)); exact Kd.R_mono (Kd.R_far (p := ⟨gb563, 5, none⟩) (Kd.R_far (p := ⟨gb563, 4, none⟩) (Kd.R_far (p := ⟨gb563, 3, none⟩) (Kd.R_far (p := ⟨gb563, 2, none⟩) (Kd.R_far (p := ⟨gb563, 1, none⟩) (Kd.R_far (p := ⟨gb563, 0, none⟩) (Kd.R_mono HO_10.out (fun k_ hk => (⟨hk, hk.2⟩ : _ ∧ k_ ≠ gb563))) (fun _ hk => hk.2) (.int .i64 t556)) (fun _ hk => hk.2) (.int .i64 t557)) (fun _ hk => hk.2) (.int .i64 t558)) (fun _ hk => hk.2) (.int .i64 t559)) (fun _ hk => hk.2) (.int .i64 t560)) (fun _ hk => hk.2) (.int .u64 t561)) (fun _ hk => hk.1.1.1)⟩, bw_⟩
      ·rw [if_neg c26] at H
       have c26b0 : decide (x15_2 < (l0.length : Int)) = false := decide_eq_false c26
       clear c26
       by_cases c73 : (x14_2 != t537) = true
       ·rw [if_pos c73] at H; exact absurd H (by simp)
       rw [if_neg c73] at H
       have c73b0 : (x14_2 != t537) = false := by simpa using c73
       (try (have c73b1 : decide (x14_2 = t537) = true := by simpa using c73))
       (try (have c73b2 : (x14_2 == t537) = true := by simpa using c73))
       clear c73
       have H' := Aside0.mk H
       clear H
       go_wp2
       repeat (go_quiet (fail); try go_wp2)
       go_loopg [20, 21] k2 (fun kq v20 v21 w' => ∃ (x20_3 : List (S37)) (x21_3 : Int), v21 = .int .i64 x21_3 ∧ Aside0 (spigotlaw04_LevelsAll.l1 kq l0 a1 a2 t536 t537 x20_3 x21_3 = some r) ∧ Aside0 (kq ≤ k2) ∧ Aside0 (Kd.R k37 37 w' w.heap.size (fun k_ => some k_ ≠ (v20 : Value).ownBlock) (.slice Ao25 t536.length co25) t536) ∧ Aside0 (Kd.R k37 37 w' w.heap.size (fun k_ => some k_ ≠ ((.slice Ao25 t536.length co25) : Value).ownBlock) v20 x20_3) ∧ Aside0 (Below w.heap.size w w'))
       case atStart => exact ⟨(([] : List (S37))), (wrap64 ((l0.length : Int) - 1)), rf_, H', ⟨Nat.le_refl _⟩, ⟨by (with_reducible repeat (first | apply Kd.R_alloc | apply Kd.R_drewN | apply Kd.R_drew)); exact Kd.R_mono HO_7.out (fun _ hk => (by simp [Value.ownBlock]))⟩, ⟨by first | exact Kd.R_nil _ _ _ _ _ | exact Kd.N_nil _ _ _ _ _ | exact Kd.V_nil _ _ _ _ _ | exact Kd.Q_nil _ _ _ _ _ | exact Kd.S_nil _ _ _ _ _⟩, bw_⟩
       case round =>
        clear H'
        try clear c9
        try clear c15
        try clear c15b0
        try clear c15b1
        try clear c16
        try clear c16b0
        try clear c16b1
        try clear c17
        try clear c17b0
        try clear c17b1
        try clear c18
        try clear c18b0
        try clear c18b1
        try clear c18b2
        try clear c19
        try clear c19b0
        try clear c19b1
        try clear c19b2
        try clear c20
        try clear c20b0
        try clear c20b1
        try clear c20b2
        try clear c26
        try clear c26b0
        try clear c73
        try clear c73b0
        try clear c73b1
        try clear c73b2
        obtain ⟨x20_3, x21_3, rfl, HA, HK3, HO_7, HO_20, HB⟩ := hrel
        cases gk with
        | zero => exact absurd HA.out (by simp [spigotlaw04_LevelsAll.l1])
        | succ k3 =>
         have H := HA.out
         clear HA
         simp only [spigotlaw04_LevelsAll.l1] at H
         by_cases c74 : x21_3 ≥ 0
         ·rw [if_pos c74] at H
          have c74b0 : decide (0 ≤ x21_3) = true := decide_eq_true c74
          clear c74
          by_cases c75 : 0 ≤ x21_3
          rotate_left
          ·rw [if_neg c75] at H; exact absurd H (by simp)
          rw [if_pos c75] at H
          have c75b0 : decide (0 ≤ x21_3) = true := decide_eq_true c75
          clear c75
          by_cases c76 : x21_3 < (l0.length : Int)
          rotate_left
          ·rw [if_neg c76] at H; exact absurd H (by simp)
          rw [if_pos c76] at H
          have c76b0 : decide (x21_3 < (l0.length : Int)) = true := decide_eq_true c76
          clear c76
          by_cases c77 : x20_3.length < 2932031007402
          rotate_left
          ·rw [if_neg c77] at H; exact absurd H (by simp)
          rw [if_pos c77] at H
          have LMc77 := Aside0.mk c77
          clear c77
          obtain ⟨y568, hy568⟩ : ∃ y_ : List (S37), y_ = (x20_3 ++ [(⟨(⟨(rd_T37 l0 x21_3).f0.f0, (rd_T37 l0 x21_3).f0.f1, (rd_T37 l0 x21_3).f0.f2⟩ : S34), (rd_T37 l0 x21_3).f1, (rd_T37 l0 x21_3).f2, (rd_T37 l0 x21_3).f3⟩ : S37)]) := ⟨_, rfl⟩
          replace H : (spigotlaw04_LevelsAll.l1 k3 l0 a1 a2 t536 t537 y568 (wrap64 (x21_3 - 1))) = some r := by first | (rw [hy568]; with_reducible exact H) | (have H2_ := (Option.bind_some _ _).symm.trans H; rw [hy568]; with_reducible exact H2_) | (have H2_ := (Option.bind_some _ _).symm.trans H; with_reducible exact H2_) | with_reducible exact H | (rw [hy568]; exact H) | exact H
          have Ny568 := Aside0.mk hy568
          clear hy568
          have H' := Aside0.mk H
          clear H
          have p567 : 0 ≤ (x21_3 : Int) := of_decide_eq_true (by first | (with_reducible assumption) | assumption)
          have q567 : x21_3 < (l0.length : Int) := of_decide_eq_true (by first | (with_reducible assumption) | assumption)
          obtain ⟨ad567, e567, hx567_0, hx567_1, hx567_2, hx567_3, hx567_4, hx567_5⟩ := at_T37 HR0.out x21_3 p567 q567
          cases e567
          replace hx567_0 := (HB.out.cell (World.block_lt_of_cell? w _ hx567_0)).trans hx567_0
          replace hx567_1 := (HB.out.cell (World.block_lt_of_cell? w _ hx567_1)).trans hx567_1
          replace hx567_2 := (HB.out.cell (World.block_lt_of_cell? w _ hx567_2)).trans hx567_2
          replace hx567_3 := (HB.out.cell (World.block_lt_of_cell? w _ hx567_3)).trans hx567_3
          replace hx567_4 := (HB.out.cell (World.block_lt_of_cell? w _ hx567_4)).trans hx567_4
          replace hx567_5 := (HB.out.cell (World.block_lt_of_cell? w _ hx567_5)).trans hx567_5
          replace p567 := eq_true p567
          replace q567 := eq_true q567
          go_wp2_with (first | ((with_reducible refine gate_builtin (b := .append) (xs := #[.tmp 156, .tmp 161]) rfl ?_); (try refine ug_ (by rfl) ?_); at_builtin; refine Kd.R_append k37 (w0 := w) w.heap.size rfl (.tmp 156) (.tmp 161) 22 37 (.agg #[(.int .i64 0), (.int .i64 0), (.int .i64 0), (.int .i64 0), (.int .i64 0), (.int .u64 0)]) 48 rfl Try.underlying22 info37 rfl (by decide) (by omega) u20 x20_3 (⟨(⟨(rd_T37 l0 x21_3).f0.f0, (rd_T37 l0 x21_3).f0.f1, (rd_T37 l0 x21_3).f0.f2⟩ : S34), (rd_T37 l0 x21_3).f1, (rd_T37 l0 x21_3).f2, (rd_T37 l0 x21_3).f3⟩ : S37) [.int .i64 ((rd_T37 l0 x21_3).f0.f0), .int .i64 ((rd_T37 l0 x21_3).f0.f1), .int .i64 ((rd_T37 l0 x21_3).f0.f2), .int .i64 ((rd_T37 l0 x21_3).f1), .int .i64 ((rd_T37 l0 x21_3).f2), .int .u64 ((rd_T37 l0 x21_3).f3)] (fun k_ => some k_ ≠ (.slice Ao25 t536.length co25 : Value).ownBlock) (fun _ => False) rfl rfl ?aP (fun _ hk => hk.elim) ?aF ?aO ?aB ?aS ?aL ?_; (case aP => exact k37_mkM _ _ _ (⟨(⟨(rd_T37 l0 x21_3).f0.f0, (rd_T37 l0 x21_3).f0.f1, (rd_T37 l0 x21_3).f0.f2⟩ : S34), (rd_T37 l0 x21_3).f1, (rd_T37 l0 x21_3).f2, (rd_T37 l0 x21_3).f3⟩ : S37)); (case aB => exact (hq_ HB)); (case aF => exact (fun k_ hk => Kd.fresh' (Kd.R_lt (rs_ HO_7)) k_ hk)); (case aO => exact (rs_ HO_20)); (case aS => exact (below_size (hq_ HB))); (case aL => have := LMc77.out; omega); intro v569 w78 ho hb hg hat; rw [← Ny568.out] at ho; have HO570 := Aside0.mk (ho); replace HO_7 := Aside0.mk (Kd.R_after (ok := (fun _ => True)) (by (with_reducible repeat (first | apply Kd.R_alloc | apply Kd.R_drewN | apply Kd.R_drew)); exact Kd.R_mono HO_7.out (fun _ hk => ⟨trivial, hk⟩)) hg hat); replace HB := Aside0.mk (hb); clear HO_20; clear ho hb hg hat))
          repeat (go_quiet (first | ((with_reducible refine gate_builtin (b := .append) (xs := #[.tmp 156, .tmp 161]) rfl ?_); (try refine ug_ (by rfl) ?_); at_builtin; refine Kd.R_append k37 (w0 := w) w.heap.size rfl (.tmp 156) (.tmp 161) 22 37 (.agg #[(.int .i64 0), (.int .i64 0), (.int .i64 0), (.int .i64 0), (.int .i64 0), (.int .u64 0)]) 48 rfl Try.underlying22 info37 rfl (by decide) (by omega) u20 x20_3 (⟨(⟨(rd_T37 l0 x21_3).f0.f0, (rd_T37 l0 x21_3).f0.f1, (rd_T37 l0 x21_3).f0.f2⟩ : S34), (rd_T37 l0 x21_3).f1, (rd_T37 l0 x21_3).f2, (rd_T37 l0 x21_3).f3⟩ : S37) [.int .i64 ((rd_T37 l0 x21_3).f0.f0), .int .i64 ((rd_T37 l0 x21_3).f0.f1), .int .i64 ((rd_T37 l0 x21_3).f0.f2), .int .i64 ((rd_T37 l0 x21_3).f1), .int .i64 ((rd_T37 l0 x21_3).f2), .int .u64 ((rd_T37 l0 x21_3).f3)] (fun k_ => some k_ ≠ (.slice Ao25 t536.length co25 : Value).ownBlock) (fun _ => False) rfl rfl ?aP (fun _ hk => hk.elim) ?aF ?aO ?aB ?aS ?aL ?_; (case aP => exact k37_mkM _ _ _ (⟨(⟨(rd_T37 l0 x21_3).f0.f0, (rd_T37 l0 x21_3).f0.f1, (rd_T37 l0 x21_3).f0.f2⟩ : S34), (rd_T37 l0 x21_3).f1, (rd_T37 l0 x21_3).f2, (rd_T37 l0 x21_3).f3⟩ : S37)); (case aB => exact (hq_ HB)); (case aF => exact (fun k_ hk => Kd.fresh' (Kd.R_lt (rs_ HO_7)) k_ hk)); (case aO => exact (rs_ HO_20)); (case aS => exact (below_size (hq_ HB))); (case aL => have := LMc77.out; omega); intro v569 w78 ho hb hg hat; rw [← Ny568.out] at ho; have HO570 := Aside0.mk (ho); replace HO_7 := Aside0.mk (Kd.R_after (ok := (fun _ => True)) (by (with_reducible repeat (first | apply Kd.R_alloc | apply Kd.R_drewN | apply Kd.R_drew)); exact Kd.R_mono HO_7.out (fun _ hk => ⟨trivial, hk⟩)) hg hat); replace HB := Aside0.mk (hb); clear HO_20; clear ho hb hg hat)); try go_wp2_with (first | ((with_reducible refine gate_builtin (b := .append) (xs := #[.tmp 156, .tmp 161]) rfl ?_); (try refine ug_ (by rfl) ?_); at_builtin; refine Kd.R_append k37 (w0 := w) w.heap.size rfl (.tmp 156) (.tmp 161) 22 37 (.agg #[(.int .i64 0), (.int .i64 0), (.int .i64 0), (.int .i64 0), (.int .i64 0), (.int .u64 0)]) 48 rfl Try.underlying22 info37 rfl (by decide) (by omega) u20 x20_3 (⟨(⟨(rd_T37 l0 x21_3).f0.f0, (rd_T37 l0 x21_3).f0.f1, (rd_T37 l0 x21_3).f0.f2⟩ : S34), (rd_T37 l0 x21_3).f1, (rd_T37 l0 x21_3).f2, (rd_T37 l0 x21_3).f3⟩ : S37) [.int .i64 ((rd_T37 l0 x21_3).f0.f0), .int .i64 ((rd_T37 l0 x21_3).f0.f1), .int .i64 ((rd_T37 l0 x21_3).f0.f2), .int .i64 ((rd_T37 l0 x21_3).f1), .int .i64 ((rd_T37 l0 x21_3).f2), .int .u64 ((rd_T37 l0 x21_3).f3)] (fun k_ => some k_ ≠ (.slice Ao25 t536.length co25 : Value).ownBlock) (fun _ => False) rfl rfl ?aP (fun _ hk => hk.elim) ?aF ?aO ?aB ?aS ?aL ?_; (case aP => exact k37_mkM _ _ _ (⟨(⟨(rd_T37 l0 x21_3).f0.f0, (rd_T37 l0 x21_3).f0.f1, (rd_T37 l0 x21_3).f0.f2⟩ : S34), (rd_T37 l0 x21_3).f1, (rd_T37 l0 x21_3).f2, (rd_T37 l0 x21_3).f3⟩ : S37)); (case aB => exact (hq_ HB)); (case aF => exact (fun k_ hk => Kd.fresh' (Kd.R_lt (rs_ HO_7)) k_ hk)); (case aO => exact (rs_ HO_20)); (case aS => exact (below_size (hq_ HB))); (case aL => have := LMc77.out; omega); intro v569 w78 ho hb hg hat; rw [← Ny568.out] at ho; have HO570 := Aside0.mk (ho); replace HO_7 := Aside0.mk (Kd.R_after (ok := (fun _ => True)) (by (with_reducible repeat (first | apply Kd.R_alloc | apply Kd.R_drewN | apply Kd.R_drew)); exact Kd.R_mono HO_7.out (fun _ hk => ⟨trivial, hk⟩)) hg hat); replace HB := Aside0.mk (hb); clear HO_20; clear ho hb hg hat)))
          go_roundg k3
          case measure => have := HJ3.out; have := HK2.out; have := HK3.out; omega
          case rel => exact ⟨(y568), (wrap64 (x21_3 - 1)), rf_, H', ⟨by have := HJ3.out; have := HK2.out; have := HK3.out; omega⟩, ⟨by (with_reducible repeat (first | apply Kd.R_alloc | apply Kd.R_drewN | apply Kd.R_drew)); exact Kd.R_mono HO_7.out (fun _ hk => hk.2)⟩, ⟨rs_ HO570⟩, bw_⟩
         ·rw [if_neg c74] at H
          have c74b0 : decide (0 ≤ x21_3) = false := decide_eq_false c74
          clear c74
          obtain ⟨⟨t571, t572, t573⟩, A79, H⟩ := bo_ H
          try dsimp only at H
          by_cases c80 : t573 = 0
          rotate_left
          ·rw [if_neg c80] at H; exact absurd H (by simp)
          rw [if_pos c80] at H
          have c80b0 : (t573 == 0) = true := beq_iff_eq.mpr c80
          have c80b1 : (t573 != 0) = false := bne_eq_false_iff_eq.mpr c80
          clear c80
          by_cases c81 : (t572 != t537) = true
          ·rw [if_pos c81] at H; exact absurd H (by simp)
          rw [if_neg c81] at H
          have c81b0 : (t572 != t537) = false := by simpa using c81
          (try (have c81b1 : decide (t572 = t537) = true := by simpa using c81))
          (try (have c81b2 : (t572 == t537) = true := by simpa using c81))
          clear c81
          by_cases c82 : (t571.length : Int) = (t536.length : Int)
          rotate_left
          ·rw [if_neg c82] at H; exact absurd H (by simp)
          rw [if_pos c82] at H
          have c82b0 : ((t571.length : Int) == (t536.length : Int)) = true := beq_iff_eq.mpr c82
          have c82b1 : ((t571.length : Int) != (t536.length : Int)) = false := bne_eq_false_iff_eq.mpr c82
          have c82b2 : (t571.length == t536.length) = true := by first | simpa using c82 | (simp at c82 ⊢; omega)
          clear c82
          have H' := Aside0.mk H
          clear H
          obtain ⟨Ao83, co83, eo83⟩ := Kd.R_slice HO_20.out
          subst eo83
          go_wp2_with (first | (go_at_call 23; (with_reducible refine (levels_Take.calls k3 _ _ x20_3 a1 a2 t571 t572 t573 _ ?side1 ?side2 A79.out).mono ?_); (case side1 => exact cr_ HO_20); (case side2 => exact (Kd.R_reads' HO_20.out).2.1); rintro e w84 ⟨v574, rfl, ho0, hb⟩; have HO575 := Aside0.mk (Kd.R_lower (Kd.R_new' (Kd.R_new' ho0 (Kd.R_lt (rs_ HO_7))) (Kd.R_lt (rs_ HO_20))) (below_size (hq_ HB))); replace HO_7 := Aside0.mk (Kd.R_elder' (rs_ HO_7) (Kd.R_base ho0) hb); replace HO_20 := Aside0.mk (Kd.R_elder' (rs_ HO_20) (Kd.R_base ho0) hb); replace HB := bs_ w hb; (try clear hb); (try clear hb2); (try clear hk); (try clear hi); (try clear ho0); obtain ⟨Ao85, co85, eo85⟩ := Kd.R_slice HO575.out; subst eo85))
          repeat (go_quiet (first | (go_at_call 23; (with_reducible refine (levels_Take.calls k3 _ _ x20_3 a1 a2 t571 t572 t573 _ ?side1 ?side2 A79.out).mono ?_); (case side1 => exact cr_ HO_20); (case side2 => exact (Kd.R_reads' HO_20.out).2.1); rintro e w84 ⟨v574, rfl, ho0, hb⟩; have HO575 := Aside0.mk (Kd.R_lower (Kd.R_new' (Kd.R_new' ho0 (Kd.R_lt (rs_ HO_7))) (Kd.R_lt (rs_ HO_20))) (below_size (hq_ HB))); replace HO_7 := Aside0.mk (Kd.R_elder' (rs_ HO_7) (Kd.R_base ho0) hb); replace HO_20 := Aside0.mk (Kd.R_elder' (rs_ HO_20) (Kd.R_base ho0) hb); replace HB := bs_ w hb; (try clear hb); (try clear hb2); (try clear hk); (try clear hi); (try clear ho0); obtain ⟨Ao85, co85, eo85⟩ := Kd.R_slice HO575.out; subst eo85)); try go_wp2_with (first | (go_at_call 23; (with_reducible refine (levels_Take.calls k3 _ _ x20_3 a1 a2 t571 t572 t573 _ ?side1 ?side2 A79.out).mono ?_); (case side1 => exact cr_ HO_20); (case side2 => exact (Kd.R_reads' HO_20.out).2.1); rintro e w84 ⟨v574, rfl, ho0, hb⟩; have HO575 := Aside0.mk (Kd.R_lower (Kd.R_new' (Kd.R_new' ho0 (Kd.R_lt (rs_ HO_7))) (Kd.R_lt (rs_ HO_20))) (below_size (hq_ HB))); replace HO_7 := Aside0.mk (Kd.R_elder' (rs_ HO_7) (Kd.R_base ho0) hb); replace HO_20 := Aside0.mk (Kd.R_elder' (rs_ HO_20) (Kd.R_base ho0) hb); replace HB := bs_ w hb; (try clear hb); (try clear hb2); (try clear hk); (try clear hi); (try clear ho0); obtain ⟨Ao85, co85, eo85⟩ := Kd.R_slice HO575.out; subst eo85)))
          go_loopg [25] k3 (fun kq v25 w' => ∃ (x25_4 : Int), v25 = .int .i64 x25_4 ∧ Aside0 (spigotlaw04_LevelsAll.l2 kq a2 t536 t537 t571 x25_4 = some r) ∧ Aside0 (kq ≤ k3) ∧ Aside0 (Kd.R k37 37 w' w.heap.size (fun k_ => some k_ ≠ ((.slice Ao85 t571.length co85) : Value).ownBlock) (.slice Ao25 t536.length co25) t536) ∧ Aside0 (Kd.R k37 37 w' w.heap.size (fun k_ => some k_ ≠ ((.slice Ao25 t536.length co25) : Value).ownBlock) (.slice Ao85 t571.length co85) t571) ∧ Aside0 (Below w.heap.size w w'))
          case atStart => exact ⟨(0), rf_, H', ⟨Nat.le_refl _⟩, ⟨by (with_reducible repeat (first | apply Kd.R_alloc | apply Kd.R_drewN | apply Kd.R_drew)); exact Kd.R_mono HO_7.out (fun _ hk => hk.2)⟩, ⟨by (with_reducible repeat (first | apply Kd.R_alloc | apply Kd.R_drewN | apply Kd.R_drew)); exact Kd.R_mono HO575.out (fun _ hk => hk.1.2)⟩, bw_⟩
          case round =>
           clear H'
           try clear c9
           try clear c15
           try clear c15b0
           try clear c15b1
           try clear c16
           try clear c16b0
           try clear c16b1
           try clear c17
           try clear c17b0
           try clear c17b1
           try clear c18
           try clear c18b0
           try clear c18b1
           try clear c18b2
           try clear c19
           try clear c19b0
           try clear c19b1
           try clear c19b2
           try clear c20
           try clear c20b0
           try clear c20b1
           try clear c20b2
           try clear c26
           try clear c26b0
           try clear c73
           try clear c73b0
           try clear c73b1
           try clear c73b2
           try clear c74
           try clear c74b0
           try clear c80
           try clear c80b0
           try clear c80b1
           try clear c81
           try clear c81b0
           try clear c81b1
           try clear c81b2
           try clear c82
           try clear c82b0
           try clear c82b1
           try clear c82b2
           obtain ⟨x25_4, rfl, HA, HK4, HO_7, HO_22, HB⟩ := hrel
           cases gk with
           | zero => exact absurd HA.out (by simp [spigotlaw04_LevelsAll.l2])
           | succ k4 =>
            have H := HA.out
            clear HA
            simp only [spigotlaw04_LevelsAll.l2] at H
            by_cases c86 : x25_4 < (t536.length : Int)
            ·rw [if_pos c86] at H
             have c86b0 : decide (x25_4 < (t536.length : Int)) = true := decide_eq_true c86
             clear c86
             obtain ⟨ji87, hji87⟩ : ∃ j_ : Int, (wrap64 ((wrap64 ((t536.length : Int) - 1)) - x25_4)) = j_ := ⟨_, rfl⟩
             replace H : (if 0 ≤ (ji87) then (if (ji87) < (t571.length : Int) then (if 0 ≤ x25_4 then (if ((!(((rd_T37 t571 (ji87)).f0.f0) == ((rd_T37 t536 x25_4).f0.f0)) || (!(((rd_T37 t571 (ji87)).f0.f1) == ((rd_T37 t536 x25_4).f0.f1)) || (!(((rd_T37 t571 (ji87)).f0.f2) == ((rd_T37 t536 x25_4).f0.f2))))) || (!(((rd_T37 t571 (ji87)).f1) == ((rd_T37 t536 x25_4).f1)) || (!(((rd_T37 t571 (ji87)).f2) == ((rd_T37 t536 x25_4).f2)) || (!(((rd_T37 t571 (ji87)).f3) == ((rd_T37 t536 x25_4).f3)))))) = true then (none) else (spigotlaw04_LevelsAll.l2 k4 a2 t536 t537 t571 (wrap64 (x25_4 + 1)))) else (none)) else (none)) else (none)) = some r := by first | (rw [hji87] at H; exact H) | (simp only [hji87] at H ⊢; exact H)
             have hji87w : (IntKind.i64.wrap ((wrap64 ((t536.length : Int) - 1)) - x25_4)) = ji87 := (i64_w _).trans hji87
             by_cases c88 : 0 ≤ (ji87)
             rotate_left
             ·rw [if_neg c88] at H; exact absurd H (by simp)
             rw [if_pos c88] at H
             have c88b0 : decide (0 ≤ (ji87)) = true := decide_eq_true c88
             clear c88
             by_cases c89 : (ji87) < (t571.length : Int)
             rotate_left
             ·rw [if_neg c89] at H; exact absurd H (by simp)
             rw [if_pos c89] at H
             have c89b0 : decide ((ji87) < (t571.length : Int)) = true := decide_eq_true c89
             clear c89
             by_cases c90 : 0 ≤ x25_4
             rotate_left
             ·rw [if_neg c90] at H; exact absurd H (by simp)
             rw [if_pos c90] at H
             have c90b0 : decide (0 ≤ x25_4) = true := decide_eq_true c90
             clear c90
             by_cases c91 : ((!(((rd_T37 t571 (ji87)).f0.f0) == ((rd_T37 t536 x25_4).f0.f0)) || (!(((rd_T37 t571 (ji87)).f0.f1) == ((rd_T37 t536 x25_4).f0.f1)) || (!(((rd_T37 t571 (ji87)).f0.f2) == ((rd_T37 t536 x25_4).f0.f2))))) || (!(((rd_T37 t571 (ji87)).f1) == ((rd_T37 t536 x25_4).f1)) || (!(((rd_T37 t571 (ji87)).f2) == ((rd_T37 t536 x25_4).f2)) || (!(((rd_T37 t571 (ji87)).f3) == ((rd_T37 t536 x25_4).f3)))))) = true
             ·rw [if_pos c91] at H; exact absurd H (by simp)
             rw [if_neg c91] at H
             have c91b0 : ((!(((rd_T37 t571 (ji87)).f0.f0) == ((rd_T37 t536 x25_4).f0.f0)) || (!(((rd_T37 t571 (ji87)).f0.f1) == ((rd_T37 t536 x25_4).f0.f1)) || (!(((rd_T37 t571 (ji87)).f0.f2) == ((rd_T37 t536 x25_4).f0.f2))))) || (!(((rd_T37 t571 (ji87)).f1) == ((rd_T37 t536 x25_4).f1)) || (!(((rd_T37 t571 (ji87)).f2) == ((rd_T37 t536 x25_4).f2)) || (!(((rd_T37 t571 (ji87)).f3) == ((rd_T37 t536 x25_4).f3)))))) = false := by simpa using c91
             clear c91
             have H' := Aside0.mk H
             clear H
             have p576 : 0 ≤ ((ji87) : Int) := of_decide_eq_true (by first | (with_reducible assumption) | assumption)
             have q576 : (ji87) < (t571.length : Int) := of_decide_eq_true (by first | (with_reducible assumption) | assumption)
             obtain ⟨ad576, e576, hx576_0, hx576_1, hx576_2, hx576_3, hx576_4, hx576_5⟩ := at_T37 (Kd.R_reads' HO_22.out).2.2 (ji87) p576 q576
             cases e576
             replace p576 := eq_true p576
             replace q576 := eq_true q576
             have p577 : 0 ≤ (x25_4 : Int) := of_decide_eq_true (by first | (with_reducible assumption) | assumption)
             have q577 : x25_4 < (t536.length : Int) := of_decide_eq_true (by first | (with_reducible assumption) | assumption)
             obtain ⟨ad577, e577, hx577_0, hx577_1, hx577_2, hx577_3, hx577_4, hx577_5⟩ := at_T37 (Kd.R_reads' HO_7.out).2.2 x25_4 p577 q577
             cases e577
             replace p577 := eq_true p577
             replace q577 := eq_true q577
             go_wp2
             repeat (go_quiet (fail); try go_wp2)
             go_roundg k4
             case measure => have := HJ3.out; have := HK2.out; have := HK3.out; have := HK4.out; omega
             case rel => exact ⟨(wrap64 (x25_4 + 1)), rf_, H', ⟨by have := HJ3.out; have := HK2.out; have := HK3.out; have := HK4.out; omega⟩, ⟨rs_ HO_7⟩, ⟨rs_ HO_22⟩, bw_⟩
            ·rw [if_neg c86] at H
             have c86b0 : decide (x25_4 < (t536.length : Int)) = false := decide_eq_false c86
             clear c86
             by_cases c92 : a2 > 0
             ·rw [if_pos c92] at H
              have c92b0 : decide (0 < a2) = true := decide_eq_true c92
              clear c92
              obtain ⟨t578, A93, H⟩ := bo_ H
              replace H : (some t578) = some r := H
              obtain rfl := Option.some.inj H
              go_wp2_with (first | (go_at_call 17; (with_reducible refine (spigotlaw04_alive.calls k4  t578 _ A93.out).mono ?_); rintro e w94 ⟨rfl, hb⟩; replace HO_7 := rb_ HO_7 hb; replace HO_22 := rb_ HO_22 hb; replace HB := bs_ w hb; clear hb))
              repeat (go_quiet (first | (go_at_call 17; (with_reducible refine (spigotlaw04_alive.calls k4  t578 _ A93.out).mono ?_); rintro e w94 ⟨rfl, hb⟩; replace HO_7 := rb_ HO_7 hb; replace HO_22 := rb_ HO_22 hb; replace HB := bs_ w hb; clear hb)); try go_wp2_with (first | (go_at_call 17; (with_reducible refine (spigotlaw04_alive.calls k4  t578 _ A93.out).mono ?_); rintro e w94 ⟨rfl, hb⟩; replace HO_7 := rb_ HO_7 hb; replace HO_22 := rb_ HO_22 hb; replace HB := bs_ w hb; clear hb)))
              go_ret
              exact fi_
             ·rw [if_neg c92] at H
              have c92b0 : decide (0 < a2) = false := decide_eq_false c92
              clear c92
              by_cases c95 : t537 = true
              ·subst c95
               rw [if_pos rfl] at H
               try dsimp only at H
               obtain ⟨t579, A96, H⟩ := bo_ H
               replace H : (some t579) = some r := H
               obtain rfl := Option.some.inj H
               go_wp2_with (first | (go_at_call 17; (with_reducible refine (spigotlaw04_alive.calls k4  t579 _ A96.out).mono ?_); rintro e w97 ⟨rfl, hb⟩; replace HO_7 := rb_ HO_7 hb; replace HO_22 := rb_ HO_22 hb; replace HB := bs_ w hb; clear hb))
               repeat (go_quiet (first | (go_at_call 17; (with_reducible refine (spigotlaw04_alive.calls k4  t579 _ A96.out).mono ?_); rintro e w97 ⟨rfl, hb⟩; replace HO_7 := rb_ HO_7 hb; replace HO_22 := rb_ HO_22 hb; replace HB := bs_ w hb; clear hb)); try go_wp2_with (first | (go_at_call 17; (with_reducible refine (spigotlaw04_alive.calls k4  t579 _ A96.out).mono ?_); rintro e w97 ⟨rfl, hb⟩; replace HO_7 := rb_ HO_7 hb; replace HO_22 := rb_ HO_22 hb; replace HB := bs_ w hb; clear hb)))
               go_ret
               exact fi_
              ·replace c95 := Bool.eq_false_iff.mpr c95
               subst c95
               replace H : (none) = some r := by rw [if_neg (show ¬ (false = true) by decide)] at H; exact H
               exact absurd H (by simp)

end Go.Proofs.Ytaegpnbgppjicaa.X
