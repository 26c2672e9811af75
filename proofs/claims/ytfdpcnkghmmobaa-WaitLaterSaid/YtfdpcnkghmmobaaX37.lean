-- written by xprint.py, a program of this session over the kit's print
import Derived.Test.YtfdpcnkghmmobaaX0
import Derived.Test.YtfdpcnkghmmobaaX3
import Derived.Test.YtfdpcnkghmmobaaX21
namespace Go.Proofs.Ytfdpcnkghmmobaa.X
open Go.RowKit Go.Proofs.YtfdpcnkghmmobaaW.PrintWords Go.Proofs.YtfdpcnkghmmobaaW.PrintLast Go.Proofs.YtfdpcnkghmmobaaW.PrintMore
attribute [local go_sem] max2_int min2_int max_two min_two max_three min_three max_four min_four   -- for this text's walks alone
set_option linter.unusedVariables false
set_option linter.unusedSimpArgs false

/-! ### spigotlaw39_fit: function 14 -/
def spigotlaw39_fit.f (k : Nat) (l0 : List (S63)) (l1 : List Int) : Option (Bool) := (spigotref39_Great.f l0 l1).bind fun t436 => (if t436 = true then (some false) else ((spigotref39_Both.f k l0 l1).bind fun t437 => (some (t437 == 0))))
theorem spigotlaw39_fit.mono : ∀ a0 a1 k, LeO (spigotlaw39_fit.f k a0 a1) (spigotlaw39_fit.f (k + 1) a0 a1) := by
  intro a0 a1 k
  unfold spigotlaw39_fit.f
  repeat' first
      | (with_reducible exact spigotref39_Both.mono _ _ _)
      | (with_reducible exact LeO.refl _)
      | (with_reducible exact LeO.none _)
      | (with_reducible refine LeO.ite ?_ ?_)
      | (with_reducible refine LeO.bind ?_ (fun _ => ?_))
      | exact spigotref39_Both.mono _ _ _
      | exact LeO.none _
      | refine LeO.ite ?_ ?_
      | refine LeO.bind ?_ (fun _ => ?_)
set_option maxHeartbeats 8000000 in
set_option maxRecDepth 100000 in
theorem spigotlaw39_fit.calls (k : Nat) (A0 : Option Addr) (c0 : Nat) (l0 : List (S63)) (A1 : Option Addr) (c1 : Nat) (l1 : List Int) (r : Bool) (w : World) (hr0 : Kd.C k63 w A0 l0.length l0) (hc0 : l0.length ≤ c0) (hr1 : Kd.C (Kd.int .i64) w A1 l1.length l1) (hc1 : l1.length ≤ c1) (h : spigotlaw39_fit.f k l0 l1 = some r) :
  Calls Try.prog 14 #[.slice A0 l0.length c0, .slice A1 l1.length c1] w fun e w' => e = .returned (.bool r) ∧ Below w.heap.size w w' := by
 have HR0 := Aside0.mk hr0
 have HC0 := Aside0.mk hc0
 clear hr0 hc0
 have HR1 := Aside0.mk hr1
 have HC1 := Aside0.mk hc1
 clear hr1 hc1
 have HB := Aside0.mk (Below.refl w.heap.size w)
 have H : ((spigotref39_Great.f l0 l1).bind fun t436 => (if t436 = true then (some false) else ((spigotref39_Both.f k l0 l1).bind fun t437 => (some (t437 == 0))))) = some r := h
 clear h
 obtain ⟨t436, A3, H⟩ := bo_ H
 replace H : (if t436 = true then (some false) else ((spigotref39_Both.f k l0 l1).bind fun t437 => (some (t437 == 0)))) = some r := H
 by_cases c4 : t436 = true
 ·subst c4
  replace H : (some false) = some r := by rw [if_pos rfl] at H; exact H
  obtain rfl := Option.some.inj H
  go_enter Try.func14, Try.ntmps14
  go_wp2_with (first | ((with_reducible refine gate_callee (f := 10) rfl ?_); (try refine ug_ (by rfl) ?_); refine goesA_ (some 7) Try.func10 #[.slice A0 l0.length c0, .slice A1 l1.length c1] ?_; (with_reducible refine (spigotref39_Great.calls _ _ l0 _ _ l1 true _ ?side1 ?side2 ?side3 ?side4 A3.out).mono ?_); (case side1 => exact ch_ HR0); (case side2 => exact HC0.out); (case side3 => exact ch_ HR1); (case side4 => exact HC1.out); rintro e w' ⟨rfl, ⟨nd, rfl⟩⟩; refine ⟨_, rfl, ?_⟩))
  go_ret
  exact fi_
 ·replace c4 := Bool.eq_false_iff.mpr c4
  subst c4
  rw [if_neg (show ¬ (false = true) by decide)] at H
  try dsimp only at H
  obtain ⟨t437, A5, H⟩ := bo_ H
  replace H : (some (t437 == 0)) = some r := H
  obtain rfl := Option.some.inj H
  go_enter Try.func14, Try.ntmps14
  go_wp2_with (first | ((with_reducible refine gate_callee (f := 10) rfl ?_); (try refine ug_ (by rfl) ?_); refine goesA_ (some 7) Try.func10 #[.slice A0 l0.length c0, .slice A1 l1.length c1] ?_; (with_reducible refine (spigotref39_Great.calls _ _ l0 _ _ l1 false _ ?side1 ?side2 ?side3 ?side4 A3.out).mono ?_); (case side1 => exact ch_ HR0); (case side2 => exact HC0.out); (case side3 => exact ch_ HR1); (case side4 => exact HC1.out); rintro e w' ⟨rfl, ⟨nd, rfl⟩⟩; refine ⟨_, rfl, ?_⟩) | (go_at_call 33; (with_reducible refine (spigotref39_Both.calls k _ _ l0 _ _ l1 t437 _ ?side1 ?side2 ?side3 ?side4 A5.out).mono ?_); (case side1 => exact ch_ HR0); (case side2 => exact HC0.out); (case side3 => exact ch_ HR1); (case side4 => exact HC1.out); rintro e w6 ⟨rfl, hb⟩; replace HB := bs_ w hb; clear hb))
  go_ret
  exact fi_

end Go.Proofs.Ytfdpcnkghmmobaa.X
