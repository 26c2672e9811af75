-- written by xprint.py, a program of this session over the kit's print
import Derived.Test.YtfdpcnkghmmobaaX0
import Derived.Test.YtfdpcnkghmmobaaX5
import Derived.Test.YtfdpcnkghmmobaaX15
namespace Go.Proofs.Ytfdpcnkghmmobaa.X
open Go.RowKit Go.Proofs.YtfdpcnkghmmobaaW.PrintWords Go.Proofs.YtfdpcnkghmmobaaW.PrintLast Go.Proofs.YtfdpcnkghmmobaaW.PrintMore
attribute [local go_sem] max2_int min2_int max_two min_two max_three min_three max_four min_four   -- for this text's walks alone
set_option linter.unusedVariables false
set_option linter.unusedSimpArgs false

/-! ### levels_Check: function 47 -/
def levels_Check.f (k : Nat) (l0 : List (S63)) : Option (Int) := (levels_check.f k l0 ([] : List Int)).bind fun t199 => (some t199)
theorem levels_Check.mono : ∀ a0 k, LeO (levels_Check.f k a0) (levels_Check.f (k + 1) a0) := by
  intro a0 k
  unfold levels_Check.f
  repeat' first
      | (with_reducible exact levels_check.mono _ _ _)
      | (with_reducible exact LeO.refl _)
      | (with_reducible exact LeO.none _)
      | (with_reducible refine LeO.ite ?_ ?_)
      | (with_reducible refine LeO.bind ?_ (fun _ => ?_))
      | exact levels_check.mono _ _ _
      | exact LeO.none _
      | refine LeO.ite ?_ ?_
      | refine LeO.bind ?_ (fun _ => ?_)
set_option maxHeartbeats 8000000 in
set_option maxRecDepth 100000 in
theorem levels_Check.calls (k : Nat) (A0 : Option Addr) (c0 : Nat) (l0 : List (S63)) (r : Int) (w : World) (hr0 : Kd.C k63 w A0 l0.length l0) (hc0 : l0.length ≤ c0) (h : levels_Check.f k l0 = some r) :
  Calls Try.prog 47 #[.slice A0 l0.length c0] w fun e w' => e = .returned (.int .i64 r) ∧ Below w.heap.size w w' := by
 have HR0 := Aside0.mk hr0
 have HC0 := Aside0.mk hc0
 clear hr0 hc0
 have HB := Aside0.mk (Below.refl w.heap.size w)
 have H : ((levels_check.f k l0 ([] : List Int)).bind fun t199 => (some t199)) = some r := h
 clear h
 have H0_ := bo_ H; clear H; obtain ⟨t199, A2, H⟩ := H0_
 replace H : (some t199) = some r := H
 obtain rfl := Option.some.inj H
 go_enter Try.func47, Try.ntmps47
 go_wp2_with (first | ((with_reducible refine gate_callee (f := 42) rfl ?_); refine goesA_ (some 4) Try.func42 #[.slice A0 l0.length c0, .slice none 0 0] ?_; (refine (levels_check.calls k _ _ l0 _ _ ([] : List Int) t199 _ ?side1 ?side2 ?side3 ?side4 A2.out).mono ?_); (case side1 => exact ch_ HR0); (case side2 => exact HC0.out); (case side3 => exact Kd.C_nil _ _); (case side4 => exact Nat.le_refl _); rintro e w3 ⟨rfl, hb⟩; refine ⟨_, rfl, ?_⟩; replace HB := bs_ w hb; clear hb))
 go_ret
 exact fi_

/-! ### wait_both: function 30 -/
def wait_both.f (k : Nat) (l0 : List (S63)) (l1 : List Int) : Option (Int) := (levels_Check.f k l0).bind fun t200 => (if t200 = 0 then ((wait_Costs.f k l1).bind fun t201 => (some t201)) else (some t200))
theorem wait_both.mono : ∀ a0 a1 k, LeO (wait_both.f k a0 a1) (wait_both.f (k + 1) a0 a1) := by
  intro a0 a1 k
  unfold wait_both.f
  repeat' first
      | (with_reducible exact levels_Check.mono _ _)
      | (with_reducible exact wait_Costs.mono _ _)
      | (with_reducible exact LeO.refl _)
      | (with_reducible exact LeO.none _)
      | (with_reducible refine LeO.ite ?_ ?_)
      | (with_reducible refine LeO.bind ?_ (fun _ => ?_))
      | exact levels_Check.mono _ _
      | exact wait_Costs.mono _ _
      | exact LeO.none _
      | refine LeO.ite ?_ ?_
      | refine LeO.bind ?_ (fun _ => ?_)
set_option maxHeartbeats 8000000 in
set_option maxRecDepth 100000 in
theorem wait_both.calls (k : Nat) (A0 : Option Addr) (c0 : Nat) (l0 : List (S63)) (A1 : Option Addr) (c1 : Nat) (l1 : List Int) (r : Int) (w : World) (hr0 : Kd.C k63 w A0 l0.length l0) (hc0 : l0.length ≤ c0) (hr1 : Kd.C (Kd.int .i64) w A1 l1.length l1) (hc1 : l1.length ≤ c1) (h : wait_both.f k l0 l1 = some r) :
  Calls Try.prog 30 #[.slice A0 l0.length c0, .slice A1 l1.length c1] w fun e w' => e = .returned (.int .i64 r) ∧ Below w.heap.size w w' := by
 have HR0 := Aside0.mk hr0
 have HC0 := Aside0.mk hc0
 clear hr0 hc0
 have HR1 := Aside0.mk hr1
 have HC1 := Aside0.mk hc1
 clear hr1 hc1
 have HB := Aside0.mk (Below.refl w.heap.size w)
 have H : ((levels_Check.f k l0).bind fun t200 => (if t200 = 0 then ((wait_Costs.f k l1).bind fun t201 => (some t201)) else (some t200))) = some r := h
 clear h
 have H0_ := bo_ H; clear H; obtain ⟨t200, A3, H⟩ := H0_
 replace H : (if t200 = 0 then ((wait_Costs.f k l1).bind fun t201 => (some t201)) else (some t200)) = some r := H
 by_cases c4 : t200 = 0
 ·rw [if_pos c4] at H
  have c4b0 : (t200 == 0) = true := beq_iff_eq.mpr c4
  have c4b1 : (t200 != 0) = false := bne_eq_false_iff_eq.mpr c4
  clear c4
  have H0_ := bo_ H; clear H; obtain ⟨t201, A5, H⟩ := H0_
  replace H : (some t201) = some r := H
  obtain rfl := Option.some.inj H
  go_enter Try.func30, Try.ntmps30
  go_wp2_with (first | ((with_reducible refine gate_callee (f := 47) rfl ?_); refine goesA_ (some 7) Try.func47 #[.slice A0 l0.length c0] ?_; (with_reducible refine (levels_Check.calls k _ _ l0 t200 _ ?side1 ?side2 A3.out).mono ?_); (case side1 => exact ch_ HR0); (case side2 => exact HC0.out); rintro e w6 ⟨rfl, hb⟩; refine ⟨_, rfl, ?_⟩; replace HB := bs_ w hb; clear hb) | ((with_reducible refine gate_callee (f := 21) rfl ?_); refine goesA_ (some 12) Try.func21 #[.slice A1 l1.length c1] ?_; (with_reducible refine (wait_Costs.calls k _ _ l1 t201 _ ?side1 ?side2 A5.out).mono ?_); (case side1 => exact cs_ HR1 HB); (case side2 => exact HC1.out); rintro e w' ⟨rfl, ⟨nd, rfl⟩⟩; refine ⟨_, rfl, ?_⟩))
  go_ret
  exact fi_
 ·rw [if_neg c4] at H
  have c4b0 : (t200 == 0) = false := beq_eq_false_iff_ne.mpr c4
  have c4b1 : (t200 != 0) = true := bne_iff_ne.mpr c4
  obtain rfl := Option.some.inj H
  go_enter Try.func30, Try.ntmps30
  go_wp2_with (first | ((with_reducible refine gate_callee (f := 47) rfl ?_); refine goesA_ (some 7) Try.func47 #[.slice A0 l0.length c0] ?_; (with_reducible refine (levels_Check.calls k _ _ l0 t200 _ ?side1 ?side2 A3.out).mono ?_); (case side1 => exact ch_ HR0); (case side2 => exact HC0.out); rintro e w7 ⟨rfl, hb⟩; refine ⟨_, rfl, ?_⟩; replace HB := bs_ w hb; clear hb))
  go_ret
  exact fi_

/-! ### cmp_isNaN_uint64: function 67 -/
def cmp_isNaN_uint64.f (a0 : Int) : Option (Bool) := some (a0 != a0)
set_option maxHeartbeats 8000000 in
set_option maxRecDepth 100000 in
theorem cmp_isNaN_uint64.calls (a0 : Int) (r : Bool) (w : World) (h : cmp_isNaN_uint64.f a0 = some r) :
  Calls Try.prog 67 #[.int .u64 a0] w fun e w' => e = .returned (.bool r) ∧ Drawn0 w w' := by
 have H : (some (a0 != a0)) = some r := h
 clear h
 obtain rfl := Option.some.inj H
 go_enter Try.func67, Try.ntmps67
 go_wp2
 go_ret
 exact ⟨by first | rfl | (simp; done) | (simp [*]; done), by repeat (first | exact Drawn0.refl _ | apply Drawn0.step)⟩

/-! ### cmp_Less_uint64: function 48 -/
def cmp_Less_uint64.f (a0 : Int) (a1 : Int) : Option (Bool) := (cmp_isNaN_uint64.f a0).bind fun t202 => (if t202 = true then ((cmp_isNaN_uint64.f a1).bind fun t203 => (if t203 = true then (some (decide (a0 < a1))) else (some true))) else (some (decide (a0 < a1))))
set_option maxHeartbeats 8000000 in
set_option maxRecDepth 100000 in
theorem cmp_Less_uint64.calls (a0 : Int) (a1 : Int) (r : Bool) (w : World) (h : cmp_Less_uint64.f a0 a1 = some r) :
  Calls Try.prog 48 #[.int .u64 a0, .int .u64 a1] w fun e w' => e = .returned (.bool r) ∧ Drawn0 w w' := by
 have H : ((cmp_isNaN_uint64.f a0).bind fun t202 => (if t202 = true then ((cmp_isNaN_uint64.f a1).bind fun t203 => (if t203 = true then (some (decide (a0 < a1))) else (some true))) else (some (decide (a0 < a1))))) = some r := h
 clear h
 have H0_ := bo_ H; clear H; obtain ⟨t202, A3, H⟩ := H0_
 try dsimp only at H
 by_cases c4 : t202 = true
 ·subst c4
  rw [if_pos rfl] at H
  try dsimp only at H
  have H0_ := bo_ H; clear H; obtain ⟨t203, A5, H⟩ := H0_
  replace H : (if t203 = true then (some (decide (a0 < a1))) else (some true)) = some r := H
  by_cases c6 : t203 = true
  ·subst c6
   replace H : (some (decide (a0 < a1))) = some r := by rw [if_pos rfl] at H; exact H
   obtain rfl := Option.some.inj H
   go_enter Try.func48, Try.ntmps48
   go_wp2_with (first | ((with_reducible refine gate_callee (f := 67) rfl ?_); (try refine ug_ (by rfl) ?_); refine goesA_ (some 6) Try.func67 #[.int .u64 a0] ?_; (with_reducible refine (cmp_isNaN_uint64.calls a0 true _ A3.out).mono ?_); rintro e w' ⟨rfl, ⟨nd, rfl⟩⟩; refine ⟨_, rfl, ?_⟩) | (go_at_call 67; (with_reducible refine (cmp_isNaN_uint64.calls a1 true _ A5.out).mono ?_); rintro e w' ⟨rfl, ⟨nd, rfl⟩⟩))
   go_ret
   exact ⟨by first | rfl | (simp; done) | (simp [*]; done), by repeat (first | exact Drawn0.refl _ | apply Drawn0.step)⟩
  ·replace c6 := Bool.eq_false_iff.mpr c6
   subst c6
   replace H : (some true) = some r := by rw [if_neg (show ¬ (false = true) by decide)] at H; exact H
   obtain rfl := Option.some.inj H
   go_enter Try.func48, Try.ntmps48
   go_wp2_with (first | ((with_reducible refine gate_callee (f := 67) rfl ?_); (try refine ug_ (by rfl) ?_); refine goesA_ (some 6) Try.func67 #[.int .u64 a0] ?_; (with_reducible refine (cmp_isNaN_uint64.calls a0 true _ A3.out).mono ?_); rintro e w' ⟨rfl, ⟨nd, rfl⟩⟩; refine ⟨_, rfl, ?_⟩) | (go_at_call 67; (with_reducible refine (cmp_isNaN_uint64.calls a1 false _ A5.out).mono ?_); rintro e w' ⟨rfl, ⟨nd, rfl⟩⟩))
   go_ret
   exact ⟨by first | rfl | (simp; done) | (simp [*]; done), by repeat (first | exact Drawn0.refl _ | apply Drawn0.step)⟩
 ·replace c4 := Bool.eq_false_iff.mpr c4
  subst c4
  replace H : (some (decide (a0 < a1))) = some r := by rw [if_neg (show ¬ (false = true) by decide)] at H; exact H
  obtain rfl := Option.some.inj H
  go_enter Try.func48, Try.ntmps48
  go_wp2_with (first | ((with_reducible refine gate_callee (f := 67) rfl ?_); (try refine ug_ (by rfl) ?_); refine goesA_ (some 6) Try.func67 #[.int .u64 a0] ?_; (with_reducible refine (cmp_isNaN_uint64.calls a0 false _ A3.out).mono ?_); rintro e w' ⟨rfl, ⟨nd, rfl⟩⟩; refine ⟨_, rfl, ?_⟩))
  go_ret
  exact ⟨by first | rfl | (simp; done) | (simp [*]; done), by repeat (first | exact Drawn0.refl _ | apply Drawn0.step)⟩

end Go.Proofs.Ytfdpcnkghmmobaa.X
