-- written by xprint.py, a program of this session over the kit's print
import Derived.Test.YtimhghmfhfggoaaX0
import Derived.Test.YtimhghmfhfggoaaX19
namespace Go.Proofs.Ytimhghmfhfggoaa.X
open Go.RowKit Go.Proofs.YtimhghmfhfggoaaW.PrintWords Go.Proofs.YtimhghmfhfggoaaW.PrintLast Go.Proofs.YtimhghmfhfggoaaW.PrintMore
attribute [local go_sem] max2_int min2_int max_two min_two max_three min_three max_four min_four   -- for this text's walks alone
set_option linter.unusedVariables false
set_option linter.unusedSimpArgs false

def curve_Below.f (k : Nat) (l0 : List (S49)) (l1 : List (S62)) : Option (Bool × Int) := (curve_First.f k l0 l1).bind fun bt179 => (if bt179.2.2 = 6 then (some (true, 0)) else (some (false, bt179.2.2)))
set_option maxHeartbeats 8000000 in
set_option maxRecDepth 100000 in
theorem curve_Below.calls (k : Nat) (A0 : Option Addr) (c0 : Nat) (l0 : List (S49)) (A1 : Option Addr) (c1 : Nat) (l1 : List (S62)) (r1 : Bool) (r2 : Int) (w : World) (hr0 : Kd.C k49 w A0 l0.length l0) (hc0 : l0.length ≤ c0) (hr1 : Kd.C k62 w A1 l1.length l1) (hc1 : l1.length ≤ c1) (h : curve_Below.f k l0 l1 = some (r1, r2)) :
  Calls Try.prog 12 #[.slice A0 l0.length c0, .slice A1 l1.length c1] w fun e w' => e = .returned (.tuple #[.bool r1, .int .i64 r2]) ∧ Below w.heap.size w w' := by
 have HR0 := Aside0.mk hr0
 have HC0 := Aside0.mk hc0
 clear hr0 hc0
 have HR1 := Aside0.mk hr1
 have HC1 := Aside0.mk hc1
 clear hr1 hc1
 have HB := Aside0.mk (Below.refl w.heap.size w)
 have H : ((curve_First.f k l0 l1).bind fun bt179 => (if bt179.2.2 = 6 then (some (true, 0)) else (some (false, bt179.2.2)))) = some (r1, r2) := h
 clear h
 have H0_ := bo_ H; clear H; obtain ⟨⟨t179, t180, t181⟩, A3, H⟩ := H0_
 replace H : (if t181 = 6 then (some (true, 0)) else (some (false, t181))) = some (r1, r2) := H
 by_cases c4 : t181 = 6
 ·rw [if_pos c4] at H
  have c4b0 : (t181 == 6) = true := beq_iff_eq.mpr c4
  have c4b1 : (t181 != 6) = false := bne_eq_false_iff_eq.mpr c4
  clear c4
  simp only [Option.some.injEq, Prod.mk.injEq] at H
  obtain ⟨rfl, rfl⟩ := H
  go_enter Try.func12, Try.ntmps12
  go_wp2_with (first | ((with_reducible refine gate_callee (f := 14) rfl ?_); refine goesA_ (some 12) Try.func14 #[.slice A0 l0.length c0, .slice A1 l1.length c1] ?_; (with_reducible refine (curve_First.calls k _ _ l0 _ _ l1 t179 t180 t181 _ ?side1 ?side2 ?side3 ?side4 A3.out).mono ?_); (case side1 => exact ch_ HR0); (case side2 => exact HC0.out); (case side3 => exact ch_ HR1); (case side4 => exact HC1.out); rintro e w5 ⟨rfl, hb⟩; refine ⟨_, rfl, ?_⟩; replace HB := bs_ w hb; clear hb))
  go_ret2
  exact fi_
 ·rw [if_neg c4] at H
  have c4b0 : (t181 == 6) = false := beq_eq_false_iff_ne.mpr c4
  have c4b1 : (t181 != 6) = true := bne_iff_ne.mpr c4
  simp only [Option.some.injEq, Prod.mk.injEq] at H
  obtain ⟨rfl, rfl⟩ := H
  go_enter Try.func12, Try.ntmps12
  go_wp2_with (first | ((with_reducible refine gate_callee (f := 14) rfl ?_); refine goesA_ (some 12) Try.func14 #[.slice A0 l0.length c0, .slice A1 l1.length c1] ?_; (with_reducible refine (curve_First.calls k _ _ l0 _ _ l1 t179 t180 t181 _ ?side1 ?side2 ?side3 ?side4 A3.out).mono ?_); (case side1 => exact ch_ HR0); (case side2 => exact HC0.out); (case side3 => exact ch_ HR1); (case side4 => exact HC1.out); rintro e w6 ⟨rfl, hb⟩; refine ⟨_, rfl, ?_⟩; replace HB := bs_ w hb; clear hb))
  go_ret2
  exact fi_

end Go.Proofs.Ytimhghmfhfggoaa.X
