-- written by xprint.py, a program of this session over the kit's print
import Derived.Test.YtimhghmfhfggoaaX0
import Derived.Test.YtimhghmfhfggoaaX3
import Derived.Test.YtimhghmfhfggoaaX4
import Derived.Test.YtimhghmfhfggoaaX10
import Derived.Test.YtimhghmfhfggoaaX11
import Derived.Test.YtimhghmfhfggoaaX16
import Derived.Test.YtimhghmfhfggoaaX17
import Derived.Test.YtimhghmfhfggoaaX19
import Derived.Test.YtimhghmfhfggoaaX20
import Derived.Test.YtimhghmfhfggoaaX21
import Derived.Test.YtimhghmfhfggoaaX24
namespace Go.Proofs.Ytimhghmfhfggoaa.X
open Go.RowKit Go.Proofs.YtimhghmfhfggoaaW.PrintWords Go.Proofs.YtimhghmfhfggoaaW.PrintLast Go.Proofs.YtimhghmfhfggoaaW.PrintMore
attribute [local go_sem] max2_int min2_int max_two min_two max_three min_three max_four min_four   -- for this text's walks alone
set_option linter.unusedVariables false
set_option linter.unusedSimpArgs false

/-! ### spigotlaw40_CurveTells: function 3 -/
def spigotlaw40_CurveTells.f (k : Nat) (l0 : List (S49)) (l1 : List (S62)) (a2 : Int) : Option (Bool) := (spigotref40_Great.f l0 l1).bind fun t198 => (if t198 = true then (some true) else ((curve_At.f k l0 a2).bind fun bt199 => ((spigotref40_At.f k l0 a2).bind fun bt201 => ((curve_Below.f k l0 l1).bind fun bt203 => ((spigotref40_Below.f k l0 l1).bind fun bt205 => ((curve_First.f k l0 l1).bind fun bt207 => ((spigotref40_First.f k l0 l1).bind fun bt210 => ((curve_Check.f k l0).bind fun t213 => ((spigotref40_Check.f k l0).bind fun t214 => (if t213 = t214 then ((curve_Charges.f k l1).bind fun t215 => ((spigotref40_Charges.f k l1).bind fun t216 => (if t215 = t216 then (if bt199.1 = bt201.1 then (if bt199.2 = bt201.2 then (if (bt203.1 == bt205.1) = true then (if bt203.2 = bt205.2 then (if bt207.1 = bt210.1 then (if bt207.2.1 = bt210.2.1 then (some (bt207.2.2 == bt210.2.2)) else (none)) else (none)) else (none)) else (none)) else (none)) else (none)) else (none)))) else (none)))))))))))
theorem spigotlaw40_CurveTells.mono : ∀ a0 a1 a2 k, LeO (spigotlaw40_CurveTells.f k a0 a1 a2) (spigotlaw40_CurveTells.f (k + 1) a0 a1 a2) := by
  intro a0 a1 a2 k
  unfold spigotlaw40_CurveTells.f
  repeat' first
      | (with_reducible exact curve_At.mono _ _ _)
      | (with_reducible exact curve_Below.mono _ _ _)
      | (with_reducible exact curve_Charges.mono _ _)
      | (with_reducible exact curve_Check.mono _ _)
      | (with_reducible exact curve_First.mono _ _ _)
      | (with_reducible exact spigotref40_At.mono _ _ _)
      | (with_reducible exact spigotref40_Below.mono _ _ _)
      | (with_reducible exact spigotref40_Charges.mono _ _)
      | (with_reducible exact spigotref40_Check.mono _ _)
      | (with_reducible exact spigotref40_First.mono _ _ _)
      | (with_reducible exact LeO.refl _)
      | (with_reducible exact LeO.none _)
      | (with_reducible refine LeO.ite ?_ ?_)
      | (with_reducible refine LeO.bind ?_ (fun _ => ?_))
      | exact curve_At.mono _ _ _
      | exact curve_Below.mono _ _ _
      | exact curve_Charges.mono _ _
      | exact curve_Check.mono _ _
      | exact curve_First.mono _ _ _
      | exact spigotref40_At.mono _ _ _
      | exact spigotref40_Below.mono _ _ _
      | exact spigotref40_Charges.mono _ _
      | exact spigotref40_Check.mono _ _
      | exact spigotref40_First.mono _ _ _
      | exact LeO.none _
      | refine LeO.ite ?_ ?_
      | refine LeO.bind ?_ (fun _ => ?_)
set_option maxHeartbeats 8000000 in
set_option maxRecDepth 100000 in
theorem spigotlaw40_CurveTells.calls (k : Nat) (A0 : Option Addr) (c0 : Nat) (l0 : List (S49)) (A1 : Option Addr) (c1 : Nat) (l1 : List (S62)) (a2 : Int) (r : Bool) (w : World) (hr0 : Kd.C k49 w A0 l0.length l0) (hc0 : l0.length ≤ c0) (hr1 : Kd.C k62 w A1 l1.length l1) (hc1 : l1.length ≤ c1) (h : spigotlaw40_CurveTells.f k l0 l1 a2 = some r) :
  Calls Try.prog 3 #[.slice A0 l0.length c0, .slice A1 l1.length c1, .int .u64 a2] w fun e w' => e = .returned (.bool r) ∧ Below w.heap.size w w' := by
 have HR0 := Aside0.mk hr0
 have HC0 := Aside0.mk hc0
 clear hr0 hc0
 have HR1 := Aside0.mk hr1
 have HC1 := Aside0.mk hc1
 clear hr1 hc1
 have HB := Aside0.mk (Below.refl w.heap.size w)
 have H : ((spigotref40_Great.f l0 l1).bind fun t198 => (if t198 = true then (some true) else ((curve_At.f k l0 a2).bind fun bt199 => ((spigotref40_At.f k l0 a2).bind fun bt201 => ((curve_Below.f k l0 l1).bind fun bt203 => ((spigotref40_Below.f k l0 l1).bind fun bt205 => ((curve_First.f k l0 l1).bind fun bt207 => ((spigotref40_First.f k l0 l1).bind fun bt210 => ((curve_Check.f k l0).bind fun t213 => ((spigotref40_Check.f k l0).bind fun t214 => (if t213 = t214 then ((curve_Charges.f k l1).bind fun t215 => ((spigotref40_Charges.f k l1).bind fun t216 => (if t215 = t216 then (if bt199.1 = bt201.1 then (if bt199.2 = bt201.2 then (if (bt203.1 == bt205.1) = true then (if bt203.2 = bt205.2 then (if bt207.1 = bt210.1 then (if bt207.2.1 = bt210.2.1 then (some (bt207.2.2 == bt210.2.2)) else (none)) else (none)) else (none)) else (none)) else (none)) else (none)) else (none)))) else (none)))))))))))) = some r := h
 clear h
 obtain ⟨t198, A4, H⟩ := bo_ H
 try dsimp only at H
 by_cases c5 : t198 = true
 ·subst c5
  replace H : (some true) = some r := by rw [if_pos rfl] at H; exact H
  obtain rfl := Option.some.inj H
  go_enter Try.func3, Try.ntmps3
  go_wp2_with (first | ((with_reducible refine gate_callee (f := 9) rfl ?_); (try refine ug_ (by rfl) ?_); refine goesA_ (some 23) Try.func9 #[.slice A0 l0.length c0, .slice A1 l1.length c1] ?_; (with_reducible refine (spigotref40_Great.calls _ _ l0 _ _ l1 true _ ?side1 ?side2 ?side3 ?side4 A4.out).mono ?_); (case side1 => exact ch_ HR0); (case side2 => exact HC0.out); (case side3 => exact ch_ HR1); (case side4 => exact HC1.out); rintro e w' ⟨rfl, ⟨nd, rfl⟩⟩; refine ⟨_, rfl, ?_⟩))
  go_ret
  exact fi_
 ·replace c5 := Bool.eq_false_iff.mpr c5
  subst c5
  rw [if_neg (show ¬ (false = true) by decide)] at H
  try dsimp only at H
  obtain ⟨⟨t199, t200⟩, A6, H⟩ := bo_ H
  try dsimp only at H
  obtain ⟨⟨t201, t202⟩, A7, H⟩ := bo_ H
  try dsimp only at H
  obtain ⟨⟨t203, t204⟩, A8, H⟩ := bo_ H
  try dsimp only at H
  obtain ⟨⟨t205, t206⟩, A9, H⟩ := bo_ H
  try dsimp only at H
  obtain ⟨⟨t207, t208, t209⟩, A10, H⟩ := bo_ H
  try dsimp only at H
  obtain ⟨⟨t210, t211, t212⟩, A11, H⟩ := bo_ H
  try dsimp only at H
  obtain ⟨t213, A12, H⟩ := bo_ H
  try dsimp only at H
  obtain ⟨t214, A13, H⟩ := bo_ H
  try dsimp only at H
  by_cases c14 : t213 = t214
  rotate_left
  ·rw [if_neg c14] at H; exact absurd H (by simp)
  rw [if_pos c14] at H
  have c14b0 : (t213 == t214) = true := beq_iff_eq.mpr c14
  have c14b1 : (t213 != t214) = false := bne_eq_false_iff_eq.mpr c14
  clear c14
  obtain ⟨t215, A15, H⟩ := bo_ H
  try dsimp only at H
  obtain ⟨t216, A16, H⟩ := bo_ H
  try dsimp only at H
  by_cases c17 : t215 = t216
  rotate_left
  ·rw [if_neg c17] at H; exact absurd H (by simp)
  rw [if_pos c17] at H
  have c17b0 : (t215 == t216) = true := beq_iff_eq.mpr c17
  have c17b1 : (t215 != t216) = false := bne_eq_false_iff_eq.mpr c17
  clear c17
  by_cases c18 : t199 = t201
  rotate_left
  ·rw [if_neg c18] at H; exact absurd H (by simp)
  rw [if_pos c18] at H
  have c18b0 : (t199 == t201) = true := beq_iff_eq.mpr c18
  have c18b1 : (t199 != t201) = false := bne_eq_false_iff_eq.mpr c18
  clear c18
  by_cases c19 : t200 = t202
  rotate_left
  ·rw [if_neg c19] at H; exact absurd H (by simp)
  rw [if_pos c19] at H
  have c19b0 : (t200 == t202) = true := beq_iff_eq.mpr c19
  have c19b1 : (t200 != t202) = false := bne_eq_false_iff_eq.mpr c19
  clear c19
  by_cases c20 : (t203 == t205) = true
  rotate_left
  ·rw [if_neg c20] at H; exact absurd H (by simp)
  rw [if_pos c20] at H
  have c20b0 : (t203 == t205) = true := c20
  (try (have c20b1 : decide (t203 = t205) = true := by simpa using c20))
  (try (have c20b2 : (t203 == t205) = true := by simpa using c20))
  clear c20
  by_cases c21 : t204 = t206
  rotate_left
  ·rw [if_neg c21] at H; exact absurd H (by simp)
  rw [if_pos c21] at H
  have c21b0 : (t204 == t206) = true := beq_iff_eq.mpr c21
  have c21b1 : (t204 != t206) = false := bne_eq_false_iff_eq.mpr c21
  clear c21
  by_cases c22 : t207 = t210
  rotate_left
  ·rw [if_neg c22] at H; exact absurd H (by simp)
  rw [if_pos c22] at H
  have c22b0 : (t207 == t210) = true := beq_iff_eq.mpr c22
  have c22b1 : (t207 != t210) = false := bne_eq_false_iff_eq.mpr c22
  clear c22
  by_cases c23 : t208 = t211
  rotate_left
  ·rw [if_neg c23] at H; exact absurd H (by simp)
  rw [if_pos c23] at H
  have c23b0 : (t208 == t211) = true := beq_iff_eq.mpr c23
  have c23b1 : (t208 != t211) = false := bne_eq_false_iff_eq.mpr c23
  clear c23
  obtain rfl := Option.some.inj H
  go_enter Try.func3, Try.ntmps3
  go_wp2_with (first | ((with_reducible refine gate_callee (f := 9) rfl ?_); (try refine ug_ (by rfl) ?_); refine goesA_ (some 23) Try.func9 #[.slice A0 l0.length c0, .slice A1 l1.length c1] ?_; (with_reducible refine (spigotref40_Great.calls _ _ l0 _ _ l1 false _ ?side1 ?side2 ?side3 ?side4 A4.out).mono ?_); (case side1 => exact ch_ HR0); (case side2 => exact HC0.out); (case side3 => exact ch_ HR1); (case side4 => exact HC1.out); rintro e w' ⟨rfl, ⟨nd, rfl⟩⟩; refine ⟨_, rfl, ?_⟩) | ((with_reducible refine gate_callee (f := 10) rfl ?_); (try refine ug_ (by rfl) ?_); refine goesA_ (some 27) Try.func10 #[.slice A0 l0.length c0, .int .u64 a2] ?_; (with_reducible refine (curve_At.calls k _ _ l0 a2 t199 t200 _ ?side1 ?side2 A6.out).mono ?_); (case side1 => exact ch_ HR0); (case side2 => exact HC0.out); rintro e w24 ⟨rfl, hb⟩; refine ⟨_, rfl, ?_⟩; replace HB := bs_ w hb; clear hb) | ((with_reducible refine gate_callee (f := 11) rfl ?_); (try refine ug_ (by rfl) ?_); refine goesA_ (some 33) Try.func11 #[.slice A0 l0.length c0, .int .u64 a2] ?_; (with_reducible refine (spigotref40_At.calls k _ _ l0 a2 t201 t202 _ ?side1 ?side2 A7.out).mono ?_); (case side1 => exact cs_ HR0 HB); (case side2 => exact HC0.out); rintro e w25 ⟨rfl, hb⟩; refine ⟨_, rfl, ?_⟩; replace HB := bs_ w hb; clear hb) | ((with_reducible refine gate_callee (f := 12) rfl ?_); (try refine ug_ (by rfl) ?_); refine goesA_ (some 39) Try.func12 #[.slice A0 l0.length c0, .slice A1 l1.length c1] ?_; (with_reducible refine (curve_Below.calls k _ _ l0 _ _ l1 t203 t204 _ ?side1 ?side2 ?side3 ?side4 A8.out).mono ?_); (case side1 => exact cs_ HR0 HB); (case side2 => exact HC0.out); (case side3 => exact cs_ HR1 HB); (case side4 => exact HC1.out); rintro e w26 ⟨rfl, hb⟩; refine ⟨_, rfl, ?_⟩; replace HB := bs_ w hb; clear hb) | ((with_reducible refine gate_callee (f := 13) rfl ?_); (try refine ug_ (by rfl) ?_); refine goesA_ (some 45) Try.func13 #[.slice A0 l0.length c0, .slice A1 l1.length c1] ?_; (with_reducible refine (spigotref40_Below.calls k _ _ l0 _ _ l1 t205 t206 _ ?side1 ?side2 ?side3 ?side4 A9.out).mono ?_); (case side1 => exact cs_ HR0 HB); (case side2 => exact HC0.out); (case side3 => exact cs_ HR1 HB); (case side4 => exact HC1.out); rintro e w27 ⟨rfl, hb⟩; refine ⟨_, rfl, ?_⟩; replace HB := bs_ w hb; clear hb) | ((with_reducible refine gate_callee (f := 14) rfl ?_); (try refine ug_ (by rfl) ?_); refine goesA_ (some 51) Try.func14 #[.slice A0 l0.length c0, .slice A1 l1.length c1] ?_; (with_reducible refine (curve_First.calls k _ _ l0 _ _ l1 t207 t208 t209 _ ?side1 ?side2 ?side3 ?side4 A10.out).mono ?_); (case side1 => exact cs_ HR0 HB); (case side2 => exact HC0.out); (case side3 => exact cs_ HR1 HB); (case side4 => exact HC1.out); rintro e w28 ⟨rfl, hb⟩; refine ⟨_, rfl, ?_⟩; replace HB := bs_ w hb; clear hb) | ((with_reducible refine gate_callee (f := 15) rfl ?_); (try refine ug_ (by rfl) ?_); refine goesA_ (some 58) Try.func15 #[.slice A0 l0.length c0, .slice A1 l1.length c1] ?_; (with_reducible refine (spigotref40_First.calls k _ _ l0 _ _ l1 t210 t211 t212 _ ?side1 ?side2 ?side3 ?side4 A11.out).mono ?_); (case side1 => exact cs_ HR0 HB); (case side2 => exact HC0.out); (case side3 => exact cs_ HR1 HB); (case side4 => exact HC1.out); rintro e w29 ⟨rfl, hb⟩; refine ⟨_, rfl, ?_⟩; replace HB := bs_ w hb; clear hb) | ((with_reducible refine gate_callee (f := 16) rfl ?_); (try refine ug_ (by rfl) ?_); refine goesA_ (some 63) Try.func16 #[.slice A0 l0.length c0] ?_; (with_reducible refine (curve_Check.calls k _ _ l0 t213 _ ?side1 ?side2 A12.out).mono ?_); (case side1 => exact cs_ HR0 HB); (case side2 => exact HC0.out); rintro e w30 ⟨rfl, hb⟩; refine ⟨_, rfl, ?_⟩; replace HB := bs_ w hb; clear hb) | ((with_reducible refine gate_callee (f := 17) rfl ?_); (try refine ug_ (by rfl) ?_); refine goesA_ (some 65) Try.func17 #[.slice A0 l0.length c0] ?_; (with_reducible refine (spigotref40_Check.calls k _ _ l0 t214 _ ?side1 ?side2 A13.out).mono ?_); (case side1 => exact cs_ HR0 HB); (case side2 => exact HC0.out); rintro e w31 ⟨rfl, hb⟩; refine ⟨_, rfl, ?_⟩; replace HB := bs_ w hb; clear hb) | (go_at_call 18; (with_reducible refine (curve_Charges.calls k _ _ l1 t215 _ ?side1 ?side2 A15.out).mono ?_); (case side1 => exact cs_ HR1 HB); (case side2 => exact HC1.out); rintro e w32 ⟨rfl, hb⟩; replace HB := bs_ w hb; clear hb) | (go_at_call 19; (with_reducible refine (spigotref40_Charges.calls k _ _ l1 t216 _ ?side1 ?side2 A16.out).mono ?_); (case side1 => exact cs_ HR1 HB); (case side2 => exact HC1.out); rintro e w' ⟨rfl, ⟨nd, rfl⟩⟩))
  go_ret
  exact fi_

end Go.Proofs.Ytimhghmfhfggoaa.X
