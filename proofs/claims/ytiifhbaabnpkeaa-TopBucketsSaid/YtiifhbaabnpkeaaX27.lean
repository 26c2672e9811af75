-- written by xprint.py, a program of this session over the kit's print
import Derived.Test.YtiifhbaabnpkeaaX0
import Derived.Test.YtiifhbaabnpkeaaX25
import Derived.Test.YtiifhbaabnpkeaaX26
namespace Go.Proofs.Ytiifhbaabnpkeaa.X
open Go.RowKit Go.Proofs.YtiifhbaabnpkeaaW.PrintWords Go.Proofs.YtiifhbaabnpkeaaW.PrintLast Go.Proofs.YtiifhbaabnpkeaaW.PrintMore
attribute [local go_sem] max2_int min2_int max_two min_two max_three min_three max_four min_four   -- for this text's walks alone
set_option linter.unusedVariables false
set_option linter.unusedSimpArgs false

/-! ### spigottop_waited04: function 13 -/
mutual
def spigottop_waited04.j0 : Nat → List (S32) → Int → Int → Int → Bool → Option (Bool)
  | 0, _, _, _, _, _ => none
  | k + 1, x0, x5, x7, x8, x37 => if x37 = true then ((levels_Refill.f k x0 18446744073709551615).bind fun bt346 => ((levels_Holds.f k bt346.1 2).bind fun bt350 => (if bt346.2 = 0 then (if bt350.2 = 0 then (if bt350.1 = true then (if x8 = 0 then (some (x5 != 18446744073709551615)) else (some false)) else (some true)) else (some false)) else (some false)))) else ((levels_Take.f k x0 x7 2).bind fun bt352 => (if bt352.2.2 = 0 then (spigottop_waited04.j1 k x0 x5 x7 (!bt352.2.1)) else (spigottop_waited04.j1 k x0 x5 x7 true)))
def spigottop_waited04.j1 : Nat → List (S32) → Int → Int → Bool → Option (Bool)
  | 0, _, _, _, _ => none
  | k + 1, x0, x5, x7, x78 => if x78 = true then (some false) else (if x5 = 0 then (some true) else ((levels_Take.f k x0 (IntKind.u64.wrap (x7 - 1)) 2).bind fun bt357 => (if bt357.2.2 = 0 then (some (!bt357.2.1)) else (some false))))
end
def spigottop_waited04.f (k : Nat) (l0 : List (S32)) (a1 : Int) : Option (Bool) := (levels_Wait.f k l0 2).bind fun bt342 => (if bt342.2 = 0 then ((clock_After.f a1 bt342.1).bind fun bt344 => (if bt342.1 = 18446744073709551615 then (spigottop_waited04.j0 k l0 bt342.1 bt344.1 bt344.2 true) else (spigottop_waited04.j0 k l0 bt342.1 bt344.1 bt344.2 (bt344.2 != 0)))) else (some false))
theorem spigottop_waited04.mono_l : ∀ k, (∀ y0 y1 y2 y3 y4, LeO (spigottop_waited04.j0 k y0 y1 y2 y3 y4) (spigottop_waited04.j0 (k + 1) y0 y1 y2 y3 y4)) ∧ (∀ y0 y1 y2 y3, LeO (spigottop_waited04.j1 k y0 y1 y2 y3) (spigottop_waited04.j1 (k + 1) y0 y1 y2 y3))
  | 0 => ⟨fun _ _ _ _ _ r h => by simp [spigottop_waited04.j0] at h, fun _ _ _ _ r h => by simp [spigottop_waited04.j1] at h⟩
  | k + 1 => by
    obtain ⟨ih0, ih1⟩ := spigottop_waited04.mono_l k
    refine ⟨?_, ?_⟩
    · intro y0 y1 y2 y3 y4
      unfold spigottop_waited04.j0
      repeat' first
      | (with_reducible exact ih0 _ _ _ _ _)
      | (with_reducible exact ih1 _ _ _ _)
      | (with_reducible exact levels_Holds.mono _ _ _)
      | (with_reducible exact levels_Refill.mono _ _ _)
      | (with_reducible exact levels_Take.mono _ _ _ _)
      | (with_reducible exact levels_Wait.mono _ _ _)
      | (with_reducible exact LeO.refl _)
      | (with_reducible exact LeO.none _)
      | (with_reducible refine LeO.ite ?_ ?_)
      | (with_reducible refine LeO.bind ?_ (fun _ => ?_))
      | exact ih0 _ _ _ _ _
      | exact ih1 _ _ _ _
      | exact levels_Holds.mono _ _ _
      | exact levels_Refill.mono _ _ _
      | exact levels_Take.mono _ _ _ _
      | exact levels_Wait.mono _ _ _
      | exact LeO.none _
      | refine LeO.ite ?_ ?_
      | refine LeO.bind ?_ (fun _ => ?_)
    · intro y0 y1 y2 y3
      unfold spigottop_waited04.j1
      repeat' first
      | (with_reducible exact ih0 _ _ _ _ _)
      | (with_reducible exact ih1 _ _ _ _)
      | (with_reducible exact levels_Holds.mono _ _ _)
      | (with_reducible exact levels_Refill.mono _ _ _)
      | (with_reducible exact levels_Take.mono _ _ _ _)
      | (with_reducible exact levels_Wait.mono _ _ _)
      | (with_reducible exact LeO.refl _)
      | (with_reducible exact LeO.none _)
      | (with_reducible refine LeO.ite ?_ ?_)
      | (with_reducible refine LeO.bind ?_ (fun _ => ?_))
      | exact ih0 _ _ _ _ _
      | exact ih1 _ _ _ _
      | exact levels_Holds.mono _ _ _
      | exact levels_Refill.mono _ _ _
      | exact levels_Take.mono _ _ _ _
      | exact levels_Wait.mono _ _ _
      | exact LeO.none _
      | refine LeO.ite ?_ ?_
      | refine LeO.bind ?_ (fun _ => ?_)
theorem spigottop_waited04.mono : ∀ a0 a1 k, LeO (spigottop_waited04.f k a0 a1) (spigottop_waited04.f (k + 1) a0 a1) := by
  intro a0 a1 k
  obtain ⟨ih0, ih1⟩ := spigottop_waited04.mono_l k
  unfold spigottop_waited04.f
  repeat' first
      | (with_reducible exact ih0 _ _ _ _ _)
      | (with_reducible exact ih1 _ _ _ _)
      | (with_reducible exact levels_Holds.mono _ _ _)
      | (with_reducible exact levels_Refill.mono _ _ _)
      | (with_reducible exact levels_Take.mono _ _ _ _)
      | (with_reducible exact levels_Wait.mono _ _ _)
      | (with_reducible exact LeO.refl _)
      | (with_reducible exact LeO.none _)
      | (with_reducible refine LeO.ite ?_ ?_)
      | (with_reducible refine LeO.bind ?_ (fun _ => ?_))
      | exact ih0 _ _ _ _ _
      | exact ih1 _ _ _ _
      | exact levels_Holds.mono _ _ _
      | exact levels_Refill.mono _ _ _
      | exact levels_Take.mono _ _ _ _
      | exact levels_Wait.mono _ _ _
      | exact LeO.none _
      | refine LeO.ite ?_ ?_
      | refine LeO.bind ?_ (fun _ => ?_)
set_option maxHeartbeats 8000000 in
set_option maxRecDepth 100000 in
theorem spigottop_waited04.calls (k : Nat) (A0 : Option Addr) (c0 : Nat) (l0 : List (S32)) (a1 : Int) (r : Bool) (w : World) (hr0 : Kd.C k32 w A0 l0.length l0) (hc0 : l0.length ≤ c0) (h : spigottop_waited04.f k l0 a1 = some r) :
  Calls Try.prog 13 #[.slice A0 l0.length c0, .int .u64 a1] w fun e w' => e = .returned (.bool r) ∧ Below w.heap.size w w' := by
 have HR0 := Aside0.mk hr0
 have HC0 := Aside0.mk hc0
 clear hr0 hc0
 have HB := Aside0.mk (Below.refl w.heap.size w)
 have H : ((levels_Wait.f k l0 2).bind fun bt342 => (if bt342.2 = 0 then ((clock_After.f a1 bt342.1).bind fun bt344 => (if bt342.1 = 18446744073709551615 then (spigottop_waited04.j0 k l0 bt342.1 bt344.1 bt344.2 true) else (spigottop_waited04.j0 k l0 bt342.1 bt344.1 bt344.2 (bt344.2 != 0)))) else (some false))) = some r := h
 clear h
 have H0_ := bo_ H; clear H; obtain ⟨⟨t342, t343⟩, A3, H⟩ := H0_
 try dsimp only at H
 by_cases c4 : t343 = 0
 ·rw [if_pos c4] at H
  have c4b0 : (t343 == 0) = true := beq_iff_eq.mpr c4
  have c4b1 : (t343 != 0) = false := bne_eq_false_iff_eq.mpr c4
  clear c4
  have H0_ := bo_ H; clear H; obtain ⟨⟨t344, t345⟩, A5, H⟩ := H0_
  replace H : (if t342 = 18446744073709551615 then (spigottop_waited04.j0 k l0 t342 t344 t345 true) else (spigottop_waited04.j0 k l0 t342 t344 t345 (t345 != 0))) = some r := H
  have HC6 := Aside0.mk H
  clear H
  go_enter Try.func13, Try.ntmps13
  go_upto_region 5 with (first | ((with_reducible refine gate_callee (f := 25) rfl ?_); (try refine ug_ (by rfl) ?_); refine goesA_ (some 21) Try.func25 #[.slice A0 l0.length c0, .int .i64 2] ?_; (with_reducible refine (levels_Wait.calls k _ _ l0 2 t342 t343 _ ?side1 ?side2 A3.out).mono ?_); (case side1 => exact ch_ HR0); (case side2 => exact HC0.out); rintro e w7 ⟨rfl, hb⟩; refine ⟨_, rfl, ?_⟩; replace HB := bs_ w hb; clear hb) | ((with_reducible refine gate_callee (f := 26) rfl ?_); (try refine ug_ (by rfl) ?_); refine goesA_ (some 29) Try.func26 #[.int .u64 a1, .int .u64 t342] ?_; (with_reducible refine (clock_After.calls a1 t342 t344 t345 _ A5.out).mono ?_); rintro e w' ⟨rfl, ⟨nd, rfl⟩⟩; refine ⟨_, rfl, ?_⟩))
  (try simp only [Act.put, List.setIfInBounds_toArray, List.set_cons_zero, List.set_cons_succ])
  go_cut [37] (fun v37 wc => ∃ (kq : Nat) (x37_5 : Bool), v37 = .bool x37_5 ∧ Aside0 (spigottop_waited04.j0 kq l0 t342 t344 t345 x37_5 = some r) ∧ Aside0 (kq ≤ k) ∧ Aside0 (Below w.heap.size w wc))
  case first =>
   have H := HC6.out
   clear HC6
   by_cases c8 : t342 = 18446744073709551615
   ·rw [if_pos c8] at H
    have c8b0 : (t342 == 18446744073709551615) = true := beq_iff_eq.mpr c8
    have c8b1 : (t342 != 18446744073709551615) = false := bne_eq_false_iff_eq.mpr c8
    clear c8
    (first | rw [c8b0] | (simp only [i64_w, i32_w]; rw [c8b0]) | skip)
    have H' := Aside0.mk H
    clear H
    go_wp2
    go_meet
    case rel => exact ⟨_, (true), rf_, H', al_, bw_⟩
   ·rw [if_neg c8] at H
    have c8b0 : (t342 == 18446744073709551615) = false := beq_eq_false_iff_ne.mpr c8
    have c8b1 : (t342 != 18446744073709551615) = true := bne_iff_ne.mpr c8
    (first | rw [c8b0] | (simp only [i64_w, i32_w]; rw [c8b0]) | skip)
    have H' := Aside0.mk H
    clear H
    go_wp2
    go_meet
    case rel => exact ⟨_, ((t345 != 0)), rf_, H', al_, bw_⟩
  case rest =>
   clear HC6
   try clear c4
   try clear c4b0
   try clear c4b1
   obtain ⟨kq, x37_5, rfl, HA, HJ5, HB⟩ := hcut
   cases kq with
   | zero => exact absurd HA.out (by simp [spigottop_waited04.j0])
   | succ kj5 =>
    have H := HA.out
    clear HA
    simp only [spigottop_waited04.j0] at H
    by_cases c9 : x37_5 = true
    ·subst c9
     rw [if_pos rfl] at H
     try dsimp only at H
     have H0_ := bo_ H; clear H; obtain ⟨⟨t346, t347⟩, A10, H⟩ := H0_
     try dsimp only at H
     have H0_ := bo_ H; clear H; obtain ⟨⟨t350, t351⟩, A11, H⟩ := H0_
     try dsimp only at H
     by_cases c12 : t347 = 0
     ·rw [if_pos c12] at H
      have c12b0 : (t347 == 0) = true := beq_iff_eq.mpr c12
      have c12b1 : (t347 != 0) = false := bne_eq_false_iff_eq.mpr c12
      clear c12
      by_cases c13 : t351 = 0
      ·rw [if_pos c13] at H
       have c13b0 : (t351 == 0) = true := beq_iff_eq.mpr c13
       have c13b1 : (t351 != 0) = false := bne_eq_false_iff_eq.mpr c13
       clear c13
       by_cases c14 : t350 = true
       ·subst c14
        rw [if_pos rfl] at H
        try dsimp only at H
        by_cases c15 : t345 = 0
        ·rw [if_pos c15] at H
         have c15b0 : (t345 == 0) = true := beq_iff_eq.mpr c15
         have c15b1 : (t345 != 0) = false := bne_eq_false_iff_eq.mpr c15
         clear c15
         obtain rfl := Option.some.inj H
         go_wp2_with (first | ((with_reducible refine gate_callee (f := 27) rfl ?_); (try refine ug_ (by rfl) ?_); refine goesA_ (some 40) Try.func27 #[.slice A0 l0.length c0, .int .u64 18446744073709551615] ?_; (with_reducible refine (levels_Refill.calls kj5 _ _ l0 18446744073709551615 t346 t347 _ ?side1 ?side2 A10.out).mono ?_); (case side1 => exact cs_ HR0 HB); (case side2 => exact HC0.out); rintro e w16 ⟨v348, rfl, ho0, hb⟩; refine ⟨_, rfl, ?_⟩; have HO349 := Aside0.mk (Kd.R_lower ho0 (below_size (hq_ HB))); replace HB := bs_ w hb; clear hb; (try clear ho0); obtain ⟨Ao17, co17, eo17⟩ := Kd.R_slice HO349.out; subst eo17) | ((with_reducible refine gate_callee (f := 28) rfl ?_); (try refine ug_ (by rfl) ?_); refine goesA_ (some 45) Try.func28 #[.slice Ao17 t346.length co17, .int .i64 2] ?_; (with_reducible refine (levels_Holds.calls kj5 _ _ t346 2 true t351 _ ?side1 ?side2 A11.out).mono ?_); (case side1 => exact cr_ HO349); (case side2 => exact (Kd.R_reads' HO349.out).2.1); rintro e w18 ⟨rfl, hb⟩; refine ⟨_, rfl, ?_⟩; replace HO349 := rb_ HO349 hb; replace HB := bs_ w hb; clear hb))
         go_ret
         exact fi_
        ·rw [if_neg c15] at H
         have c15b0 : (t345 == 0) = false := beq_eq_false_iff_ne.mpr c15
         have c15b1 : (t345 != 0) = true := bne_iff_ne.mpr c15
         obtain rfl := Option.some.inj H
         go_wp2_with (first | ((with_reducible refine gate_callee (f := 27) rfl ?_); (try refine ug_ (by rfl) ?_); refine goesA_ (some 40) Try.func27 #[.slice A0 l0.length c0, .int .u64 18446744073709551615] ?_; (with_reducible refine (levels_Refill.calls kj5 _ _ l0 18446744073709551615 t346 t347 _ ?side1 ?side2 A10.out).mono ?_); (case side1 => exact cs_ HR0 HB); (case side2 => exact HC0.out); rintro e w19 ⟨v348, rfl, ho0, hb⟩; refine ⟨_, rfl, ?_⟩; have HO349 := Aside0.mk (Kd.R_lower ho0 (below_size (hq_ HB))); replace HB := bs_ w hb; clear hb; (try clear ho0); obtain ⟨Ao20, co20, eo20⟩ := Kd.R_slice HO349.out; subst eo20) | ((with_reducible refine gate_callee (f := 28) rfl ?_); (try refine ug_ (by rfl) ?_); refine goesA_ (some 45) Try.func28 #[.slice Ao20 t346.length co20, .int .i64 2] ?_; (with_reducible refine (levels_Holds.calls kj5 _ _ t346 2 true t351 _ ?side1 ?side2 A11.out).mono ?_); (case side1 => exact cr_ HO349); (case side2 => exact (Kd.R_reads' HO349.out).2.1); rintro e w21 ⟨rfl, hb⟩; refine ⟨_, rfl, ?_⟩; replace HO349 := rb_ HO349 hb; replace HB := bs_ w hb; clear hb))
         go_ret
         exact fi_
       ·replace c14 := Bool.eq_false_iff.mpr c14
        subst c14
        replace H : (some true) = some r := by rw [if_neg (show ¬ (false = true) by decide)] at H; exact H
        obtain rfl := Option.some.inj H
        go_wp2_with (first | ((with_reducible refine gate_callee (f := 27) rfl ?_); (try refine ug_ (by rfl) ?_); refine goesA_ (some 40) Try.func27 #[.slice A0 l0.length c0, .int .u64 18446744073709551615] ?_; (with_reducible refine (levels_Refill.calls kj5 _ _ l0 18446744073709551615 t346 t347 _ ?side1 ?side2 A10.out).mono ?_); (case side1 => exact cs_ HR0 HB); (case side2 => exact HC0.out); rintro e w22 ⟨v348, rfl, ho0, hb⟩; refine ⟨_, rfl, ?_⟩; have HO349 := Aside0.mk (Kd.R_lower ho0 (below_size (hq_ HB))); replace HB := bs_ w hb; clear hb; (try clear ho0); obtain ⟨Ao23, co23, eo23⟩ := Kd.R_slice HO349.out; subst eo23) | ((with_reducible refine gate_callee (f := 28) rfl ?_); (try refine ug_ (by rfl) ?_); refine goesA_ (some 45) Try.func28 #[.slice Ao23 t346.length co23, .int .i64 2] ?_; (with_reducible refine (levels_Holds.calls kj5 _ _ t346 2 false t351 _ ?side1 ?side2 A11.out).mono ?_); (case side1 => exact cr_ HO349); (case side2 => exact (Kd.R_reads' HO349.out).2.1); rintro e w24 ⟨rfl, hb⟩; refine ⟨_, rfl, ?_⟩; replace HO349 := rb_ HO349 hb; replace HB := bs_ w hb; clear hb))
        go_ret
        exact fi_
      ·rw [if_neg c13] at H
       have c13b0 : (t351 == 0) = false := beq_eq_false_iff_ne.mpr c13
       have c13b1 : (t351 != 0) = true := bne_iff_ne.mpr c13
       obtain rfl := Option.some.inj H
       go_wp2_with (first | ((with_reducible refine gate_callee (f := 27) rfl ?_); (try refine ug_ (by rfl) ?_); refine goesA_ (some 40) Try.func27 #[.slice A0 l0.length c0, .int .u64 18446744073709551615] ?_; (with_reducible refine (levels_Refill.calls kj5 _ _ l0 18446744073709551615 t346 t347 _ ?side1 ?side2 A10.out).mono ?_); (case side1 => exact cs_ HR0 HB); (case side2 => exact HC0.out); rintro e w25 ⟨v348, rfl, ho0, hb⟩; refine ⟨_, rfl, ?_⟩; have HO349 := Aside0.mk (Kd.R_lower ho0 (below_size (hq_ HB))); replace HB := bs_ w hb; clear hb; (try clear ho0); obtain ⟨Ao26, co26, eo26⟩ := Kd.R_slice HO349.out; subst eo26) | ((with_reducible refine gate_callee (f := 28) rfl ?_); (try refine ug_ (by rfl) ?_); refine goesA_ (some 45) Try.func28 #[.slice Ao26 t346.length co26, .int .i64 2] ?_; (with_reducible refine (levels_Holds.calls kj5 _ _ t346 2 t350 t351 _ ?side1 ?side2 A11.out).mono ?_); (case side1 => exact cr_ HO349); (case side2 => exact (Kd.R_reads' HO349.out).2.1); rintro e w27 ⟨rfl, hb⟩; refine ⟨_, rfl, ?_⟩; replace HO349 := rb_ HO349 hb; replace HB := bs_ w hb; clear hb))
       go_ret
       exact fi_
     ·rw [if_neg c12] at H
      have c12b0 : (t347 == 0) = false := beq_eq_false_iff_ne.mpr c12
      have c12b1 : (t347 != 0) = true := bne_iff_ne.mpr c12
      obtain rfl := Option.some.inj H
      go_wp2_with (first | ((with_reducible refine gate_callee (f := 27) rfl ?_); (try refine ug_ (by rfl) ?_); refine goesA_ (some 40) Try.func27 #[.slice A0 l0.length c0, .int .u64 18446744073709551615] ?_; (with_reducible refine (levels_Refill.calls kj5 _ _ l0 18446744073709551615 t346 t347 _ ?side1 ?side2 A10.out).mono ?_); (case side1 => exact cs_ HR0 HB); (case side2 => exact HC0.out); rintro e w28 ⟨v348, rfl, ho0, hb⟩; refine ⟨_, rfl, ?_⟩; have HO349 := Aside0.mk (Kd.R_lower ho0 (below_size (hq_ HB))); replace HB := bs_ w hb; clear hb; (try clear ho0); obtain ⟨Ao29, co29, eo29⟩ := Kd.R_slice HO349.out; subst eo29) | ((with_reducible refine gate_callee (f := 28) rfl ?_); (try refine ug_ (by rfl) ?_); refine goesA_ (some 45) Try.func28 #[.slice Ao29 t346.length co29, .int .i64 2] ?_; (with_reducible refine (levels_Holds.calls kj5 _ _ t346 2 t350 t351 _ ?side1 ?side2 A11.out).mono ?_); (case side1 => exact cr_ HO349); (case side2 => exact (Kd.R_reads' HO349.out).2.1); rintro e w30 ⟨rfl, hb⟩; refine ⟨_, rfl, ?_⟩; replace HO349 := rb_ HO349 hb; replace HB := bs_ w hb; clear hb))
      go_ret
      exact fi_
    ·replace c9 := Bool.eq_false_iff.mpr c9
     subst c9
     rw [if_neg (show ¬ (false = true) by decide)] at H
     try dsimp only at H
     have H0_ := bo_ H; clear H; obtain ⟨⟨t352, t353, t354⟩, A31, H⟩ := H0_
     replace H : (if t354 = 0 then (spigottop_waited04.j1 kj5 l0 t342 t344 (!t353)) else (spigottop_waited04.j1 kj5 l0 t342 t344 true)) = some r := H
     have HC32 := Aside0.mk H
     clear H
     go_upto_region 10 with (first | ((with_reducible refine gate_callee (f := 29) rfl ?_); (try refine ug_ (by rfl) ?_); refine goesA_ (some 69) Try.func29 #[.slice A0 l0.length c0, .int .u64 t344, .int .i64 2] ?_; (with_reducible refine (levels_Take.calls kj5 _ _ l0 t344 2 t352 t353 t354 _ ?side1 ?side2 A31.out).mono ?_); (case side1 => exact cs_ HR0 HB); (case side2 => exact HC0.out); rintro e w33 ⟨v355, rfl, ho0, hb⟩; refine ⟨_, rfl, ?_⟩; have HO356 := Aside0.mk (Kd.R_lower ho0 (below_size (hq_ HB))); replace HB := bs_ w hb; clear hb; (try clear ho0)))
     (try simp only [Act.put, List.setIfInBounds_toArray, List.set_cons_zero, List.set_cons_succ])
     go_cut [78] (fun v78 wc => ∃ (kq : Nat) (x78_31 : Bool), v78 = .bool x78_31 ∧ Aside0 (spigottop_waited04.j1 kq l0 t342 t344 x78_31 = some r) ∧ Aside0 (kq ≤ kj5) ∧ Aside0 (Below w.heap.size w wc))
     case first =>
      have H := HC32.out
      clear HC32
      by_cases c34 : t354 = 0
      ·rw [if_pos c34] at H
       have c34b0 : (t354 == 0) = true := beq_iff_eq.mpr c34
       have c34b1 : (t354 != 0) = false := bne_eq_false_iff_eq.mpr c34
       clear c34
       (first | rw [c34b0] | (simp only [i64_w, i32_w]; rw [c34b0]) | skip)
       have H' := Aside0.mk H
       clear H
       go_wp2
       go_meet
       case rel => exact ⟨_, (!t353), rf_, H', ⟨by have := HJ5.out; first | omega | exact Nat.le_refl _⟩, bw_⟩
      ·rw [if_neg c34] at H
       have c34b0 : (t354 == 0) = false := beq_eq_false_iff_ne.mpr c34
       have c34b1 : (t354 != 0) = true := bne_iff_ne.mpr c34
       (first | rw [c34b0] | (simp only [i64_w, i32_w]; rw [c34b0]) | skip)
       have H' := Aside0.mk H
       clear H
       go_wp2
       go_meet
       case rel => exact ⟨_, (true), rf_, H', ⟨by have := HJ5.out; first | omega | exact Nat.le_refl _⟩, bw_⟩
     case rest =>
      clear HC32
      try clear c4
      try clear c4b0
      try clear c4b1
      try clear c9
      obtain ⟨kq, x78_31, rfl, HA, HJ31, HB⟩ := hcut
      cases kq with
      | zero => exact absurd HA.out (by simp [spigottop_waited04.j1])
      | succ kj31 =>
       have H := HA.out
       clear HA
       simp only [spigottop_waited04.j1] at H
       by_cases c35 : x78_31 = true
       ·subst c35
        replace H : (some false) = some r := by rw [if_pos rfl] at H; exact H
        obtain rfl := Option.some.inj H
        go_wp2
        go_ret
        exact fi_
       ·replace c35 := Bool.eq_false_iff.mpr c35
        subst c35
        rw [if_neg (show ¬ (false = true) by decide)] at H
        try dsimp only at H
        by_cases c36 : t342 = 0
        ·rw [if_pos c36] at H
         have c36b0 : (t342 == 0) = true := beq_iff_eq.mpr c36
         have c36b1 : (t342 != 0) = false := bne_eq_false_iff_eq.mpr c36
         clear c36
         obtain rfl := Option.some.inj H
         go_wp2
         go_ret
         exact fi_
        ·rw [if_neg c36] at H
         have c36b0 : (t342 == 0) = false := beq_eq_false_iff_ne.mpr c36
         have c36b1 : (t342 != 0) = true := bne_iff_ne.mpr c36
         have H0_ := bo_ H; clear H; obtain ⟨⟨t357, t358, t359⟩, A37, H⟩ := H0_
         replace H : (if t359 = 0 then (some (!t358)) else (some false)) = some r := H
         by_cases c38 : t359 = 0
         ·rw [if_pos c38] at H
          have c38b0 : (t359 == 0) = true := beq_iff_eq.mpr c38
          have c38b1 : (t359 != 0) = false := bne_eq_false_iff_eq.mpr c38
          clear c38
          obtain rfl := Option.some.inj H
          go_wp2_with (first | ((with_reducible refine gate_callee (f := 29) rfl ?_); (try refine ug_ (by rfl) ?_); refine goesA_ (some 85) Try.func29 #[.slice A0 l0.length c0, .int .u64 (IntKind.u64.wrap (t344 - 1)), .int .i64 2] ?_; (with_reducible refine (levels_Take.calls kj31 _ _ l0 (IntKind.u64.wrap (t344 - 1)) 2 t357 t358 t359 _ ?side1 ?side2 A37.out).mono ?_); (case side1 => exact cs_ HR0 HB); (case side2 => exact HC0.out); rintro e w39 ⟨v360, rfl, ho0, hb⟩; refine ⟨_, rfl, ?_⟩; have HO361 := Aside0.mk (Kd.R_lower ho0 (below_size (hq_ HB))); replace HB := bs_ w hb; clear hb; (try clear ho0)))
          go_ret
          exact fi_
         ·rw [if_neg c38] at H
          have c38b0 : (t359 == 0) = false := beq_eq_false_iff_ne.mpr c38
          have c38b1 : (t359 != 0) = true := bne_iff_ne.mpr c38
          obtain rfl := Option.some.inj H
          go_wp2_with (first | ((with_reducible refine gate_callee (f := 29) rfl ?_); (try refine ug_ (by rfl) ?_); refine goesA_ (some 85) Try.func29 #[.slice A0 l0.length c0, .int .u64 (IntKind.u64.wrap (t344 - 1)), .int .i64 2] ?_; (with_reducible refine (levels_Take.calls kj31 _ _ l0 (IntKind.u64.wrap (t344 - 1)) 2 t357 t358 t359 _ ?side1 ?side2 A37.out).mono ?_); (case side1 => exact cs_ HR0 HB); (case side2 => exact HC0.out); rintro e w40 ⟨v360, rfl, ho0, hb⟩; refine ⟨_, rfl, ?_⟩; have HO361 := Aside0.mk (Kd.R_lower ho0 (below_size (hq_ HB))); replace HB := bs_ w hb; clear hb; (try clear ho0)))
          go_ret
          exact fi_
 ·rw [if_neg c4] at H
  have c4b0 : (t343 == 0) = false := beq_eq_false_iff_ne.mpr c4
  have c4b1 : (t343 != 0) = true := bne_iff_ne.mpr c4
  obtain rfl := Option.some.inj H
  go_enter Try.func13, Try.ntmps13
  go_wp2_with (first | ((with_reducible refine gate_callee (f := 25) rfl ?_); (try refine ug_ (by rfl) ?_); refine goesA_ (some 21) Try.func25 #[.slice A0 l0.length c0, .int .i64 2] ?_; (with_reducible refine (levels_Wait.calls k _ _ l0 2 t342 t343 _ ?side1 ?side2 A3.out).mono ?_); (case side1 => exact ch_ HR0); (case side2 => exact HC0.out); rintro e w41 ⟨rfl, hb⟩; refine ⟨_, rfl, ?_⟩; replace HB := bs_ w hb; clear hb))
  go_ret
  exact fi_

end Go.Proofs.Ytiifhbaabnpkeaa.X
