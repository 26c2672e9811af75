-- written by xprint.py, a program of this session over the kit's print
import Derived.Test.YtimhghmfhfggoaaX0
import Derived.Test.YtimhghmfhfggoaaX3
import Derived.Test.YtimhghmfhfggoaaX10
import Derived.Test.YtimhghmfhfggoaaX11
import Derived.Test.YtimhghmfhfggoaaX19
import Derived.Test.YtimhghmfhfggoaaX20
import Derived.Test.YtimhghmfhfggoaaX21
import Derived.Test.YtimhghmfhfggoaaX33
import Derived.Test.YtimhghmfhfggoaaX35
import Derived.Test.YtimhghmfhfggoaaX52
namespace Go.Proofs.Ytimhghmfhfggoaa.X
open Go.RowKit Go.Proofs.YtimhghmfhfggoaaW.PrintWords Go.Proofs.YtimhghmfhfggoaaW.PrintLast Go.Proofs.YtimhghmfhfggoaaW.PrintMore
attribute [local go_sem] max2_int min2_int max_two min_two max_three min_three max_four min_four   -- for this text's walks alone
set_option linter.unusedVariables false
set_option linter.unusedSimpArgs false

mutual
def spigotlaw40_CurveParts.j0 : Nat → List (S49) → List (S49) → List (S62) → List (S62) → Bool → Bool → Option (Bool)
  | 0, _, _, _, _, _, _ => none
  | k + 1, x0, x1, x2, x3, x9, x63 => if x63 = true then (some x9) else ((curve_First.f k x0 x2).bind fun bt765 => ((curve_Below.f k x0 x2).bind fun bt768 => (if bt768.2 = 0 then (if (bt768.1 != (bt765.2.2 == 6)) = true then (none) else (if bt768.1 = true then (spigotlaw40_CurveParts.j1 k x0 x1 x2 x3 x9 bt765.1 bt765.2.1 bt768.1 false) else (spigotlaw40_CurveParts.j1 k x0 x1 x2 x3 x9 bt765.1 bt765.2.1 bt768.1 (bt765.2.2 != 0)))) else (none))))
def spigotlaw40_CurveParts.j1 : Nat → List (S49) → List (S49) → List (S62) → List (S62) → Bool → Int → Int → Bool → Bool → Option (Bool)
  | 0, _, _, _, _, _, _, _, _, _ => none
  | k + 1, x0, x1, x2, x3, x9, x10, x11, x13, x93 => if x93 = true then (none) else (if x13 = true then ((curve_Pass.f k x1 x3).bind fun bt788 => ((curve_Join.f k x2 bt788.1).bind fun bt792 => (if bt788.2 = 0 then (if bt792.2 = 0 then ((spigotref40_Charges.f k bt792.1).bind fun t796 => (if t796 = 0 then (if (bt792.1.length : Int) = (wrap64 ((x2.length : Int) + (bt788.1.length : Int))) then (spigotlaw40_CurveParts.l0 k x0 x1 x9 bt792.1 0) else (none)) else (none))) else (none)) else (none)))) else (if x10 < 0 then (none) else (if x11 < x10 then (none) else (if x11 ≥ (x2.length : Int) then (none) else (if 0 ≤ x11 then (if x11 ≤ (x2.length : Int) then ((curve_Below.f k x0 (x2.take (x11 : Int).toNat)).bind fun bt774 => (if 0 ≤ (wrap64 (x10 + 1)) then (if (wrap64 (x10 + 1)) ≤ (wrap64 (x11 + 1)) then (if (wrap64 (x11 + 1)) ≤ (x2.length : Int) then ((curve_Below.f k x0 ((x2.take ((wrap64 (x11 + 1)) : Int).toNat).drop ((wrap64 (x10 + 1)) : Int).toNat)).bind fun bt780 => (if 0 ≤ x10 then (if x10 ≤ (wrap64 (x11 + 1)) then ((curve_Below.f k x0 ((x2.take ((wrap64 (x11 + 1)) : Int).toNat).drop (x10 : Int).toNat)).bind fun bt786 => (if x9 = true then (if bt774.2 = 0 then (if bt774.1 = true then (if bt780.2 = 0 then (if bt780.1 = true then (if bt786.2 = 0 then (some (!bt786.1)) else (none)) else (none)) else (none)) else (none)) else (none)) else (none))) else (none)) else (none))) else (none)) else (none)) else (none))) else (none)) else (none))))))
def spigotlaw40_CurveParts.l0 : Nat → List (S49) → List (S49) → Bool → List (S62) → Int → Option (Bool)
  | 0, _, _, _, _, _ => none
  | k + 1, x0, x1, x9, x22, x24 => if x24 < (x22.length : Int) then (spigotlaw40_CurveParts.l1 k x0 x1 x9 x22 x24 0 x24) else (some x9)
def spigotlaw40_CurveParts.l1 : Nat → List (S49) → List (S49) → Bool → List (S62) → Int → Int → Int → Option (Bool)
  | 0, _, _, _, _, _, _, _ => none
  | k + 1, x0, x1, x9, x22, x24, x25, x26 => if x26 < (x22.length : Int) then (if 0 ≤ x26 then (if 0 ≤ x24 then (if x24 < (x22.length : Int) then ((curve_At.f k x0 (IntKind.u64.wrap (((rd_T62 x22 x26).f0) - ((rd_T62 x22 x24).f0)))).bind fun bt800 => ((curve_At.f k x1 (IntKind.u64.wrap (((rd_T62 x22 x26).f0) - ((rd_T62 x22 x24).f0)))).bind fun bt804 => (if bt800.2 = 0 then (if bt804.2 = 0 then (if (wrap64 (x25 + ((rd_T62 x22 x26).f1))) > (wrap64 (bt800.1 + bt804.1)) then (none) else (spigotlaw40_CurveParts.l1 k x0 x1 x9 x22 x24 (wrap64 (x25 + ((rd_T62 x22 x26).f1))) (wrap64 (x26 + 1)))) else (none)) else (none)))) else (none)) else (none)) else (none)) else (spigotlaw40_CurveParts.l0 k x0 x1 x9 x22 (wrap64 (x24 + 1)))
end
def spigotlaw40_CurveParts.f (k : Nat) (l0 : List (S49)) (l1 : List (S49)) (l2 : List (S62)) (l3 : List (S62)) : Option (Bool) := (spigotlaw40_alive.f k).bind fun t758 => ((spigotref40_Great.f l0 l2).bind fun t759 => (if t759 = true then (spigotlaw40_CurveParts.j0 k l0 l1 l2 l3 t758 true) else ((spigotref40_Great.f l1 l3).bind fun t760 => (if t760 = true then (spigotlaw40_CurveParts.j0 k l0 l1 l2 l3 t758 true) else ((spigotref40_Check.f k l0).bind fun t761 => (if t761 = 0 then ((spigotref40_Check.f k l1).bind fun t762 => (if t762 = 0 then ((spigotref40_Charges.f k l2).bind fun t763 => (if t763 = 0 then ((spigotref40_Charges.f k l3).bind fun t764 => (if t764 = 0 then (spigotlaw40_CurveParts.j0 k l0 l1 l2 l3 t758 (!t758)) else (spigotlaw40_CurveParts.j0 k l0 l1 l2 l3 t758 true))) else (spigotlaw40_CurveParts.j0 k l0 l1 l2 l3 t758 true))) else (spigotlaw40_CurveParts.j0 k l0 l1 l2 l3 t758 true))) else (spigotlaw40_CurveParts.j0 k l0 l1 l2 l3 t758 true)))))))
def spigotlaw40_CurveParts.T27 : Bool × List (List Nat × List Nat) := (true, [([], []), ([], []), ([], []), ([1, 2], [1, 2]), ([3], [3]), ([4], [4]), ([], []), ([], []), ([6, 7], [6, 7]), ([8], [8]), ([9], [9]), ([5, 10], [5, 10]), ([0, 11], [0, 11]), ([12], [12]), ([13], [13]), ([13], [13]), ([14, 12, 0, 1, 2, 3, 4, 5, 6, 7, 8, 9, 10, 11, 12, 13, 14], [14]), ([15, 16, 0, 1, 2, 3, 4, 5, 6, 7, 8, 9, 10, 11, 12, 13, 14, 15, 16], [15])])
def spigotlaw40_CurveParts.B27 : List Nat := [0, 0, 0, 6, 14, 30, 0, 0, 192, 448, 960, 2046, 4095, 8191, 16383, 16383, 32767, 131071]
theorem spigotlaw40_CurveParts.tab27 : rtab .any (opsOf Try.f8 27) = spigotlaw40_CurveParts.T27 := by kernel_rfl
theorem spigotlaw40_CurveParts.bits27 : waitsOk spigotlaw40_CurveParts.T27.2 spigotlaw40_CurveParts.B27 = true := by kernel_rfl
def spigotlaw40_CurveParts.T28 : Bool × List (List Nat × List Nat) := (true, [([], []), ([], []), ([], []), ([1, 2], [1, 2]), ([3], [3]), ([4], [4]), ([], []), ([], []), ([6, 7], [6, 7]), ([8], [8]), ([9], [9]), ([5, 10], [5, 10]), ([0, 11], [0, 11]), ([12], [12]), ([13], [13]), ([13], [13]), ([14, 12, 0, 1, 2, 3, 4, 5, 6, 7, 8, 9, 10, 11, 12, 13, 14], [14]), ([15, 16, 0, 1, 2, 3, 4, 5, 6, 7, 8, 9, 10, 11, 12, 13, 14, 15, 16], [15])])
def spigotlaw40_CurveParts.B28 : List Nat := [0, 0, 0, 6, 14, 30, 0, 0, 192, 448, 960, 2046, 4095, 8191, 16383, 16383, 32767, 131071]
theorem spigotlaw40_CurveParts.tab28 : rtab .any (opsOf Try.f8 28) = spigotlaw40_CurveParts.T28 := by kernel_rfl
theorem spigotlaw40_CurveParts.bits28 : waitsOk spigotlaw40_CurveParts.T28.2 spigotlaw40_CurveParts.B28 = true := by kernel_rfl
set_option maxHeartbeats 8000000 in
set_option maxRecDepth 100000 in
theorem spigotlaw40_CurveParts.calls (k : Nat) (A0 : Option Addr) (c0 : Nat) (l0 : List (S49)) (A1 : Option Addr) (c1 : Nat) (l1 : List (S49)) (A2 : Option Addr) (c2 : Nat) (l2 : List (S62)) (A3 : Option Addr) (c3 : Nat) (l3 : List (S62)) (r : Bool) (w : World) (hr0 : Kd.C k49 w A0 l0.length l0) (hc0 : l0.length ≤ c0) (hr1 : Kd.C k49 w A1 l1.length l1) (hc1 : l1.length ≤ c1) (hr2 : Kd.C k62 w A2 l2.length l2) (hc2 : l2.length ≤ c2) (hr3 : Kd.C k62 w A3 l3.length l3) (hc3 : l3.length ≤ c3) (h : spigotlaw40_CurveParts.f k l0 l1 l2 l3 = some r) :
  Calls Try.prog 8 #[.slice A0 l0.length c0, .slice A1 l1.length c1, .slice A2 l2.length c2, .slice A3 l3.length c3] w fun e w' => e = .returned (.bool r) ∧ Below w.heap.size w w' := by
 have HR0 := Aside0.mk hr0
 have HC0 := Aside0.mk hc0
 clear hr0 hc0
 have HR1 := Aside0.mk hr1
 have HC1 := Aside0.mk hc1
 clear hr1 hc1
 have HR2 := Aside0.mk hr2
 have HC2 := Aside0.mk hc2
 clear hr2 hc2
 have HR3 := Aside0.mk hr3
 have HC3 := Aside0.mk hc3
 clear hr3 hc3
 have HB := Aside0.mk (Below.refl w.heap.size w)
 have H : ((spigotlaw40_alive.f k).bind fun t758 => ((spigotref40_Great.f l0 l2).bind fun t759 => (if t759 = true then (spigotlaw40_CurveParts.j0 k l0 l1 l2 l3 t758 true) else ((spigotref40_Great.f l1 l3).bind fun t760 => (if t760 = true then (spigotlaw40_CurveParts.j0 k l0 l1 l2 l3 t758 true) else ((spigotref40_Check.f k l0).bind fun t761 => (if t761 = 0 then ((spigotref40_Check.f k l1).bind fun t762 => (if t762 = 0 then ((spigotref40_Charges.f k l2).bind fun t763 => (if t763 = 0 then ((spigotref40_Charges.f k l3).bind fun t764 => (if t764 = 0 then (spigotlaw40_CurveParts.j0 k l0 l1 l2 l3 t758 (!t758)) else (spigotlaw40_CurveParts.j0 k l0 l1 l2 l3 t758 true))) else (spigotlaw40_CurveParts.j0 k l0 l1 l2 l3 t758 true))) else (spigotlaw40_CurveParts.j0 k l0 l1 l2 l3 t758 true))) else (spigotlaw40_CurveParts.j0 k l0 l1 l2 l3 t758 true)))))))) = some r := h
 clear h
 have H0_ := bo_ H; clear H; obtain ⟨t758, A5, H⟩ := H0_
 try dsimp only at H
 have HC6 := Aside0.mk H
 clear H
 go_enter Try.func8, Try.ntmps8
 go_upto_region 2 with (first | ((with_reducible refine gate_callee (f := 20) rfl ?_); (try refine ug_ (by rfl) ?_); refine goesA_ (some 31) Try.func20 #[] ?_; (with_reducible refine (spigotlaw40_alive.calls k  t758 _ A5.out).mono ?_); rintro e w7 ⟨rfl, hb⟩; refine ⟨_, rfl, ?_⟩; replace HB := bs_ w hb; clear hb))
 (try simp only [Act.put, List.setIfInBounds_toArray, List.set_cons_zero, List.set_cons_succ])
 go_cut [63] (fun v63 wc => ∃ (kq : Nat) (x63_5 : Bool), v63 = .bool x63_5 ∧ Aside0 (spigotlaw40_CurveParts.j0 kq l0 l1 l2 l3 t758 x63_5 = some r) ∧ Aside0 (kq ≤ k) ∧ Aside0 (Below w.heap.size w wc))
 case first =>
  have H := HC6.out
  clear HC6
  have H0_ := bo_ H; clear H; obtain ⟨t759, A8, H⟩ := H0_
  try dsimp only at H
  by_cases c9 : t759 = true
  ·subst c9
   replace H : (spigotlaw40_CurveParts.j0 k l0 l1 l2 l3 t758 true) = some r := by rw [if_pos rfl] at H; exact H
   have H' := Aside0.mk H
   clear H
   go_wp2_with (first | ((with_reducible refine gate_callee (f := 9) rfl ?_); (try refine ug_ (by rfl) ?_); refine goesA_ (some 34) Try.func9 #[.slice A0 l0.length c0, .slice A2 l2.length c2] ?_; (with_reducible refine (spigotref40_Great.calls _ _ l0 _ _ l2 true _ ?side1 ?side2 ?side3 ?side4 A8.out).mono ?_); (case side1 => exact cs_ HR0 HB); (case side2 => exact HC0.out); (case side3 => exact cs_ HR2 HB); (case side4 => exact HC2.out); rintro e w' ⟨rfl, ⟨nd, rfl⟩⟩; refine ⟨_, rfl, ?_⟩))
   go_meet
   case rel => exact ⟨_, (true), rf_, H', al_, bw_⟩
  ·as_aux_lemma =>
   replace c9 := Bool.eq_false_iff.mpr c9
   subst c9
   rw [if_neg (show ¬ (false = true) by decide)] at H
   try dsimp only at H
   have H0_ := bo_ H; clear H; obtain ⟨t760, A10, H⟩ := H0_
   try dsimp only at H
   by_cases c11 : t760 = true
   ·subst c11
    replace H : (spigotlaw40_CurveParts.j0 k l0 l1 l2 l3 t758 true) = some r := by rw [if_pos rfl] at H; exact H
    have H' := Aside0.mk H
    clear H
    go_wp2_with (first | ((with_reducible refine gate_callee (f := 9) rfl ?_); (try refine ug_ (by rfl) ?_); refine goesA_ (some 34) Try.func9 #[.slice A0 l0.length c0, .slice A2 l2.length c2] ?_; (with_reducible refine (spigotref40_Great.calls _ _ l0 _ _ l2 false _ ?side1 ?side2 ?side3 ?side4 A8.out).mono ?_); (case side1 => exact cs_ HR0 HB); (case side2 => exact HC0.out); (case side3 => exact cs_ HR2 HB); (case side4 => exact HC2.out); rintro e w' ⟨rfl, ⟨nd, rfl⟩⟩; refine ⟨_, rfl, ?_⟩) | (go_at_call 9; (with_reducible refine (spigotref40_Great.calls _ _ l1 _ _ l3 true _ ?side1 ?side2 ?side3 ?side4 A10.out).mono ?_); (case side1 => repeat (first | exact (Kd.C_below HR1.out (hq_ HB)) | (with_reducible refine Kd.C_alloc ?_ _) | (with_reducible refine Kd.C_drewN ?_ _) | (with_reducible refine Kd.C_drew ?_))); (case side2 => exact HC1.out); (case side3 => repeat (first | exact (Kd.C_below HR3.out (hq_ HB)) | (with_reducible refine Kd.C_alloc ?_ _) | (with_reducible refine Kd.C_drewN ?_ _) | (with_reducible refine Kd.C_drew ?_))); (case side4 => exact HC3.out); rintro e w' ⟨rfl, ⟨nd, rfl⟩⟩))
    go_meet
    case rel => exact ⟨_, (true), rf_, H', al_, bw_⟩
   ·as_aux_lemma =>
    replace c11 := Bool.eq_false_iff.mpr c11
    subst c11
    rw [if_neg (show ¬ (false = true) by decide)] at H
    try dsimp only at H
    have H0_ := bo_ H; clear H; obtain ⟨t761, A12, H⟩ := H0_
    try dsimp only at H
    by_cases c13 : t761 = 0
    ·as_aux_lemma =>
     rw [if_pos c13] at H
     have c13b0 : (t761 == 0) = true := beq_iff_eq.mpr c13
     have c13b1 : (t761 != 0) = false := bne_eq_false_iff_eq.mpr c13
     clear c13
     (first | rw [c13b0] | (simp only [i64_w, i32_w]; rw [c13b0]) | skip)
     have H0_ := bo_ H; clear H; obtain ⟨t762, A14, H⟩ := H0_
     try dsimp only at H
     by_cases c15 : t762 = 0
     ·rw [if_pos c15] at H
      have c15b0 : (t762 == 0) = true := beq_iff_eq.mpr c15
      have c15b1 : (t762 != 0) = false := bne_eq_false_iff_eq.mpr c15
      clear c15
      have H0_ := bo_ H; clear H; obtain ⟨t763, A16, H⟩ := H0_
      try dsimp only at H
      by_cases c17 : t763 = 0
      ·rw [if_pos c17] at H
       have c17b0 : (t763 == 0) = true := beq_iff_eq.mpr c17
       have c17b1 : (t763 != 0) = false := bne_eq_false_iff_eq.mpr c17
       clear c17
       have H0_ := bo_ H; clear H; obtain ⟨t764, A18, H⟩ := H0_
       replace H : (if t764 = 0 then (spigotlaw40_CurveParts.j0 k l0 l1 l2 l3 t758 (!t758)) else (spigotlaw40_CurveParts.j0 k l0 l1 l2 l3 t758 true)) = some r := H
       by_cases c19 : t764 = 0
       ·rw [if_pos c19] at H
        have c19b0 : (t764 == 0) = true := beq_iff_eq.mpr c19
        have c19b1 : (t764 != 0) = false := bne_eq_false_iff_eq.mpr c19
        clear c19
        have H' := Aside0.mk H
        clear H
        go_wp2_with (first | ((with_reducible refine gate_callee (f := 9) rfl ?_); (try refine ug_ (by rfl) ?_); refine goesA_ (some 34) Try.func9 #[.slice A0 l0.length c0, .slice A2 l2.length c2] ?_; (with_reducible refine (spigotref40_Great.calls _ _ l0 _ _ l2 false _ ?side1 ?side2 ?side3 ?side4 A8.out).mono ?_); (case side1 => exact cs_ HR0 HB); (case side2 => exact HC0.out); (case side3 => exact cs_ HR2 HB); (case side4 => exact HC2.out); rintro e w' ⟨rfl, ⟨nd, rfl⟩⟩; refine ⟨_, rfl, ?_⟩) | (go_at_call 9; (with_reducible refine (spigotref40_Great.calls _ _ l1 _ _ l3 false _ ?side1 ?side2 ?side3 ?side4 A10.out).mono ?_); (case side1 => repeat (first | exact (Kd.C_below HR1.out (hq_ HB)) | (with_reducible refine Kd.C_alloc ?_ _) | (with_reducible refine Kd.C_drewN ?_ _) | (with_reducible refine Kd.C_drew ?_))); (case side2 => exact HC1.out); (case side3 => repeat (first | exact (Kd.C_below HR3.out (hq_ HB)) | (with_reducible refine Kd.C_alloc ?_ _) | (with_reducible refine Kd.C_drewN ?_ _) | (with_reducible refine Kd.C_drew ?_))); (case side4 => exact HC3.out); rintro e w' ⟨rfl, ⟨nd, rfl⟩⟩) | (go_at_call 17; (with_reducible refine (spigotref40_Check.calls k _ _ l0 t761 _ ?side1 ?side2 A12.out).mono ?_); (case side1 => repeat (first | exact (Kd.C_below HR0.out (hq_ HB)) | (with_reducible refine Kd.C_alloc ?_ _) | (with_reducible refine Kd.C_drewN ?_ _) | (with_reducible refine Kd.C_drew ?_))); (case side2 => exact HC0.out); rintro e w20 ⟨rfl, hb⟩; replace HB := bs_ w hb; clear hb) | (go_at_call 17; (with_reducible refine (spigotref40_Check.calls k _ _ l1 t762 _ ?side1 ?side2 A14.out).mono ?_); (case side1 => exact cs_ HR1 HB); (case side2 => exact HC1.out); rintro e w21 ⟨rfl, hb⟩; replace HB := bs_ w hb; clear hb) | (go_at_call 19; (with_reducible refine (spigotref40_Charges.calls k _ _ l2 t763 _ ?side1 ?side2 A16.out).mono ?_); (case side1 => exact cs_ HR2 HB); (case side2 => exact HC2.out); rintro e w' ⟨rfl, ⟨nd, rfl⟩⟩) | (go_at_call 19; (with_reducible refine (spigotref40_Charges.calls k _ _ l3 t764 _ ?side1 ?side2 A18.out).mono ?_); (case side1 => repeat (first | exact (Kd.C_below HR3.out (hq_ HB)) | (with_reducible refine Kd.C_alloc ?_ _) | (with_reducible refine Kd.C_drewN ?_ _) | (with_reducible refine Kd.C_drew ?_))); (case side2 => exact HC3.out); rintro e w' ⟨rfl, ⟨nd, rfl⟩⟩))
        go_meet
        case rel => exact ⟨_, (!t758), rf_, H', al_, bw_⟩
       ·rw [if_neg c19] at H
        have c19b0 : (t764 == 0) = false := beq_eq_false_iff_ne.mpr c19
        have c19b1 : (t764 != 0) = true := bne_iff_ne.mpr c19
        have H' := Aside0.mk H
        clear H
        go_wp2_with (first | ((with_reducible refine gate_callee (f := 9) rfl ?_); (try refine ug_ (by rfl) ?_); refine goesA_ (some 34) Try.func9 #[.slice A0 l0.length c0, .slice A2 l2.length c2] ?_; (with_reducible refine (spigotref40_Great.calls _ _ l0 _ _ l2 false _ ?side1 ?side2 ?side3 ?side4 A8.out).mono ?_); (case side1 => exact cs_ HR0 HB); (case side2 => exact HC0.out); (case side3 => exact cs_ HR2 HB); (case side4 => exact HC2.out); rintro e w' ⟨rfl, ⟨nd, rfl⟩⟩; refine ⟨_, rfl, ?_⟩) | (go_at_call 9; (with_reducible refine (spigotref40_Great.calls _ _ l1 _ _ l3 false _ ?side1 ?side2 ?side3 ?side4 A10.out).mono ?_); (case side1 => repeat (first | exact (Kd.C_below HR1.out (hq_ HB)) | (with_reducible refine Kd.C_alloc ?_ _) | (with_reducible refine Kd.C_drewN ?_ _) | (with_reducible refine Kd.C_drew ?_))); (case side2 => exact HC1.out); (case side3 => repeat (first | exact (Kd.C_below HR3.out (hq_ HB)) | (with_reducible refine Kd.C_alloc ?_ _) | (with_reducible refine Kd.C_drewN ?_ _) | (with_reducible refine Kd.C_drew ?_))); (case side4 => exact HC3.out); rintro e w' ⟨rfl, ⟨nd, rfl⟩⟩) | (go_at_call 17; (with_reducible refine (spigotref40_Check.calls k _ _ l0 t761 _ ?side1 ?side2 A12.out).mono ?_); (case side1 => repeat (first | exact (Kd.C_below HR0.out (hq_ HB)) | (with_reducible refine Kd.C_alloc ?_ _) | (with_reducible refine Kd.C_drewN ?_ _) | (with_reducible refine Kd.C_drew ?_))); (case side2 => exact HC0.out); rintro e w22 ⟨rfl, hb⟩; replace HB := bs_ w hb; clear hb) | (go_at_call 17; (with_reducible refine (spigotref40_Check.calls k _ _ l1 t762 _ ?side1 ?side2 A14.out).mono ?_); (case side1 => exact cs_ HR1 HB); (case side2 => exact HC1.out); rintro e w23 ⟨rfl, hb⟩; replace HB := bs_ w hb; clear hb) | (go_at_call 19; (with_reducible refine (spigotref40_Charges.calls k _ _ l2 t763 _ ?side1 ?side2 A16.out).mono ?_); (case side1 => exact cs_ HR2 HB); (case side2 => exact HC2.out); rintro e w' ⟨rfl, ⟨nd, rfl⟩⟩) | (go_at_call 19; (with_reducible refine (spigotref40_Charges.calls k _ _ l3 t764 _ ?side1 ?side2 A18.out).mono ?_); (case side1 => repeat (first | exact (Kd.C_below HR3.out (hq_ HB)) | (with_reducible refine Kd.C_alloc ?_ _) | (with_reducible refine Kd.C_drewN ?_ _) | (with_reducible refine Kd.C_drew ?_))); (case side2 => exact HC3.out); rintro e w' ⟨rfl, ⟨nd, rfl⟩⟩))
        go_meet
        case rel => exact ⟨_, (true), rf_, H', al_, bw_⟩
      ·rw [if_neg c17] at H
       have c17b0 : (t763 == 0) = false := beq_eq_false_iff_ne.mpr c17
       have c17b1 : (t763 != 0) = true := bne_iff_ne.mpr c17
       have H' := Aside0.mk H
       clear H
       go_wp2_with (first | ((with_reducible refine gate_callee (f := 9) rfl ?_); (try refine ug_ (by rfl) ?_); refine goesA_ (some 34) Try.func9 #[.slice A0 l0.length c0, .slice A2 l2.length c2] ?_; (with_reducible refine (spigotref40_Great.calls _ _ l0 _ _ l2 false _ ?side1 ?side2 ?side3 ?side4 A8.out).mono ?_); (case side1 => exact cs_ HR0 HB); (case side2 => exact HC0.out); (case side3 => exact cs_ HR2 HB); (case side4 => exact HC2.out); rintro e w' ⟨rfl, ⟨nd, rfl⟩⟩; refine ⟨_, rfl, ?_⟩) | (go_at_call 9; (with_reducible refine (spigotref40_Great.calls _ _ l1 _ _ l3 false _ ?side1 ?side2 ?side3 ?side4 A10.out).mono ?_); (case side1 => repeat (first | exact (Kd.C_below HR1.out (hq_ HB)) | (with_reducible refine Kd.C_alloc ?_ _) | (with_reducible refine Kd.C_drewN ?_ _) | (with_reducible refine Kd.C_drew ?_))); (case side2 => exact HC1.out); (case side3 => repeat (first | exact (Kd.C_below HR3.out (hq_ HB)) | (with_reducible refine Kd.C_alloc ?_ _) | (with_reducible refine Kd.C_drewN ?_ _) | (with_reducible refine Kd.C_drew ?_))); (case side4 => exact HC3.out); rintro e w' ⟨rfl, ⟨nd, rfl⟩⟩) | (go_at_call 17; (with_reducible refine (spigotref40_Check.calls k _ _ l0 t761 _ ?side1 ?side2 A12.out).mono ?_); (case side1 => repeat (first | exact (Kd.C_below HR0.out (hq_ HB)) | (with_reducible refine Kd.C_alloc ?_ _) | (with_reducible refine Kd.C_drewN ?_ _) | (with_reducible refine Kd.C_drew ?_))); (case side2 => exact HC0.out); rintro e w24 ⟨rfl, hb⟩; replace HB := bs_ w hb; clear hb) | (go_at_call 17; (with_reducible refine (spigotref40_Check.calls k _ _ l1 t762 _ ?side1 ?side2 A14.out).mono ?_); (case side1 => exact cs_ HR1 HB); (case side2 => exact HC1.out); rintro e w25 ⟨rfl, hb⟩; replace HB := bs_ w hb; clear hb) | (go_at_call 19; (with_reducible refine (spigotref40_Charges.calls k _ _ l2 t763 _ ?side1 ?side2 A16.out).mono ?_); (case side1 => exact cs_ HR2 HB); (case side2 => exact HC2.out); rintro e w' ⟨rfl, ⟨nd, rfl⟩⟩))
       go_meet
       case rel => exact ⟨_, (true), rf_, H', al_, bw_⟩
     ·rw [if_neg c15] at H
      have c15b0 : (t762 == 0) = false := beq_eq_false_iff_ne.mpr c15
      have c15b1 : (t762 != 0) = true := bne_iff_ne.mpr c15
      have H' := Aside0.mk H
      clear H
      go_wp2_with (first | ((with_reducible refine gate_callee (f := 9) rfl ?_); (try refine ug_ (by rfl) ?_); refine goesA_ (some 34) Try.func9 #[.slice A0 l0.length c0, .slice A2 l2.length c2] ?_; (with_reducible refine (spigotref40_Great.calls _ _ l0 _ _ l2 false _ ?side1 ?side2 ?side3 ?side4 A8.out).mono ?_); (case side1 => exact cs_ HR0 HB); (case side2 => exact HC0.out); (case side3 => exact cs_ HR2 HB); (case side4 => exact HC2.out); rintro e w' ⟨rfl, ⟨nd, rfl⟩⟩; refine ⟨_, rfl, ?_⟩) | (go_at_call 9; (with_reducible refine (spigotref40_Great.calls _ _ l1 _ _ l3 false _ ?side1 ?side2 ?side3 ?side4 A10.out).mono ?_); (case side1 => repeat (first | exact (Kd.C_below HR1.out (hq_ HB)) | (with_reducible refine Kd.C_alloc ?_ _) | (with_reducible refine Kd.C_drewN ?_ _) | (with_reducible refine Kd.C_drew ?_))); (case side2 => exact HC1.out); (case side3 => repeat (first | exact (Kd.C_below HR3.out (hq_ HB)) | (with_reducible refine Kd.C_alloc ?_ _) | (with_reducible refine Kd.C_drewN ?_ _) | (with_reducible refine Kd.C_drew ?_))); (case side4 => exact HC3.out); rintro e w' ⟨rfl, ⟨nd, rfl⟩⟩) | (go_at_call 17; (with_reducible refine (spigotref40_Check.calls k _ _ l0 t761 _ ?side1 ?side2 A12.out).mono ?_); (case side1 => repeat (first | exact (Kd.C_below HR0.out (hq_ HB)) | (with_reducible refine Kd.C_alloc ?_ _) | (with_reducible refine Kd.C_drewN ?_ _) | (with_reducible refine Kd.C_drew ?_))); (case side2 => exact HC0.out); rintro e w26 ⟨rfl, hb⟩; replace HB := bs_ w hb; clear hb) | (go_at_call 17; (with_reducible refine (spigotref40_Check.calls k _ _ l1 t762 _ ?side1 ?side2 A14.out).mono ?_); (case side1 => exact cs_ HR1 HB); (case side2 => exact HC1.out); rintro e w27 ⟨rfl, hb⟩; replace HB := bs_ w hb; clear hb))
      go_meet
      case rel => exact ⟨_, (true), rf_, H', al_, bw_⟩
    ·rw [if_neg c13] at H
     have c13b0 : (t761 == 0) = false := beq_eq_false_iff_ne.mpr c13
     have c13b1 : (t761 != 0) = true := bne_iff_ne.mpr c13
     (first | rw [c13b0] | (simp only [i64_w, i32_w]; rw [c13b0]) | skip)
     have H' := Aside0.mk H
     clear H
     go_wp2_with (first | ((with_reducible refine gate_callee (f := 9) rfl ?_); (try refine ug_ (by rfl) ?_); refine goesA_ (some 34) Try.func9 #[.slice A0 l0.length c0, .slice A2 l2.length c2] ?_; (with_reducible refine (spigotref40_Great.calls _ _ l0 _ _ l2 false _ ?side1 ?side2 ?side3 ?side4 A8.out).mono ?_); (case side1 => exact cs_ HR0 HB); (case side2 => exact HC0.out); (case side3 => exact cs_ HR2 HB); (case side4 => exact HC2.out); rintro e w' ⟨rfl, ⟨nd, rfl⟩⟩; refine ⟨_, rfl, ?_⟩) | (go_at_call 9; (with_reducible refine (spigotref40_Great.calls _ _ l1 _ _ l3 false _ ?side1 ?side2 ?side3 ?side4 A10.out).mono ?_); (case side1 => repeat (first | exact (Kd.C_below HR1.out (hq_ HB)) | (with_reducible refine Kd.C_alloc ?_ _) | (with_reducible refine Kd.C_drewN ?_ _) | (with_reducible refine Kd.C_drew ?_))); (case side2 => exact HC1.out); (case side3 => repeat (first | exact (Kd.C_below HR3.out (hq_ HB)) | (with_reducible refine Kd.C_alloc ?_ _) | (with_reducible refine Kd.C_drewN ?_ _) | (with_reducible refine Kd.C_drew ?_))); (case side4 => exact HC3.out); rintro e w' ⟨rfl, ⟨nd, rfl⟩⟩) | (go_at_call 17; (with_reducible refine (spigotref40_Check.calls k _ _ l0 t761 _ ?side1 ?side2 A12.out).mono ?_); (case side1 => repeat (first | exact (Kd.C_below HR0.out (hq_ HB)) | (with_reducible refine Kd.C_alloc ?_ _) | (with_reducible refine Kd.C_drewN ?_ _) | (with_reducible refine Kd.C_drew ?_))); (case side2 => exact HC0.out); rintro e w28 ⟨rfl, hb⟩; replace HB := bs_ w hb; clear hb))
     go_meet
     case rel => exact ⟨_, (true), rf_, H', al_, bw_⟩
 case rest =>
  clear HC6
  try clear c1
  try clear c2
  try clear c3
  obtain ⟨kq, x63_5, rfl, HA, HJ5, HB⟩ := hcut
  cases kq with
  | zero => exact absurd HA.out (by simp [spigotlaw40_CurveParts.j0])
  | succ kj5 =>
   have H := HA.out
   clear HA
   simp only [spigotlaw40_CurveParts.j0] at H
   by_cases c29 : x63_5 = true
   ·subst c29
    replace H : (some t758) = some r := by rw [if_pos rfl] at H; exact H
    obtain rfl := Option.some.inj H
    go_wp2
    go_ret
    exact fi_
   ·as_aux_lemma =>
    replace c29 := Bool.eq_false_iff.mpr c29
    subst c29
    rw [if_neg (show ¬ (false = true) by decide)] at H
    try dsimp only at H
    have H0_ := bo_ H; clear H; obtain ⟨⟨t765, t766, t767⟩, A30, H⟩ := H0_
    try dsimp only at H
    have H0_ := bo_ H; clear H; obtain ⟨⟨t768, t769⟩, A31, H⟩ := H0_
    try dsimp only at H
    have HC32 := Aside0.mk H
    clear H
    go_upto_region 6 with (first | ((with_reducible refine gate_callee (f := 14) rfl ?_); (try refine ug_ (by rfl) ?_); refine goesA_ (some 68) Try.func14 #[.slice A0 l0.length c0, .slice A2 l2.length c2] ?_; (with_reducible refine (curve_First.calls kj5 _ _ l0 _ _ l2 t765 t766 t767 _ ?side1 ?side2 ?side3 ?side4 A30.out).mono ?_); (case side1 => exact cs_ HR0 HB); (case side2 => exact HC0.out); (case side3 => exact cs_ HR2 HB); (case side4 => exact HC2.out); rintro e w33 ⟨rfl, hb⟩; refine ⟨_, rfl, ?_⟩; replace HB := bs_ w hb; clear hb) | ((with_reducible refine gate_callee (f := 12) rfl ?_); (try refine ug_ (by rfl) ?_); refine goesA_ (some 75) Try.func12 #[.slice A0 l0.length c0, .slice A2 l2.length c2] ?_; (with_reducible refine (curve_Below.calls kj5 _ _ l0 _ _ l2 t768 t769 _ ?side1 ?side2 ?side3 ?side4 A31.out).mono ?_); (case side1 => exact cs_ HR0 HB); (case side2 => exact HC0.out); (case side3 => exact cs_ HR2 HB); (case side4 => exact HC2.out); rintro e w34 ⟨rfl, hb⟩; refine ⟨_, rfl, ?_⟩; replace HB := bs_ w hb; clear hb))
    (try simp only [Act.put, List.setIfInBounds_toArray, List.set_cons_zero, List.set_cons_succ])
    go_cut [93] (fun v93 wc => ∃ (kq : Nat) (x93_31 : Bool), v93 = .bool x93_31 ∧ Aside0 (spigotlaw40_CurveParts.j1 kq l0 l1 l2 l3 t758 t765 t766 t768 x93_31 = some r) ∧ Aside0 (kq ≤ kj5) ∧ Aside0 (Below w.heap.size w wc))
    case first =>
     have H := HC32.out
     clear HC32
     replace H := ct_ H; obtain ⟨c35b0, c35b1, H⟩ := H
     (first | rw [c35b0] | (simp only [i64_w, i32_w]; rw [c35b0]) | skip)
     by_cases c36 : (t768 != (t767 == 6)) = true
     ·rw [if_pos c36] at H; exact absurd H (by simp)
     rw [if_neg c36] at H
     have c36b0 : (t768 != (t767 == 6)) = false := by simpa using c36
     (try (have c36b1 : decide (t768 = (t767 == 6)) = true := by simpa using c36))
     (try (have c36b2 : (t768 == (t767 == 6)) = true := by simpa using c36))
     clear c36
     by_cases c37 : t768 = true
     ·subst c37
      rw [if_pos rfl] at H
      try dsimp only at H
      have H' := Aside0.mk H
      clear H
      go_wp2
      go_meet
      case rel => exact ⟨_, (false), rf_, H', ⟨by have := HJ5.out; first | omega | exact Nat.le_refl _⟩, bw_⟩
     ·replace c37 := Bool.eq_false_iff.mpr c37
      subst c37
      rw [if_neg (show ¬ (false = true) by decide)] at H
      try dsimp only at H
      have H' := Aside0.mk H
      clear H
      go_wp2
      go_meet
      case rel => exact ⟨_, ((t767 != 0)), rf_, H', ⟨by have := HJ5.out; first | omega | exact Nat.le_refl _⟩, bw_⟩
    case rest =>
     clear HC32
     try clear c1
     try clear c2
     try clear c3
     try clear c29
     obtain ⟨kq, x93_31, rfl, HA, HJ31, HB⟩ := hcut
     cases kq with
     | zero => exact absurd HA.out (by simp [spigotlaw40_CurveParts.j1])
     | succ kj31 =>
      have H := HA.out
      clear HA
      simp only [spigotlaw40_CurveParts.j1] at H
      by_cases c38 : x93_31 = true
      ·subst c38
       replace H : (none) = some r := by rw [if_pos rfl] at H; exact H
       exact absurd H (by simp)
      ·as_aux_lemma =>
       replace c38 := Bool.eq_false_iff.mpr c38
       subst c38
       rw [if_neg (show ¬ (false = true) by decide)] at H
       try dsimp only at H
       by_cases c39 : t768 = true
       ·as_aux_lemma =>
        subst c39
        rw [if_pos rfl] at H
        try dsimp only at H
        have H0_ := bo_ H; clear H; obtain ⟨⟨t788, t789⟩, A40, H⟩ := H0_
        try dsimp only at H
        have H0_ := bo_ H; clear H; obtain ⟨⟨t792, t795⟩, A41, H⟩ := H0_
        try dsimp only at H
        replace H := ct_ H; obtain ⟨c42b0, c42b1, H⟩ := H
        replace H := ct_ H; obtain ⟨c43b0, c43b1, H⟩ := H
        have H0_ := bo_ H; clear H; obtain ⟨t796, A44, H⟩ := H0_
        try dsimp only at H
        replace H := ct_ H; obtain ⟨c45b0, c45b1, H⟩ := H
        replace H := ct_ H; obtain ⟨c46b0, c46b1, H⟩ := H
        have H' := Aside0.mk H
        clear H
        go_wp2_with (first | ((with_reducible refine gate_callee (f := 21) rfl ?_); (try refine ug_ (by rfl) ?_); refine goesA_ (some 164) Try.func21 #[.slice A1 l1.length c1, .slice A3 l3.length c3] ?_; (with_reducible refine (curve_Pass.calls kj31 _ _ l1 _ _ l3 t788 t789 _ ?side1 ?side2 ?side3 ?side4 A40.out).mono ?_); (case side1 => exact cs_ HR1 HB); (case side2 => exact HC1.out); (case side3 => exact cs_ HR3 HB); (case side4 => exact HC3.out); rintro e w47 ⟨v790, rfl, ho0, hb⟩; refine ⟨_, rfl, ?_⟩; have HO791 := Aside0.mk (Kd.R_lower ho0 (below_size (hq_ HB))); replace HB := bs_ w hb; clear hb; (try clear ho0); obtain ⟨Ao48, co48, eo48⟩ := Kd.R_slice HO791.out; subst eo48) | ((with_reducible refine gate_callee (f := 25) rfl ?_); (try refine ug_ (by rfl) ?_); refine goesA_ (some 170) Try.func25 #[.slice A2 l2.length c2, .slice Ao48 t788.length co48] ?_; (with_reducible refine (curve_Join.calls kj31 (fun k_ => k_ < w.heap.size) _ _ l2 (fun k_ => some k_ = (.slice Ao48 t788.length co48 : Value).ownBlock) _ _ t788 t792 t795 _ ?side1 ?side2 A41.out).mono ?_); (case side1 => exact Kd.V_mk HC2.out (Kd.F_below (Kd.C_F k62_heap HR2.out) (hq_ HB))); (case side2 => exact Kd.R_V (Kd.R_tight rfl (HO791.out))); rintro e w49 ⟨v793, rfl, ho0, hb⟩; refine ⟨_, rfl, ?_⟩; have HO794 := Aside0.mk (Kd.R_lower (Kd.R_new' (Kd.R_mono (ok' := fun k_ => True) ho0 (fun _ hk_ => trivial)) (Kd.R_lt (rs_ HO791))) (below_size (hq_ HB))); replace HO791 := Aside0.mk (Kd.R_elder' (rs_ HO791) (Kd.R_base ho0) hb); replace HB := bs_ w hb; (try clear hb); (try clear hb2); (try clear hk); (try clear hi); (try clear ho0); obtain ⟨Ao50, co50, eo50⟩ := Kd.R_slice HO794.out; subst eo50) | (go_at_call 19; (with_reducible refine (spigotref40_Charges.calls kj31 _ _ t792 t796 _ ?side1 ?side2 A44.out).mono ?_); (case side1 => exact cr_ HO794); (case side2 => exact (Kd.R_reads' HO794.out).2.1); rintro e w' ⟨rfl, ⟨nd, rfl⟩⟩))
        (try simp only [Act.put, List.setIfInBounds_toArray, List.set_cons_zero, List.set_cons_succ])
        go_loopg [24] kj31 (fun kq v24 w' => ∃ (x24_3 : Int), v24 = .int .i64 x24_3 ∧ Aside0 (spigotlaw40_CurveParts.l0 kq l0 l1 t758 t792 x24_3 = some r) ∧ Aside0 (kq ≤ kj31) ∧ Aside0 (Kd.R k62 62 w' w.heap.size (fun _ => True) (.slice Ao50 t792.length co50) t792) ∧ Aside0 (Below w.heap.size w w'))
        case atStart => exact ⟨(0), rf_, H', ⟨Nat.le_refl _⟩, ⟨by (with_reducible repeat (first | apply Kd.R_alloc | apply Kd.R_drewN | apply Kd.R_drew)); exact Kd.R_mono HO794.out (fun _ hk => trivial)⟩, bw_⟩
        case round =>
         clear H'
         try clear c1
         try clear c2
         try clear c3
         try clear c29
         try clear c38
         try clear c39
         try clear c42
         try clear c42b0
         try clear c42b1
         try clear c43
         try clear c43b0
         try clear c43b1
         try clear c45
         try clear c45b0
         try clear c45b1
         try clear c46
         try clear c46b0
         try clear c46b1
         obtain ⟨x24_3, rfl, HA, HK3, HO_22, HB⟩ := hrel
         cases gk with
         | zero => exact absurd HA.out (by simp [spigotlaw40_CurveParts.l0])
         | succ k3 =>
          have H := HA.out
          clear HA
          simp only [spigotlaw40_CurveParts.l0] at H
          by_cases c51 : x24_3 < (t792.length : Int)
          ·as_aux_lemma =>
           rw [if_pos c51] at H
           have c51b0 : decide (x24_3 < (t792.length : Int)) = true := decide_eq_true c51
           clear c51
           have H' := Aside0.mk H
           clear H
           go_wp2
           go_loopg [25, 26] k3 (fun kq v25 v26 w' => ∃ (x25_4 : Int) (x26_4 : Int), v25 = .int .i64 x25_4 ∧ v26 = .int .i64 x26_4 ∧ Aside0 (spigotlaw40_CurveParts.l1 kq l0 l1 t758 t792 x24_3 x25_4 x26_4 = some r) ∧ Aside0 (kq ≤ k3) ∧ Aside0 (Kd.R k62 62 w' w.heap.size (fun _ => True) (.slice Ao50 t792.length co50) t792) ∧ Aside0 (Below w.heap.size w w'))
           case atStart => exact ⟨(0), (x24_3), rf_, rf_, H', ⟨Nat.le_refl _⟩, ⟨rs_ HO_22⟩, bw_⟩
           case round =>
            clear H'
            try clear c1
            try clear c2
            try clear c3
            try clear c29
            try clear c38
            try clear c39
            try clear c42
            try clear c42b0
            try clear c42b1
            try clear c43
            try clear c43b0
            try clear c43b1
            try clear c45
            try clear c45b0
            try clear c45b1
            try clear c46
            try clear c46b0
            try clear c46b1
            try clear c51
            try clear c51b0
            obtain ⟨x25_4, x26_4, rfl, rfl, HA, HK4, HO_22, HB⟩ := hrel
            cases gk with
            | zero => exact absurd HA.out (by simp [spigotlaw40_CurveParts.l1])
            | succ k4 =>
             have H := HA.out
             clear HA
             simp only [spigotlaw40_CurveParts.l1] at H
             by_cases c52 : x26_4 < (t792.length : Int)
             ·as_aux_lemma =>
              rw [if_pos c52] at H
              have c52b0 : decide (x26_4 < (t792.length : Int)) = true := decide_eq_true c52
              clear c52
              by_cases c53 : 0 ≤ x26_4
              rotate_left
              ·rw [if_neg c53] at H; exact absurd H (by simp)
              rw [if_pos c53] at H
              have c53b0 : decide (0 ≤ x26_4) = true := decide_eq_true c53
              clear c53
              by_cases c54 : 0 ≤ x24_3
              rotate_left
              ·rw [if_neg c54] at H; exact absurd H (by simp)
              rw [if_pos c54] at H
              have c54b0 : decide (0 ≤ x24_3) = true := decide_eq_true c54
              clear c54
              by_cases c55 : x24_3 < (t792.length : Int)
              rotate_left
              ·rw [if_neg c55] at H; exact absurd H (by simp)
              rw [if_pos c55] at H
              have c55b0 : decide (x24_3 < (t792.length : Int)) = true := decide_eq_true c55
              clear c55
              have H0_ := bo_ H; clear H; obtain ⟨⟨t800, t801⟩, A56, H⟩ := H0_
              try dsimp only at H
              have H0_ := bo_ H; clear H; obtain ⟨⟨t804, t805⟩, A57, H⟩ := H0_
              try dsimp only at H
              replace H := ct_ H; obtain ⟨c58b0, c58b1, H⟩ := H
              replace H := ct_ H; obtain ⟨c59b0, c59b1, H⟩ := H
              by_cases c60 : (wrap64 (x25_4 + ((rd_T62 t792 x26_4).f1))) > (wrap64 (t800 + t804))
              ·rw [if_pos c60] at H; exact absurd H (by simp)
              rw [if_neg c60] at H
              have c60b0 : decide ((wrap64 (t800 + t804)) < (wrap64 (x25_4 + ((rd_T62 t792 x26_4).f1)))) = false := decide_eq_false c60
              clear c60
              have H' := Aside0.mk H
              clear H
              have p797 : 0 ≤ (x26_4 : Int) := of_decide_eq_true (by first | (with_reducible assumption) | assumption)
              have q797 : x26_4 < (t792.length : Int) := of_decide_eq_true (by first | (with_reducible assumption) | assumption)
              obtain ⟨ad797, e797, hx797_0, hx797_1⟩ := at_T62 (Kd.R_reads' HO_22.out).2.2 x26_4 p797 q797
              cases e797
              replace p797 := eq_true p797
              replace q797 := eq_true q797
              try go_wp2
              replace HO_22 := Aside0.mk (Kd.R_drew HO_22.out)
              replace HB := Aside0.mk (below_drew1 HB.out)
              have p798 : 0 ≤ (x26_4 : Int) := of_decide_eq_true (by first | (with_reducible assumption) | assumption)
              have q798 : x26_4 < (t792.length : Int) := of_decide_eq_true (by first | (with_reducible assumption) | assumption)
              obtain ⟨ad798, e798, hx798_0, hx798_1⟩ := at_T62 (Kd.R_reads' HO_22.out).2.2 x26_4 p798 q798
              obtain rfl : ad797 = ad798 := (by injection e798)
              replace p798 := eq_true p798
              replace q798 := eq_true q798
              have p799 : 0 ≤ (x24_3 : Int) := of_decide_eq_true (by first | (with_reducible assumption) | assumption)
              have q799 : x24_3 < (t792.length : Int) := of_decide_eq_true (by first | (with_reducible assumption) | assumption)
              obtain ⟨ad799, e799, hx799_0, hx799_1⟩ := at_T62 (Kd.R_reads' HO_22.out).2.2 x24_3 p799 q799
              obtain rfl : ad797 = ad799 := (by injection e799)
              replace p799 := eq_true p799
              replace q799 := eq_true q799
              refine start_ (n := 18) (S := fun w' => w'.cell? (ad797.add ((x26_4).toNat * 2)) = some (.int .u64 ((rd_T62 t792 x26_4).f0)) ∧ w'.cell? ⟨(ad797.add ((x26_4).toNat * 2)).block, (ad797.add ((x26_4).toNat * 2)).off + 1, none⟩ = some (.int .i64 ((rd_T62 t792 x26_4).f1)) ∧ w'.cell? (ad797.add ((x24_3).toNat * 2)) = some (.int .u64 ((rd_T62 t792 x24_3).f0)) ∧ w'.cell? ⟨(ad797.add ((x24_3).toNat * 2)).block, (ad797.add ((x24_3).toNat * 2)).off + 1, none⟩ = some (.int .i64 ((rd_T62 t792 x24_3).f1))) (ds := []) (bl_ 18 0) (by kernel_rfl) rfl (by kernel_rfl) ⟨hx798_0, hx798_1, hx799_0, hx799_1⟩ (fun hHeld => ?_); refine with_tabW spigotlaw40_CurveParts.tab27 spigotlaw40_CurveParts.bits27 (fun HT_ HW_ => ?_)
              generalize wr.drew = w61 at HO_22 HB hx798_0 hx798_1 hx799_0 hx799_1 hHeld ⊢
              refine pa_ 0 (some 215) (bl_ 18 1) HT_ ?_
              refine pa_ 1 (some 216) (bl_ 18 3) HT_ ?_
              refine pa_ 2 (some 217) (bl_ 18 7) HT_ ?_
              refine pa_ 3 (some 218) (bl_ 18 15) HT_ ?_
              refine pa_ 4 (some 219) (bl_ 18 31) HT_ ?_
              refine pa_ 6 (some 221) (bl_ 18 95) HT_ ?_
              refine pa_ 7 (some 222) (bl_ 18 223) HT_ ?_
              refine pa_ 8 (some 223) (bl_ 18 479) HT_ ?_
              refine pa_ 9 (some 224) (bl_ 18 991) HT_ ?_
              refine ta_ 5 (some 220) (bl_ 18 1023) HT_ HW_ hHeld ?_
              refine ta_ 10 (some 225) (bl_ 18 2047) HT_ HW_ hHeld ?_
              refine pa_ 11 (some 226) (bl_ 18 4095) HT_ ?_
              refine oa_ 12 (some 227) (bl_ 18 8191) HT_ fun K hK => ?_
              refine goesB_ Try.func10 #[.slice A0 l0.length c0, .int .u64 (IntKind.u64.wrap (((rd_T62 t792 x26_4).f0) - ((rd_T62 t792 x24_3).f0)))] ?_
              with_reducible refine (curve_At.calls k4 _ _ l0 (IntKind.u64.wrap (((rd_T62 t792 x26_4).f0) - ((rd_T62 t792 x24_3).f0))) t800 t801 _ ?side1 ?side2 A56.out).mono ?_
              (case side1 => exact cs_ HR0 HB)
              (case side2 => exact HC0.out)
              rintro e w62 ⟨rfl, hb⟩
              have HS0_ := (hb.cell (World.block_lt_of_cell? _ _ (hHeld.1))).trans (hHeld.1)
              have HS1_ := (hb.cell (World.block_lt_of_cell? _ _ (hHeld.2.1))).trans (hHeld.2.1)
              have HS2_ := (hb.cell (World.block_lt_of_cell? _ _ (hHeld.2.2.1))).trans (hHeld.2.2.1)
              have HS3_ := (hb.cell (World.block_lt_of_cell? _ _ (hHeld.2.2.2))).trans (hHeld.2.2.2)
              refine ⟨_, rfl, ?_⟩
              replace HO_22 := rb_ HO_22 hb
              replace HB := bs_ w hb
              clear hb
              refine hK.out _ _ ⟨HS0_, HS1_, HS2_, HS3_⟩ (fun hHeld => ?_)
              clear hK K
              refine nm_ (some 227) ?_
              refine pa_ 13 (some 214) (bl_ 18 16383) HT_ ?_
              refine pa_ 14 (some 228) (bl_ 18 32767) HT_ ?_
              refine pa_ 15 (some 229) (bl_ 18 65535) HT_ ?_
              refine pa_ 16 (some 27) (bl_ 18 131071) HT_ ?_
              refine pa_ 17 (some 28) (bl_ 18 262143) HT_ ?_
              refine done_ (done_of HT_.out (by kernel_rfl)) ?_
              try go_wp2
              replace HO_22 := Aside0.mk (Kd.R_drew HO_22.out)
              replace HB := Aside0.mk (below_drew1 HB.out)
              have p802 : 0 ≤ (x26_4 : Int) := of_decide_eq_true (by first | (with_reducible assumption) | assumption)
              have q802 : x26_4 < (t792.length : Int) := of_decide_eq_true (by first | (with_reducible assumption) | assumption)
              obtain ⟨ad802, e802, hx802_0, hx802_1⟩ := at_T62 (Kd.R_reads' HO_22.out).2.2 x26_4 p802 q802
              obtain rfl : ad797 = ad802 := (by injection e802)
              replace p802 := eq_true p802
              replace q802 := eq_true q802
              have p803 : 0 ≤ (x24_3 : Int) := of_decide_eq_true (by first | (with_reducible assumption) | assumption)
              have q803 : x24_3 < (t792.length : Int) := of_decide_eq_true (by first | (with_reducible assumption) | assumption)
              obtain ⟨ad803, e803, hx803_0, hx803_1⟩ := at_T62 (Kd.R_reads' HO_22.out).2.2 x24_3 p803 q803
              obtain rfl : ad797 = ad803 := (by injection e803)
              replace p803 := eq_true p803
              replace q803 := eq_true q803
              refine start_ (n := 18) (S := fun w' => w'.cell? (ad797.add ((x26_4).toNat * 2)) = some (.int .u64 ((rd_T62 t792 x26_4).f0)) ∧ w'.cell? ⟨(ad797.add ((x26_4).toNat * 2)).block, (ad797.add ((x26_4).toNat * 2)).off + 1, none⟩ = some (.int .i64 ((rd_T62 t792 x26_4).f1)) ∧ w'.cell? (ad797.add ((x24_3).toNat * 2)) = some (.int .u64 ((rd_T62 t792 x24_3).f0)) ∧ w'.cell? ⟨(ad797.add ((x24_3).toNat * 2)).block, (ad797.add ((x24_3).toNat * 2)).off + 1, none⟩ = some (.int .i64 ((rd_T62 t792 x24_3).f1))) (ds := []) (bl_ 18 0) (by kernel_rfl) rfl (by kernel_rfl) ⟨hx802_0, hx802_1, hx803_0, hx803_1⟩ (fun hHeld => ?_); refine with_tabW spigotlaw40_CurveParts.tab28 spigotlaw40_CurveParts.bits28 (fun HT_ HW_ => ?_)
              generalize w62.drew = w63 at HO_22 HB hx802_0 hx802_1 hx803_0 hx803_1 hHeld ⊢
              refine pa_ 0 (some 231) (bl_ 18 1) HT_ ?_
              refine pa_ 1 (some 232) (bl_ 18 3) HT_ ?_
              refine pa_ 2 (some 233) (bl_ 18 7) HT_ ?_
              refine pa_ 3 (some 234) (bl_ 18 15) HT_ ?_
              refine pa_ 4 (some 235) (bl_ 18 31) HT_ ?_
              refine pa_ 6 (some 237) (bl_ 18 95) HT_ ?_
              refine pa_ 7 (some 238) (bl_ 18 223) HT_ ?_
              refine pa_ 8 (some 239) (bl_ 18 479) HT_ ?_
              refine pa_ 9 (some 240) (bl_ 18 991) HT_ ?_
              refine ta_ 5 (some 236) (bl_ 18 1023) HT_ HW_ hHeld ?_
              refine ta_ 10 (some 241) (bl_ 18 2047) HT_ HW_ hHeld ?_
              refine pa_ 11 (some 242) (bl_ 18 4095) HT_ ?_
              refine oa_ 12 (some 243) (bl_ 18 8191) HT_ fun K hK => ?_
              refine goesB_ Try.func10 #[.slice A1 l1.length c1, .int .u64 (IntKind.u64.wrap (((rd_T62 t792 x26_4).f0) - ((rd_T62 t792 x24_3).f0)))] ?_
              with_reducible refine (curve_At.calls k4 _ _ l1 (IntKind.u64.wrap (((rd_T62 t792 x26_4).f0) - ((rd_T62 t792 x24_3).f0))) t804 t805 _ ?side1 ?side2 A57.out).mono ?_
              (case side1 => exact cs_ HR1 HB)
              (case side2 => exact HC1.out)
              rintro e w64 ⟨rfl, hb⟩
              have HS0_ := (hb.cell (World.block_lt_of_cell? _ _ (hHeld.1))).trans (hHeld.1)
              have HS1_ := (hb.cell (World.block_lt_of_cell? _ _ (hHeld.2.1))).trans (hHeld.2.1)
              have HS2_ := (hb.cell (World.block_lt_of_cell? _ _ (hHeld.2.2.1))).trans (hHeld.2.2.1)
              have HS3_ := (hb.cell (World.block_lt_of_cell? _ _ (hHeld.2.2.2))).trans (hHeld.2.2.2)
              refine ⟨_, rfl, ?_⟩
              replace HO_22 := rb_ HO_22 hb
              replace HB := bs_ w hb
              clear hb
              refine hK.out _ _ ⟨HS0_, HS1_, HS2_, HS3_⟩ (fun hHeld => ?_)
              clear hK K
              refine nm_ (some 243) ?_
              refine pa_ 13 (some 230) (bl_ 18 16383) HT_ ?_
              refine pa_ 14 (some 244) (bl_ 18 32767) HT_ ?_
              refine pa_ 15 (some 245) (bl_ 18 65535) HT_ ?_
              refine pa_ 16 (some 29) (bl_ 18 131071) HT_ ?_
              refine pa_ 17 (some 30) (bl_ 18 262143) HT_ ?_
              refine done_ (done_of HT_.out (by kernel_rfl)) ?_
              try go_wp2
              go_roundg k4
              case measure => have := HJ5.out; have := HJ31.out; have := HK3.out; have := HK4.out; omega
              case rel => exact ⟨(wrap64 (x25_4 + ((rd_T62 t792 x26_4).f1))), (wrap64 (x26_4 + 1)), rf_, rf_, H', ⟨by have := HJ5.out; have := HJ31.out; have := HK3.out; have := HK4.out; omega⟩, ⟨rs_ HO_22⟩, bw_⟩
             ·rw [if_neg c52] at H
              have c52b0 : decide (x26_4 < (t792.length : Int)) = false := decide_eq_false c52
              clear c52
              have H' := Aside0.mk H
              clear H
              go_wp2
              go_roundg k4
              case measure => have := HJ5.out; have := HJ31.out; have := HK3.out; have := HK4.out; omega
              case rel => exact ⟨(wrap64 (x24_3 + 1)), rf_, H', ⟨by have := HJ5.out; have := HJ31.out; have := HK3.out; have := HK4.out; omega⟩, ⟨rs_ HO_22⟩, bw_⟩
          ·rw [if_neg c51] at H
           have c51b0 : decide (x24_3 < (t792.length : Int)) = false := decide_eq_false c51
           clear c51
           obtain rfl := Option.some.inj H
           go_wp2
           go_ret
           exact fi_
       ·as_aux_lemma =>
        replace c39 := Bool.eq_false_iff.mpr c39
        subst c39
        rw [if_neg (show ¬ (false = true) by decide)] at H
        try dsimp only at H
        by_cases c65 : t765 < 0
        ·rw [if_pos c65] at H; exact absurd H (by simp)
        rw [if_neg c65] at H
        have c65b0 : decide (t765 < 0) = false := decide_eq_false c65
        clear c65
        by_cases c66 : t766 < t765
        ·rw [if_pos c66] at H; exact absurd H (by simp)
        rw [if_neg c66] at H
        have c66b0 : decide (t766 < t765) = false := decide_eq_false c66
        clear c66
        by_cases c67 : t766 ≥ (l2.length : Int)
        ·rw [if_pos c67] at H; exact absurd H (by simp)
        rw [if_neg c67] at H
        have c67b0 : decide ((l2.length : Int) ≤ t766) = false := decide_eq_false c67
        clear c67
        by_cases c68 : 0 ≤ t766
        rotate_left
        ·rw [if_neg c68] at H; exact absurd H (by simp)
        rw [if_pos c68] at H
        have c68b0 := eq_true c68
        have c68b1 : decide (0 ≤ t766) = true := decide_eq_true c68
        clear c68
        by_cases c69 : t766 ≤ (l2.length : Int)
        rotate_left
        ·rw [if_neg c69] at H; exact absurd H (by simp)
        rw [if_pos c69] at H
        have c69b0 := eq_true c69
        have c69b1 : decide (t766 ≤ (l2.length : Int)) = true := decide_eq_true c69
        clear c69
        obtain ⟨y770, hy770⟩ : ∃ y_ : List (S62), y_ = (l2.take (t766 : Int).toNat) := ⟨_, rfl⟩
        replace H : ((curve_Below.f kj31 l0 y770).bind fun bt774 => (if 0 ≤ (wrap64 (t765 + 1)) then (if (wrap64 (t765 + 1)) ≤ (wrap64 (t766 + 1)) then (if (wrap64 (t766 + 1)) ≤ (l2.length : Int) then ((curve_Below.f kj31 l0 ((l2.take ((wrap64 (t766 + 1)) : Int).toNat).drop ((wrap64 (t765 + 1)) : Int).toNat)).bind fun bt780 => (if 0 ≤ t765 then (if t765 ≤ (wrap64 (t766 + 1)) then ((curve_Below.f kj31 l0 ((l2.take ((wrap64 (t766 + 1)) : Int).toNat).drop (t765 : Int).toNat)).bind fun bt786 => (if t758 = true then (if bt774.2 = 0 then (if bt774.1 = true then (if bt780.2 = 0 then (if bt780.1 = true then (if bt786.2 = 0 then (some (!bt786.1)) else (none)) else (none)) else (none)) else (none)) else (none)) else (none))) else (none)) else (none))) else (none)) else (none)) else (none))) = some r := by first | (rw [hy770]; with_reducible exact H) | (have H2_ := (Option.bind_some _ _).symm.trans H; rw [hy770]; with_reducible exact H2_) | (have H2_ := (Option.bind_some _ _).symm.trans H; with_reducible exact H2_) | with_reducible exact H | (rw [hy770]; exact H) | exact H
        have Ny770 := Aside0.mk hy770
        clear hy770
        have H0_ := bo_ H; clear H; obtain ⟨⟨t774, t775⟩, A70, H⟩ := H0_
        try dsimp only at H
        obtain ⟨ji71, hji71⟩ : ∃ j_ : Int, (wrap64 (t765 + 1)) = j_ := ⟨_, rfl⟩
        replace H : (if 0 ≤ (ji71) then (if (ji71) ≤ (wrap64 (t766 + 1)) then (if (wrap64 (t766 + 1)) ≤ (l2.length : Int) then ((curve_Below.f kj31 l0 ((l2.take ((wrap64 (t766 + 1)) : Int).toNat).drop ((ji71) : Int).toNat)).bind fun bt780 => (if 0 ≤ t765 then (if t765 ≤ (wrap64 (t766 + 1)) then ((curve_Below.f kj31 l0 ((l2.take ((wrap64 (t766 + 1)) : Int).toNat).drop (t765 : Int).toNat)).bind fun bt786 => (if t758 = true then (if t775 = 0 then (if t774 = true then (if bt780.2 = 0 then (if bt780.1 = true then (if bt786.2 = 0 then (some (!bt786.1)) else (none)) else (none)) else (none)) else (none)) else (none)) else (none))) else (none)) else (none))) else (none)) else (none)) else (none)) = some r := by first | (rw [hji71] at H; exact H) | (simp only [hji71] at H ⊢; exact H)
        (try rw [hji71] at A70)
        have hji71w : (IntKind.i64.wrap (t765 + 1)) = ji71 := (i64_w _).trans hji71
        by_cases c72 : 0 ≤ (ji71)
        rotate_left
        ·rw [if_neg c72] at H; exact absurd H (by simp)
        rw [if_pos c72] at H
        have c72b0 := eq_true c72
        have c72b1 : decide (0 ≤ (ji71)) = true := decide_eq_true c72
        clear c72
        by_cases c73 : (ji71) ≤ (wrap64 (t766 + 1))
        rotate_left
        ·rw [if_neg c73] at H; exact absurd H (by simp)
        rw [if_pos c73] at H
        have c73b0 := eq_true c73
        have c73b1 : decide ((ji71) ≤ (wrap64 (t766 + 1))) = true := decide_eq_true c73
        by_cases c74 : (wrap64 (t766 + 1)) ≤ (l2.length : Int)
        rotate_left
        ·rw [if_neg c74] at H; exact absurd H (by simp)
        rw [if_pos c74] at H
        have c74b0 := eq_true c74
        have c74b1 : decide ((wrap64 (t766 + 1)) ≤ (l2.length : Int)) = true := decide_eq_true c74
        obtain ⟨y776, hy776⟩ : ∃ y_ : List (S62), y_ = ((l2.take ((wrap64 (t766 + 1)) : Int).toNat).drop ((ji71) : Int).toNat) := ⟨_, rfl⟩
        replace H : ((curve_Below.f kj31 l0 y776).bind fun bt780 => (if 0 ≤ t765 then (if t765 ≤ (wrap64 (t766 + 1)) then ((curve_Below.f kj31 l0 ((l2.take ((wrap64 (t766 + 1)) : Int).toNat).drop (t765 : Int).toNat)).bind fun bt786 => (if t758 = true then (if t775 = 0 then (if t774 = true then (if bt780.2 = 0 then (if bt780.1 = true then (if bt786.2 = 0 then (some (!bt786.1)) else (none)) else (none)) else (none)) else (none)) else (none)) else (none))) else (none)) else (none))) = some r := by first | (rw [hy776]; with_reducible exact H) | (have H2_ := (Option.bind_some _ _).symm.trans H; rw [hy776]; with_reducible exact H2_) | (have H2_ := (Option.bind_some _ _).symm.trans H; with_reducible exact H2_) | with_reducible exact H | (rw [hy776]; exact H) | exact H
        have Ny776 := Aside0.mk hy776
        clear hy776
        have H0_ := bo_ H; clear H; obtain ⟨⟨t780, t781⟩, A75, H⟩ := H0_
        try dsimp only at H
        by_cases c76 : 0 ≤ t765
        rotate_left
        ·rw [if_neg c76] at H; exact absurd H (by simp)
        rw [if_pos c76] at H
        have c76b0 := eq_true c76
        have c76b1 : decide (0 ≤ t765) = true := decide_eq_true c76
        clear c76
        by_cases c77 : t765 ≤ (wrap64 (t766 + 1))
        rotate_left
        ·rw [if_neg c77] at H; exact absurd H (by simp)
        rw [if_pos c77] at H
        have c77b0 := eq_true c77
        have c77b1 : decide (t765 ≤ (wrap64 (t766 + 1))) = true := decide_eq_true c77
        have c78b0 := eq_true (of_decide_eq_true (by first | (with_reducible assumption) | assumption) : (wrap64 (t766 + 1)) ≤ (l2.length : Int))
        obtain ⟨y782, hy782⟩ : ∃ y_ : List (S62), y_ = ((l2.take ((wrap64 (t766 + 1)) : Int).toNat).drop (t765 : Int).toNat) := ⟨_, rfl⟩
        replace H : ((curve_Below.f kj31 l0 y782).bind fun bt786 => (if t758 = true then (if t775 = 0 then (if t774 = true then (if t781 = 0 then (if t780 = true then (if bt786.2 = 0 then (some (!bt786.1)) else (none)) else (none)) else (none)) else (none)) else (none)) else (none))) = some r := by first | (rw [hy782]; with_reducible exact H) | (have H2_ := (Option.bind_some _ _).symm.trans H; rw [hy782]; with_reducible exact H2_) | (have H2_ := (Option.bind_some _ _).symm.trans H; with_reducible exact H2_) | with_reducible exact H | (rw [hy782]; exact H) | exact H
        have Ny782 := Aside0.mk hy782
        clear hy782
        have H0_ := bo_ H; clear H; obtain ⟨⟨t786, t787⟩, A79, H⟩ := H0_
        try dsimp only at H
        by_cases c80 : t758 = true
        ·as_aux_lemma =>
         subst c80
         rw [if_pos rfl] at H
         try dsimp only at H
         replace H := ct_ H; obtain ⟨c81b0, c81b1, H⟩ := H
         by_cases c82 : t774 = true
         ·subst c82
          rw [if_pos rfl] at H
          try dsimp only at H
          replace H := ct_ H; obtain ⟨c83b0, c83b1, H⟩ := H
          by_cases c84 : t780 = true
          ·subst c84
           replace H : (if t787 = 0 then (some (!t786)) else (none)) = some r := by rw [if_pos rfl] at H; exact H
           replace H := ct_ H; obtain ⟨c85b0, c85b1, H⟩ := H
           obtain rfl := Option.some.inj H
           have q86 : (t766 : Int) ≤ ((l2.length : Int) : Int) := of_decide_eq_true (by first | (with_reducible assumption) | assumption)
           obtain ⟨i086, hi086, _, hsz86, _⟩ := info_parts info62
           have hroom86 : l2.length ≤ c2 := HC2.out
           have hC86 : Kd.C k62 _ A2 l2.length l2 := HR2.out
           have hcut86 := cut_to (P := Try.prog) 23 62 .i64 Try.underlying23 hi086 A2 l2.length c2 t766 (of_decide_eq_true (by first | (with_reducible assumption) | assumption)) q86 hroom86
           have hr86 := Kd.C_take (m := (t766 : Int).toNat) hC86 (by omega)
           have hy86 : y770.length = (t766 : Int).toNat := (by rw [Ny770.out, List.length_take]; omega)
           rw [← Ny770.out] at hr86
           rw [← hy86] at hcut86
           have HR773 := Aside0.mk hr86
           have HC773 := Aside0.mk (show y770.length ≤ c2 from by omega)
           clear hr86 hC86 hroom86 hi086 hsz86
           have KY86 := Aside0.mk hy86
           clear hy86
           replace q86 := eq_true q86
           go_wp2_with (first | ((with_reducible refine gate_callee (f := 12) rfl ?_); (try refine ug_ (by rfl) ?_); refine goesA_ (some 114) Try.func12 #[.slice A0 l0.length c0, .slice A2 y770.length c2] ?_; (with_reducible refine (curve_Below.calls kj31 _ _ l0 _ _ y770 true t775 _ ?side1 ?side2 ?side3 ?side4 A70.out).mono ?_); (case side1 => exact cs_ HR0 HB); (case side2 => exact HC0.out); (case side3 => exact cs_ HR773 HB); (case side4 => exact HC773.out); rintro e w87 ⟨rfl, hb⟩; refine ⟨_, rfl, ?_⟩; replace HB := bs_ w hb; clear hb; have q88 : ((wrap64 (t766 + 1)) : Int) ≤ ((l2.length : Int) : Int) := of_decide_eq_true (by first | (with_reducible assumption) | assumption); obtain ⟨i088, hi088, _, hsz88, _⟩ := info_parts info62; have hroom88 : l2.length ≤ c2 := HC2.out; have hC88 : Kd.C k62 _ A2 l2.length l2 := HR2.out; have ql88 : ((ji71) : Int) ≤ ((wrap64 (t766 + 1)) : Int) := of_decide_eq_true (by first | (with_reducible assumption) | assumption); have q088 : (0 : Int) ≤ ((ji71) : Int) := of_decide_eq_true (by first | (with_reducible assumption) | assumption); have hcut88 := cut_mid (P := Try.prog) 23 62 .i64 .i64 Try.underlying23 hi088 2 hsz88 A2 l2.length c2 (ji71) (wrap64 (t766 + 1)) q088 ql88 q88 hroom88; have hr88 := Kd.C_mid (lo := ((ji71) : Int).toNat) (hi := ((wrap64 (t766 + 1)) : Int).toNat) (c := c2) hC88 (by omega) (by omega) hroom88; obtain ⟨A88, hA88⟩ : ∃ Az_, Az_ = (if c2 = ((ji71) : Int).toNat then A2 else (A2 : Option Addr).map (·.add (((ji71) : Int).toNat * 2))) := ⟨_, rfl⟩; obtain ⟨c88, hc88⟩ : ∃ cz_, cz_ = c2 - ((ji71) : Int).toNat := ⟨_, rfl⟩; have hy88 : y776.length = ((wrap64 (t766 + 1)) : Int).toNat - ((ji71) : Int).toNat := (by rw [Ny776.out, List.length_drop, List.length_take] <;> omega); rw [show ((l2).take ((wrap64 (t766 + 1)) : Int).toNat).drop ((ji71) : Int).toNat = y776 from Ny776.out.symm] at hr88; replace hr88 : Kd.C k62 _ A88 y776.length y776 := (by rw [hA88]; exact hr88); rw [← hy88, ← hA88, ← hc88] at hcut88; have HR779 := Aside0.mk hr88; have HC779 := Aside0.mk (show y776.length ≤ c88 from by rw [hy88, hc88]; exact Nat.sub_le_sub_right (Nat.le_trans (by omega) hroom88) _); clear hr88 hC88 hroom88 hi088 hsz88 hc88; have KY88 := Aside0.mk hy88; have KA88 := Aside0.mk hA88; clear hy88 hA88; replace q88 := eq_true q88) | ((with_reducible refine gate_callee (f := 12) rfl ?_); (try refine ug_ (by rfl) ?_); refine goesA_ (some 125) Try.func12 #[.slice A0 l0.length c0, .slice A88 y776.length c88] ?_; (with_reducible refine (curve_Below.calls kj31 _ _ l0 _ _ y776 true t781 _ ?side1 ?side2 ?side3 ?side4 A75.out).mono ?_); (case side1 => exact cs_ HR0 HB); (case side2 => exact HC0.out); (case side3 => exact cs_ HR779 HB); (case side4 => exact HC779.out); rintro e w89 ⟨rfl, hb⟩; refine ⟨_, rfl, ?_⟩; replace HB := bs_ w hb; clear hb; have q90 : ((wrap64 (t766 + 1)) : Int) ≤ ((l2.length : Int) : Int) := of_decide_eq_true (by first | (with_reducible assumption) | assumption); obtain ⟨i090, hi090, _, hsz90, _⟩ := info_parts info62; have hroom90 : l2.length ≤ c2 := HC2.out; have hC90 : Kd.C k62 _ A2 l2.length l2 := HR2.out; have ql90 : (t765 : Int) ≤ ((wrap64 (t766 + 1)) : Int) := of_decide_eq_true (by first | (with_reducible assumption) | assumption); have q090 : (0 : Int) ≤ (t765 : Int) := of_decide_eq_true (by first | (with_reducible assumption) | assumption); have hcut90 := cut_mid (P := Try.prog) 23 62 .i64 .i64 Try.underlying23 hi090 2 hsz90 A2 l2.length c2 t765 (wrap64 (t766 + 1)) q090 ql90 q90 hroom90; have hr90 := Kd.C_mid (lo := (t765 : Int).toNat) (hi := ((wrap64 (t766 + 1)) : Int).toNat) (c := c2) hC90 (by omega) (by omega) hroom90; obtain ⟨A90, hA90⟩ : ∃ Az_, Az_ = (if c2 = (t765 : Int).toNat then A2 else (A2 : Option Addr).map (·.add ((t765 : Int).toNat * 2))) := ⟨_, rfl⟩; obtain ⟨c90, hc90⟩ : ∃ cz_, cz_ = c2 - (t765 : Int).toNat := ⟨_, rfl⟩; have hy90 : y782.length = ((wrap64 (t766 + 1)) : Int).toNat - (t765 : Int).toNat := (by rw [Ny782.out, List.length_drop, List.length_take] <;> omega); rw [show ((l2).take ((wrap64 (t766 + 1)) : Int).toNat).drop (t765 : Int).toNat = y782 from Ny782.out.symm] at hr90; replace hr90 : Kd.C k62 _ A90 y782.length y782 := (by rw [hA90]; exact hr90); rw [← hy90, ← hA90, ← hc90] at hcut90; have HR785 := Aside0.mk hr90; have HC785 := Aside0.mk (show y782.length ≤ c90 from by rw [hy90, hc90]; exact Nat.sub_le_sub_right (Nat.le_trans (by omega) hroom90) _); clear hr90 hC90 hroom90 hi090 hsz90 hc90; have KY90 := Aside0.mk hy90; have KA90 := Aside0.mk hA90; clear hy90 hA90; replace q90 := eq_true q90) | ((with_reducible refine gate_callee (f := 12) rfl ?_); (try refine ug_ (by rfl) ?_); refine goesA_ (some 135) Try.func12 #[.slice A0 l0.length c0, .slice A90 y782.length c90] ?_; (with_reducible refine (curve_Below.calls kj31 _ _ l0 _ _ y782 t786 t787 _ ?side1 ?side2 ?side3 ?side4 A79.out).mono ?_); (case side1 => exact cs_ HR0 HB); (case side2 => exact HC0.out); (case side3 => exact cs_ HR785 HB); (case side4 => exact HC785.out); rintro e w91 ⟨rfl, hb⟩; refine ⟨_, rfl, ?_⟩; replace HB := bs_ w hb; clear hb))
           go_ret
           exact ⟨by first | rfl | (simp [errW_none, errW_some] <;> rfl) | (simp only [← hji71]; first | rfl | (simp [errW_none, errW_some] <;> rfl)) | (simp [*, errW_none, errW_some] <;> rfl), by repeat (first | (with_reducible first | exact HB.out | apply below_alloc | apply pw_below_drewN | apply below_drew1) | exact HB.out)⟩
          ·replace c84 := Bool.eq_false_iff.mpr c84
           subst c84
           replace H : (none) = some r := by rw [if_neg (show ¬ (false = true) by decide)] at H; exact H
           exact absurd H (by simp)
         ·replace c82 := Bool.eq_false_iff.mpr c82
          subst c82
          replace H : (none) = some r := by rw [if_neg (show ¬ (false = true) by decide)] at H; exact H
          exact absurd H (by simp)
        ·replace c80 := Bool.eq_false_iff.mpr c80
         subst c80
         replace H : (none) = some r := by rw [if_neg (show ¬ (false = true) by decide)] at H; exact H
         exact absurd H (by simp)

end Go.Proofs.Ytimhghmfhfggoaa.X
