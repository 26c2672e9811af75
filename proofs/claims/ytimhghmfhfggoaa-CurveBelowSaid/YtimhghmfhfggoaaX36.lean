-- written by xprint.py, a program of this session over the kit's print
import Derived.Test.YtimhghmfhfggoaaX0
import Derived.Test.YtimhghmfhfggoaaX3
import Derived.Test.YtimhghmfhfggoaaX11
import Derived.Test.YtimhghmfhfggoaaX20
import Derived.Test.YtimhghmfhfggoaaX21
import Derived.Test.YtimhghmfhfggoaaX33
import Derived.Test.YtimhghmfhfggoaaX34
import Derived.Test.YtimhghmfhfggoaaX35
namespace Go.Proofs.Ytimhghmfhfggoaa.X
open Go.RowKit Go.Proofs.YtimhghmfhfggoaaW.PrintWords Go.Proofs.YtimhghmfhfggoaaW.PrintLast Go.Proofs.YtimhghmfhfggoaaW.PrintMore
attribute [local go_sem] max2_int min2_int max_two min_two max_three min_three max_four min_four   -- for this text's walks alone
set_option linter.unusedVariables false
set_option linter.unusedSimpArgs false

/-! ### spigotlaw40_CurveBelow: function 4 -/
def spigotlaw40_CurveBelow.j0 : Nat → List (S49) → List (S62) → Bool → Bool → Option (Bool)
  | 0, _, _, _, _ => none
  | k + 1, x0, x1, x5, x31 => if x31 = true then (some x5) else ((curve_Pass.f k x0 x1).bind fun bt371 => (if bt371.2 = 0 then ((spigotref40_Charges.f k bt371.1).bind fun t375 => (if t375 = 0 then (if (bt371.1.length : Int) > (x1.length : Int) then (none) else ((curve_Below.f k x0 bt371.1).bind fun bt376 => ((curve_Pass.f k x0 bt371.1).bind fun bt378 => ((curve_Below.f k x0 x1).bind fun bt382 => (if x5 = true then (if bt376.2 = 0 then (if bt376.1 = true then (if bt378.2 = 0 then ((spigotref40_Same.f k bt378.1 bt371.1).bind fun t384 => (if t384 = true then (if bt382.2 = 0 then ((spigotref40_Same.f k bt371.1 x1).bind fun t385 => (some (bt382.1 == t385))) else (none)) else (none))) else (none)) else (none)) else (none)) else (none)))))) else (none))) else (none)))
def spigotlaw40_CurveBelow.f (k : Nat) (l0 : List (S49)) (l1 : List (S62)) : Option (Bool) := (spigotlaw40_alive.f k).bind fun t367 => ((spigotref40_Great.f l0 l1).bind fun t368 => (if t368 = true then (spigotlaw40_CurveBelow.j0 k l0 l1 t367 true) else ((spigotref40_Check.f k l0).bind fun t369 => (if t369 = 0 then ((spigotref40_Charges.f k l1).bind fun t370 => (if t370 = 0 then (spigotlaw40_CurveBelow.j0 k l0 l1 t367 (!t367)) else (spigotlaw40_CurveBelow.j0 k l0 l1 t367 true))) else (spigotlaw40_CurveBelow.j0 k l0 l1 t367 true)))))
theorem spigotlaw40_CurveBelow.mono_l : ∀ k, (∀ y0 y1 y2 y3, LeO (spigotlaw40_CurveBelow.j0 k y0 y1 y2 y3) (spigotlaw40_CurveBelow.j0 (k + 1) y0 y1 y2 y3))
  | 0 => fun _ _ _ _ r h => by simp [spigotlaw40_CurveBelow.j0] at h
  | k + 1 => by
    have ih0 := spigotlaw40_CurveBelow.mono_l k
    · intro y0 y1 y2 y3
      unfold spigotlaw40_CurveBelow.j0
      repeat' first
      | (with_reducible exact ih0 _ _ _ _)
      | (with_reducible exact curve_Below.mono _ _ _)
      | (with_reducible exact curve_Pass.mono _ _ _)
      | (with_reducible exact spigotlaw40_alive.mono _)
      | (with_reducible exact spigotref40_Charges.mono _ _)
      | (with_reducible exact spigotref40_Check.mono _ _)
      | (with_reducible exact spigotref40_Same.mono _ _ _)
      | (with_reducible exact LeO.refl _)
      | (with_reducible exact LeO.none _)
      | (with_reducible refine LeO.ite ?_ ?_)
      | (with_reducible refine LeO.bind ?_ (fun _ => ?_))
      | exact ih0 _ _ _ _
      | exact curve_Below.mono _ _ _
      | exact curve_Pass.mono _ _ _
      | exact spigotlaw40_alive.mono _
      | exact spigotref40_Charges.mono _ _
      | exact spigotref40_Check.mono _ _
      | exact spigotref40_Same.mono _ _ _
      | exact LeO.none _
      | refine LeO.ite ?_ ?_
      | refine LeO.bind ?_ (fun _ => ?_)
theorem spigotlaw40_CurveBelow.mono : ∀ a0 a1 k, LeO (spigotlaw40_CurveBelow.f k a0 a1) (spigotlaw40_CurveBelow.f (k + 1) a0 a1) := by
  intro a0 a1 k
  have ih0 := spigotlaw40_CurveBelow.mono_l k
  unfold spigotlaw40_CurveBelow.f
  repeat' first
      | (with_reducible exact ih0 _ _ _ _)
      | (with_reducible exact curve_Below.mono _ _ _)
      | (with_reducible exact curve_Pass.mono _ _ _)
      | (with_reducible exact spigotlaw40_alive.mono _)
      | (with_reducible exact spigotref40_Charges.mono _ _)
      | (with_reducible exact spigotref40_Check.mono _ _)
      | (with_reducible exact spigotref40_Same.mono _ _ _)
      | (with_reducible exact LeO.refl _)
      | (with_reducible exact LeO.none _)
      | (with_reducible refine LeO.ite ?_ ?_)
      | (with_reducible refine LeO.bind ?_ (fun _ => ?_))
      | exact ih0 _ _ _ _
      | exact curve_Below.mono _ _ _
      | exact curve_Pass.mono _ _ _
      | exact spigotlaw40_alive.mono _
      | exact spigotref40_Charges.mono _ _
      | exact spigotref40_Check.mono _ _
      | exact spigotref40_Same.mono _ _ _
      | exact LeO.none _
      | refine LeO.ite ?_ ?_
      | refine LeO.bind ?_ (fun _ => ?_)
set_option maxHeartbeats 8000000 in
set_option maxRecDepth 100000 in
theorem spigotlaw40_CurveBelow.calls (k : Nat) (A0 : Option Addr) (c0 : Nat) (l0 : List (S49)) (A1 : Option Addr) (c1 : Nat) (l1 : List (S62)) (r : Bool) (w : World) (hr0 : Kd.C k49 w A0 l0.length l0) (hc0 : l0.length ≤ c0) (hr1 : Kd.C k62 w A1 l1.length l1) (hc1 : l1.length ≤ c1) (h : spigotlaw40_CurveBelow.f k l0 l1 = some r) :
  Calls Try.prog 4 #[.slice A0 l0.length c0, .slice A1 l1.length c1] w fun e w' => e = .returned (.bool r) ∧ Below w.heap.size w w' := by
 have HR0 := Aside0.mk hr0
 have HC0 := Aside0.mk hc0
 clear hr0 hc0
 have HR1 := Aside0.mk hr1
 have HC1 := Aside0.mk hc1
 clear hr1 hc1
 have HB := Aside0.mk (Below.refl w.heap.size w)
 have H : ((spigotlaw40_alive.f k).bind fun t367 => ((spigotref40_Great.f l0 l1).bind fun t368 => (if t368 = true then (spigotlaw40_CurveBelow.j0 k l0 l1 t367 true) else ((spigotref40_Check.f k l0).bind fun t369 => (if t369 = 0 then ((spigotref40_Charges.f k l1).bind fun t370 => (if t370 = 0 then (spigotlaw40_CurveBelow.j0 k l0 l1 t367 (!t367)) else (spigotlaw40_CurveBelow.j0 k l0 l1 t367 true))) else (spigotlaw40_CurveBelow.j0 k l0 l1 t367 true)))))) = some r := h
 clear h
 obtain ⟨t367, A3, H⟩ := bo_ H
 try dsimp only at H
 have HC4 := Aside0.mk H
 clear H
 go_enter Try.func4, Try.ntmps4
 go_upto_region 2 with (first | ((with_reducible refine gate_callee (f := 20) rfl ?_); (try refine ug_ (by rfl) ?_); refine goesA_ (some 14) Try.func20 #[] ?_; (with_reducible refine (spigotlaw40_alive.calls k  t367 _ A3.out).mono ?_); rintro e w5 ⟨rfl, hb⟩; refine ⟨_, rfl, ?_⟩; replace HB := bs_ w hb; clear hb))
 (try simp only [Act.put, List.setIfInBounds_toArray, List.set_cons_zero, List.set_cons_succ])
 go_cut [31] (fun v31 wc => ∃ (kq : Nat) (x31_3 : Bool), v31 = .bool x31_3 ∧ Aside0 (spigotlaw40_CurveBelow.j0 kq l0 l1 t367 x31_3 = some r) ∧ Aside0 (kq ≤ k) ∧ Aside0 (Below w.heap.size w wc))
 case first =>
  have H := HC4.out
  clear HC4
  obtain ⟨t368, A6, H⟩ := bo_ H
  try dsimp only at H
  by_cases c7 : t368 = true
  ·subst c7
   replace H : (spigotlaw40_CurveBelow.j0 k l0 l1 t367 true) = some r := by rw [if_pos rfl] at H; exact H
   have H' := Aside0.mk H
   clear H
   go_wp2_with (first | ((with_reducible refine gate_callee (f := 9) rfl ?_); (try refine ug_ (by rfl) ?_); refine goesA_ (some 17) Try.func9 #[.slice A0 l0.length c0, .slice A1 l1.length c1] ?_; (with_reducible refine (spigotref40_Great.calls _ _ l0 _ _ l1 true _ ?side1 ?side2 ?side3 ?side4 A6.out).mono ?_); (case side1 => exact cs_ HR0 HB); (case side2 => exact HC0.out); (case side3 => exact cs_ HR1 HB); (case side4 => exact HC1.out); rintro e w' ⟨rfl, ⟨nd, rfl⟩⟩; refine ⟨_, rfl, ?_⟩))
   go_meet
   case rel => exact ⟨_, (true), rf_, H', al_, bw_⟩
  ·replace c7 := Bool.eq_false_iff.mpr c7
   subst c7
   rw [if_neg (show ¬ (false = true) by decide)] at H
   try dsimp only at H
   obtain ⟨t369, A8, H⟩ := bo_ H
   try dsimp only at H
   by_cases c9 : t369 = 0
   ·rw [if_pos c9] at H
    have c9b0 : (t369 == 0) = true := beq_iff_eq.mpr c9
    have c9b1 : (t369 != 0) = false := bne_eq_false_iff_eq.mpr c9
    clear c9
    (first | rw [c9b0] | (simp only [i64_w, i32_w]; rw [c9b0]) | skip)
    obtain ⟨t370, A10, H⟩ := bo_ H
    replace H : (if t370 = 0 then (spigotlaw40_CurveBelow.j0 k l0 l1 t367 (!t367)) else (spigotlaw40_CurveBelow.j0 k l0 l1 t367 true)) = some r := H
    by_cases c11 : t370 = 0
    ·rw [if_pos c11] at H
     have c11b0 : (t370 == 0) = true := beq_iff_eq.mpr c11
     have c11b1 : (t370 != 0) = false := bne_eq_false_iff_eq.mpr c11
     clear c11
     have H' := Aside0.mk H
     clear H
     go_wp2_with (first | ((with_reducible refine gate_callee (f := 9) rfl ?_); (try refine ug_ (by rfl) ?_); refine goesA_ (some 17) Try.func9 #[.slice A0 l0.length c0, .slice A1 l1.length c1] ?_; (with_reducible refine (spigotref40_Great.calls _ _ l0 _ _ l1 false _ ?side1 ?side2 ?side3 ?side4 A6.out).mono ?_); (case side1 => exact cs_ HR0 HB); (case side2 => exact HC0.out); (case side3 => exact cs_ HR1 HB); (case side4 => exact HC1.out); rintro e w' ⟨rfl, ⟨nd, rfl⟩⟩; refine ⟨_, rfl, ?_⟩) | (go_at_call 17; (with_reducible refine (spigotref40_Check.calls k _ _ l0 t369 _ ?side1 ?side2 A8.out).mono ?_); (case side1 => repeat (first | exact (Kd.C_below HR0.out (hq_ HB)) | (with_reducible refine Kd.C_alloc ?_ _) | (with_reducible refine Kd.C_drewN ?_ _) | (with_reducible refine Kd.C_drew ?_))); (case side2 => exact HC0.out); rintro e w12 ⟨rfl, hb⟩; replace HB := bs_ w hb; clear hb) | (go_at_call 19; (with_reducible refine (spigotref40_Charges.calls k _ _ l1 t370 _ ?side1 ?side2 A10.out).mono ?_); (case side1 => exact cs_ HR1 HB); (case side2 => exact HC1.out); rintro e w' ⟨rfl, ⟨nd, rfl⟩⟩))
     go_meet
     case rel => exact ⟨_, (!t367), rf_, H', al_, bw_⟩
    ·rw [if_neg c11] at H
     have c11b0 : (t370 == 0) = false := beq_eq_false_iff_ne.mpr c11
     have c11b1 : (t370 != 0) = true := bne_iff_ne.mpr c11
     have H' := Aside0.mk H
     clear H
     go_wp2_with (first | ((with_reducible refine gate_callee (f := 9) rfl ?_); (try refine ug_ (by rfl) ?_); refine goesA_ (some 17) Try.func9 #[.slice A0 l0.length c0, .slice A1 l1.length c1] ?_; (with_reducible refine (spigotref40_Great.calls _ _ l0 _ _ l1 false _ ?side1 ?side2 ?side3 ?side4 A6.out).mono ?_); (case side1 => exact cs_ HR0 HB); (case side2 => exact HC0.out); (case side3 => exact cs_ HR1 HB); (case side4 => exact HC1.out); rintro e w' ⟨rfl, ⟨nd, rfl⟩⟩; refine ⟨_, rfl, ?_⟩) | (go_at_call 17; (with_reducible refine (spigotref40_Check.calls k _ _ l0 t369 _ ?side1 ?side2 A8.out).mono ?_); (case side1 => repeat (first | exact (Kd.C_below HR0.out (hq_ HB)) | (with_reducible refine Kd.C_alloc ?_ _) | (with_reducible refine Kd.C_drewN ?_ _) | (with_reducible refine Kd.C_drew ?_))); (case side2 => exact HC0.out); rintro e w13 ⟨rfl, hb⟩; replace HB := bs_ w hb; clear hb) | (go_at_call 19; (with_reducible refine (spigotref40_Charges.calls k _ _ l1 t370 _ ?side1 ?side2 A10.out).mono ?_); (case side1 => exact cs_ HR1 HB); (case side2 => exact HC1.out); rintro e w' ⟨rfl, ⟨nd, rfl⟩⟩))
     go_meet
     case rel => exact ⟨_, (true), rf_, H', al_, bw_⟩
   ·rw [if_neg c9] at H
    have c9b0 : (t369 == 0) = false := beq_eq_false_iff_ne.mpr c9
    have c9b1 : (t369 != 0) = true := bne_iff_ne.mpr c9
    (first | rw [c9b0] | (simp only [i64_w, i32_w]; rw [c9b0]) | skip)
    have H' := Aside0.mk H
    clear H
    go_wp2_with (first | ((with_reducible refine gate_callee (f := 9) rfl ?_); (try refine ug_ (by rfl) ?_); refine goesA_ (some 17) Try.func9 #[.slice A0 l0.length c0, .slice A1 l1.length c1] ?_; (with_reducible refine (spigotref40_Great.calls _ _ l0 _ _ l1 false _ ?side1 ?side2 ?side3 ?side4 A6.out).mono ?_); (case side1 => exact cs_ HR0 HB); (case side2 => exact HC0.out); (case side3 => exact cs_ HR1 HB); (case side4 => exact HC1.out); rintro e w' ⟨rfl, ⟨nd, rfl⟩⟩; refine ⟨_, rfl, ?_⟩) | (go_at_call 17; (with_reducible refine (spigotref40_Check.calls k _ _ l0 t369 _ ?side1 ?side2 A8.out).mono ?_); (case side1 => repeat (first | exact (Kd.C_below HR0.out (hq_ HB)) | (with_reducible refine Kd.C_alloc ?_ _) | (with_reducible refine Kd.C_drewN ?_ _) | (with_reducible refine Kd.C_drew ?_))); (case side2 => exact HC0.out); rintro e w14 ⟨rfl, hb⟩; replace HB := bs_ w hb; clear hb))
    go_meet
    case rel => exact ⟨_, (true), rf_, H', al_, bw_⟩
 case rest =>
  clear HC4
  try clear c1
  obtain ⟨kq, x31_3, rfl, HA, HJ3, HB⟩ := hcut
  cases kq with
  | zero => exact absurd HA.out (by simp [spigotlaw40_CurveBelow.j0])
  | succ kj3 =>
   have H := HA.out
   clear HA
   simp only [spigotlaw40_CurveBelow.j0] at H
   by_cases c15 : x31_3 = true
   ·subst c15
    replace H : (some t367) = some r := by rw [if_pos rfl] at H; exact H
    obtain rfl := Option.some.inj H
    go_wp2
    go_ret
    exact fi_
   ·replace c15 := Bool.eq_false_iff.mpr c15
    subst c15
    rw [if_neg (show ¬ (false = true) by decide)] at H
    try dsimp only at H
    obtain ⟨⟨t371, t372⟩, A16, H⟩ := bo_ H
    try dsimp only at H
    by_cases c17 : t372 = 0
    rotate_left
    ·rw [if_neg c17] at H; exact absurd H (by simp)
    rw [if_pos c17] at H
    have c17b0 : (t372 == 0) = true := beq_iff_eq.mpr c17
    have c17b1 : (t372 != 0) = false := bne_eq_false_iff_eq.mpr c17
    clear c17
    obtain ⟨t375, A18, H⟩ := bo_ H
    try dsimp only at H
    by_cases c19 : t375 = 0
    rotate_left
    ·rw [if_neg c19] at H; exact absurd H (by simp)
    rw [if_pos c19] at H
    have c19b0 : (t375 == 0) = true := beq_iff_eq.mpr c19
    have c19b1 : (t375 != 0) = false := bne_eq_false_iff_eq.mpr c19
    clear c19
    by_cases c20 : (t371.length : Int) > (l1.length : Int)
    ·rw [if_pos c20] at H; exact absurd H (by simp)
    rw [if_neg c20] at H
    have c20b0 : decide ((l1.length : Int) < (t371.length : Int)) = false := decide_eq_false c20
    have c20b1 : decide (l1.length < t371.length) = false := decide_eq_false (fun h => c20 (Int.ofNat_lt.mpr h))
    clear c20
    obtain ⟨⟨t376, t377⟩, A21, H⟩ := bo_ H
    try dsimp only at H
    obtain ⟨⟨t378, t379⟩, A22, H⟩ := bo_ H
    try dsimp only at H
    obtain ⟨⟨t382, t383⟩, A23, H⟩ := bo_ H
    try dsimp only at H
    by_cases c24 : t367 = true
    ·subst c24
     rw [if_pos rfl] at H
     try dsimp only at H
     by_cases c25 : t377 = 0
     rotate_left
     ·rw [if_neg c25] at H; exact absurd H (by simp)
     rw [if_pos c25] at H
     have c25b0 : (t377 == 0) = true := beq_iff_eq.mpr c25
     have c25b1 : (t377 != 0) = false := bne_eq_false_iff_eq.mpr c25
     clear c25
     by_cases c26 : t376 = true
     ·subst c26
      rw [if_pos rfl] at H
      try dsimp only at H
      by_cases c27 : t379 = 0
      rotate_left
      ·rw [if_neg c27] at H; exact absurd H (by simp)
      rw [if_pos c27] at H
      have c27b0 : (t379 == 0) = true := beq_iff_eq.mpr c27
      have c27b1 : (t379 != 0) = false := bne_eq_false_iff_eq.mpr c27
      clear c27
      obtain ⟨t384, A28, H⟩ := bo_ H
      replace H : (if t384 = true then (if t383 = 0 then ((spigotref40_Same.f kj3 t371 l1).bind fun t385 => (some (t382 == t385))) else (none)) else (none)) = some r := H
      by_cases c29 : t384 = true
      ·subst c29
       rw [if_pos rfl] at H
       try dsimp only at H
       by_cases c30 : t383 = 0
       rotate_left
       ·rw [if_neg c30] at H; exact absurd H (by simp)
       rw [if_pos c30] at H
       have c30b0 : (t383 == 0) = true := beq_iff_eq.mpr c30
       have c30b1 : (t383 != 0) = false := bne_eq_false_iff_eq.mpr c30
       clear c30
       obtain ⟨t385, A31, H⟩ := bo_ H
       replace H : (some (t382 == t385)) = some r := H
       obtain rfl := Option.some.inj H
       go_wp2_with (first | ((with_reducible refine gate_callee (f := 21) rfl ?_); (try refine ug_ (by rfl) ?_); refine goesA_ (some 36) Try.func21 #[.slice A0 l0.length c0, .slice A1 l1.length c1] ?_; (with_reducible refine (curve_Pass.calls kj3 _ _ l0 _ _ l1 t371 t372 _ ?side1 ?side2 ?side3 ?side4 A16.out).mono ?_); (case side1 => exact cs_ HR0 HB); (case side2 => exact HC0.out); (case side3 => exact cs_ HR1 HB); (case side4 => exact HC1.out); rintro e w32 ⟨v373, rfl, ho0, hb⟩; refine ⟨_, rfl, ?_⟩; have HO374 := Aside0.mk (Kd.R_lower ho0 (below_size (hq_ HB))); replace HB := bs_ w hb; clear hb; (try clear ho0); obtain ⟨Ao33, co33, eo33⟩ := Kd.R_slice HO374.out; subst eo33) | (go_at_call 19; (with_reducible refine (spigotref40_Charges.calls kj3 _ _ t371 t375 _ ?side1 ?side2 A18.out).mono ?_); (case side1 => exact cr_ HO374); (case side2 => exact (Kd.R_reads' HO374.out).2.1); rintro e w' ⟨rfl, ⟨nd, rfl⟩⟩) | ((with_reducible refine gate_callee (f := 12) rfl ?_); (try refine ug_ (by rfl) ?_); refine goesA_ (some 56) Try.func12 #[.slice A0 l0.length c0, .slice Ao33 t371.length co33] ?_; (with_reducible refine (curve_Below.calls kj3 _ _ l0 _ _ t371 true t377 _ ?side1 ?side2 ?side3 ?side4 A21.out).mono ?_); (case side1 => repeat (first | exact (Kd.C_below HR0.out (hq_ HB)) | (with_reducible refine Kd.C_alloc ?_ _) | (with_reducible refine Kd.C_drewN ?_ _) | (with_reducible refine Kd.C_drew ?_))); (case side2 => exact HC0.out); (case side3 => exact cr_ HO374); (case side4 => exact (Kd.R_reads' HO374.out).2.1); rintro e w34 ⟨rfl, hb⟩; refine ⟨_, rfl, ?_⟩; replace HO374 := rb_ HO374 hb; replace HB := bs_ w hb; clear hb) | ((with_reducible refine gate_callee (f := 21) rfl ?_); (try refine ug_ (by rfl) ?_); refine goesA_ (some 62) Try.func21 #[.slice A0 l0.length c0, .slice Ao33 t371.length co33] ?_; (with_reducible refine (curve_Pass.calls kj3 _ _ l0 _ _ t371 t378 t379 _ ?side1 ?side2 ?side3 ?side4 A22.out).mono ?_); (case side1 => exact cs_ HR0 HB); (case side2 => exact HC0.out); (case side3 => exact cr_ HO374); (case side4 => exact (Kd.R_reads' HO374.out).2.1); rintro e w35 ⟨v380, rfl, ho0, hb⟩; refine ⟨_, rfl, ?_⟩; have HO381 := Aside0.mk (Kd.R_lower (Kd.R_new' ho0 (Kd.R_lt (rs_ HO374))) (below_size (hq_ HB))); replace HO374 := Aside0.mk (Kd.R_elder' (rs_ HO374) (Kd.R_base ho0) hb); replace HB := bs_ w hb; (try clear hb); (try clear hb2); (try clear hk); (try clear hi); (try clear ho0)) | ((with_reducible refine gate_callee (f := 12) rfl ?_); (try refine ug_ (by rfl) ?_); refine goesA_ (some 68) Try.func12 #[.slice A0 l0.length c0, .slice A1 l1.length c1] ?_; (with_reducible refine (curve_Below.calls kj3 _ _ l0 _ _ l1 t382 t383 _ ?side1 ?side2 ?side3 ?side4 A23.out).mono ?_); (case side1 => exact cs_ HR0 HB); (case side2 => exact HC0.out); (case side3 => exact cs_ HR1 HB); (case side4 => exact HC1.out); rintro e w36 ⟨rfl, hb⟩; refine ⟨_, rfl, ?_⟩; replace HO374 := rb_ HO374 hb; replace HO381 := rb_ HO381 hb; replace HB := bs_ w hb; clear hb; obtain ⟨Ao37, co37, eo37⟩ := Kd.R_slice HO381.out; subst eo37) | (go_at_call 22; (with_reducible refine (spigotref40_Same.calls kj3 _ _ t378 _ _ t371 true _ ?side1 ?side2 ?side3 ?side4 A28.out).mono ?_); (case side1 => exact cr_ HO381); (case side2 => exact (Kd.R_reads' HO381.out).2.1); (case side3 => exact cr_ HO374); (case side4 => exact (Kd.R_reads' HO374.out).2.1); rintro e w' ⟨rfl, ⟨nd, rfl⟩⟩) | (go_at_call 22; (with_reducible refine (spigotref40_Same.calls kj3 _ _ t371 _ _ l1 t385 _ ?side1 ?side2 ?side3 ?side4 A31.out).mono ?_); (case side1 => exact cr_ HO374); (case side2 => exact (Kd.R_reads' HO374.out).2.1); (case side3 => repeat (first | exact (Kd.C_below HR1.out (hq_ HB)) | (with_reducible refine Kd.C_alloc ?_ _) | (with_reducible refine Kd.C_drewN ?_ _) | (with_reducible refine Kd.C_drew ?_))); (case side4 => exact HC1.out); rintro e w' ⟨rfl, ⟨nd, rfl⟩⟩))
       go_ret
       exact fi_
      ·replace c29 := Bool.eq_false_iff.mpr c29
       subst c29
       replace H : (none) = some r := by rw [if_neg (show ¬ (false = true) by decide)] at H; exact H
       exact absurd H (by simp)
     ·replace c26 := Bool.eq_false_iff.mpr c26
      subst c26
      replace H : (none) = some r := by rw [if_neg (show ¬ (false = true) by decide)] at H; exact H
      exact absurd H (by simp)
    ·replace c24 := Bool.eq_false_iff.mpr c24
     subst c24
     replace H : (none) = some r := by rw [if_neg (show ¬ (false = true) by decide)] at H; exact H
     exact absurd H (by simp)

end Go.Proofs.Ytimhghmfhfggoaa.X
