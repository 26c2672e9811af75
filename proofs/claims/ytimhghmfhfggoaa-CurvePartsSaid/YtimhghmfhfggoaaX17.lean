-- written by xprint.py, a program of this session over the kit's print
import Derived.Test.YtimhghmfhfggoaaX0
import Derived.Test.YtimhghmfhfggoaaX16
namespace Go.Proofs.Ytimhghmfhfggoaa.X
open Go.RowKit Go.Proofs.YtimhghmfhfggoaaW.PrintWords Go.Proofs.YtimhghmfhfggoaaW.PrintLast Go.Proofs.YtimhghmfhfggoaaW.PrintMore
attribute [local go_sem] max2_int min2_int max_two min_two max_three min_three max_four min_four   -- for this text's walks alone
set_option linter.unusedVariables false
set_option linter.unusedSimpArgs false

def curve_Charges.l0 : Nat → List (S62) → Int → Int → Option (Int)
  | 0, _, _, _ => none
  | k + 1, x0, x10, x11 => if x11 < x10 then (if x11 > 0 then (if 0 ≤ x11 then (if x11 < (x0.length : Int) then (if 0 ≤ (wrap64 (x11 - 1)) then (if (wrap64 (x11 - 1)) < (x0.length : Int) then (if ((rd_T62 x0 x11).f0) < ((rd_T62 x0 (wrap64 (x11 - 1))).f0) then (some 32) else (curve_Charges.l0 k x0 x10 (wrap64 (x11 + 1)))) else (none)) else (none)) else (none)) else (none)) else (curve_Charges.l0 k x0 x10 (wrap64 (x11 + 1)))) else (some 0)
def curve_Charges.f (k : Nat) (l0 : List (S62)) : Option (Int) := if (l0.length : Int) > 60 then (some 4) else ((slices_ContainsFunc_api_Charge_c36.f k l0 0).bind fun t174 => (if t174 = true then (some 8) else (curve_Charges.l0 k l0 (l0.length : Int) 0)))
set_option maxHeartbeats 8000000 in
set_option maxRecDepth 100000 in
theorem curve_Charges.calls (k : Nat) (A0 : Option Addr) (c0 : Nat) (l0 : List (S62)) (r : Int) (w : World) (hr0 : Kd.C k62 w A0 l0.length l0) (hc0 : l0.length ≤ c0) (h : curve_Charges.f k l0 = some r) :
  Calls Try.prog 18 #[.slice A0 l0.length c0] w fun e w' => e = .returned (.int .i64 r) ∧ Below w.heap.size w w' := by
 have HR0 := Aside0.mk hr0
 have HC0 := Aside0.mk hc0
 clear hr0 hc0
 have HB := Aside0.mk (Below.refl w.heap.size w)
 have H : (if (l0.length : Int) > 60 then (some 4) else ((slices_ContainsFunc_api_Charge_c36.f k l0 0).bind fun t174 => (if t174 = true then (some 8) else (curve_Charges.l0 k l0 (l0.length : Int) 0)))) = some r := h
 clear h
 by_cases c2 : (l0.length : Int) > 60
 ·rw [if_pos c2] at H
  have c2b0 : decide (60 < (l0.length : Int)) = true := decide_eq_true c2
  have c2b1 : decide (60 < l0.length) = true := decide_eq_true (by omega)
  clear c2
  obtain rfl := Option.some.inj H
  go_enter Try.func18, Try.ntmps18
  go_wp2
  repeat (go_quiet (fail); try go_wp2)
  go_ret
  exact fi_
 ·rw [if_neg c2] at H
  have c2b0 : decide (60 < (l0.length : Int)) = false := decide_eq_false c2
  have c2b1 : decide (60 < l0.length) = false := decide_eq_false (by omega)
  clear c2
  have H0_ := bo_ H; clear H; obtain ⟨t174, A3, H⟩ := H0_
  replace H : (if t174 = true then (some 8) else (curve_Charges.l0 k l0 (l0.length : Int) 0)) = some r := H
  by_cases c4 : t174 = true
  ·subst c4
   replace H : (some 8) = some r := by rw [if_pos rfl] at H; exact H
   obtain rfl := Option.some.inj H
   go_enter Try.func18, Try.ntmps18
   go_wp2_with (first | (go_at_call 35; (with_reducible refine (slices_ContainsFunc_api_Charge_c36.calls k _ _ l0 0 true _ ?side1 ?side2 A3.out).mono ?_); (case side1 => exact ch_ HR0); (case side2 => exact HC0.out); rintro e w5 ⟨rfl, hb⟩; replace HB := bs_ w hb; clear hb))
   repeat (go_quiet (first | (go_at_call 35; (with_reducible refine (slices_ContainsFunc_api_Charge_c36.calls k _ _ l0 0 true _ ?side1 ?side2 A3.out).mono ?_); (case side1 => exact ch_ HR0); (case side2 => exact HC0.out); rintro e w5 ⟨rfl, hb⟩; replace HB := bs_ w hb; clear hb)); try go_wp2_with (first | (go_at_call 35; (with_reducible refine (slices_ContainsFunc_api_Charge_c36.calls k _ _ l0 0 true _ ?side1 ?side2 A3.out).mono ?_); (case side1 => exact ch_ HR0); (case side2 => exact HC0.out); rintro e w5 ⟨rfl, hb⟩; replace HB := bs_ w hb; clear hb)))
   go_ret
   exact fi_
  ·replace c4 := Bool.eq_false_iff.mpr c4
   subst c4
   replace H : (curve_Charges.l0 k l0 (l0.length : Int) 0) = some r := by rw [if_neg (show ¬ (false = true) by decide)] at H; exact H
   have H' := Aside0.mk H
   clear H
   go_enter Try.func18, Try.ntmps18
   go_wp2_with (first | (go_at_call 35; (with_reducible refine (slices_ContainsFunc_api_Charge_c36.calls k _ _ l0 0 false _ ?side1 ?side2 A3.out).mono ?_); (case side1 => exact ch_ HR0); (case side2 => exact HC0.out); rintro e w6 ⟨rfl, hb⟩; replace HB := bs_ w hb; clear hb))
   repeat (go_quiet (first | (go_at_call 35; (with_reducible refine (slices_ContainsFunc_api_Charge_c36.calls k _ _ l0 0 false _ ?side1 ?side2 A3.out).mono ?_); (case side1 => exact ch_ HR0); (case side2 => exact HC0.out); rintro e w6 ⟨rfl, hb⟩; replace HB := bs_ w hb; clear hb)); try go_wp2_with (first | (go_at_call 35; (with_reducible refine (slices_ContainsFunc_api_Charge_c36.calls k _ _ l0 0 false _ ?side1 ?side2 A3.out).mono ?_); (case side1 => exact ch_ HR0); (case side2 => exact HC0.out); rintro e w6 ⟨rfl, hb⟩; replace HB := bs_ w hb; clear hb)))
   go_loopg [11] k (fun kq v11 w' => ∃ (x11_1 : Int), v11 = .int .i64 x11_1 ∧ Aside0 (curve_Charges.l0 kq l0 (l0.length : Int) x11_1 = some r) ∧ Aside0 (kq ≤ k) ∧ Aside0 (Below w.heap.size w w'))
   case atStart => exact ⟨(0), rf_, H', ⟨Nat.le_refl _⟩, bw_⟩
   case round =>
    clear H'
    try clear c2
    try clear c2b0
    try clear c2b1
    try clear c4
    obtain ⟨x11_1, rfl, HA, HK1, HB⟩ := hrel
    cases gk with
    | zero => exact absurd HA.out (by simp [curve_Charges.l0])
    | succ k1 =>
     have H := HA.out
     clear HA
     simp only [curve_Charges.l0] at H
     by_cases c7 : x11_1 < (l0.length : Int)
     ·rw [if_pos c7] at H
      have c7b0 : decide (x11_1 < (l0.length : Int)) = true := decide_eq_true c7
      clear c7
      by_cases c8 : x11_1 > 0
      ·rw [if_pos c8] at H
       have c8b0 : decide (0 < x11_1) = true := decide_eq_true c8
       clear c8
       by_cases c9 : 0 ≤ x11_1
       rotate_left
       ·rw [if_neg c9] at H; exact absurd H (by simp)
       rw [if_pos c9] at H
       have c9b0 : decide (0 ≤ x11_1) = true := decide_eq_true c9
       clear c9
       by_cases c10 : x11_1 < (l0.length : Int)
       rotate_left
       ·rw [if_neg c10] at H; exact absurd H (by simp)
       rw [if_pos c10] at H
       have c10b0 : decide (x11_1 < (l0.length : Int)) = true := decide_eq_true c10
       clear c10
       obtain ⟨ji11, hji11⟩ : ∃ j_ : Int, (wrap64 (x11_1 - 1)) = j_ := ⟨_, rfl⟩
       replace H : (if 0 ≤ (ji11) then (if (ji11) < (l0.length : Int) then (if ((rd_T62 l0 x11_1).f0) < ((rd_T62 l0 (ji11)).f0) then (some 32) else (curve_Charges.l0 k1 l0 (l0.length : Int) (wrap64 (x11_1 + 1)))) else (none)) else (none)) = some r := by first | (rw [hji11] at H; exact H) | (simp only [hji11] at H ⊢; exact H)
       have hji11w : (IntKind.i64.wrap (x11_1 - 1)) = ji11 := (i64_w _).trans hji11
       by_cases c12 : 0 ≤ (ji11)
       rotate_left
       ·rw [if_neg c12] at H; exact absurd H (by simp)
       rw [if_pos c12] at H
       have c12b0 : decide (0 ≤ (ji11)) = true := decide_eq_true c12
       clear c12
       by_cases c13 : (ji11) < (l0.length : Int)
       rotate_left
       ·rw [if_neg c13] at H; exact absurd H (by simp)
       rw [if_pos c13] at H
       have c13b0 : decide ((ji11) < (l0.length : Int)) = true := decide_eq_true c13
       clear c13
       by_cases c14 : ((rd_T62 l0 x11_1).f0) < ((rd_T62 l0 (ji11)).f0)
       ·rw [if_pos c14] at H
        have c14b0 : decide (((rd_T62 l0 x11_1).f0) < ((rd_T62 l0 (ji11)).f0)) = true := decide_eq_true c14
        clear c14
        obtain rfl := Option.some.inj H
        have p175 : 0 ≤ (x11_1 : Int) := of_decide_eq_true (by first | (with_reducible assumption) | assumption)
        have q175 : x11_1 < (l0.length : Int) := of_decide_eq_true (by first | (with_reducible assumption) | assumption)
        obtain ⟨ad175, e175, hx175_0, hx175_1⟩ := at_T62 HR0.out x11_1 p175 q175
        cases e175
        replace hx175_0 := (HB.out.cell (World.block_lt_of_cell? w _ hx175_0)).trans hx175_0
        replace hx175_1 := (HB.out.cell (World.block_lt_of_cell? w _ hx175_1)).trans hx175_1
        replace p175 := eq_true p175
        replace q175 := eq_true q175
        have p176 : 0 ≤ ((ji11) : Int) := of_decide_eq_true (by first | (with_reducible assumption) | assumption)
        have q176 : (ji11) < (l0.length : Int) := of_decide_eq_true (by first | (with_reducible assumption) | assumption)
        obtain ⟨ad176, e176, hx176_0, hx176_1⟩ := at_T62 HR0.out (ji11) p176 q176
        obtain rfl : ad175 = ad176 := (by injection e176)
        replace hx176_0 := (HB.out.cell (World.block_lt_of_cell? w _ hx176_0)).trans hx176_0
        replace hx176_1 := (HB.out.cell (World.block_lt_of_cell? w _ hx176_1)).trans hx176_1
        replace p176 := eq_true p176
        replace q176 := eq_true q176
        go_wp2
        repeat (go_quiet (fail); try go_wp2)
        go_ret
        exact ⟨by first | rfl | (simp [errW_none, errW_some] <;> rfl) | (simp only [← hji11]; first | rfl | (simp [errW_none, errW_some] <;> rfl)) | (simp [*, errW_none, errW_some] <;> rfl), by repeat (first | (with_reducible first | exact HB.out | apply below_alloc | apply pw_below_drewN | apply below_drew1) | exact HB.out)⟩
       ·rw [if_neg c14] at H
        have c14b0 : decide (((rd_T62 l0 x11_1).f0) < ((rd_T62 l0 (ji11)).f0)) = false := decide_eq_false c14
        clear c14
        have H' := Aside0.mk H
        clear H
        have p175 : 0 ≤ (x11_1 : Int) := of_decide_eq_true (by first | (with_reducible assumption) | assumption)
        have q175 : x11_1 < (l0.length : Int) := of_decide_eq_true (by first | (with_reducible assumption) | assumption)
        obtain ⟨ad175, e175, hx175_0, hx175_1⟩ := at_T62 HR0.out x11_1 p175 q175
        cases e175
        replace hx175_0 := (HB.out.cell (World.block_lt_of_cell? w _ hx175_0)).trans hx175_0
        replace hx175_1 := (HB.out.cell (World.block_lt_of_cell? w _ hx175_1)).trans hx175_1
        replace p175 := eq_true p175
        replace q175 := eq_true q175
        have p176 : 0 ≤ ((ji11) : Int) := of_decide_eq_true (by first | (with_reducible assumption) | assumption)
        have q176 : (ji11) < (l0.length : Int) := of_decide_eq_true (by first | (with_reducible assumption) | assumption)
        obtain ⟨ad176, e176, hx176_0, hx176_1⟩ := at_T62 HR0.out (ji11) p176 q176
        obtain rfl : ad175 = ad176 := (by injection e176)
        replace hx176_0 := (HB.out.cell (World.block_lt_of_cell? w _ hx176_0)).trans hx176_0
        replace hx176_1 := (HB.out.cell (World.block_lt_of_cell? w _ hx176_1)).trans hx176_1
        replace p176 := eq_true p176
        replace q176 := eq_true q176
        go_wp2
        repeat (go_quiet (fail); try go_wp2)
        go_roundg k1
        case measure => have := HK1.out; omega
        case rel => exact ⟨(wrap64 (x11_1 + 1)), rf_, H', ⟨by have := HK1.out; omega⟩, bw_⟩
      ·rw [if_neg c8] at H
       have c8b0 : decide (0 < x11_1) = false := decide_eq_false c8
       clear c8
       have H' := Aside0.mk H
       clear H
       go_wp2
       repeat (go_quiet (fail); try go_wp2)
       go_roundg k1
       case measure => have := HK1.out; omega
       case rel => exact ⟨(wrap64 (x11_1 + 1)), rf_, H', ⟨by have := HK1.out; omega⟩, bw_⟩
     ·rw [if_neg c7] at H
      have c7b0 : decide (x11_1 < (l0.length : Int)) = false := decide_eq_false c7
      clear c7
      obtain rfl := Option.some.inj H
      go_wp2
      repeat (go_quiet (fail); try go_wp2)
      go_ret
      exact fi_

end Go.Proofs.Ytimhghmfhfggoaa.X
