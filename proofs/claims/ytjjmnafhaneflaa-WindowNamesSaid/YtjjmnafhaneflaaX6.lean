-- written by xprint.py, a program of this session over the kit's print
import Derived.Test.YtjjmnafhaneflaaX0
import Derived.Test.YtjjmnafhaneflaaX4
import Derived.Test.YtjjmnafhaneflaaX5
namespace Go.Proofs.Ytjjmnafhaneflaa.X
open Go.RowKit Go.Proofs.YtjjmnafhaneflaaW.PrintWords Go.Proofs.YtjjmnafhaneflaaW.PrintLast Go.Proofs.YtjjmnafhaneflaaW.PrintMore
attribute [local go_sem] max2_int min2_int max_two min_two max_three min_three max_four min_four   -- for this text's walks alone
set_option linter.unusedVariables false
set_option linter.unusedSimpArgs false

/-! ### window_Charges: function 23 -/
def window_Charges.l0 : Nat → List (S58) → Int → Int → Option (Int)
  | 0, _, _, _ => none
  | k + 1, x0, x10, x11 => if x11 < x10 then (if x11 > 0 then (if 0 ≤ x11 then (if x11 < (x0.length : Int) then (if 0 ≤ (wrap64 (x11 - 1)) then (if (wrap64 (x11 - 1)) < (x0.length : Int) then (if ((rd_T58 x0 x11).f0) < ((rd_T58 x0 (wrap64 (x11 - 1))).f0) then (some 32) else (window_Charges.l0 k x0 x10 (wrap64 (x11 + 1)))) else (none)) else (none)) else (none)) else (none)) else (window_Charges.l0 k x0 x10 (wrap64 (x11 + 1)))) else (some 0)
def window_Charges.f (k : Nat) (l0 : List (S58)) : Option (Int) := if (l0.length : Int) > 60 then (some 4) else ((slices_ContainsFunc_api_Charge_c40.f k l0 0).bind fun t106 => (if t106 = true then (some 8) else (window_Charges.l0 k l0 (l0.length : Int) 0)))
theorem window_Charges.mono_l : ∀ k, (∀ y0 y1 y2, LeO (window_Charges.l0 k y0 y1 y2) (window_Charges.l0 (k + 1) y0 y1 y2))
  | 0 => fun _ _ _ r h => by simp [window_Charges.l0] at h
  | k + 1 => by
    have ih0 := window_Charges.mono_l k
    · intro y0 y1 y2
      unfold window_Charges.l0
      repeat' first
      | (with_reducible exact ih0 _ _ _)
      | (with_reducible exact slices_ContainsFunc_api_Charge_c40.mono _ _ _)
      | (with_reducible exact LeO.refl _)
      | (with_reducible exact LeO.none _)
      | (with_reducible refine LeO.ite ?_ ?_)
      | (with_reducible refine LeO.bind ?_ (fun _ => ?_))
      | exact ih0 _ _ _
      | exact slices_ContainsFunc_api_Charge_c40.mono _ _ _
      | exact LeO.none _
      | refine LeO.ite ?_ ?_
      | refine LeO.bind ?_ (fun _ => ?_)
theorem window_Charges.mono : ∀ a0 k, LeO (window_Charges.f k a0) (window_Charges.f (k + 1) a0) := by
  intro a0 k
  have ih0 := window_Charges.mono_l k
  unfold window_Charges.f
  repeat' first
      | (with_reducible exact ih0 _ _ _)
      | (with_reducible exact slices_ContainsFunc_api_Charge_c40.mono _ _ _)
      | (with_reducible exact LeO.refl _)
      | (with_reducible exact LeO.none _)
      | (with_reducible refine LeO.ite ?_ ?_)
      | (with_reducible refine LeO.bind ?_ (fun _ => ?_))
      | exact ih0 _ _ _
      | exact slices_ContainsFunc_api_Charge_c40.mono _ _ _
      | exact LeO.none _
      | refine LeO.ite ?_ ?_
      | refine LeO.bind ?_ (fun _ => ?_)
set_option maxHeartbeats 8000000 in
set_option maxRecDepth 100000 in
theorem window_Charges.calls (k : Nat) (A0 : Option Addr) (c0 : Nat) (l0 : List (S58)) (r : Int) (w : World) (hr0 : Kd.C k58 w A0 l0.length l0) (hc0 : l0.length ≤ c0) (h : window_Charges.f k l0 = some r) :
  Calls Try.prog 23 #[.slice A0 l0.length c0] w fun e w' => e = .returned (.int .i64 r) ∧ Below w.heap.size w w' := by
 have HR0 := Aside0.mk hr0
 have HC0 := Aside0.mk hc0
 clear hr0 hc0
 have HB := Aside0.mk (Below.refl w.heap.size w)
 have H : (if (l0.length : Int) > 60 then (some 4) else ((slices_ContainsFunc_api_Charge_c40.f k l0 0).bind fun t106 => (if t106 = true then (some 8) else (window_Charges.l0 k l0 (l0.length : Int) 0)))) = some r := h
 clear h
 by_cases c2 : (l0.length : Int) > 60
 ·rw [if_pos c2] at H
  have c2b0 : decide (60 < (l0.length : Int)) = true := decide_eq_true c2
  have c2b1 : decide (60 < l0.length) = true := decide_eq_true (by omega)
  clear c2
  obtain rfl := Option.some.inj H
  go_enter Try.func23, Try.ntmps23
  go_wp2
  repeat (go_quiet (fail); try go_wp2)
  go_ret
  exact fi_
 ·rw [if_neg c2] at H
  have c2b0 : decide (60 < (l0.length : Int)) = false := decide_eq_false c2
  have c2b1 : decide (60 < l0.length) = false := decide_eq_false (by omega)
  clear c2
  obtain ⟨t106, A3, H⟩ := bo_ H
  replace H : (if t106 = true then (some 8) else (window_Charges.l0 k l0 (l0.length : Int) 0)) = some r := H
  by_cases c4 : t106 = true
  ·subst c4
   replace H : (some 8) = some r := by rw [if_pos rfl] at H; exact H
   obtain rfl := Option.some.inj H
   go_enter Try.func23, Try.ntmps23
   go_wp2_with (first | (go_at_call 39; (with_reducible refine (slices_ContainsFunc_api_Charge_c40.calls k _ _ l0 0 true _ ?side1 ?side2 A3.out).mono ?_); (case side1 => exact ch_ HR0); (case side2 => exact HC0.out); rintro e w5 ⟨rfl, hb⟩; replace HB := bs_ w hb; clear hb))
   repeat (go_quiet (first | (go_at_call 39; (with_reducible refine (slices_ContainsFunc_api_Charge_c40.calls k _ _ l0 0 true _ ?side1 ?side2 A3.out).mono ?_); (case side1 => exact ch_ HR0); (case side2 => exact HC0.out); rintro e w5 ⟨rfl, hb⟩; replace HB := bs_ w hb; clear hb)); try go_wp2_with (first | (go_at_call 39; (with_reducible refine (slices_ContainsFunc_api_Charge_c40.calls k _ _ l0 0 true _ ?side1 ?side2 A3.out).mono ?_); (case side1 => exact ch_ HR0); (case side2 => exact HC0.out); rintro e w5 ⟨rfl, hb⟩; replace HB := bs_ w hb; clear hb)))
   go_ret
   exact fi_
  ·replace c4 := Bool.eq_false_iff.mpr c4
   subst c4
   replace H : (window_Charges.l0 k l0 (l0.length : Int) 0) = some r := by rw [if_neg (show ¬ (false = true) by decide)] at H; exact H
   have H' := Aside0.mk H
   clear H
   go_enter Try.func23, Try.ntmps23
   go_wp2_with (first | (go_at_call 39; (with_reducible refine (slices_ContainsFunc_api_Charge_c40.calls k _ _ l0 0 false _ ?side1 ?side2 A3.out).mono ?_); (case side1 => exact ch_ HR0); (case side2 => exact HC0.out); rintro e w6 ⟨rfl, hb⟩; replace HB := bs_ w hb; clear hb))
   repeat (go_quiet (first | (go_at_call 39; (with_reducible refine (slices_ContainsFunc_api_Charge_c40.calls k _ _ l0 0 false _ ?side1 ?side2 A3.out).mono ?_); (case side1 => exact ch_ HR0); (case side2 => exact HC0.out); rintro e w6 ⟨rfl, hb⟩; replace HB := bs_ w hb; clear hb)); try go_wp2_with (first | (go_at_call 39; (with_reducible refine (slices_ContainsFunc_api_Charge_c40.calls k _ _ l0 0 false _ ?side1 ?side2 A3.out).mono ?_); (case side1 => exact ch_ HR0); (case side2 => exact HC0.out); rintro e w6 ⟨rfl, hb⟩; replace HB := bs_ w hb; clear hb)))
   go_loopg [11] k (fun kq v11 w' => ∃ (x11_1 : Int), v11 = .int .i64 x11_1 ∧ Aside0 (window_Charges.l0 kq l0 (l0.length : Int) x11_1 = some r) ∧ Aside0 (kq ≤ k) ∧ Aside0 (Below w.heap.size w w'))
   case atStart => exact ⟨(0), rf_, H', ⟨Nat.le_refl _⟩, bw_⟩
   case round =>
    clear H'
    try clear c2
    try clear c2b0
    try clear c2b1
    try clear c4
    obtain ⟨x11_1, rfl, HA, HK1, HB⟩ := hrel
    cases gk with
    | zero => exact absurd HA.out (by simp [window_Charges.l0])
    | succ k1 =>
     have H := HA.out
     clear HA
     simp only [window_Charges.l0] at H
     by_cases c7 : x11_1 < (l0.length : Int)
     ·rw [if_pos c7] at H
      have c7b0 : decide (x11_1 < (l0.length : Int)) = true := decide_eq_true c7
      clear c7
      by_cases c8 : x11_1 > 0
      ·rw [if_pos c8] at H
       have c8b0 : decide (0 < x11_1) = true := decide_eq_true c8
       clear c8
       by_cases c9 : 0 ≤ x11_1
       rotate_left
       ·rw [if_neg c9] at H; exact absurd H (by simp)
       rw [if_pos c9] at H
       have c9b0 : decide (0 ≤ x11_1) = true := decide_eq_true c9
       clear c9
       by_cases c10 : x11_1 < (l0.length : Int)
       rotate_left
       ·rw [if_neg c10] at H; exact absurd H (by simp)
       rw [if_pos c10] at H
       have c10b0 : decide (x11_1 < (l0.length : Int)) = true := decide_eq_true c10
       clear c10
       obtain ⟨ji11, hji11⟩ : ∃ j_ : Int, (wrap64 (x11_1 - 1)) = j_ := ⟨_, rfl⟩
       replace H : (if 0 ≤ (ji11) then (if (ji11) < (l0.length : Int) then (if ((rd_T58 l0 x11_1).f0) < ((rd_T58 l0 (ji11)).f0) then (some 32) else (window_Charges.l0 k1 l0 (l0.length : Int) (wrap64 (x11_1 + 1)))) else (none)) else (none)) = some r := by first | (rw [hji11] at H; exact H) | (simp only [hji11] at H ⊢; exact H)
       have hji11w : (IntKind.i64.wrap (x11_1 - 1)) = ji11 := (i64_w _).trans hji11
       by_cases c12 : 0 ≤ (ji11)
       rotate_left
       ·rw [if_neg c12] at H; exact absurd H (by simp)
       rw [if_pos c12] at H
       have c12b0 : decide (0 ≤ (ji11)) = true := decide_eq_true c12
       clear c12
       by_cases c13 : (ji11) < (l0.length : Int)
       rotate_left
       ·rw [if_neg c13] at H; exact absurd H (by simp)
       rw [if_pos c13] at H
       have c13b0 : decide ((ji11) < (l0.length : Int)) = true := decide_eq_true c13
       clear c13
       by_cases c14 : ((rd_T58 l0 x11_1).f0) < ((rd_T58 l0 (ji11)).f0)
       ·rw [if_pos c14] at H
        have c14b0 : decide (((rd_T58 l0 x11_1).f0) < ((rd_T58 l0 (ji11)).f0)) = true := decide_eq_true c14
        clear c14
        obtain rfl := Option.some.inj H
        have p107 : 0 ≤ (x11_1 : Int) := of_decide_eq_true (by first | (with_reducible assumption) | assumption)
        have q107 : x11_1 < (l0.length : Int) := of_decide_eq_true (by first | (with_reducible assumption) | assumption)
        obtain ⟨ad107, e107, hx107_0, hx107_1⟩ := at_T58 HR0.out x11_1 p107 q107
        cases e107
        replace hx107_0 := (HB.out.cell (World.block_lt_of_cell? w _ hx107_0)).trans hx107_0
        replace hx107_1 := (HB.out.cell (World.block_lt_of_cell? w _ hx107_1)).trans hx107_1
        replace p107 := eq_true p107
        replace q107 := eq_true q107
        have p108 : 0 ≤ ((ji11) : Int) := of_decide_eq_true (by first | (with_reducible assumption) | assumption)
        have q108 : (ji11) < (l0.length : Int) := of_decide_eq_true (by first | (with_reducible assumption) | assumption)
        obtain ⟨ad108, e108, hx108_0, hx108_1⟩ := at_T58 HR0.out (ji11) p108 q108
        obtain rfl : ad107 = ad108 := (by injection e108)
        replace hx108_0 := (HB.out.cell (World.block_lt_of_cell? w _ hx108_0)).trans hx108_0
        replace hx108_1 := (HB.out.cell (World.block_lt_of_cell? w _ hx108_1)).trans hx108_1
        replace p108 := eq_true p108
        replace q108 := eq_true q108
        go_wp2
        repeat (go_quiet (fail); try go_wp2)
        go_ret
        exact ⟨by first | rfl | (simp [errW_none, errW_some] <;> rfl) | (simp only [← hji11]; first | rfl | (simp [errW_none, errW_some] <;> rfl)) | (simp [*, errW_none, errW_some] <;> rfl), by repeat (first | (with_reducible first | exact HB.out | apply below_alloc | apply pw_below_drewN | apply below_drew1) | exact HB.out)⟩
       ·rw [if_neg c14] at H
        have c14b0 : decide (((rd_T58 l0 x11_1).f0) < ((rd_T58 l0 (ji11)).f0)) = false := decide_eq_false c14
        clear c14
        have H' := Aside0.mk H
        clear H
        have p107 : 0 ≤ (x11_1 : Int) := of_decide_eq_true (by first | (with_reducible assumption) | assumption)
        have q107 : x11_1 < (l0.length : Int) := of_decide_eq_true (by first | (with_reducible assumption) | assumption)
        obtain ⟨ad107, e107, hx107_0, hx107_1⟩ := at_T58 HR0.out x11_1 p107 q107
        cases e107
        replace hx107_0 := (HB.out.cell (World.block_lt_of_cell? w _ hx107_0)).trans hx107_0
        replace hx107_1 := (HB.out.cell (World.block_lt_of_cell? w _ hx107_1)).trans hx107_1
        replace p107 := eq_true p107
        replace q107 := eq_true q107
        have p108 : 0 ≤ ((ji11) : Int) := of_decide_eq_true (by first | (with_reducible assumption) | assumption)
        have q108 : (ji11) < (l0.length : Int) := of_decide_eq_true (by first | (with_reducible assumption) | assumption)
        obtain ⟨ad108, e108, hx108_0, hx108_1⟩ := at_T58 HR0.out (ji11) p108 q108
        obtain rfl : ad107 = ad108 := (by injection e108)
        replace hx108_0 := (HB.out.cell (World.block_lt_of_cell? w _ hx108_0)).trans hx108_0
        replace hx108_1 := (HB.out.cell (World.block_lt_of_cell? w _ hx108_1)).trans hx108_1
        replace p108 := eq_true p108
        replace q108 := eq_true q108
        go_wp2
        repeat (go_quiet (fail); try go_wp2)
        go_roundg k1
        case measure => have := HK1.out; omega
        case rel => exact ⟨(wrap64 (x11_1 + 1)), rf_, H', ⟨by have := HK1.out; omega⟩, bw_⟩
      ·rw [if_neg c8] at H
       have c8b0 : decide (0 < x11_1) = false := decide_eq_false c8
       clear c8
       have H' := Aside0.mk H
       clear H
       go_wp2
       repeat (go_quiet (fail); try go_wp2)
       go_roundg k1
       case measure => have := HK1.out; omega
       case rel => exact ⟨(wrap64 (x11_1 + 1)), rf_, H', ⟨by have := HK1.out; omega⟩, bw_⟩
     ·rw [if_neg c7] at H
      have c7b0 : decide (x11_1 < (l0.length : Int)) = false := decide_eq_false c7
      clear c7
      obtain rfl := Option.some.inj H
      go_wp2
      repeat (go_quiet (fail); try go_wp2)
      go_ret
      exact fi_

/-! ### window_both: function 29 -/
def window_both.f (k : Nat) (a0_0 : Int) (a0_1 : Int) (l1 : List (S58)) : Option (Int) := (window_Check.f a0_0 a0_1).bind fun t110 => (if t110 = 0 then ((window_Charges.f k l1).bind fun t111 => (some t111)) else (some t110))
theorem window_both.mono : ∀ a0 a1 a2 k, LeO (window_both.f k a0 a1 a2) (window_both.f (k + 1) a0 a1 a2) := by
  intro a0 a1 a2 k
  unfold window_both.f
  repeat' first
      | (with_reducible exact window_Charges.mono _ _)
      | (with_reducible exact LeO.refl _)
      | (with_reducible exact LeO.none _)
      | (with_reducible refine LeO.ite ?_ ?_)
      | (with_reducible refine LeO.bind ?_ (fun _ => ?_))
      | exact window_Charges.mono _ _
      | exact LeO.none _
      | refine LeO.ite ?_ ?_
      | refine LeO.bind ?_ (fun _ => ?_)
set_option maxHeartbeats 8000000 in
set_option maxRecDepth 100000 in
theorem window_both.calls (k : Nat) (a0_0 : Int) (a0_1 : Int) (A1 : Option Addr) (c1 : Nat) (l1 : List (S58)) (r : Int) (w : World) (hr1 : Kd.C k58 w A1 l1.length l1) (hc1 : l1.length ≤ c1) (h : window_both.f k a0_0 a0_1 l1 = some r) :
  Calls Try.prog 29 #[.agg #[.int .i64 a0_0, .int .i64 a0_1], .slice A1 l1.length c1] w fun e w' => e = .returned (.int .i64 r) ∧ Below w.heap.size w w' := by
 have hu23 := Try.underlying23
 have HR1 := Aside0.mk hr1
 have HC1 := Aside0.mk hc1
 clear hr1 hc1
 have HB := Aside0.mk (Below.refl w.heap.size w)
 have H : ((window_Check.f a0_0 a0_1).bind fun t110 => (if t110 = 0 then ((window_Charges.f k l1).bind fun t111 => (some t111)) else (some t110))) = some r := h
 clear h
 obtain ⟨t110, A3, H⟩ := bo_ H
 replace H : (if t110 = 0 then ((window_Charges.f k l1).bind fun t111 => (some t111)) else (some t110)) = some r := H
 by_cases c4 : t110 = 0
 ·rw [if_pos c4] at H
  have c4b0 : (t110 == 0) = true := beq_iff_eq.mpr c4
  have c4b1 : (t110 != 0) = false := bne_eq_false_iff_eq.mpr c4
  clear c4
  obtain ⟨t111, A5, H⟩ := bo_ H
  replace H : (some t111) = some r := H
  obtain rfl := Option.some.inj H
  go_enter Try.func29, Try.ntmps29
  go_wp2_with (first | ((with_reducible refine gate_dst (N := 2) rfl ?_); refine bx_ #[.int .i64 a0_0, .int .i64 a0_1] 23 ?_; intro gb109 hg w6 BK109 hb; have GW109 := bz_ w hg; have GE109 := GW109; replace HB := bs_ w hb; clear hb hg; replace hc109 := ce2_ BK109) | ((with_reducible refine gate_callee (f := 21) rfl ?_); refine goesA_ (some 7) Try.func21 #[.agg #[.int .i64 a0_0, .int .i64 a0_1]] ?_; (with_reducible refine (window_Check.calls a0_0 a0_1 t110 _ A3.out).mono ?_); rintro e w8 ⟨rfl, hb⟩; refine ⟨_, rfl, ?_⟩; replace BK109 := bb_ BK109 hb; replace HB := bs_ w hb; clear hb) | ((with_reducible refine gate_callee (f := 23) rfl ?_); refine goesA_ (some 12) Try.func23 #[.slice A1 l1.length c1] ?_; (with_reducible refine (window_Charges.calls k _ _ l1 t111 _ ?side1 ?side2 A5.out).mono ?_); (case side1 => exact cs_ HR1 HB); (case side2 => exact HC1.out); rintro e w9 ⟨rfl, hb⟩; refine ⟨_, rfl, ?_⟩; replace BK109 := bb_ BK109 hb; replace HB := bs_ w hb; clear hb))
  go_ret
  exact fi_
 ·rw [if_neg c4] at H
  have c4b0 : (t110 == 0) = false := beq_eq_false_iff_ne.mpr c4
  have c4b1 : (t110 != 0) = true := bne_iff_ne.mpr c4
  obtain rfl := Option.some.inj H
  go_enter Try.func29, Try.ntmps29
  go_wp2_with (first | ((with_reducible refine gate_dst (N := 2) rfl ?_); refine bx_ #[.int .i64 a0_0, .int .i64 a0_1] 23 ?_; intro gb109 hg w10 BK109 hb; have GW109 := bz_ w hg; have GE109 := GW109; replace HB := bs_ w hb; clear hb hg; replace hc109 := ce2_ BK109) | ((with_reducible refine gate_callee (f := 21) rfl ?_); refine goesA_ (some 7) Try.func21 #[.agg #[.int .i64 a0_0, .int .i64 a0_1]] ?_; (with_reducible refine (window_Check.calls a0_0 a0_1 t110 _ A3.out).mono ?_); rintro e w12 ⟨rfl, hb⟩; refine ⟨_, rfl, ?_⟩; replace BK109 := bb_ BK109 hb; replace HB := bs_ w hb; clear hb))
  go_ret
  exact fi_

end Go.Proofs.Ytjjmnafhaneflaa.X
