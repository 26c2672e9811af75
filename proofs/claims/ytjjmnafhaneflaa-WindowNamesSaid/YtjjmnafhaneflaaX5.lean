-- written by xprint.py, a program of this session over the kit's print
import Derived.Test.YtjjmnafhaneflaaX0
import Derived.Test.YtjjmnafhaneflaaX4
namespace Go.Proofs.Ytjjmnafhaneflaa.X
open Go.RowKit Go.Proofs.YtjjmnafhaneflaaW.PrintWords Go.Proofs.YtjjmnafhaneflaaW.PrintLast Go.Proofs.YtjjmnafhaneflaaW.PrintMore
attribute [local go_sem] max2_int min2_int max_two min_two max_three min_three max_four min_four   -- for this text's walks alone
set_option linter.unusedVariables false
set_option linter.unusedSimpArgs false

/-! ### slices_IndexFunc_api_Charge_c40: function 46 -/
def slices_IndexFunc_api_Charge_c40.l0 : Nat → List (S58) → Int → Int → Option (Int)
  | 0, _, _, _ => none
  | k + 1, x0, x7, x8 => if x8 < x7 then (if 0 ≤ x8 then (if x8 < (x0.length : Int) then ((window_Charges_1.f ((rd_T58 x0 x8).f0) ((rd_T58 x0 x8).f1)).bind fun t104 => (if t104 = true then (some x8) else (slices_IndexFunc_api_Charge_c40.l0 k x0 x7 (wrap64 (x8 + 1))))) else (none)) else (none)) else (some (-1))
def slices_IndexFunc_api_Charge_c40.f (k : Nat) (l0 : List (S58)) (a1 : Int) : Option (Int) := slices_IndexFunc_api_Charge_c40.l0 k l0 (l0.length : Int) 0
theorem slices_IndexFunc_api_Charge_c40.mono_l : ∀ k, (∀ y0 y1 y2, LeO (slices_IndexFunc_api_Charge_c40.l0 k y0 y1 y2) (slices_IndexFunc_api_Charge_c40.l0 (k + 1) y0 y1 y2))
  | 0 => fun _ _ _ r h => by simp [slices_IndexFunc_api_Charge_c40.l0] at h
  | k + 1 => by
    have ih0 := slices_IndexFunc_api_Charge_c40.mono_l k
    · intro y0 y1 y2
      unfold slices_IndexFunc_api_Charge_c40.l0
      repeat' first
      | (with_reducible exact ih0 _ _ _)
      | (with_reducible exact LeO.refl _)
      | (with_reducible exact LeO.none _)
      | (with_reducible refine LeO.ite ?_ ?_)
      | (with_reducible refine LeO.bind ?_ (fun _ => ?_))
      | exact ih0 _ _ _
      | exact LeO.none _
      | refine LeO.ite ?_ ?_
      | refine LeO.bind ?_ (fun _ => ?_)
theorem slices_IndexFunc_api_Charge_c40.mono : ∀ a0 a1 k, LeO (slices_IndexFunc_api_Charge_c40.f k a0 a1) (slices_IndexFunc_api_Charge_c40.f (k + 1) a0 a1) := by
  intro a0 a1 k
  have ih0 := slices_IndexFunc_api_Charge_c40.mono_l k
  unfold slices_IndexFunc_api_Charge_c40.f
  repeat' first
      | (with_reducible exact ih0 _ _ _)
      | (with_reducible exact LeO.refl _)
      | (with_reducible exact LeO.none _)
      | (with_reducible refine LeO.ite ?_ ?_)
      | (with_reducible refine LeO.bind ?_ (fun _ => ?_))
      | exact ih0 _ _ _
      | exact LeO.none _
      | refine LeO.ite ?_ ?_
      | refine LeO.bind ?_ (fun _ => ?_)
set_option maxHeartbeats 8000000 in
set_option maxRecDepth 100000 in
theorem slices_IndexFunc_api_Charge_c40.calls (k : Nat) (A0 : Option Addr) (c0 : Nat) (l0 : List (S58)) (a1 : Int) (r : Int) (w : World) (hr0 : Kd.C k58 w A0 l0.length l0) (hc0 : l0.length ≤ c0) (h : slices_IndexFunc_api_Charge_c40.f k l0 a1 = some r) :
  Calls Try.prog 46 #[.slice A0 l0.length c0, .func (.func 40) #[] #[]] w fun e w' => e = .returned (.int .i64 r) ∧ Below w.heap.size w w' := by
 have hu58 := Try.underlying58
 have HR0 := Aside0.mk hr0
 have HC0 := Aside0.mk hc0
 clear hr0 hc0
 have HB := Aside0.mk (Below.refl w.heap.size w)
 have H : (slices_IndexFunc_api_Charge_c40.l0 k l0 (l0.length : Int) 0) = some r := h
 clear h
 have H' := Aside0.mk H
 clear H
 go_enter Try.func46, Try.ntmps46
 go_wp2
 go_loopg [8] k (fun kq v8 w' => ∃ (x8_1 : Int), v8 = .int .i64 x8_1 ∧ Aside0 (slices_IndexFunc_api_Charge_c40.l0 kq l0 (l0.length : Int) x8_1 = some r) ∧ Aside0 (kq ≤ k) ∧ Aside0 (Below w.heap.size w w'))
 case atStart => exact ⟨(0), rf_, H', ⟨Nat.le_refl _⟩, bw_⟩
 case round =>
  clear H'
  obtain ⟨x8_1, rfl, HA, HK1, HB⟩ := hrel
  cases gk with
  | zero => exact absurd HA.out (by simp [slices_IndexFunc_api_Charge_c40.l0])
  | succ k1 =>
   have H := HA.out
   clear HA
   simp only [slices_IndexFunc_api_Charge_c40.l0] at H
   by_cases c3 : x8_1 < (l0.length : Int)
   ·rw [if_pos c3] at H
    have c3b0 : decide (x8_1 < (l0.length : Int)) = true := decide_eq_true c3
    clear c3
    by_cases c4 : 0 ≤ x8_1
    rotate_left
    ·rw [if_neg c4] at H; exact absurd H (by simp)
    rw [if_pos c4] at H
    have c4b0 : decide (0 ≤ x8_1) = true := decide_eq_true c4
    clear c4
    by_cases c5 : x8_1 < (l0.length : Int)
    rotate_left
    ·rw [if_neg c5] at H; exact absurd H (by simp)
    rw [if_pos c5] at H
    have c5b0 : decide (x8_1 < (l0.length : Int)) = true := decide_eq_true c5
    clear c5
    obtain ⟨t104, A6, H⟩ := bo_ H
    replace H : (if t104 = true then (some x8_1) else (slices_IndexFunc_api_Charge_c40.l0 k1 l0 (l0.length : Int) (wrap64 (x8_1 + 1)))) = some r := H
    by_cases c7 : t104 = true
    ·subst c7
     replace H : (some x8_1) = some r := by rw [if_pos rfl] at H; exact H
     obtain rfl := Option.some.inj H
     have p103 : 0 ≤ (x8_1 : Int) := of_decide_eq_true (by first | (with_reducible assumption) | assumption)
     have q103 : x8_1 < (l0.length : Int) := of_decide_eq_true (by first | (with_reducible assumption) | assumption)
     obtain ⟨ad103, e103, hx103_0, hx103_1⟩ := at_T58 HR0.out x8_1 p103 q103
     cases e103
     replace hx103_0 := (HB.out.cell (World.block_lt_of_cell? w _ hx103_0)).trans hx103_0
     replace hx103_1 := (HB.out.cell (World.block_lt_of_cell? w _ hx103_1)).trans hx103_1
     replace p103 := eq_true p103
     replace q103 := eq_true q103
     go_wp2_with (first | ((with_reducible refine gate_calleeT (f := 40) rfl ?_); refine goesLT_ (some 16) rfl rfl Try.func40 (by kernel_rfl) rfl #[.agg #[.int .u64 ((rd_T58 l0 x8_1).f0), .int .i64 ((rd_T58 l0 x8_1).f1)]] rfl rfl (by (try simp only [List.map_toArray, List.map_cons, List.map_nil]); first | done | rfl | (simp only [List.length_drop, List.length_take]; rfl)) ?_; (with_reducible refine (window_Charges_1.calls ((rd_T58 l0 x8_1).f0) ((rd_T58 l0 x8_1).f1) true _ A6.out).mono ?_); rintro e w8 ⟨rfl, hb⟩; refine ⟨_, rfl, ?_⟩; replace HB := bs_ w hb; clear hb))
     go_ret
     exact fi_
    ·replace c7 := Bool.eq_false_iff.mpr c7
     subst c7
     rw [if_neg (show ¬ (false = true) by decide)] at H
     try dsimp only at H
     have H' := Aside0.mk H
     clear H
     have p103 : 0 ≤ (x8_1 : Int) := of_decide_eq_true (by first | (with_reducible assumption) | assumption)
     have q103 : x8_1 < (l0.length : Int) := of_decide_eq_true (by first | (with_reducible assumption) | assumption)
     obtain ⟨ad103, e103, hx103_0, hx103_1⟩ := at_T58 HR0.out x8_1 p103 q103
     cases e103
     replace hx103_0 := (HB.out.cell (World.block_lt_of_cell? w _ hx103_0)).trans hx103_0
     replace hx103_1 := (HB.out.cell (World.block_lt_of_cell? w _ hx103_1)).trans hx103_1
     replace p103 := eq_true p103
     replace q103 := eq_true q103
     go_wp2_with (first | ((with_reducible refine gate_calleeT (f := 40) rfl ?_); refine goesLT_ (some 16) rfl rfl Try.func40 (by kernel_rfl) rfl #[.agg #[.int .u64 ((rd_T58 l0 x8_1).f0), .int .i64 ((rd_T58 l0 x8_1).f1)]] rfl rfl (by (try simp only [List.map_toArray, List.map_cons, List.map_nil]); first | done | rfl | (simp only [List.length_drop, List.length_take]; rfl)) ?_; (with_reducible refine (window_Charges_1.calls ((rd_T58 l0 x8_1).f0) ((rd_T58 l0 x8_1).f1) false _ A6.out).mono ?_); rintro e w9 ⟨rfl, hb⟩; refine ⟨_, rfl, ?_⟩; replace HB := bs_ w hb; clear hb))
     go_roundg k1
     case measure => have := HK1.out; omega
     case rel => exact ⟨(wrap64 (x8_1 + 1)), rf_, H', ⟨by have := HK1.out; omega⟩, bw_⟩
   ·rw [if_neg c3] at H
    have c3b0 : decide (x8_1 < (l0.length : Int)) = false := decide_eq_false c3
    clear c3
    obtain rfl := Option.some.inj H
    go_wp2
    go_ret
    exact fi_

/-! ### slices_ContainsFunc_api_Charge_c40: function 39 -/
def slices_ContainsFunc_api_Charge_c40.f (k : Nat) (l0 : List (S58)) (a1 : Int) : Option (Bool) := (slices_IndexFunc_api_Charge_c40.f k l0 a1).bind fun t105 => (some (decide (t105 ≥ 0)))
theorem slices_ContainsFunc_api_Charge_c40.mono : ∀ a0 a1 k, LeO (slices_ContainsFunc_api_Charge_c40.f k a0 a1) (slices_ContainsFunc_api_Charge_c40.f (k + 1) a0 a1) := by
  intro a0 a1 k
  unfold slices_ContainsFunc_api_Charge_c40.f
  repeat' first
      | (with_reducible exact slices_IndexFunc_api_Charge_c40.mono _ _ _)
      | (with_reducible exact LeO.refl _)
      | (with_reducible exact LeO.none _)
      | (with_reducible refine LeO.ite ?_ ?_)
      | (with_reducible refine LeO.bind ?_ (fun _ => ?_))
      | exact slices_IndexFunc_api_Charge_c40.mono _ _ _
      | exact LeO.none _
      | refine LeO.ite ?_ ?_
      | refine LeO.bind ?_ (fun _ => ?_)
set_option maxHeartbeats 8000000 in
set_option maxRecDepth 100000 in
theorem slices_ContainsFunc_api_Charge_c40.calls (k : Nat) (A0 : Option Addr) (c0 : Nat) (l0 : List (S58)) (a1 : Int) (r : Bool) (w : World) (hr0 : Kd.C k58 w A0 l0.length l0) (hc0 : l0.length ≤ c0) (h : slices_ContainsFunc_api_Charge_c40.f k l0 a1 = some r) :
  Calls Try.prog 39 #[.slice A0 l0.length c0, .func (.func 40) #[] #[]] w fun e w' => e = .returned (.bool r) ∧ Below w.heap.size w w' := by
 have HR0 := Aside0.mk hr0
 have HC0 := Aside0.mk hc0
 clear hr0 hc0
 have HB := Aside0.mk (Below.refl w.heap.size w)
 have H : ((slices_IndexFunc_api_Charge_c40.f k l0 a1).bind fun t105 => (some (decide (t105 ≥ 0)))) = some r := h
 clear h
 obtain ⟨t105, A3, H⟩ := bo_ H
 replace H : (some (decide (t105 ≥ 0))) = some r := H
 obtain rfl := Option.some.inj H
 go_enter Try.func39, Try.ntmps39
 go_wp2_with (first | ((with_reducible refine gate_callee (f := 46) rfl ?_); refine goesA_ (some 7) Try.func46 #[.slice A0 l0.length c0, .func (.func 40) #[] #[]] ?_; (with_reducible refine (slices_IndexFunc_api_Charge_c40.calls k _ _ l0 a1 t105 _ ?side1 ?side2 A3.out).mono ?_); (case side1 => exact ch_ HR0); (case side2 => exact HC0.out); rintro e w4 ⟨rfl, hb⟩; refine ⟨_, rfl, ?_⟩; replace HB := bs_ w hb; clear hb))
 go_ret
 exact fi_

end Go.Proofs.Ytjjmnafhaneflaa.X
