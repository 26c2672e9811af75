-- written by xprint.py, a program of this session over the kit's print
import Derived.Test.YtaegpnbgppjicaaX0
import Derived.Test.YtaegpnbgppjicaaX14
import Derived.Test.YtaegpnbgppjicaaX16
import Derived.Test.YtaegpnbgppjicaaX24
import Derived.Test.YtaegpnbgppjicaaX25
import Derived.Test.YtaegpnbgppjicaaX27
import Derived.Test.YtaegpnbgppjicaaX30
import Derived.Test.YtaegpnbgppjicaaX31
namespace Go.Proofs.Ytaegpnbgppjicaa.X
open Go.RowKit Go.Proofs.YtaegpnbgppjicaaW.PrintWords Go.Proofs.YtaegpnbgppjicaaW.PrintLast Go.Proofs.YtaegpnbgppjicaaW.PrintMore
attribute [local go_sem] max2_int min2_int max_two min_two max_three min_three max_four min_four   -- for this text's walks alone
set_option linter.unusedVariables false
set_option linter.unusedSimpArgs false

/-! ### spigotlaw04_LevelsParts: function 6 -/
mutual
def spigotlaw04_LevelsParts.j0 : Nat → List (S37) → List Int → List Int → Int → Bool → Option (Bool)
  | 0, _, _, _, _, _ => none
  | k + 1, x0, x1, x2, x3, x46 => if x46 = true then ((spigotlaw04_alive.f k).bind fun t484 => (some t484)) else ((levels_Run.f k x0 x1 x2).bind fun bt485 => (if 0 ≤ x3 then (if x3 ≤ (x1.length : Int) then (if x3 ≤ (x2.length : Int) then ((levels_Run.f k x0 (x1.take (x3 : Int).toNat) (x2.take (x3 : Int).toNat)).bind fun bt494 => ((levels_Run.f k bt494.1 (x1.drop (x3 : Int).toNat) (x2.drop (x3 : Int).toNat)).bind fun bt503 => (if bt485.2.2 = 0 then (if bt494.2.2 = 0 then (if bt503.2.2 = 0 then ((spigotref04_Same.f k bt485.1 bt503.1).bind fun t510 => (if t510 = true then ((some (([] : List Bool) : List Bool)).bind fun y511 => (if y511.length + bt494.2.1.length < 140737488355328 then ((some (y511 ++ bt494.2.1 : List Bool)).bind fun y514 => (if y514.length + bt503.2.1.length < 140737488355328 then ((spigotref04_SameBools.f k bt485.2.1 (y514 ++ bt503.2.1)).bind fun t520 => (if t520 = true then (if (bt485.2.1.length : Int) = (x1.length : Int) then (spigotlaw04_LevelsParts.l0 k x1 x2 bt485.1 bt485.2.1 x0 0) else (none)) else (none))) else (none))) else (none))) else (none))) else (none)) else (none)) else (none)))) else (none)) else (none)) else (none)))
def spigotlaw04_LevelsParts.l0 : Nat → List Int → List Int → List (S37) → List Bool → List (S37) → Int → Option (Bool)
  | 0, _, _, _, _, _, _ => none
  | k + 1, x1, x2, x9, x10, x18, x19 => if x19 < (x1.length : Int) then (if 0 ≤ x19 then (if x19 < (x2.length : Int) then ((levels_Take.f k x18 (rd x1 x19) (rd x2 x19)).bind fun bt523 => (if bt523.2.2 = 0 then (if x19 < (x10.length : Int) then (if (bt523.2.1 != (rdOf false x10 x19)) = true then (none) else (spigotlaw04_LevelsParts.l0 k x1 x2 x9 x10 bt523.1 (wrap64 (x19 + 1)))) else (none)) else (none))) else (none)) else (none)) else ((spigotref04_Same.f k x18 x9).bind fun t529 => (if t529 = true then ((spigotlaw04_alive.f k).bind fun t530 => (some t530)) else (none)))
end
def spigotlaw04_LevelsParts.f (k : Nat) (l0 : List (S37)) (l1 : List Int) (l2 : List Int) (a3 : Int) : Option (Bool) := (spigotlaw04_fit.f k l0).bind fun t482 => (if t482 = true then (if (l1.length : Int) > 30 then (spigotlaw04_LevelsParts.j0 k l0 l1 l2 a3 true) else ((spigotref04_Costs.f k l1 l2).bind fun t483 => (if t483 = true then (if a3 < 0 then (spigotlaw04_LevelsParts.j0 k l0 l1 l2 a3 true) else (spigotlaw04_LevelsParts.j0 k l0 l1 l2 a3 (decide (a3 > (l1.length : Int))))) else (spigotlaw04_LevelsParts.j0 k l0 l1 l2 a3 true)))) else (spigotlaw04_LevelsParts.j0 k l0 l1 l2 a3 true))
theorem spigotlaw04_LevelsParts.mono_l : ∀ k, (∀ y0 y1 y2 y3 y4, LeO (spigotlaw04_LevelsParts.j0 k y0 y1 y2 y3 y4) (spigotlaw04_LevelsParts.j0 (k + 1) y0 y1 y2 y3 y4)) ∧ (∀ y0 y1 y2 y3 y4 y5, LeO (spigotlaw04_LevelsParts.l0 k y0 y1 y2 y3 y4 y5) (spigotlaw04_LevelsParts.l0 (k + 1) y0 y1 y2 y3 y4 y5))
  | 0 => ⟨fun _ _ _ _ _ r h => by simp [spigotlaw04_LevelsParts.j0] at h, fun _ _ _ _ _ _ r h => by simp [spigotlaw04_LevelsParts.l0] at h⟩
  | k + 1 => by
    obtain ⟨ih0, ih1⟩ := spigotlaw04_LevelsParts.mono_l k
    refine ⟨?_, ?_⟩
    · intro y0 y1 y2 y3 y4
      unfold spigotlaw04_LevelsParts.j0
      repeat' first
      | (with_reducible exact ih0 _ _ _ _ _)
      | (with_reducible exact ih1 _ _ _ _ _ _)
      | (with_reducible exact levels_Run.mono _ _ _ _)
      | (with_reducible exact levels_Take.mono _ _ _ _)
      | (with_reducible exact spigotlaw04_alive.mono _)
      | (with_reducible exact spigotlaw04_fit.mono _ _)
      | (with_reducible exact spigotref04_Costs.mono _ _ _)
      | (with_reducible exact spigotref04_Same.mono _ _ _)
      | (with_reducible exact spigotref04_SameBools.mono _ _ _)
      | (with_reducible exact LeO.refl _)
      | (with_reducible exact LeO.none _)
      | (with_reducible refine LeO.ite ?_ ?_)
      | (with_reducible refine LeO.bind ?_ (fun _ => ?_))
      | exact ih0 _ _ _ _ _
      | exact ih1 _ _ _ _ _ _
      | exact levels_Run.mono _ _ _ _
      | exact levels_Take.mono _ _ _ _
      | exact spigotlaw04_alive.mono _
      | exact spigotlaw04_fit.mono _ _
      | exact spigotref04_Costs.mono _ _ _
      | exact spigotref04_Same.mono _ _ _
      | exact spigotref04_SameBools.mono _ _ _
      | exact LeO.none _
      | refine LeO.ite ?_ ?_
      | refine LeO.bind ?_ (fun _ => ?_)
    · intro y0 y1 y2 y3 y4 y5
      unfold spigotlaw04_LevelsParts.l0
      repeat' first
      | (with_reducible exact ih0 _ _ _ _ _)
      | (with_reducible exact ih1 _ _ _ _ _ _)
      | (with_reducible exact levels_Run.mono _ _ _ _)
      | (with_reducible exact levels_Take.mono _ _ _ _)
      | (with_reducible exact spigotlaw04_alive.mono _)
      | (with_reducible exact spigotlaw04_fit.mono _ _)
      | (with_reducible exact spigotref04_Costs.mono _ _ _)
      | (with_reducible exact spigotref04_Same.mono _ _ _)
      | (with_reducible exact spigotref04_SameBools.mono _ _ _)
      | (with_reducible exact LeO.refl _)
      | (with_reducible exact LeO.none _)
      | (with_reducible refine LeO.ite ?_ ?_)
      | (with_reducible refine LeO.bind ?_ (fun _ => ?_))
      | exact ih0 _ _ _ _ _
      | exact ih1 _ _ _ _ _ _
      | exact levels_Run.mono _ _ _ _
      | exact levels_Take.mono _ _ _ _
      | exact spigotlaw04_alive.mono _
      | exact spigotlaw04_fit.mono _ _
      | exact spigotref04_Costs.mono _ _ _
      | exact spigotref04_Same.mono _ _ _
      | exact spigotref04_SameBools.mono _ _ _
      | exact LeO.none _
      | refine LeO.ite ?_ ?_
      | refine LeO.bind ?_ (fun _ => ?_)
theorem spigotlaw04_LevelsParts.mono : ∀ a0 a1 a2 a3 k, LeO (spigotlaw04_LevelsParts.f k a0 a1 a2 a3) (spigotlaw04_LevelsParts.f (k + 1) a0 a1 a2 a3) := by
  intro a0 a1 a2 a3 k
  obtain ⟨ih0, ih1⟩ := spigotlaw04_LevelsParts.mono_l k
  unfold spigotlaw04_LevelsParts.f
  repeat' first
      | (with_reducible exact ih0 _ _ _ _ _)
      | (with_reducible exact ih1 _ _ _ _ _ _)
      | (with_reducible exact levels_Run.mono _ _ _ _)
      | (with_reducible exact levels_Take.mono _ _ _ _)
      | (with_reducible exact spigotlaw04_alive.mono _)
      | (with_reducible exact spigotlaw04_fit.mono _ _)
      | (with_reducible exact spigotref04_Costs.mono _ _ _)
      | (with_reducible exact spigotref04_Same.mono _ _ _)
      | (with_reducible exact spigotref04_SameBools.mono _ _ _)
      | (with_reducible exact LeO.refl _)
      | (with_reducible exact LeO.none _)
      | (with_reducible refine LeO.ite ?_ ?_)
      | (with_reducible refine LeO.bind ?_ (fun _ => ?_))
      | exact ih0 _ _ _ _ _
      | exact ih1 _ _ _ _ _ _
      | exact levels_Run.mono _ _ _ _
      | exact levels_Take.mono _ _ _ _
      | exact spigotlaw04_alive.mono _
      | exact spigotlaw04_fit.mono _ _
      | exact spigotref04_Costs.mono _ _ _
      | exact spigotref04_Same.mono _ _ _
      | exact spigotref04_SameBools.mono _ _ _
      | exact LeO.none _
      | refine LeO.ite ?_ ?_
      | refine LeO.bind ?_ (fun _ => ?_)
def spigotlaw04_LevelsParts.T4 : Bool × List (List Nat × List Nat) := (true, [([], []), ([], []), ([], []), ([1, 2], [1, 2]), ([], []), ([], []), ([4, 5], [4, 5]), ([0, 3, 6], [0, 3, 6]), ([7], [7]), ([8], [8]), ([8], [8]), ([8], [8]), ([9, 7, 0, 1, 2, 3, 4, 5, 6, 7, 8, 9], [9]), ([10, 12, 0, 1, 2, 3, 4, 5, 6, 7, 8, 9, 10, 12], [10]), ([11, 13, 0, 1, 2, 3, 4, 5, 6, 7, 8, 9, 10, 11, 12, 13], [11])])
def spigotlaw04_LevelsParts.B4 : List Nat := [0, 0, 0, 6, 0, 0, 48, 127, 255, 511, 511, 511, 1023, 6143, 16383]
theorem spigotlaw04_LevelsParts.tab4 : rtab .any (opsOf Try.f6 4) = spigotlaw04_LevelsParts.T4 := by kernel_rfl
theorem spigotlaw04_LevelsParts.bits4 : waitsOk spigotlaw04_LevelsParts.T4.2 spigotlaw04_LevelsParts.B4 = true := by kernel_rfl
def spigotlaw04_LevelsParts.T5 : Bool × List (List Nat × List Nat) := (true, [([], []), ([], []), ([], []), ([1, 2], [1, 2]), ([], []), ([], []), ([4, 5], [4, 5]), ([0, 3, 6], [0, 3, 6]), ([7], [7]), ([8], [8]), ([8], [8]), ([8], [8]), ([9, 7, 0, 1, 2, 3, 4, 5, 6, 7, 8, 9], [9]), ([10, 12, 0, 1, 2, 3, 4, 5, 6, 7, 8, 9, 10, 12], [10]), ([11, 13, 0, 1, 2, 3, 4, 5, 6, 7, 8, 9, 10, 11, 12, 13], [11])])
def spigotlaw04_LevelsParts.B5 : List Nat := [0, 0, 0, 6, 0, 0, 48, 127, 255, 511, 511, 511, 1023, 6143, 16383]
theorem spigotlaw04_LevelsParts.tab5 : rtab .any (opsOf Try.f6 5) = spigotlaw04_LevelsParts.T5 := by kernel_rfl
theorem spigotlaw04_LevelsParts.bits5 : waitsOk spigotlaw04_LevelsParts.T5.2 spigotlaw04_LevelsParts.B5 = true := by kernel_rfl
def spigotlaw04_LevelsParts.T12 : Bool × List (List Nat × List Nat) := (true, [([], []), ([], []), ([], []), ([1, 2], [1, 2]), ([3], [3]), ([], []), ([], []), ([5, 6], [5, 6]), ([7], [7]), ([0, 4, 8], [0, 4, 8]), ([9], [9]), ([10], [10]), ([10], [10]), ([10], [10]), ([11, 9, 0, 1, 2, 3, 4, 5, 6, 7, 8, 9, 10, 11], [11]), ([12, 14, 0, 1, 2, 3, 4, 5, 6, 7, 8, 9, 10, 11, 12, 14], [12]), ([13, 15, 0, 1, 2, 3, 4, 5, 6, 7, 8, 9, 10, 11, 12, 13, 14, 15], [13])])
def spigotlaw04_LevelsParts.B12 : List Nat := [0, 0, 0, 6, 14, 0, 0, 96, 224, 511, 1023, 2047, 2047, 2047, 4095, 24575, 65535]
theorem spigotlaw04_LevelsParts.tab12 : rtab .any (opsOf Try.f6 12) = spigotlaw04_LevelsParts.T12 := by kernel_rfl
theorem spigotlaw04_LevelsParts.bits12 : waitsOk spigotlaw04_LevelsParts.T12.2 spigotlaw04_LevelsParts.B12 = true := by kernel_rfl
set_option maxHeartbeats 8000000 in
set_option maxRecDepth 100000 in
theorem spigotlaw04_LevelsParts.calls (k : Nat) (P0_ : Nat → Prop) (A0 : Option Addr) (c0 : Nat) (l0 : List (S37)) (A1 : Option Addr) (c1 : Nat) (l1 : List Int) (A2 : Option Addr) (c2 : Nat) (l2 : List Int) (a3 : Int) (r : Bool) (w : World) (hs0 : Kd.V k37 37 w w.heap.size (fun k_ => P0_ k_) (.slice A0 l0.length c0) l0) (hr1 : Kd.C (Kd.int .u64) w A1 l1.length l1) (hc1 : l1.length ≤ c1) (hr2 : Kd.C (Kd.int .i64) w A2 l2.length l2) (hc2 : l2.length ≤ c2) (h : spigotlaw04_LevelsParts.f k l0 l1 l2 a3 = some r) :
  Calls Try.prog 6 #[.slice A0 l0.length c0, .slice A1 l1.length c1, .slice A2 l2.length c2, .int .i64 a3] w fun e w' => e = .returned (.bool r) ∧ Below w.heap.size w w' := by
 have HO0 := Aside0.mk (show Kd.V k37 37 w w.heap.size (fun k_ => (P0_ k_ ∨ w.heap.size ≤ k_)) (.slice A0 l0.length c0) l0 from Kd.V_mono hs0 (fun k_ hk => .inl hk))
 have HR1 := Aside0.mk hr1
 have HC1 := Aside0.mk hc1
 clear hr1 hc1
 have HR2 := Aside0.mk hr2
 have HC2 := Aside0.mk hc2
 clear hr2 hc2
 have HB := Aside0.mk (Below.refl w.heap.size w)
 have H : ((spigotlaw04_fit.f k l0).bind fun t482 => (if t482 = true then (if (l1.length : Int) > 30 then (spigotlaw04_LevelsParts.j0 k l0 l1 l2 a3 true) else ((spigotref04_Costs.f k l1 l2).bind fun t483 => (if t483 = true then (if a3 < 0 then (spigotlaw04_LevelsParts.j0 k l0 l1 l2 a3 true) else (spigotlaw04_LevelsParts.j0 k l0 l1 l2 a3 (decide (a3 > (l1.length : Int))))) else (spigotlaw04_LevelsParts.j0 k l0 l1 l2 a3 true)))) else (spigotlaw04_LevelsParts.j0 k l0 l1 l2 a3 true))) = some r := h
 clear h
 have HC5 := Aside0.mk H
 clear H
 go_enter Try.func6, Try.ntmps6
 go_upto_region 1 with (fail)
 go_cut [46] (fun v46 wc => ∃ (kq : Nat) (x46_4 : Bool), v46 = .bool x46_4 ∧ Aside0 (spigotlaw04_LevelsParts.j0 kq l0 l1 l2 a3 x46_4 = some r) ∧ Aside0 (kq ≤ k) ∧ Aside0 (Kd.V k37 37 wc w.heap.size (fun k_ => (P0_ k_ ∨ w.heap.size ≤ k_)) (.slice A0 l0.length c0) l0) ∧ Aside0 (Below w.heap.size w wc))
 case first =>
  have H := HC5.out
  clear HC5
  obtain ⟨t482, A6, H⟩ := bo_ H
  try dsimp only at H
  by_cases c7 : t482 = true
  ·subst c7
   rw [if_pos rfl] at H
   try dsimp only at H
   by_cases c8 : (l1.length : Int) > 30
   ·rw [if_pos c8] at H
    have c8b0 : decide (30 < (l1.length : Int)) = true := decide_eq_true c8
    have c8b1 : decide (30 < l1.length) = true := decide_eq_true (by omega)
    clear c8
    (first | rw [c8b0] | (simp only [i64_w, i32_w]; rw [c8b0]) | skip)
    have H' := Aside0.mk H
    clear H
    go_wp2_with (first | ((with_reducible refine gate_callee (f := 16) rfl ?_); (try refine ug_ (by rfl) ?_); refine goesA_ (some 24) Try.func16 #[.slice A0 l0.length c0] ?_; (with_reducible refine (spigotlaw04_fit.calls k _ _ l0 true _ ?side1 ?side2 A6.out).mono ?_); (case side1 => repeat (first | exact (Kd.V_reads' HO0.out).2.2 | (with_reducible refine Kd.C_alloc ?_ _) | (with_reducible refine Kd.C_drewN ?_ _) | (with_reducible refine Kd.C_drew ?_))); (case side2 => exact (Kd.V_reads' HO0.out).2.1); rintro e w9 ⟨rfl, hb⟩; refine ⟨_, rfl, ?_⟩; replace HO0 := Aside0.mk (Kd.V_below (by (with_reducible repeat (first | apply Kd.V_alloc | apply Kd.V_drewN | apply Kd.V_drew)); exact HO0.out) hb); replace HB := bs_ w hb; clear hb))
    go_meet
    case rel => exact ⟨_, (true), rf_, H', al_, ⟨by (with_reducible repeat (first | apply Kd.V_alloc | apply Kd.V_drewN | apply Kd.V_drew)); exact HO0.out⟩, bw_⟩
   ·rw [if_neg c8] at H
    have c8b0 : decide (30 < (l1.length : Int)) = false := decide_eq_false c8
    have c8b1 : decide (30 < l1.length) = false := decide_eq_false (by omega)
    clear c8
    (first | rw [c8b0] | (simp only [i64_w, i32_w]; rw [c8b0]) | skip)
    obtain ⟨t483, A10, H⟩ := bo_ H
    try dsimp only at H
    by_cases c11 : t483 = true
    ·subst c11
     rw [if_pos rfl] at H
     try dsimp only at H
     by_cases c12 : a3 < 0
     ·rw [if_pos c12] at H
      have c12b0 : decide (a3 < 0) = true := decide_eq_true c12
      clear c12
      have H' := Aside0.mk H
      clear H
      go_wp2_with (first | ((with_reducible refine gate_callee (f := 16) rfl ?_); (try refine ug_ (by rfl) ?_); refine goesA_ (some 24) Try.func16 #[.slice A0 l0.length c0] ?_; (with_reducible refine (spigotlaw04_fit.calls k _ _ l0 true _ ?side1 ?side2 A6.out).mono ?_); (case side1 => repeat (first | exact (Kd.V_reads' HO0.out).2.2 | (with_reducible refine Kd.C_alloc ?_ _) | (with_reducible refine Kd.C_drewN ?_ _) | (with_reducible refine Kd.C_drew ?_))); (case side2 => exact (Kd.V_reads' HO0.out).2.1); rintro e w13 ⟨rfl, hb⟩; refine ⟨_, rfl, ?_⟩; replace HO0 := Aside0.mk (Kd.V_below (by (with_reducible repeat (first | apply Kd.V_alloc | apply Kd.V_drewN | apply Kd.V_drew)); exact HO0.out) hb); replace HB := bs_ w hb; clear hb) | (go_at_call 28; (with_reducible refine (spigotref04_Costs.calls k _ _ l1 _ _ l2 true _ ?side1 ?side2 ?side3 ?side4 A10.out).mono ?_); (case side1 => exact cs_ HR1 HB); (case side2 => exact HC1.out); (case side3 => exact cs_ HR2 HB); (case side4 => exact HC2.out); rintro e w' ⟨rfl, ⟨nd, rfl⟩⟩))
      go_meet
      case rel => exact ⟨_, (true), rf_, H', al_, ⟨by (with_reducible repeat (first | apply Kd.V_alloc | apply Kd.V_drewN | apply Kd.V_drew)); exact HO0.out⟩, bw_⟩
     ·rw [if_neg c12] at H
      have c12b0 : decide (a3 < 0) = false := decide_eq_false c12
      clear c12
      have H' := Aside0.mk H
      clear H
      go_wp2_with (first | ((with_reducible refine gate_callee (f := 16) rfl ?_); (try refine ug_ (by rfl) ?_); refine goesA_ (some 24) Try.func16 #[.slice A0 l0.length c0] ?_; (with_reducible refine (spigotlaw04_fit.calls k _ _ l0 true _ ?side1 ?side2 A6.out).mono ?_); (case side1 => repeat (first | exact (Kd.V_reads' HO0.out).2.2 | (with_reducible refine Kd.C_alloc ?_ _) | (with_reducible refine Kd.C_drewN ?_ _) | (with_reducible refine Kd.C_drew ?_))); (case side2 => exact (Kd.V_reads' HO0.out).2.1); rintro e w14 ⟨rfl, hb⟩; refine ⟨_, rfl, ?_⟩; replace HO0 := Aside0.mk (Kd.V_below (by (with_reducible repeat (first | apply Kd.V_alloc | apply Kd.V_drewN | apply Kd.V_drew)); exact HO0.out) hb); replace HB := bs_ w hb; clear hb) | (go_at_call 28; (with_reducible refine (spigotref04_Costs.calls k _ _ l1 _ _ l2 true _ ?side1 ?side2 ?side3 ?side4 A10.out).mono ?_); (case side1 => exact cs_ HR1 HB); (case side2 => exact HC1.out); (case side3 => exact cs_ HR2 HB); (case side4 => exact HC2.out); rintro e w' ⟨rfl, ⟨nd, rfl⟩⟩))
      go_meet
      case rel => exact ⟨_, (decide (a3 > (l1.length : Int))), rf_, H', al_, ⟨by (with_reducible repeat (first | apply Kd.V_alloc | apply Kd.V_drewN | apply Kd.V_drew)); exact HO0.out⟩, bw_⟩
    ·replace c11 := Bool.eq_false_iff.mpr c11
     subst c11
     replace H : (spigotlaw04_LevelsParts.j0 k l0 l1 l2 a3 true) = some r := by rw [if_neg (show ¬ (false = true) by decide)] at H; exact H
     have H' := Aside0.mk H
     clear H
     go_wp2_with (first | ((with_reducible refine gate_callee (f := 16) rfl ?_); (try refine ug_ (by rfl) ?_); refine goesA_ (some 24) Try.func16 #[.slice A0 l0.length c0] ?_; (with_reducible refine (spigotlaw04_fit.calls k _ _ l0 true _ ?side1 ?side2 A6.out).mono ?_); (case side1 => repeat (first | exact (Kd.V_reads' HO0.out).2.2 | (with_reducible refine Kd.C_alloc ?_ _) | (with_reducible refine Kd.C_drewN ?_ _) | (with_reducible refine Kd.C_drew ?_))); (case side2 => exact (Kd.V_reads' HO0.out).2.1); rintro e w15 ⟨rfl, hb⟩; refine ⟨_, rfl, ?_⟩; replace HO0 := Aside0.mk (Kd.V_below (by (with_reducible repeat (first | apply Kd.V_alloc | apply Kd.V_drewN | apply Kd.V_drew)); exact HO0.out) hb); replace HB := bs_ w hb; clear hb) | (go_at_call 28; (with_reducible refine (spigotref04_Costs.calls k _ _ l1 _ _ l2 false _ ?side1 ?side2 ?side3 ?side4 A10.out).mono ?_); (case side1 => exact cs_ HR1 HB); (case side2 => exact HC1.out); (case side3 => exact cs_ HR2 HB); (case side4 => exact HC2.out); rintro e w' ⟨rfl, ⟨nd, rfl⟩⟩))
     go_meet
     case rel => exact ⟨_, (true), rf_, H', al_, ⟨by (with_reducible repeat (first | apply Kd.V_alloc | apply Kd.V_drewN | apply Kd.V_drew)); exact HO0.out⟩, bw_⟩
  ·replace c7 := Bool.eq_false_iff.mpr c7
   subst c7
   replace H : (spigotlaw04_LevelsParts.j0 k l0 l1 l2 a3 true) = some r := by rw [if_neg (show ¬ (false = true) by decide)] at H; exact H
   have H' := Aside0.mk H
   clear H
   go_wp2_with (first | ((with_reducible refine gate_callee (f := 16) rfl ?_); (try refine ug_ (by rfl) ?_); refine goesA_ (some 24) Try.func16 #[.slice A0 l0.length c0] ?_; (with_reducible refine (spigotlaw04_fit.calls k _ _ l0 false _ ?side1 ?side2 A6.out).mono ?_); (case side1 => repeat (first | exact (Kd.V_reads' HO0.out).2.2 | (with_reducible refine Kd.C_alloc ?_ _) | (with_reducible refine Kd.C_drewN ?_ _) | (with_reducible refine Kd.C_drew ?_))); (case side2 => exact (Kd.V_reads' HO0.out).2.1); rintro e w16 ⟨rfl, hb⟩; refine ⟨_, rfl, ?_⟩; replace HO0 := Aside0.mk (Kd.V_below (by (with_reducible repeat (first | apply Kd.V_alloc | apply Kd.V_drewN | apply Kd.V_drew)); exact HO0.out) hb); replace HB := bs_ w hb; clear hb))
   go_meet
   case rel => exact ⟨_, (true), rf_, H', al_, ⟨by (with_reducible repeat (first | apply Kd.V_alloc | apply Kd.V_drewN | apply Kd.V_drew)); exact HO0.out⟩, bw_⟩
 case rest =>
  clear HC5
  try clear c1
  try clear c2
  obtain ⟨kq, x46_4, rfl, HA, HJ4, HO_0, HB⟩ := hcut
  cases kq with
  | zero => exact absurd HA.out (by simp [spigotlaw04_LevelsParts.j0])
  | succ kj4 =>
   have H := HA.out
   clear HA
   simp only [spigotlaw04_LevelsParts.j0] at H
   by_cases c17 : x46_4 = true
   ·subst c17
    rw [if_pos rfl] at H
    try dsimp only at H
    obtain ⟨t484, A18, H⟩ := bo_ H
    replace H : (some t484) = some r := H
    obtain rfl := Option.some.inj H
    go_wp2_with (first | ((with_reducible refine gate_callee (f := 17) rfl ?_); (try refine ug_ (by rfl) ?_); refine goesA_ (some 47) Try.func17 #[] ?_; (with_reducible refine (spigotlaw04_alive.calls kj4  t484 _ A18.out).mono ?_); rintro e w19 ⟨rfl, hb⟩; refine ⟨_, rfl, ?_⟩; replace HO_0 := Aside0.mk (Kd.V_below (by (with_reducible repeat (first | apply Kd.V_alloc | apply Kd.V_drewN | apply Kd.V_drew)); exact HO_0.out) hb); replace HB := bs_ w hb; clear hb))
    go_ret
    exact fi_
   ·replace c17 := Bool.eq_false_iff.mpr c17
    subst c17
    rw [if_neg (show ¬ (false = true) by decide)] at H
    try dsimp only at H
    obtain ⟨⟨t485, t486, t487⟩, A20, H⟩ := bo_ H
    try dsimp only at H
    by_cases c21 : 0 ≤ a3
    rotate_left
    ·rw [if_neg c21] at H; exact absurd H (by simp)
    rw [if_pos c21] at H
    have c21b0 := eq_true c21
    have c21b1 : decide (0 ≤ a3) = true := decide_eq_true c21
    clear c21
    by_cases c22 : a3 ≤ (l1.length : Int)
    rotate_left
    ·rw [if_neg c22] at H; exact absurd H (by simp)
    rw [if_pos c22] at H
    have c22b0 := eq_true c22
    have c22b1 : decide (a3 ≤ (l1.length : Int)) = true := decide_eq_true c22
    clear c22
    have c23b0 := eq_true (of_decide_eq_true (by first | (with_reducible assumption) | assumption) : 0 ≤ a3)
    by_cases c24 : a3 ≤ (l2.length : Int)
    rotate_left
    ·rw [if_neg c24] at H; exact absurd H (by simp)
    rw [if_pos c24] at H
    have c24b0 := eq_true c24
    have c24b1 : decide (a3 ≤ (l2.length : Int)) = true := decide_eq_true c24
    clear c24
    obtain ⟨⟨t494, t495, t496⟩, A25, H⟩ := bo_ H
    try dsimp only at H
    have c26b0 := eq_true (of_decide_eq_true (by first | (with_reducible assumption) | assumption) : 0 ≤ a3)
    have c27b0 := eq_true (of_decide_eq_true (by first | (with_reducible assumption) | assumption) : a3 ≤ (l1.length : Int))
    have c28b0 := eq_true (of_decide_eq_true (by first | (with_reducible assumption) | assumption) : 0 ≤ a3)
    have c29b0 := eq_true (of_decide_eq_true (by first | (with_reducible assumption) | assumption) : a3 ≤ (l2.length : Int))
    obtain ⟨⟨t503, t504, t505⟩, A30, H⟩ := bo_ H
    try dsimp only at H
    by_cases c31 : t487 = 0
    rotate_left
    ·rw [if_neg c31] at H; exact absurd H (by simp)
    rw [if_pos c31] at H
    have c31b0 : (t487 == 0) = true := beq_iff_eq.mpr c31
    have c31b1 : (t487 != 0) = false := bne_eq_false_iff_eq.mpr c31
    clear c31
    by_cases c32 : t496 = 0
    rotate_left
    ·rw [if_neg c32] at H; exact absurd H (by simp)
    rw [if_pos c32] at H
    have c32b0 : (t496 == 0) = true := beq_iff_eq.mpr c32
    have c32b1 : (t496 != 0) = false := bne_eq_false_iff_eq.mpr c32
    clear c32
    by_cases c33 : t505 = 0
    rotate_left
    ·rw [if_neg c33] at H; exact absurd H (by simp)
    rw [if_pos c33] at H
    have c33b0 : (t505 == 0) = true := beq_iff_eq.mpr c33
    have c33b1 : (t505 != 0) = false := bne_eq_false_iff_eq.mpr c33
    clear c33
    obtain ⟨t510, A34, H⟩ := bo_ H
    try dsimp only at H
    by_cases c35 : t510 = true
    ·subst c35
     rw [if_pos rfl] at H
     try dsimp only at H
     obtain ⟨y511, hy511⟩ : ∃ y_ : List Bool, y_ = (([] : List Bool)) := ⟨_, rfl⟩
     replace H : (if y511.length + t495.length < 140737488355328 then ((some (y511 ++ t495 : List Bool)).bind fun y514 => (if y514.length + t504.length < 140737488355328 then ((spigotref04_SameBools.f kj4 t486 (y514 ++ t504)).bind fun t520 => (if t520 = true then (if (t486.length : Int) = (l1.length : Int) then (spigotlaw04_LevelsParts.l0 kj4 l1 l2 t485 t486 l0 0) else (none)) else (none))) else (none))) else (none)) = some r := by first | (rw [hy511]; with_reducible exact H) | (have H2_ := (Option.bind_some _ _).symm.trans H; rw [hy511]; with_reducible exact H2_) | (have H2_ := (Option.bind_some _ _).symm.trans H; with_reducible exact H2_) | with_reducible exact H | (rw [hy511]; exact H) | exact H
     have Ny511 := Aside0.mk hy511
     clear hy511
     by_cases c36 : y511.length + t495.length < 140737488355328
     rotate_left
     ·rw [if_neg c36] at H; exact absurd H (by simp)
     rw [if_pos c36] at H
     have LMc36 := Aside0.mk c36
     clear c36
     obtain ⟨y514, hy514⟩ : ∃ y_ : List Bool, y_ = (y511 ++ t495) := ⟨_, rfl⟩
     replace H : (if y514.length + t504.length < 140737488355328 then ((spigotref04_SameBools.f kj4 t486 (y514 ++ t504)).bind fun t520 => (if t520 = true then (if (t486.length : Int) = (l1.length : Int) then (spigotlaw04_LevelsParts.l0 kj4 l1 l2 t485 t486 l0 0) else (none)) else (none))) else (none)) = some r := by first | (rw [hy514]; with_reducible exact H) | (have H2_ := (Option.bind_some _ _).symm.trans H; rw [hy514]; with_reducible exact H2_) | (have H2_ := (Option.bind_some _ _).symm.trans H; with_reducible exact H2_) | with_reducible exact H | (rw [hy514]; exact H) | exact H
     have Ny514 := Aside0.mk hy514
     clear hy514
     by_cases c37 : y514.length + t504.length < 140737488355328
     rotate_left
     ·rw [if_neg c37] at H; exact absurd H (by simp)
     rw [if_pos c37] at H
     have LMc37 := Aside0.mk c37
     clear c37
     obtain ⟨y517, hy517⟩ : ∃ y_ : List Bool, y_ = (y514 ++ t504) := ⟨_, rfl⟩
     replace H : ((spigotref04_SameBools.f kj4 t486 y517).bind fun t520 => (if t520 = true then (if (t486.length : Int) = (l1.length : Int) then (spigotlaw04_LevelsParts.l0 kj4 l1 l2 t485 t486 l0 0) else (none)) else (none))) = some r := by first | (rw [hy517]; with_reducible exact H) | (have H2_ := (Option.bind_some _ _).symm.trans H; rw [hy517]; with_reducible exact H2_) | (have H2_ := (Option.bind_some _ _).symm.trans H; with_reducible exact H2_) | with_reducible exact H | (rw [hy517]; exact H) | exact H
     have Ny517 := Aside0.mk hy517
     clear hy517
     obtain ⟨t520, A38, H⟩ := bo_ H
     replace H : (if t520 = true then (if (t486.length : Int) = (l1.length : Int) then (spigotlaw04_LevelsParts.l0 kj4 l1 l2 t485 t486 l0 0) else (none)) else (none)) = some r := H
     by_cases c39 : t520 = true
     ·subst c39
      rw [if_pos rfl] at H
      try dsimp only at H
      by_cases c40 : (t486.length : Int) = (l1.length : Int)
      rotate_left
      ·rw [if_neg c40] at H; exact absurd H (by simp)
      rw [if_pos c40] at H
      have c40b0 : ((t486.length : Int) == (l1.length : Int)) = true := beq_iff_eq.mpr c40
      have c40b1 : ((t486.length : Int) != (l1.length : Int)) = false := bne_eq_false_iff_eq.mpr c40
      have c40b2 : (t486.length == l1.length) = true := by first | simpa using c40 | (simp at c40 ⊢; omega)
      clear c40
      have H' := Aside0.mk H
      clear H
      try go_wp2_with (first | ((with_reducible refine gate_callee (f := 12) rfl ?_); (try refine ug_ (by rfl) ?_); refine goesA_ (some 52) Try.func12 #[.slice A0 l0.length c0, .slice A1 l1.length c1, .slice A2 l2.length c2] ?_; (with_reducible refine (levels_Run.calls kj4 _ _ l0 _ _ l1 _ _ l2 t485 t486 t487 _ ?side1 ?side2 ?side3 ?side4 ?side5 ?side6 A20.out).mono ?_); (case side1 => repeat (first | exact (Kd.V_reads' HO_0.out).2.2 | (with_reducible refine Kd.C_alloc ?_ _) | (with_reducible refine Kd.C_drewN ?_ _) | (with_reducible refine Kd.C_drew ?_))); (case side2 => exact (Kd.V_reads' HO_0.out).2.1); (case side3 => exact cs_ HR1 HB); (case side4 => exact HC1.out); (case side5 => exact cs_ HR2 HB); (case side6 => exact HC2.out); rintro e w41 ⟨v488, v490, rfl, ho0, ho1, hb⟩; refine ⟨_, rfl, ?_⟩; have HO489 := Aside0.mk (Kd.R_lower (Kd.R_newM (M := fun k_ => (w.heap.size ≤ k_)) ho0 (below_size (hq_ HB)) (fun k_ h_ => h_)) (below_size (hq_ HB))); have HO491 := Aside0.mk (Kd.R_lower (Kd.R_newM (M := fun k_ => (w.heap.size ≤ k_)) ho1 (below_size (hq_ HB)) (fun k_ h_ => h_)) (below_size (hq_ HB))); replace HO_0 := Aside0.mk (Kd.V_mono (Kd.V_told (Kd.V_told (Kd.V_old (by (with_reducible repeat (first | apply Kd.V_alloc | apply Kd.V_drewN | apply Kd.V_drew)); exact HO_0.out) hb) (Kd.R_base ho0)) (Kd.R_base ho1)) (fun _ h_ => h_.1)); replace HB := bs_ w hb; (try clear hb); (try clear hb2); (try clear hk); (try clear hi); (try clear ho0); (try clear ho1)))
      replace HO_0 := Aside0.mk (Kd.V_drew HO_0.out)
      replace HO489 := Aside0.mk (Kd.R_drew HO489.out)
      replace HO491 := Aside0.mk (Kd.R_drew HO491.out)
      replace HB := Aside0.mk (below_drew1 HB.out)
      obtain ⟨i043, hi043, _, hsz43, _⟩ := info_parts info35
      obtain ⟨hcut43, hA43, hC43⟩ := print_take_of (P := Try.prog) (Value.int .u64) 0 23 35 .i64 Try.underlying23 hi043 hsz43 A1 c1 l1 a3 (of_decide_eq_true (by first | (with_reducible assumption) | assumption)) (of_decide_eq_true (by first | (with_reducible assumption) | assumption)) HC1.out
      have HR492 := Aside0.mk (Kd.C_of_reads (h1 := fun _ => rfl) (hA43 _ (Kd.reads_of_C HR1.out)))
      have HC492 := Aside0.mk hC43
      clear hA43 hC43 hi043 hsz43
      obtain ⟨i044, hi044, _, hsz44, _⟩ := info_parts info2
      obtain ⟨hcut44, hA44, hC44⟩ := print_take_of (P := Try.prog) (Value.int .i64) 0 24 2 .i64 Try.underlying24 hi044 hsz44 A2 c2 l2 a3 (of_decide_eq_true (by first | (with_reducible assumption) | assumption)) (of_decide_eq_true (by first | (with_reducible assumption) | assumption)) HC2.out
      have HR493 := Aside0.mk (Kd.C_of_reads (h1 := fun _ => rfl) (hA44 _ (Kd.reads_of_C HR2.out)))
      have HC493 := Aside0.mk hC44
      clear hA44 hC44 hi044 hsz44
      refine start_ (n := 15) (S := fun w' => True) (ds := []) (bl_ 15 0) (by kernel_rfl) rfl (by kernel_rfl) trivial (fun hHeld => ?_); refine with_tabW spigotlaw04_LevelsParts.tab4 spigotlaw04_LevelsParts.bits4 (fun HT_ HW_ => ?_)
      generalize w41.drew = w42 at HO_0 HO489 HO491 HB HR492 HR493 hHeld ⊢
      refine pa_ 0 (some 57) (bl_ 15 1) HT_ ?_
      refine pa_ 1 (some 58) (bl_ 15 3) HT_ ?_
      refine pa_ 2 (some 59) (bl_ 15 7) HT_ ?_
      refine pa_ 3 (some 60) (bl_ 15 15) HT_ ?_
      refine pa_ 4 (some 61) (bl_ 15 31) HT_ ?_
      refine pa_ 5 (some 62) (bl_ 15 63) HT_ ?_
      refine pa_ 6 (some 63) (bl_ 15 127) HT_ ?_
      refine oa_ 7 (some 64) (bl_ 15 255) HT_ fun K hK => ?_
      refine goes_ Try.func12 (by kernel_rfl) rfl #[.slice A0 l0.length c0, .slice A1 (l1.take (a3 : Int).toNat).length c1, .slice A2 (l2.take (a3 : Int).toNat).length c2] (by rfl) rfl rfl (by (try simp only [List.map_toArray, List.map_cons, List.map_nil]); first | done | (rw [show (l1.take (a3 : Int).toNat).length = a3.toNat from (by rw [List.length_take]; have h_ : (a3 : Int) ≤ (l1.length : Int) := of_decide_eq_true (by first | (with_reducible assumption) | assumption); omega), show (l2.take (a3 : Int).toNat).length = a3.toNat from (by rw [List.length_take]; have h_ : (a3 : Int) ≤ (l2.length : Int) := of_decide_eq_true (by first | (with_reducible assumption) | assumption); omega)] <;> rfl) | (rw [show (l1.take (a3 : Int).toNat).length = a3.toNat from (by rw [List.length_take]; have h_ : (a3 : Int) ≤ (l1.length : Int) := of_decide_eq_true (by first | (with_reducible assumption) | assumption); omega)] <;> rfl) | (rw [show (l2.take (a3 : Int).toNat).length = a3.toNat from (by rw [List.length_take]; have h_ : (a3 : Int) ≤ (l2.length : Int) := of_decide_eq_true (by first | (with_reducible assumption) | assumption); omega)] <;> rfl) | rfl | (simp only [List.length_drop, List.length_take]; rfl)) ?_
      with_reducible refine (levels_Run.calls kj4 _ _ l0 _ _ (l1.take (a3 : Int).toNat) _ _ (l2.take (a3 : Int).toNat) t494 t495 t496 _ ?side1 ?side2 ?side3 ?side4 ?side5 ?side6 A25.out).mono ?_
      (case side1 => repeat (first | exact (Kd.V_reads' HO_0.out).2.2 | (with_reducible refine Kd.C_alloc ?_ _) | (with_reducible refine Kd.C_drewN ?_ _) | (with_reducible refine Kd.C_drew ?_)))
      (case side2 => exact (Kd.V_reads' HO_0.out).2.1)
      (case side3 => exact cs_ HR492 HB)
      (case side4 => exact HC492.out)
      (case side5 => exact cs_ HR493 HB)
      (case side6 => exact HC493.out)
      rintro e w45 ⟨v497, v499, rfl, ho0, ho1, hb⟩
      refine ⟨_, rfl, ?_⟩
      have HO498 := Aside0.mk (Kd.R_lower (Kd.R_new' (Kd.R_newM (M := fun k_ => (w.heap.size ≤ k_)) ho0 (below_size (hq_ HB)) (fun k_ h_ => h_)) (Kd.R_lt (rs_ HO489))) (below_size (hq_ HB)))
      have HO500 := Aside0.mk (Kd.R_lower (Kd.R_new' (Kd.R_newM (M := fun k_ => (w.heap.size ≤ k_)) ho1 (below_size (hq_ HB)) (fun k_ h_ => h_)) (Kd.R_lt (rs_ HO491))) (below_size (hq_ HB)))
      replace HO_0 := Aside0.mk (Kd.V_mono (Kd.V_told (Kd.V_told (Kd.V_old (by (with_reducible repeat (first | apply Kd.V_alloc | apply Kd.V_drewN | apply Kd.V_drew)); exact HO_0.out) hb) (Kd.R_base ho0)) (Kd.R_base ho1)) (fun _ h_ => h_.1))
      replace HO489 := Aside0.mk (Kd.R_elder' (rs_ HO489) (Kd.R_base ho0) hb)
      replace HO491 := Aside0.mk (Kd.R_elder' (rs_ HO491) (Kd.R_base ho1) hb)
      replace HB := bs_ w hb
      (try clear hb)
      (try clear hb2)
      (try clear hk)
      (try clear hi)
      (try clear ho0)
      (try clear ho1)
      refine hK.out _ _ trivial (fun hHeld => ?_)
      clear hK K
      refine nm_ (some 64) ?_
      refine pa_ 8 (some 56) (bl_ 15 511) HT_ ?_
      refine pa_ 9 (some 65) (bl_ 15 1023) HT_ ?_
      refine pa_ 10 (some 66) (bl_ 15 2047) HT_ ?_
      refine pa_ 11 (some 67) (bl_ 15 4095) HT_ ?_
      refine pa_ 12 (some 12) (bl_ 15 8191) HT_ ?_
      refine pa_ 13 (some 13) (bl_ 15 16383) HT_ ?_
      refine pa_ 14 (some 14) (bl_ 15 32767) HT_ ?_
      refine done_ (done_of HT_.out (by kernel_rfl)) ?_
      try go_wp2
      replace HO_0 := Aside0.mk (Kd.V_drew HO_0.out)
      replace HO489 := Aside0.mk (Kd.R_drew HO489.out)
      replace HO491 := Aside0.mk (Kd.R_drew HO491.out)
      replace HO498 := Aside0.mk (Kd.R_drew HO498.out)
      replace HO500 := Aside0.mk (Kd.R_drew HO500.out)
      replace HB := Aside0.mk (below_drew1 HB.out)
      obtain ⟨i047, hi047, _, hsz47, _⟩ := info_parts info35
      obtain ⟨A47, hcut47, hA47, hC47⟩ := print_drop_of (P := Try.prog) (Value.int .u64) 0 23 35 .i64 Try.underlying23 hi047 hsz47 A1 c1 l1 a3 (of_decide_eq_true (by first | (with_reducible assumption) | assumption)) (of_decide_eq_true (by first | (with_reducible assumption) | assumption)) HC1.out
      have HR501 := Aside0.mk (Kd.C_of_reads (h1 := fun _ => rfl) (hA47 _ (Kd.reads_of_C HR1.out)))
      have HC501 := Aside0.mk hC47
      clear hA47 hC47 hi047 hsz47
      obtain ⟨i048, hi048, _, hsz48, _⟩ := info_parts info2
      obtain ⟨A48, hcut48, hA48, hC48⟩ := print_drop_of (P := Try.prog) (Value.int .i64) 0 24 2 .i64 Try.underlying24 hi048 hsz48 A2 c2 l2 a3 (of_decide_eq_true (by first | (with_reducible assumption) | assumption)) (of_decide_eq_true (by first | (with_reducible assumption) | assumption)) HC2.out
      have HR502 := Aside0.mk (Kd.C_of_reads (h1 := fun _ => rfl) (hA48 _ (Kd.reads_of_C HR2.out)))
      have HC502 := Aside0.mk hC48
      clear hA48 hC48 hi048 hsz48
      obtain ⟨Ao49, co49, eo49⟩ := Kd.R_slice HO498.out
      (first | subst eo49 | (injection eo49 with f1_ f2_ f3_; have f4_ := f1_.symm; have f5_ := f3_.symm; clear f1_ f2_ f3_; subst f4_; subst f5_))
      refine start_ (n := 15) (S := fun w' => True) (ds := []) (bl_ 15 0) (by kernel_rfl) rfl (by kernel_rfl) trivial (fun hHeld => ?_); refine with_tabW spigotlaw04_LevelsParts.tab5 spigotlaw04_LevelsParts.bits5 (fun HT_ HW_ => ?_)
      generalize w45.drew = w46 at HO_0 HO489 HO491 HO498 HO500 HB HR501 HR502 hHeld ⊢
      refine pa_ 0 (some 69) (bl_ 15 1) HT_ ?_
      refine pa_ 1 (some 70) (bl_ 15 3) HT_ ?_
      refine pa_ 2 (some 71) (bl_ 15 7) HT_ ?_
      refine pa_ 3 (some 72) (bl_ 15 15) HT_ ?_
      refine pa_ 4 (some 73) (bl_ 15 31) HT_ ?_
      refine pa_ 5 (some 74) (bl_ 15 63) HT_ ?_
      refine pa_ 6 (some 75) (bl_ 15 127) HT_ ?_
      refine oa_ 7 (some 76) (bl_ 15 255) HT_ fun K hK => ?_
      refine goes_ Try.func12 (by kernel_rfl) rfl #[.slice Ao49 t494.length co49, .slice A47 (l1.drop (a3 : Int).toNat).length (c1 - a3.toNat), .slice A48 (l2.drop (a3 : Int).toNat).length (c2 - a3.toNat)] (by rfl) rfl rfl (by (try simp only [List.map_toArray, List.map_cons, List.map_nil]); first | done | (rw [show (l1.drop (a3 : Int).toNat).length = (l1.length - a3.toNat) from List.length_drop] <;> rfl) | (rw [show (l2.drop (a3 : Int).toNat).length = (l2.length - a3.toNat) from List.length_drop] <;> rfl) | rfl | (simp only [List.length_drop, List.length_take]; rfl)) ?_
      with_reducible refine (levels_Run.calls kj4 _ _ t494 _ _ (l1.drop (a3 : Int).toNat) _ _ (l2.drop (a3 : Int).toNat) t503 t504 t505 _ ?side1 ?side2 ?side3 ?side4 ?side5 ?side6 A30.out).mono ?_
      (case side1 => exact cr_ HO498)
      (case side2 => exact (Kd.R_reads' HO498.out).2.1)
      (case side3 => exact cs_ HR501 HB)
      (case side4 => exact HC501.out)
      (case side5 => exact cs_ HR502 HB)
      (case side6 => exact HC502.out)
      rintro e w50 ⟨v506, v508, rfl, ho0, ho1, hb⟩
      refine ⟨_, rfl, ?_⟩
      have HO507 := Aside0.mk (Kd.R_lower (Kd.R_new' (Kd.R_new' (Kd.R_newM (M := fun k_ => (w.heap.size ≤ k_)) ho0 (below_size (hq_ HB)) (fun k_ h_ => h_)) (Kd.R_lt (rs_ HO489))) (Kd.R_lt (rs_ HO498))) (below_size (hq_ HB)))
      have HO509 := Aside0.mk (Kd.R_lower (Kd.R_new' (Kd.R_new' (Kd.R_newM (M := fun k_ => (w.heap.size ≤ k_)) ho1 (below_size (hq_ HB)) (fun k_ h_ => h_)) (Kd.R_lt (rs_ HO491))) (Kd.R_lt (rs_ HO500))) (below_size (hq_ HB)))
      replace HO_0 := Aside0.mk (Kd.V_mono (Kd.V_told (Kd.V_told (Kd.V_old (by (with_reducible repeat (first | apply Kd.V_alloc | apply Kd.V_drewN | apply Kd.V_drew)); exact HO_0.out) hb) (Kd.R_base ho0)) (Kd.R_base ho1)) (fun _ h_ => h_.1))
      replace HO489 := Aside0.mk (Kd.R_elder' (rs_ HO489) (Kd.R_base ho0) hb)
      replace HO491 := Aside0.mk (Kd.R_elder' (rs_ HO491) (Kd.R_base ho1) hb)
      replace HO498 := Aside0.mk (Kd.R_elder' (rs_ HO498) (Kd.R_base ho0) hb)
      replace HO500 := Aside0.mk (Kd.R_elder' (rs_ HO500) (Kd.R_base ho1) hb)
      replace HB := bs_ w hb
      (try clear hb)
      (try clear hb2)
      (try clear hk)
      (try clear hi)
      (try clear ho0)
      (try clear ho1)
      refine hK.out _ _ trivial (fun hHeld => ?_)
      clear hK K
      refine nm_ (some 76) ?_
      refine pa_ 8 (some 68) (bl_ 15 511) HT_ ?_
      refine pa_ 9 (some 77) (bl_ 15 1023) HT_ ?_
      refine pa_ 10 (some 78) (bl_ 15 2047) HT_ ?_
      refine pa_ 11 (some 79) (bl_ 15 4095) HT_ ?_
      refine pa_ 12 (some 15) (bl_ 15 8191) HT_ ?_
      refine pa_ 13 (some 16) (bl_ 15 16383) HT_ ?_
      refine pa_ 14 (some 17) (bl_ 15 32767) HT_ ?_
      refine done_ (done_of HT_.out (by kernel_rfl)) ?_
      obtain ⟨Ao51, co51, eo51⟩ := Kd.R_slice HO489.out
      subst eo51
      obtain ⟨Ao52, co52, eo52⟩ := Kd.R_slice HO507.out
      subst eo52
      try go_wp2_with (first | (go_at_call 15; (with_reducible refine (spigotref04_Same.calls kj4 _ _ t485 _ _ t503 true _ ?side1 ?side2 ?side3 ?side4 A34.out).mono ?_); (case side1 => exact cr_ HO489); (case side2 => exact (Kd.R_reads' HO489.out).2.1); (case side3 => exact cr_ HO507); (case side4 => exact (Kd.R_reads' HO507.out).2.1); rintro e w' ⟨rfl, ⟨nd, rfl⟩⟩) | ((with_reducible refine gate_dst (N := 98) rfl ?_); (try refine ug_ (by rfl) ?_); refine Kd.R_lit Kd.bool _ 4 ?hg (N := 98) ?hd (xs := ([] : List Bool)) (inner := []) (ok := fun _ => True) (okp := fun _ => True) ?hr ?hp (fun _ hk => hk) trivial (Below.refl _ _) (Nat.le_refl _) (by simp) ?_; (case hd => rfl); (case hg => rfl); (case hr => first | (go_simp; done) | (go_simp; rfl)); (case hp => exact (Reps.none _ _)); intro v512 w53 ho54 hb hg_ hnew_; clear hg_ hnew_; (first | rw [← Ny511.out] at ho54 | (simp only [Int.reduceToNat] at ho54; rw [← Ny511.out] at ho54)); have HO513 := Aside0.mk (Kd.R_lower (Kd.R_new' (Kd.R_new' (Kd.R_new' (Kd.R_newM (M := fun k_ => (w.heap.size ≤ k_)) ho54 (below_size (hq_ HB)) (fun k_ h_ => h_)) (Kd.R_lt (rs_ HO491))) (Kd.R_lt (rs_ HO500))) (Kd.R_lt (rs_ HO509))) (below_size (hq_ HB))); replace HO_0 := Aside0.mk (Kd.V_elder' (by (with_reducible repeat (first | apply Kd.V_alloc | apply Kd.V_drewN | apply Kd.V_drew)); exact HO_0.out) (Kd.R_base ho54) hb); replace HO489 := rb_ HO489 hb; replace HO491 := Aside0.mk (Kd.R_elder' (rs_ HO491) (Kd.R_base ho54) hb); replace HO498 := rb_ HO498 hb; replace HO500 := Aside0.mk (Kd.R_elder' (rs_ HO500) (Kd.R_base ho54) hb); replace HO507 := rb_ HO507 hb; replace HO509 := Aside0.mk (Kd.R_elder' (rs_ HO509) (Kd.R_base ho54) hb); replace HB := bs_ w hb; clear hb ho54; obtain ⟨Ao56, co56, eo56⟩ := Kd.R_slice HO500.out; subst eo56) | ((with_reducible refine gate_builtin (b := .append) (xs := #[.tmp 98, .tmp 99]) rfl ?_); (try refine ug_ (by rfl) ?_); at_builtin; refine Kd.R_append_rows Kd.bool (w0 := w) w.heap.size rfl (.tmp 98) (.tmp 99) 27 4 (.bool false) 1 rfl Try.underlying27 info4 rfl (by decide) (by omega) v512 y511 t495 _ _ _ (fun k_ => (w.heap.size ≤ k_) ∧ some k_ ≠ (v490 : Value).ownBlock ∧ some k_ ≠ (.slice Ao56 t495.length co56 : Value).ownBlock ∧ some k_ ≠ (v508 : Value).ownBlock) (fun _ => False) rfl rfl ?aO ?aR (fun _ _ h => h) (fun _ h => h.elim) ?aF ?aB ?aS ?aL ?_; (case aR => exact cr_ HO500); (case aB => exact (hq_ HB)); (case aF => exact (fun k_ hk => ⟨(Nat.le_trans (below_size (hq_ HB)) hk), Kd.fresh' (Kd.R_lt (rs_ HO491)) k_ hk, Kd.fresh' (Kd.R_lt (rs_ HO500)) k_ hk, Kd.fresh' (Kd.R_lt (rs_ HO509)) k_ hk⟩)); (case aO => exact (by (with_reducible repeat (first | apply Kd.R_alloc | apply Kd.R_drewN | apply Kd.R_drew)); exact Kd.R_mono HO513.out (fun _ hk => ⟨hk.1.1.1.1, ⟨hk.1.1.2, ⟨hk.1.2, hk.2⟩⟩⟩))); (case aS => exact (below_size (hq_ HB))); (case aL => have := LMc36.out; omega); intro v515 w55 ho hb hg hat; rw [← Ny514.out] at ho; have HO516 := Aside0.mk (ho); replace HO_0 := Aside0.mk (Kd.V_afterv (ok := (fun k_ => (P0_ k_ ∨ w.heap.size ≤ k_) ∧ some k_ ≠ (.slice Ao51 t485.length co51 : Value).ownBlock ∧ some k_ ≠ (v490 : Value).ownBlock ∧ some k_ ≠ (.slice Ao49 t494.length co49 : Value).ownBlock ∧ some k_ ≠ (.slice Ao56 t495.length co56 : Value).ownBlock ∧ some k_ ≠ (.slice Ao52 t503.length co52 : Value).ownBlock ∧ some k_ ≠ (v508 : Value).ownBlock)) (by (with_reducible repeat (first | apply Kd.V_alloc | apply Kd.V_drewN | apply Kd.V_drew)); exact Kd.V_mono HO_0.out (fun _ hk => ⟨⟨hk.1.1.1.1.1.1.1, ⟨hk.1.1.1.1.1.1.2, ⟨hk.1.1.1.1.1.2, ⟨hk.1.1.1.1.2, ⟨hk.1.1.1.2, ⟨hk.1.1.2, hk.1.2⟩⟩⟩⟩⟩⟩, hk.2⟩)) hg hat); replace HO489 := Aside0.mk (Kd.R_over' (rs_ HO489) (Kd.R_typed (rs_ HO513)) (by decide) hg); replace HO491 := Aside0.mk (Kd.R_after (ok := (fun k_ => (w.heap.size ≤ k_) ∧ some k_ ≠ (.slice Ao56 t495.length co56 : Value).ownBlock ∧ some k_ ≠ (v508 : Value).ownBlock)) (by (with_reducible repeat (first | apply Kd.R_alloc | apply Kd.R_drewN | apply Kd.R_drew)); exact Kd.R_mono HO491.out (fun _ hk => ⟨⟨hk.1.1.1.1, ⟨hk.1.1.2, hk.1.2⟩⟩, hk.2⟩)) hg hat); replace HO498 := Aside0.mk (Kd.R_over' (rs_ HO498) (Kd.R_typed (rs_ HO513)) (by decide) hg); replace HO500 := Aside0.mk (Kd.R_after (ok := (fun k_ => (w.heap.size ≤ k_) ∧ some k_ ≠ (v490 : Value).ownBlock ∧ some k_ ≠ (v508 : Value).ownBlock)) (by (with_reducible repeat (first | apply Kd.R_alloc | apply Kd.R_drewN | apply Kd.R_drew)); exact Kd.R_mono HO500.out (fun _ hk => ⟨⟨hk.1.1.1.1, ⟨hk.1.1.2, hk.1.2⟩⟩, hk.2⟩)) hg hat); replace HO507 := Aside0.mk (Kd.R_over' (rs_ HO507) (Kd.R_typed (rs_ HO513)) (by decide) hg); replace HO509 := Aside0.mk (Kd.R_after (ok := (fun k_ => (w.heap.size ≤ k_) ∧ some k_ ≠ (v490 : Value).ownBlock ∧ some k_ ≠ (.slice Ao56 t495.length co56 : Value).ownBlock)) (by (with_reducible repeat (first | apply Kd.R_alloc | apply Kd.R_drewN | apply Kd.R_drew)); exact Kd.R_mono HO509.out (fun _ hk => ⟨⟨hk.1.1.1.1, ⟨hk.1.1.2, hk.1.2⟩⟩, hk.2⟩)) hg hat); replace HB := Aside0.mk (hb); clear HO513; clear ho hb hg hat; obtain ⟨Ao58, co58, eo58⟩ := Kd.R_slice HO509.out; subst eo58) | ((with_reducible refine gate_builtin (b := .append) (xs := #[.tmp 100, .tmp 101]) rfl ?_); (try refine ug_ (by rfl) ?_); at_builtin; refine Kd.R_append_rows Kd.bool (w0 := w) w.heap.size rfl (.tmp 100) (.tmp 101) 27 4 (.bool false) 1 rfl Try.underlying27 info4 rfl (by decide) (by omega) v515 y514 t504 _ _ _ (fun k_ => (w.heap.size ≤ k_) ∧ some k_ ≠ (v490 : Value).ownBlock ∧ some k_ ≠ (.slice Ao56 t495.length co56 : Value).ownBlock ∧ some k_ ≠ (.slice Ao58 t504.length co58 : Value).ownBlock) (fun _ => False) rfl rfl ?aO ?aR (fun _ _ h => h) (fun _ h => h.elim) ?aF ?aB ?aS ?aL ?_; (case aR => exact cr_ HO509); (case aB => exact (hq_ HB)); (case aF => exact (fun k_ hk => ⟨(Nat.le_trans (below_size (hq_ HB)) hk), Kd.fresh' (Kd.R_lt (rs_ HO491)) k_ hk, Kd.fresh' (Kd.R_lt (rs_ HO500)) k_ hk, Kd.fresh' (Kd.R_lt (rs_ HO509)) k_ hk⟩)); (case aO => exact (rs_ HO516)); (case aS => exact (below_size (hq_ HB))); (case aL => have := LMc37.out; omega); intro v518 w57 ho hb hg hat; rw [← Ny517.out] at ho; have HO519 := Aside0.mk (ho); replace HO_0 := Aside0.mk (Kd.V_afterv (ok := (fun k_ => (P0_ k_ ∨ w.heap.size ≤ k_) ∧ some k_ ≠ (.slice Ao51 t485.length co51 : Value).ownBlock ∧ some k_ ≠ (v490 : Value).ownBlock ∧ some k_ ≠ (.slice Ao49 t494.length co49 : Value).ownBlock ∧ some k_ ≠ (.slice Ao56 t495.length co56 : Value).ownBlock ∧ some k_ ≠ (.slice Ao52 t503.length co52 : Value).ownBlock ∧ some k_ ≠ (.slice Ao58 t504.length co58 : Value).ownBlock)) (by (with_reducible repeat (first | apply Kd.V_alloc | apply Kd.V_drewN | apply Kd.V_drew)); exact HO_0.out) hg hat); replace HO489 := Aside0.mk (Kd.R_over' (rs_ HO489) (Kd.R_typed (rs_ HO516)) (by decide) hg); replace HO491 := Aside0.mk (Kd.R_after (ok := (fun k_ => (w.heap.size ≤ k_) ∧ some k_ ≠ (.slice Ao56 t495.length co56 : Value).ownBlock ∧ some k_ ≠ (.slice Ao58 t504.length co58 : Value).ownBlock)) (rs_ HO491) hg hat); replace HO498 := Aside0.mk (Kd.R_over' (rs_ HO498) (Kd.R_typed (rs_ HO516)) (by decide) hg); replace HO500 := Aside0.mk (Kd.R_after (ok := (fun k_ => (w.heap.size ≤ k_) ∧ some k_ ≠ (v490 : Value).ownBlock ∧ some k_ ≠ (.slice Ao58 t504.length co58 : Value).ownBlock)) (rs_ HO500) hg hat); replace HO507 := Aside0.mk (Kd.R_over' (rs_ HO507) (Kd.R_typed (rs_ HO516)) (by decide) hg); replace HO509 := Aside0.mk (Kd.R_after (ok := (fun k_ => (w.heap.size ≤ k_) ∧ some k_ ≠ (v490 : Value).ownBlock ∧ some k_ ≠ (.slice Ao56 t495.length co56 : Value).ownBlock)) (rs_ HO509) hg hat); replace HB := Aside0.mk (hb); clear HO516; clear ho hb hg hat; obtain ⟨Ao59, co59, eo59⟩ := Kd.R_slice HO491.out; subst eo59; obtain ⟨Ao60, co60, eo60⟩ := Kd.R_slice HO519.out; subst eo60) | (go_at_call 14; (with_reducible refine (spigotref04_SameBools.calls kj4 _ _ t486 _ _ y517 true _ ?side1 ?side2 ?side3 ?side4 A38.out).mono ?_); (case side1 => exact cr_ HO491); (case side2 => exact (Kd.R_reads' HO491.out).2.1); (case side3 => exact cr_ HO519); (case side4 => exact (Kd.R_reads' HO519.out).2.1); rintro e w' ⟨rfl, ⟨nd, rfl⟩⟩))
      go_loopg [18, 19] kj4 (fun kq v18 v19 w' => ∃ (x18_2 : List (S37)) (x19_2 : Int), v19 = .int .i64 x19_2 ∧ Aside0 (spigotlaw04_LevelsParts.l0 kq l1 l2 t485 t486 x18_2 x19_2 = some r) ∧ Aside0 (kq ≤ kj4) ∧ Aside0 (Kd.R k37 37 w' w.heap.size (fun k_ => (w.heap.size ≤ k_)) (.slice Ao51 t485.length co51) t485) ∧ Aside0 (Kd.R Kd.bool 4 w' w.heap.size (fun k_ => (w.heap.size ≤ k_)) (.slice Ao59 t486.length co59) t486) ∧ Aside0 (Kd.V k37 37 w' w.heap.size (fun k_ => (P0_ k_ ∨ w.heap.size ≤ k_) ∧ some k_ ≠ ((.slice Ao51 t485.length co51) : Value).ownBlock ∧ some k_ ≠ ((.slice Ao59 t486.length co59) : Value).ownBlock) v18 x18_2) ∧ Aside0 (Below w.heap.size w w'))
      case atStart => exact ⟨(l0), (0), rf_, H', ⟨Nat.le_refl _⟩, ⟨by (with_reducible repeat (first | apply Kd.R_alloc | apply Kd.R_drewN | apply Kd.R_drew)); exact Kd.R_mono HO489.out (fun _ hk => hk.1.1.1)⟩, ⟨by (with_reducible repeat (first | apply Kd.R_alloc | apply Kd.R_drewN | apply Kd.R_drew)); exact Kd.R_mono HO491.out (fun _ hk => hk.1.1)⟩, ⟨by (with_reducible repeat (first | apply Kd.V_alloc | apply Kd.V_drewN | apply Kd.V_drew)); exact Kd.V_mono HO_0.out (fun _ hk => ⟨hk.1.1, ⟨hk.1.2.1, hk.1.2.2.1⟩⟩)⟩, bw_⟩
      case round =>
       clear H'
       try clear c1
       try clear c2
       try clear c17
       try clear c21
       try clear c21b0
       try clear c21b1
       try clear c22
       try clear c22b0
       try clear c22b1
       try clear c23b0
       try clear c24
       try clear c24b0
       try clear c24b1
       try clear c26b0
       try clear c27b0
       try clear c28b0
       try clear c29b0
       try clear c31
       try clear c31b0
       try clear c31b1
       try clear c32
       try clear c32b0
       try clear c32b1
       try clear c33
       try clear c33b0
       try clear c33b1
       try clear c35
       try clear c36
       try clear c37
       try clear c39
       try clear c40
       try clear c40b0
       try clear c40b1
       try clear c40b2
       obtain ⟨x18_2, x19_2, rfl, HA, HK2, HO_9, HO_10, HO_18, HB⟩ := hrel
       cases gk with
       | zero => exact absurd HA.out (by simp [spigotlaw04_LevelsParts.l0])
       | succ k2 =>
        have H := HA.out
        clear HA
        simp only [spigotlaw04_LevelsParts.l0] at H
        by_cases c61 : x19_2 < (l1.length : Int)
        ·rw [if_pos c61] at H
         have c61b0 : decide (x19_2 < (l1.length : Int)) = true := decide_eq_true c61
         clear c61
         by_cases c62 : 0 ≤ x19_2
         rotate_left
         ·rw [if_neg c62] at H; exact absurd H (by simp)
         rw [if_pos c62] at H
         have c62b0 : decide (0 ≤ x19_2) = true := decide_eq_true c62
         clear c62
         by_cases c63 : x19_2 < (l2.length : Int)
         rotate_left
         ·rw [if_neg c63] at H; exact absurd H (by simp)
         rw [if_pos c63] at H
         have c63b0 : decide (x19_2 < (l2.length : Int)) = true := decide_eq_true c63
         clear c63
         obtain ⟨⟨t523, t524, t525⟩, A64, H⟩ := bo_ H
         try dsimp only at H
         by_cases c65 : t525 = 0
         rotate_left
         ·rw [if_neg c65] at H; exact absurd H (by simp)
         rw [if_pos c65] at H
         have c65b0 : (t525 == 0) = true := beq_iff_eq.mpr c65
         have c65b1 : (t525 != 0) = false := bne_eq_false_iff_eq.mpr c65
         clear c65
         by_cases c66 : x19_2 < (t486.length : Int)
         rotate_left
         ·rw [if_neg c66] at H; exact absurd H (by simp)
         rw [if_pos c66] at H
         have c66b0 : decide (x19_2 < (t486.length : Int)) = true := decide_eq_true c66
         clear c66
         by_cases c67 : (t524 != (rdOf false t486 x19_2)) = true
         ·rw [if_pos c67] at H; exact absurd H (by simp)
         rw [if_neg c67] at H
         have c67b0 : (t524 != (rdOf false t486 x19_2)) = false := by simpa using c67
         (try (have c67b1 : decide (t524 = (rdOf false t486 x19_2)) = true := by simpa using c67))
         (try (have c67b2 : (t524 == (rdOf false t486 x19_2)) = true := by simpa using c67))
         clear c67
         have H' := Aside0.mk H
         clear H
         try go_wp2
         replace HO_9 := Aside0.mk (Kd.R_drew HO_9.out)
         replace HO_10 := Aside0.mk (Kd.R_drew HO_10.out)
         replace HO_18 := Aside0.mk (Kd.V_drew HO_18.out)
         replace HB := Aside0.mk (below_drew1 HB.out)
         have p521 : 0 ≤ (x19_2 : Int) := of_decide_eq_true (by first | (with_reducible assumption) | assumption)
         have q521 : x19_2 < (l1.length : Int) := of_decide_eq_true (by first | (with_reducible assumption) | assumption)
         obtain ⟨ad521, e521, hx521_0⟩ := Kd.at_int HR1.out x19_2 p521 q521
         have hw521_0 := hx521_0
         cases e521
         replace hx521_0 := (HB.out.cell (World.block_lt_of_cell? w _ hx521_0)).trans hx521_0
         replace p521 := eq_true p521
         replace q521 := eq_true q521
         have p522 : 0 ≤ (x19_2 : Int) := of_decide_eq_true (by first | (with_reducible assumption) | assumption)
         have q522 : x19_2 < (l2.length : Int) := of_decide_eq_true (by first | (with_reducible assumption) | assumption)
         obtain ⟨ad522, e522, hx522_0⟩ := Kd.at_int HR2.out x19_2 p522 q522
         have hw522_0 := hx522_0
         cases e522
         replace hx522_0 := (HB.out.cell (World.block_lt_of_cell? w _ hx522_0)).trans hx522_0
         replace p522 := eq_true p522
         replace q522 := eq_true q522
         obtain ⟨Ao69, co69, eo69⟩ := Kd.V_slice HO_18.out
         (first | subst eo69 | (injection eo69 with f1_ f2_ f3_; have f4_ := f1_.symm; have f5_ := f3_.symm; clear f1_ f2_ f3_; subst f4_; subst f5_))
         refine start_ (n := 17) (S := fun w' => w'.cell? (ad521.add (x19_2).toNat) = some (.int .u64 (rd l1 x19_2)) ∧ w'.cell? (ad522.add (x19_2).toNat) = some (.int .i64 (rd l2 x19_2))) (ds := []) (bl_ 17 0) (by kernel_rfl) rfl (by kernel_rfl) ⟨((HB.out.cell (World.block_lt_of_cell? w _ hw521_0)).trans hw521_0), ((HB.out.cell (World.block_lt_of_cell? w _ hw522_0)).trans hw522_0)⟩ (fun hHeld => ?_); refine with_tabW spigotlaw04_LevelsParts.tab12 spigotlaw04_LevelsParts.bits12 (fun HT_ HW_ => ?_)
         generalize wr.drew = w68 at HO_9 HO_10 HO_18 HB hx521_0 hx522_0 hHeld ⊢
         refine pa_ 0 (some 121) (bl_ 17 1) HT_ ?_
         refine pa_ 1 (some 122) (bl_ 17 3) HT_ ?_
         refine pa_ 2 (some 123) (bl_ 17 7) HT_ ?_
         refine pa_ 3 (some 124) (bl_ 17 15) HT_ ?_
         refine pa_ 5 (some 126) (bl_ 17 47) HT_ ?_
         refine pa_ 6 (some 127) (bl_ 17 111) HT_ ?_
         refine pa_ 7 (some 128) (bl_ 17 239) HT_ ?_
         refine ta_ 4 (some 125) (bl_ 17 255) HT_ HW_ hHeld ?_
         refine ta_ 8 (some 129) (bl_ 17 511) HT_ HW_ hHeld ?_
         refine oa_ 9 (some 130) (bl_ 17 1023) HT_ fun K hK => ?_
         refine goesB_ Try.func23 #[.slice Ao69 x18_2.length co69, .int .u64 (rd l1 x19_2), .int .i64 (rd l2 x19_2)] ?_
         with_reducible refine (levels_Take.calls k2 _ _ x18_2 (rd l1 x19_2) (rd l2 x19_2) t523 t524 t525 _ ?side1 ?side2 A64.out).mono ?_
         (case side1 => repeat (first | exact (Kd.V_reads' HO_18.out).2.2 | (with_reducible refine Kd.C_alloc ?_ _) | (with_reducible refine Kd.C_drewN ?_ _) | (with_reducible refine Kd.C_drew ?_)))
         (case side2 => exact (Kd.V_reads' HO_18.out).2.1)
         rintro e w70 ⟨v526, rfl, ho0, hb⟩
         refine ⟨_, rfl, ?_⟩
         have HO527 := Aside0.mk (Kd.R_lower (Kd.R_new' (Kd.R_newM (M := fun k_ => (w.heap.size ≤ k_)) ho0 (below_size (hq_ HB)) (fun k_ h_ => h_)) (Kd.R_lt (rs_ HO_9))) (below_size (hq_ HB)))
         replace HO_9 := Aside0.mk (Kd.R_elder' (rs_ HO_9) (Kd.R_base ho0) hb)
         replace HO_10 := rb_ HO_10 hb
         replace HO_18 := Aside0.mk (Kd.V_elder' (by (with_reducible repeat (first | apply Kd.V_alloc | apply Kd.V_drewN | apply Kd.V_drew)); exact HO_18.out) (Kd.R_base ho0) hb)
         replace HB := bs_ w hb
         (try clear hb)
         (try clear hb2)
         (try clear hk)
         (try clear hi)
         (try clear ho0)
         refine hK.out _ _ ⟨((HB.out.cell (World.block_lt_of_cell? w _ hw521_0)).trans hw521_0), ((HB.out.cell (World.block_lt_of_cell? w _ hw522_0)).trans hw522_0)⟩ (fun hHeld => ?_)
         clear hK K
         refine nm_ (some 130) ?_
         refine pa_ 10 (some 120) (bl_ 17 2047) HT_ ?_
         refine pa_ 11 (some 131) (bl_ 17 4095) HT_ ?_
         refine pa_ 12 (some 132) (bl_ 17 8191) HT_ ?_
         refine pa_ 13 (some 133) (bl_ 17 16383) HT_ ?_
         refine pa_ 14 (some 20) (bl_ 17 32767) HT_ ?_
         refine pa_ 15 (some 21) (bl_ 17 65535) HT_ ?_
         refine pa_ 16 (some 22) (bl_ 17 131071) HT_ ?_
         refine done_ (done_of HT_.out (by kernel_rfl)) ?_
         have p528 : 0 ≤ (x19_2 : Int) := of_decide_eq_true (by first | (with_reducible assumption) | assumption)
         have q528 : x19_2 < (t486.length : Int) := of_decide_eq_true (by first | (with_reducible assumption) | assumption)
         obtain ⟨ad528, e528, hx528_0⟩ := Kd.at_bool (Kd.R_reads' HO_10.out).2.2 x19_2 p528 q528
         cases e528
         replace p528 := eq_true p528
         replace q528 := eq_true q528
         try go_wp2
         go_roundg k2
         case measure => have := HJ4.out; have := HK2.out; omega
         case rel => exact ⟨(t523), (wrap64 (x19_2 + 1)), rf_, H', ⟨by have := HJ4.out; have := HK2.out; omega⟩, ⟨by (with_reducible repeat (first | apply Kd.R_alloc | apply Kd.R_drewN | apply Kd.R_drew)); exact Kd.R_mono HO_9.out (fun _ hk => hk.1)⟩, ⟨rs_ HO_10⟩, ⟨Kd.V_mono (Kd.R_V (by (with_reducible repeat (first | apply Kd.R_alloc | apply Kd.R_drewN | apply Kd.R_drew)); exact Kd.R_mono (ok' := fun k_ => (w.heap.size ≤ k_) ∧ some k_ ≠ ((.slice _ t485.length co51) : Value).ownBlock ∧ some k_ ≠ ((.slice _ t486.length co59) : Value).ownBlock) (Kd.R_apart' HO527.out (Kd.R_typed HO_10.out) (by decide)) (fun _ hk => ⟨hk.1.1.1, ⟨hk.1.2, hk.2⟩⟩))) (fun k_ hk => by first | exact ⟨(.inr (hk.1)), hk.2⟩ | exact (.inr (hk)))⟩, bw_⟩
        ·rw [if_neg c61] at H
         have c61b0 : decide (x19_2 < (l1.length : Int)) = false := decide_eq_false c61
         clear c61
         obtain ⟨t529, A71, H⟩ := bo_ H
         replace H : (if t529 = true then ((spigotlaw04_alive.f k2).bind fun t530 => (some t530)) else (none)) = some r := H
         by_cases c72 : t529 = true
         ·subst c72
          rw [if_pos rfl] at H
          try dsimp only at H
          obtain ⟨t530, A73, H⟩ := bo_ H
          replace H : (some t530) = some r := H
          obtain rfl := Option.some.inj H
          obtain ⟨Ao74, co74, eo74⟩ := Kd.V_slice HO_18.out
          subst eo74
          go_wp2_with (first | ((with_reducible refine gate_callee (f := 15) rfl ?_); (try refine ug_ (by rfl) ?_); refine goesA_ (some 147) Try.func15 #[.slice Ao74 x18_2.length co74, .slice Ao51 t485.length co51] ?_; (with_reducible refine (spigotref04_Same.calls k2 _ _ x18_2 _ _ t485 true _ ?side1 ?side2 ?side3 ?side4 A71.out).mono ?_); (case side1 => repeat (first | exact (Kd.V_reads' HO_18.out).2.2 | (with_reducible refine Kd.C_alloc ?_ _) | (with_reducible refine Kd.C_drewN ?_ _) | (with_reducible refine Kd.C_drew ?_))); (case side2 => exact (Kd.V_reads' HO_18.out).2.1); (case side3 => exact cr_ HO_9); (case side4 => exact (Kd.R_reads' HO_9.out).2.1); rintro e w' ⟨rfl, ⟨nd, rfl⟩⟩; refine ⟨_, rfl, ?_⟩) | (go_at_call 17; (with_reducible refine (spigotlaw04_alive.calls k2  t530 _ A73.out).mono ?_); rintro e w75 ⟨rfl, hb⟩; replace HO_9 := rb_ HO_9 hb; replace HO_10 := rb_ HO_10 hb; replace HO_18 := Aside0.mk (Kd.V_below (by (with_reducible repeat (first | apply Kd.V_alloc | apply Kd.V_drewN | apply Kd.V_drew)); exact HO_18.out) hb); replace HB := bs_ w hb; clear hb))
          go_ret
          exact fi_
         ·replace c72 := Bool.eq_false_iff.mpr c72
          subst c72
          replace H : (none) = some r := by rw [if_neg (show ¬ (false = true) by decide)] at H; exact H
          exact absurd H (by simp)
     ·replace c39 := Bool.eq_false_iff.mpr c39
      subst c39
      replace H : (none) = some r := by rw [if_neg (show ¬ (false = true) by decide)] at H; exact H
      exact absurd H (by simp)
    ·replace c35 := Bool.eq_false_iff.mpr c35
     subst c35
     replace H : (none) = some r := by rw [if_neg (show ¬ (false = true) by decide)] at H; exact H
     exact absurd H (by simp)

end Go.Proofs.Ytaegpnbgppjicaa.X
