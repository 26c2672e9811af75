-- written by xprint.py, a program of this session over the kit's print
import Derived.Test.YtiifhbaabnpkeaaX0
import Derived.Test.YtiifhbaabnpkeaaX2
import Derived.Test.YtiifhbaabnpkeaaX13
import Derived.Test.YtiifhbaabnpkeaaX14
import Derived.Test.YtiifhbaabnpkeaaX15
import Derived.Test.YtiifhbaabnpkeaaX16
import Derived.Test.YtiifhbaabnpkeaaX17
import Derived.Test.YtiifhbaabnpkeaaX18
import Derived.Test.YtiifhbaabnpkeaaX21
import Derived.Test.YtiifhbaabnpkeaaX27
namespace Go.Proofs.Ytiifhbaabnpkeaa.X
open Go.RowKit Go.Proofs.YtiifhbaabnpkeaaW.PrintWords Go.Proofs.YtiifhbaabnpkeaaW.PrintLast Go.Proofs.YtiifhbaabnpkeaaW.PrintMore
attribute [local go_sem] max2_int min2_int max_two min_two max_three min_three max_four min_four   -- for this text's walks alone
set_option linter.unusedVariables false
set_option linter.unusedSimpArgs false

/-! ### spigottop_TopBuckets: function 3 -/
mutual
def spigottop_TopBuckets.j0 : Nat → List (S30) → Int → List Int → List Int → Bool → Option (Bool)
  | 0, _, _, _, _, _ => none
  | k + 1, x0, x1, x2, x3, x38 => if x38 = true then (some true) else ((spigottop_alive04.f k).bind fun t363 => (if t363 = true then (spigottop_TopBuckets.l0 k x0 x1 x2 x3 ([] : List (S32)) 0) else (none)))
def spigottop_TopBuckets.l0 : Nat → List (S30) → Int → List Int → List Int → List (S32) → Int → Option (Bool)
  | 0, _, _, _, _, _, _ => none
  | k + 1, x0, x1, x2, x3, x9, x10 => if x10 < (x0.length : Int) then (if 0 ≤ x10 then ((bucket_Full.f ((rd_T30 x0 x10).f0) ((rd_T30 x0 x10).f1) ((rd_T30 x0 x10).f2) x1).bind fun bt365 => (if bt365.2.2.2.2.2.2 = 0 then (if x9.length < 2932031007402 then (spigottop_TopBuckets.l0 k x0 x1 x2 x3 (x9 ++ [(⟨(⟨bt365.1, bt365.2.1, bt365.2.2.1⟩ : S30), bt365.2.2.2.1, bt365.2.2.2.2.1, bt365.2.2.2.2.2.1⟩ : S32)]) (wrap64 (x10 + 1))) else (none)) else (some (bt365.2.2.2.2.2.2 == 8)))) else (none)) else ((clock_Clamps.f x1 x2).bind fun bt376 => ((levels_Run.f k x9 x2 x3).bind fun bt380 => ((levels_Run.f k x9 bt376.1 x3).bind fun bt387 => (if bt376.2 = 0 then (if bt380.2.2 = 0 then (if bt387.2.2 = 0 then ((spigotref04_Same.f k bt380.1 bt387.1).bind fun t394 => (if t394 = true then ((spigotref04_SameBools.f k bt380.2.1 bt387.2.1).bind fun t395 => (if t395 = true then (if (bt380.2.1.length : Int) = (x3.length : Int) then (if (bt387.1.length : Int) = (x9.length : Int) then (spigottop_TopBuckets.l1 k x0 x1 x2 x3 bt380.2.1 bt387.1 0 0) else (none)) else (none)) else (none))) else (none))) else (none)) else (none)) else (none)))))
def spigottop_TopBuckets.l1 : Nat → List (S30) → Int → List Int → List Int → List Bool → List (S32) → Int → Int → Option (Bool)
  | 0, _, _, _, _, _, _, _, _ => none
  | k + 1, x0, x1, x2, x3, x16, x18, x21, x22 => if x22 < (x3.length : Int) then (if 0 ≤ x22 then (if x22 < (x16.length : Int) then (if rdOf false x16 x22 = true then (spigottop_TopBuckets.l1 k x0 x1 x2 x3 x16 x18 (IntKind.u64.wrap (x21 + (IntKind.u64.wrap (rd x3 x22)))) (wrap64 (x22 + 1))) else (spigottop_TopBuckets.l1 k x0 x1 x2 x3 x16 x18 x21 (wrap64 (x22 + 1)))) else (none)) else (none)) else ((spigotref02_Greatest.f k x1 x2).bind fun t398 => (spigottop_TopBuckets.l2 k x0 x1 x18 x21 t398 0))
def spigottop_TopBuckets.l2 : Nat → List (S30) → Int → List (S32) → Int → Int → Int → Option (Bool)
  | 0, _, _, _, _, _, _ => none
  | k + 1, x0, x1, x18, x21, x23, x24 => if x24 < (x18.length : Int) then (if 0 ≤ x24 then (if x24 < (x0.length : Int) then ((spigottop_bounded04.f k ((rd_T30 x0 x24).f0) ((rd_T30 x0 x24).f1) ((rd_T30 x0 x24).f2) x1 x23 ((rd_T32 x18 x24).f0.f0) ((rd_T32 x18 x24).f0.f1) ((rd_T32 x18 x24).f0.f2) ((rd_T32 x18 x24).f1) ((rd_T32 x18 x24).f2) ((rd_T32 x18 x24).f3) x21).bind fun t401 => (if t401 = true then (spigottop_TopBuckets.l2 k x0 x1 x18 x21 x23 (wrap64 (x24 + 1))) else (none))) else (none)) else (none)) else ((spigottop_waited04.f k x18 x23).bind fun t402 => (some t402))
end
def spigottop_TopBuckets.f (k : Nat) (l0 : List (S30)) (a1 : Int) (l2 : List Int) (l3 : List Int) : Option (Bool) := if (l0.length : Int) > 8 then (spigottop_TopBuckets.j0 k l0 a1 l2 l3 true) else (if (l2.length : Int) > 20 then (spigottop_TopBuckets.j0 k l0 a1 l2 l3 true) else ((spigotref04_Costs.f k l2 l3).bind fun t362 => (spigottop_TopBuckets.j0 k l0 a1 l2 l3 (!t362))))
theorem spigottop_TopBuckets.mono_l : ∀ k, (∀ y0 y1 y2 y3 y4, LeO (spigottop_TopBuckets.j0 k y0 y1 y2 y3 y4) (spigottop_TopBuckets.j0 (k + 1) y0 y1 y2 y3 y4)) ∧ (∀ y0 y1 y2 y3 y4 y5, LeO (spigottop_TopBuckets.l0 k y0 y1 y2 y3 y4 y5) (spigottop_TopBuckets.l0 (k + 1) y0 y1 y2 y3 y4 y5)) ∧ (∀ y0 y1 y2 y3 y4 y5 y6 y7, LeO (spigottop_TopBuckets.l1 k y0 y1 y2 y3 y4 y5 y6 y7) (spigottop_TopBuckets.l1 (k + 1) y0 y1 y2 y3 y4 y5 y6 y7)) ∧ (∀ y0 y1 y2 y3 y4 y5, LeO (spigottop_TopBuckets.l2 k y0 y1 y2 y3 y4 y5) (spigottop_TopBuckets.l2 (k + 1) y0 y1 y2 y3 y4 y5))
  | 0 => ⟨fun _ _ _ _ _ r h => by simp [spigottop_TopBuckets.j0] at h, fun _ _ _ _ _ _ r h => by simp [spigottop_TopBuckets.l0] at h, fun _ _ _ _ _ _ _ _ r h => by simp [spigottop_TopBuckets.l1] at h, fun _ _ _ _ _ _ r h => by simp [spigottop_TopBuckets.l2] at h⟩
  | k + 1 => by
    obtain ⟨ih0, ih1, ih2, ih3⟩ := spigottop_TopBuckets.mono_l k
    refine ⟨?_, ?_, ?_, ?_⟩
    · intro y0 y1 y2 y3 y4
      unfold spigottop_TopBuckets.j0
      repeat' first
      | (with_reducible exact ih0 _ _ _ _ _)
      | (with_reducible exact ih1 _ _ _ _ _ _)
      | (with_reducible exact ih2 _ _ _ _ _ _ _ _)
      | (with_reducible exact ih3 _ _ _ _ _ _)
      | (with_reducible exact levels_Run.mono _ _ _ _)
      | (with_reducible exact spigotref02_Greatest.mono _ _ _)
      | (with_reducible exact spigotref04_Costs.mono _ _ _)
      | (with_reducible exact spigotref04_Same.mono _ _ _)
      | (with_reducible exact spigotref04_SameBools.mono _ _ _)
      | (with_reducible exact spigottop_alive04.mono _)
      | (with_reducible exact spigottop_bounded04.mono _ _ _ _ _ _ _ _ _ _ _ _ _)
      | (with_reducible exact spigottop_waited04.mono _ _ _)
      | (with_reducible exact LeO.refl _)
      | (with_reducible exact LeO.none _)
      | (with_reducible refine LeO.ite ?_ ?_)
      | (with_reducible refine LeO.bind ?_ (fun _ => ?_))
      | exact ih0 _ _ _ _ _
      | exact ih1 _ _ _ _ _ _
      | exact ih2 _ _ _ _ _ _ _ _
      | exact ih3 _ _ _ _ _ _
      | exact levels_Run.mono _ _ _ _
      | exact spigotref02_Greatest.mono _ _ _
      | exact spigotref04_Costs.mono _ _ _
      | exact spigotref04_Same.mono _ _ _
      | exact spigotref04_SameBools.mono _ _ _
      | exact spigottop_alive04.mono _
      | exact spigottop_bounded04.mono _ _ _ _ _ _ _ _ _ _ _ _ _
      | exact spigottop_waited04.mono _ _ _
      | exact LeO.none _
      | refine LeO.ite ?_ ?_
      | refine LeO.bind ?_ (fun _ => ?_)
    · intro y0 y1 y2 y3 y4 y5
      unfold spigottop_TopBuckets.l0
      repeat' first
      | (with_reducible exact ih0 _ _ _ _ _)
      | (with_reducible exact ih1 _ _ _ _ _ _)
      | (with_reducible exact ih2 _ _ _ _ _ _ _ _)
      | (with_reducible exact ih3 _ _ _ _ _ _)
      | (with_reducible exact levels_Run.mono _ _ _ _)
      | (with_reducible exact spigotref02_Greatest.mono _ _ _)
      | (with_reducible exact spigotref04_Costs.mono _ _ _)
      | (with_reducible exact spigotref04_Same.mono _ _ _)
      | (with_reducible exact spigotref04_SameBools.mono _ _ _)
      | (with_reducible exact spigottop_alive04.mono _)
      | (with_reducible exact spigottop_bounded04.mono _ _ _ _ _ _ _ _ _ _ _ _ _)
      | (with_reducible exact spigottop_waited04.mono _ _ _)
      | (with_reducible exact LeO.refl _)
      | (with_reducible exact LeO.none _)
      | (with_reducible refine LeO.ite ?_ ?_)
      | (with_reducible refine LeO.bind ?_ (fun _ => ?_))
      | exact ih0 _ _ _ _ _
      | exact ih1 _ _ _ _ _ _
      | exact ih2 _ _ _ _ _ _ _ _
      | exact ih3 _ _ _ _ _ _
      | exact levels_Run.mono _ _ _ _
      | exact spigotref02_Greatest.mono _ _ _
      | exact spigotref04_Costs.mono _ _ _
      | exact spigotref04_Same.mono _ _ _
      | exact spigotref04_SameBools.mono _ _ _
      | exact spigottop_alive04.mono _
      | exact spigottop_bounded04.mono _ _ _ _ _ _ _ _ _ _ _ _ _
      | exact spigottop_waited04.mono _ _ _
      | exact LeO.none _
      | refine LeO.ite ?_ ?_
      | refine LeO.bind ?_ (fun _ => ?_)
    · intro y0 y1 y2 y3 y4 y5 y6 y7
      unfold spigottop_TopBuckets.l1
      repeat' first
      | (with_reducible exact ih0 _ _ _ _ _)
      | (with_reducible exact ih1 _ _ _ _ _ _)
      | (with_reducible exact ih2 _ _ _ _ _ _ _ _)
      | (with_reducible exact ih3 _ _ _ _ _ _)
      | (with_reducible exact levels_Run.mono _ _ _ _)
      | (with_reducible exact spigotref02_Greatest.mono _ _ _)
      | (with_reducible exact spigotref04_Costs.mono _ _ _)
      | (with_reducible exact spigotref04_Same.mono _ _ _)
      | (with_reducible exact spigotref04_SameBools.mono _ _ _)
      | (with_reducible exact spigottop_alive04.mono _)
      | (with_reducible exact spigottop_bounded04.mono _ _ _ _ _ _ _ _ _ _ _ _ _)
      | (with_reducible exact spigottop_waited04.mono _ _ _)
      | (with_reducible exact LeO.refl _)
      | (with_reducible exact LeO.none _)
      | (with_reducible refine LeO.ite ?_ ?_)
      | (with_reducible refine LeO.bind ?_ (fun _ => ?_))
      | exact ih0 _ _ _ _ _
      | exact ih1 _ _ _ _ _ _
      | exact ih2 _ _ _ _ _ _ _ _
      | exact ih3 _ _ _ _ _ _
      | exact levels_Run.mono _ _ _ _
      | exact spigotref02_Greatest.mono _ _ _
      | exact spigotref04_Costs.mono _ _ _
      | exact spigotref04_Same.mono _ _ _
      | exact spigotref04_SameBools.mono _ _ _
      | exact spigottop_alive04.mono _
      | exact spigottop_bounded04.mono _ _ _ _ _ _ _ _ _ _ _ _ _
      | exact spigottop_waited04.mono _ _ _
      | exact LeO.none _
      | refine LeO.ite ?_ ?_
      | refine LeO.bind ?_ (fun _ => ?_)
    · intro y0 y1 y2 y3 y4 y5
      unfold spigottop_TopBuckets.l2
      repeat' first
      | (with_reducible exact ih0 _ _ _ _ _)
      | (with_reducible exact ih1 _ _ _ _ _ _)
      | (with_reducible exact ih2 _ _ _ _ _ _ _ _)
      | (with_reducible exact ih3 _ _ _ _ _ _)
      | (with_reducible exact levels_Run.mono _ _ _ _)
      | (with_reducible exact spigotref02_Greatest.mono _ _ _)
      | (with_reducible exact spigotref04_Costs.mono _ _ _)
      | (with_reducible exact spigotref04_Same.mono _ _ _)
      | (with_reducible exact spigotref04_SameBools.mono _ _ _)
      | (with_reducible exact spigottop_alive04.mono _)
      | (with_reducible exact spigottop_bounded04.mono _ _ _ _ _ _ _ _ _ _ _ _ _)
      | (with_reducible exact spigottop_waited04.mono _ _ _)
      | (with_reducible exact LeO.refl _)
      | (with_reducible exact LeO.none _)
      | (with_reducible refine LeO.ite ?_ ?_)
      | (with_reducible refine LeO.bind ?_ (fun _ => ?_))
      | exact ih0 _ _ _ _ _
      | exact ih1 _ _ _ _ _ _
      | exact ih2 _ _ _ _ _ _ _ _
      | exact ih3 _ _ _ _ _ _
      | exact levels_Run.mono _ _ _ _
      | exact spigotref02_Greatest.mono _ _ _
      | exact spigotref04_Costs.mono _ _ _
      | exact spigotref04_Same.mono _ _ _
      | exact spigotref04_SameBools.mono _ _ _
      | exact spigottop_alive04.mono _
      | exact spigottop_bounded04.mono _ _ _ _ _ _ _ _ _ _ _ _ _
      | exact spigottop_waited04.mono _ _ _
      | exact LeO.none _
      | refine LeO.ite ?_ ?_
      | refine LeO.bind ?_ (fun _ => ?_)
theorem spigottop_TopBuckets.mono : ∀ a0 a1 a2 a3 k, LeO (spigottop_TopBuckets.f k a0 a1 a2 a3) (spigottop_TopBuckets.f (k + 1) a0 a1 a2 a3) := by
  intro a0 a1 a2 a3 k
  obtain ⟨ih0, ih1, ih2, ih3⟩ := spigottop_TopBuckets.mono_l k
  unfold spigottop_TopBuckets.f
  repeat' first
      | (with_reducible exact ih0 _ _ _ _ _)
      | (with_reducible exact ih1 _ _ _ _ _ _)
      | (with_reducible exact ih2 _ _ _ _ _ _ _ _)
      | (with_reducible exact ih3 _ _ _ _ _ _)
      | (with_reducible exact levels_Run.mono _ _ _ _)
      | (with_reducible exact spigotref02_Greatest.mono _ _ _)
      | (with_reducible exact spigotref04_Costs.mono _ _ _)
      | (with_reducible exact spigotref04_Same.mono _ _ _)
      | (with_reducible exact spigotref04_SameBools.mono _ _ _)
      | (with_reducible exact spigottop_alive04.mono _)
      | (with_reducible exact spigottop_bounded04.mono _ _ _ _ _ _ _ _ _ _ _ _ _)
      | (with_reducible exact spigottop_waited04.mono _ _ _)
      | (with_reducible exact LeO.refl _)
      | (with_reducible exact LeO.none _)
      | (with_reducible refine LeO.ite ?_ ?_)
      | (with_reducible refine LeO.bind ?_ (fun _ => ?_))
      | exact ih0 _ _ _ _ _
      | exact ih1 _ _ _ _ _ _
      | exact ih2 _ _ _ _ _ _ _ _
      | exact ih3 _ _ _ _ _ _
      | exact levels_Run.mono _ _ _ _
      | exact spigotref02_Greatest.mono _ _ _
      | exact spigotref04_Costs.mono _ _ _
      | exact spigotref04_Same.mono _ _ _
      | exact spigotref04_SameBools.mono _ _ _
      | exact spigottop_alive04.mono _
      | exact spigottop_bounded04.mono _ _ _ _ _ _ _ _ _ _ _ _ _
      | exact spigottop_waited04.mono _ _ _
      | exact LeO.none _
      | refine LeO.ite ?_ ?_
      | refine LeO.bind ?_ (fun _ => ?_)
def spigottop_TopBuckets.T28 : Bool × List (List Nat × List Nat) := (true, [([], []), ([], []), ([0, 1], [0, 1]), ([2], [2]), ([], []), ([], []), ([], []), ([], []), ([6, 7], [6, 7]), ([8], [8]), ([], []), ([3, 4, 5, 9, 10], [3, 4, 5, 9, 10]), ([11], [11])])
def spigottop_TopBuckets.B28 : List Nat := [0, 0, 3, 7, 0, 0, 0, 0, 192, 448, 0, 2047, 4095]
theorem spigottop_TopBuckets.tab28 : rtab .any (opsOf Try.f3 28) = spigottop_TopBuckets.T28 := by kernel_rfl
theorem spigottop_TopBuckets.bits28 : waitsOk spigottop_TopBuckets.T28.2 spigottop_TopBuckets.B28 = true := by kernel_rfl
set_option maxHeartbeats 8000000 in
set_option maxRecDepth 100000 in
theorem spigottop_TopBuckets.calls (k : Nat) (A0 : Option Addr) (c0 : Nat) (l0 : List (S30)) (a1 : Int) (A2 : Option Addr) (c2 : Nat) (l2 : List Int) (A3 : Option Addr) (c3 : Nat) (l3 : List Int) (r : Bool) (w : World) (hr0 : Kd.C k30 w A0 l0.length l0) (hc0 : l0.length ≤ c0) (hr2 : Kd.C (Kd.int .u64) w A2 l2.length l2) (hc2 : l2.length ≤ c2) (hr3 : Kd.C (Kd.int .i64) w A3 l3.length l3) (hc3 : l3.length ≤ c3) (h : spigottop_TopBuckets.f k l0 a1 l2 l3 = some r) :
  Calls Try.prog 3 #[.slice A0 l0.length c0, .int .u64 a1, .slice A2 l2.length c2, .slice A3 l3.length c3] w fun e w' => e = .returned (.bool r) ∧ Below w.heap.size w w' := by
 have hu30 := Try.underlying30
 have hu32 := Try.underlying32
 have HR0 := Aside0.mk hr0
 have HC0 := Aside0.mk hc0
 clear hr0 hc0
 have HR2 := Aside0.mk hr2
 have HC2 := Aside0.mk hc2
 clear hr2 hc2
 have HR3 := Aside0.mk hr3
 have HC3 := Aside0.mk hc3
 clear hr3 hc3
 have HB := Aside0.mk (Below.refl w.heap.size w)
 have H : (if (l0.length : Int) > 8 then (spigottop_TopBuckets.j0 k l0 a1 l2 l3 true) else (if (l2.length : Int) > 20 then (spigottop_TopBuckets.j0 k l0 a1 l2 l3 true) else ((spigotref04_Costs.f k l2 l3).bind fun t362 => (spigottop_TopBuckets.j0 k l0 a1 l2 l3 (!t362))))) = some r := h
 clear h
 have HC5 := Aside0.mk H
 clear H
 go_enter Try.func3, Try.ntmps3
 go_upto_region 1 with (fail)
 go_cut [38] (fun v38 wc => ∃ (kq : Nat) (x38_4 : Bool), v38 = .bool x38_4 ∧ Aside0 (spigottop_TopBuckets.j0 kq l0 a1 l2 l3 x38_4 = some r) ∧ Aside0 (kq ≤ k) ∧ Aside0 (Below w.heap.size w wc))
 case first =>
  have H := HC5.out
  clear HC5
  by_cases c6 : (l0.length : Int) > 8
  ·rw [if_pos c6] at H
   have c6b0 : decide (8 < (l0.length : Int)) = true := decide_eq_true c6
   have c6b1 : decide (8 < l0.length) = true := decide_eq_true (by omega)
   clear c6
   (first | rw [c6b0] | (simp only [i64_w, i32_w]; rw [c6b0]) | skip)
   have H' := Aside0.mk H
   clear H
   go_wp2
   go_meet
   case rel => exact ⟨_, (true), rf_, H', al_, bw_⟩
  ·rw [if_neg c6] at H
   have c6b0 : decide (8 < (l0.length : Int)) = false := decide_eq_false c6
   have c6b1 : decide (8 < l0.length) = false := decide_eq_false (by omega)
   clear c6
   (first | rw [c6b0] | (simp only [i64_w, i32_w]; rw [c6b0]) | skip)
   by_cases c7 : (l2.length : Int) > 20
   ·rw [if_pos c7] at H
    have c7b0 : decide (20 < (l2.length : Int)) = true := decide_eq_true c7
    have c7b1 : decide (20 < l2.length) = true := decide_eq_true (by omega)
    clear c7
    have H' := Aside0.mk H
    clear H
    go_wp2
    go_meet
    case rel => exact ⟨_, (true), rf_, H', al_, bw_⟩
   ·rw [if_neg c7] at H
    have c7b0 : decide (20 < (l2.length : Int)) = false := decide_eq_false c7
    have c7b1 : decide (20 < l2.length) = false := decide_eq_false (by omega)
    clear c7
    have H0_ := bo_ H; clear H; obtain ⟨t362, A8, H⟩ := H0_
    replace H : (spigottop_TopBuckets.j0 k l0 a1 l2 l3 (!t362)) = some r := H
    have H' := Aside0.mk H
    clear H
    go_wp2_with (first | (go_at_call 4; (with_reducible refine (spigotref04_Costs.calls k _ _ l2 _ _ l3 t362 _ ?side1 ?side2 ?side3 ?side4 A8.out).mono ?_); (case side1 => exact cs_ HR2 HB); (case side2 => exact HC2.out); (case side3 => exact cs_ HR3 HB); (case side4 => exact HC3.out); rintro e w' ⟨rfl, ⟨nd, rfl⟩⟩))
    go_meet
    case rel => exact ⟨_, (!t362), rf_, H', al_, bw_⟩
 case rest =>
  clear HC5
  try clear c2
  try clear c3
  obtain ⟨kq, x38_4, rfl, HA, HJ4, HB⟩ := hcut
  cases kq with
  | zero => exact absurd HA.out (by simp [spigottop_TopBuckets.j0])
  | succ kj4 =>
   have H := HA.out
   clear HA
   simp only [spigottop_TopBuckets.j0] at H
   by_cases c9 : x38_4 = true
   ·subst c9
    replace H : (some true) = some r := by rw [if_pos rfl] at H; exact H
    obtain rfl := Option.some.inj H
    go_wp2
    go_ret
    exact fi_
   ·replace c9 := Bool.eq_false_iff.mpr c9
    subst c9
    rw [if_neg (show ¬ (false = true) by decide)] at H
    try dsimp only at H
    have H0_ := bo_ H; clear H; obtain ⟨t363, A10, H⟩ := H0_
    replace H : (if t363 = true then (spigottop_TopBuckets.l0 kj4 l0 a1 l2 l3 ([] : List (S32)) 0) else (none)) = some r := H
    by_cases c11 : t363 = true
    ·subst c11
     rw [if_pos rfl] at H
     try dsimp only at H
     have H' := Aside0.mk H
     clear H
     go_wp2_with (first | ((with_reducible refine gate_callee (f := 5) rfl ?_); (try refine ug_ (by rfl) ?_); refine goesA_ (some 39) Try.func5 #[] ?_; (with_reducible refine (spigottop_alive04.calls kj4  true _ A10.out).mono ?_); rintro e w12 ⟨rfl, hb⟩; refine ⟨_, rfl, ?_⟩; replace HB := bs_ w hb; clear hb))
     go_loopg [9, 10] kj4 (fun kq v9 v10 w' => ∃ (x9_2 : List (S32)) (x10_2 : Int), v10 = .int .i64 x10_2 ∧ Aside0 (spigottop_TopBuckets.l0 kq l0 a1 l2 l3 x9_2 x10_2 = some r) ∧ Aside0 (kq ≤ kj4) ∧ Aside0 (Kd.R k32 32 w' w.heap.size (fun _ => True) v9 x9_2) ∧ Aside0 (Below w.heap.size w w'))
     case atStart => exact ⟨(([] : List (S32))), (0), rf_, H', ⟨Nat.le_refl _⟩, ⟨by first | exact Kd.R_nil _ _ _ _ _ | exact Kd.N_nil _ _ _ _ _ | exact Kd.V_nil _ _ _ _ _ | exact Kd.Q_nil _ _ _ _ _ | exact Kd.S_nil _ _ _ _ _⟩, bw_⟩
     case round =>
      clear H'
      try clear c2
      try clear c3
      try clear c9
      try clear c11
      obtain ⟨x9_2, x10_2, rfl, HA, HK2, HO_9, HB⟩ := hrel
      cases gk with
      | zero => exact absurd HA.out (by simp [spigottop_TopBuckets.l0])
      | succ k2 =>
       have H := HA.out
       clear HA
       simp only [spigottop_TopBuckets.l0] at H
       by_cases c13 : x10_2 < (l0.length : Int)
       ·rw [if_pos c13] at H
        have c13b0 : decide (x10_2 < (l0.length : Int)) = true := decide_eq_true c13
        clear c13
        by_cases c14 : 0 ≤ x10_2
        rotate_left
        ·rw [if_neg c14] at H; exact absurd H (by simp)
        rw [if_pos c14] at H
        have c14b0 : decide (0 ≤ x10_2) = true := decide_eq_true c14
        clear c14
        have H0_ := bo_ H; clear H; obtain ⟨⟨t365, t366, t367, t368, t369, t370, t371⟩, A15, H⟩ := H0_
        try dsimp only at H
        by_cases c16 : t371 = 0
        ·rw [if_pos c16] at H
         have c16b0 : (t371 == 0) = true := beq_iff_eq.mpr c16
         have c16b1 : (t371 != 0) = false := bne_eq_false_iff_eq.mpr c16
         clear c16
         by_cases c17 : x9_2.length < 2932031007402
         rotate_left
         ·rw [if_neg c17] at H; exact absurd H (by simp)
         rw [if_pos c17] at H
         have LMc17 := Aside0.mk c17
         clear c17
         obtain ⟨y373, hy373⟩ : ∃ y_ : List (S32), y_ = (x9_2 ++ [(⟨(⟨t365, t366, t367⟩ : S30), t368, t369, t370⟩ : S32)]) := ⟨_, rfl⟩
         replace H : (spigottop_TopBuckets.l0 k2 l0 a1 l2 l3 y373 (wrap64 (x10_2 + 1))) = some r := by first | (rw [hy373]; with_reducible exact H) | (have H2_ := (Option.bind_some _ _).symm.trans H; rw [hy373]; with_reducible exact H2_) | (have H2_ := (Option.bind_some _ _).symm.trans H; with_reducible exact H2_) | with_reducible exact H | (rw [hy373]; exact H) | exact H
         have Ny373 := Aside0.mk hy373
         clear hy373
         have H' := Aside0.mk H
         clear H
         have p364 : 0 ≤ (x10_2 : Int) := of_decide_eq_true (by first | (with_reducible assumption) | assumption)
         have q364 : x10_2 < (l0.length : Int) := of_decide_eq_true (by first | (with_reducible assumption) | assumption)
         obtain ⟨ad364, e364, hx364_0, hx364_1, hx364_2⟩ := at_T30 HR0.out x10_2 p364 q364
         cases e364
         replace hx364_0 := (HB.out.cell (World.block_lt_of_cell? w _ hx364_0)).trans hx364_0
         replace hx364_1 := (HB.out.cell (World.block_lt_of_cell? w _ hx364_1)).trans hx364_1
         replace hx364_2 := (HB.out.cell (World.block_lt_of_cell? w _ hx364_2)).trans hx364_2
         replace p364 := eq_true p364
         replace q364 := eq_true q364
         go_wp2_with (first | ((with_reducible refine gate_callee (f := 6) rfl ?_); (try refine ug_ (by rfl) ?_); refine goesA_ (some 53) Try.func6 #[.agg #[.int .i64 ((rd_T30 l0 x10_2).f0), .int .i64 ((rd_T30 l0 x10_2).f1), .int .i64 ((rd_T30 l0 x10_2).f2)], .int .u64 a1] ?_; (with_reducible refine (bucket_Full.calls ((rd_T30 l0 x10_2).f0) ((rd_T30 l0 x10_2).f1) ((rd_T30 l0 x10_2).f2) a1 t365 t366 t367 t368 t369 t370 t371 _ A15.out).mono ?_); rintro e w18 ⟨rfl, hb⟩; refine ⟨_, rfl, ?_⟩; replace HO_9 := rb_ HO_9 hb; replace HB := bs_ w hb; clear hb) | ((with_reducible refine gate_dst (N := 11) rfl ?_); (try refine ug_ (by rfl) ?_); refine bx_ #[.int .i64 0, .int .i64 0, .int .i64 0, .int .i64 0, .int .i64 0, .int .u64 0] 32 ?_; intro gb372 hg w19 BK372 hb; have GW372 := bz_ w hg; have GE372 := GW372; replace HO_9 := Aside0.mk (Kd.R_below (Kd.R_elderB (rs_ HO_9) gb372 (Nat.le_of_eq hg.symm)) hb); replace HB := bs_ w hb; clear hb hg; replace hc372 := ce6_ BK372) | ((with_reducible refine gate_builtin (b := .append) (xs := #[.tmp 60, .tmp 62]) rfl ?_); (try refine ug_ (by rfl) ?_); at_builtin; refine Kd.R_append k32 (w0 := w) w.heap.size rfl (.tmp 60) (.tmp 62) 28 32 (.agg #[(.int .i64 0), (.int .i64 0), (.int .i64 0), (.int .i64 0), (.int .i64 0), (.int .u64 0)]) 48 rfl Try.underlying28 info32 rfl (by decide) (by omega) u9 x9_2 (⟨(⟨t365, t366, t367⟩ : S30), t368, t369, t370⟩ : S32) [.int .i64 t365, .int .i64 t366, .int .i64 t367, .int .i64 t368, .int .i64 t369, .int .u64 t370] (fun k_ => k_ ≠ gb372) (fun _ => False) rfl (by first | (go_simp; done) | (go_simp; rfl)) ?aP (fun _ hk => hk.elim) ?aF ?aO ?aB ?aS ?aL ?_; (case aP => exact k32_mkM _ _ _ (⟨(⟨t365, t366, t367⟩ : S30), t368, t369, t370⟩ : S32)); (case aB => exact bh_); (case aF => exact (fun k_ hk => Kd.freshB (g := gb372) (o := .cells #[.int .i64 t365, .int .i64 t366, .int .i64 t367, .int .i64 t368, .int .i64 t369, .int .u64 t370] 32 (0, 0)) (bp6_ (bq_ BK372)) k_ hk)); (case aO => exact (by (with_reducible repeat (first | apply Kd.R_alloc | apply Kd.R_drewN | apply Kd.R_drew)); exact Kd.R_mono (rf6_ (g := gb372) (Kd.R_mono HO_9.out (fun k_ hk => (⟨hk, hk.2⟩ : _ ∧ k_ ≠ gb372))) (fun _ hk => hk.2)) (fun _ hk => hk.1.2))); (case aS => exact (below_size bh_)); (case aL => have := LMc17.out; omega); intro v374 w21 ho hb hg hat; rw [← Ny373.out] at ho; have HO375 := Aside0.mk (ho); replace BK372 := Aside0.mk (blk_grown (g := gb372) (o := .cells #[.int .i64 t365, .int .i64 t366, .int .i64 t367, .int .i64 t368, .int .i64 t369, .int .u64 t370] 32 (0, 0)) (bp6_ (bq_ BK372)) hg (Kd.R_away HO_9.out (fun _ hk => hk.2))); replace HB := Aside0.mk (hb); clear HO_9; clear ho hb hg hat))
         go_roundg k2
         case measure => have := HJ4.out; have := HK2.out; omega
         case rel => exact ⟨(y373), (wrap64 (x10_2 + 1)), rf_, H', ⟨by have := HJ4.out; have := HK2.out; omega⟩, ⟨by (with_reducible repeat (first | apply Kd.R_alloc | apply Kd.R_drewN | apply Kd.R_drew)); exact Kd.R_mono HO375.out (fun _ hk => trivial)⟩, bw_⟩
        ·rw [if_neg c16] at H
         have c16b0 : (t371 == 0) = false := beq_eq_false_iff_ne.mpr c16
         have c16b1 : (t371 != 0) = true := bne_iff_ne.mpr c16
         obtain rfl := Option.some.inj H
         have p364 : 0 ≤ (x10_2 : Int) := of_decide_eq_true (by first | (with_reducible assumption) | assumption)
         have q364 : x10_2 < (l0.length : Int) := of_decide_eq_true (by first | (with_reducible assumption) | assumption)
         obtain ⟨ad364, e364, hx364_0, hx364_1, hx364_2⟩ := at_T30 HR0.out x10_2 p364 q364
         cases e364
         replace hx364_0 := (HB.out.cell (World.block_lt_of_cell? w _ hx364_0)).trans hx364_0
         replace hx364_1 := (HB.out.cell (World.block_lt_of_cell? w _ hx364_1)).trans hx364_1
         replace hx364_2 := (HB.out.cell (World.block_lt_of_cell? w _ hx364_2)).trans hx364_2
         replace p364 := eq_true p364
         replace q364 := eq_true q364
         go_wp2_with (first | ((with_reducible refine gate_callee (f := 6) rfl ?_); (try refine ug_ (by rfl) ?_); refine goesA_ (some 53) Try.func6 #[.agg #[.int .i64 ((rd_T30 l0 x10_2).f0), .int .i64 ((rd_T30 l0 x10_2).f1), .int .i64 ((rd_T30 l0 x10_2).f2)], .int .u64 a1] ?_; (with_reducible refine (bucket_Full.calls ((rd_T30 l0 x10_2).f0) ((rd_T30 l0 x10_2).f1) ((rd_T30 l0 x10_2).f2) a1 t365 t366 t367 t368 t369 t370 t371 _ A15.out).mono ?_); rintro e w22 ⟨rfl, hb⟩; refine ⟨_, rfl, ?_⟩; replace HO_9 := rb_ HO_9 hb; replace HB := bs_ w hb; clear hb) | ((with_reducible refine gate_dst (N := 11) rfl ?_); (try refine ug_ (by rfl) ?_); refine bx_ #[.int .i64 0, .int .i64 0, .int .i64 0, .int .i64 0, .int .i64 0, .int .u64 0] 32 ?_; intro gb372 hg w23 BK372 hb; have GW372 := bz_ w hg; have GE372 := GW372; replace HO_9 := Aside0.mk (Kd.R_below (Kd.R_elderB (rs_ HO_9) gb372 (Nat.le_of_eq hg.symm)) hb); replace HB := bs_ w hb; clear hb hg; replace hc372 := ce6_ BK372))
         go_ret
         exact fi_
       ·rw [if_neg c13] at H
        have c13b0 : decide (x10_2 < (l0.length : Int)) = false := decide_eq_false c13
        clear c13
        have H0_ := bo_ H; clear H; obtain ⟨⟨t376, t377⟩, A25, H⟩ := H0_
        try dsimp only at H
        have H0_ := bo_ H; clear H; obtain ⟨⟨t380, t381, t382⟩, A26, H⟩ := H0_
        try dsimp only at H
        have H0_ := bo_ H; clear H; obtain ⟨⟨t387, t388, t389⟩, A27, H⟩ := H0_
        try dsimp only at H
        replace H := ct_ H; obtain ⟨c28b0, c28b1, H⟩ := H
        replace H := ct_ H; obtain ⟨c29b0, c29b1, H⟩ := H
        replace H := ct_ H; obtain ⟨c30b0, c30b1, H⟩ := H
        have H0_ := bo_ H; clear H; obtain ⟨t394, A31, H⟩ := H0_
        try dsimp only at H
        by_cases c32 : t394 = true
        ·subst c32
         rw [if_pos rfl] at H
         try dsimp only at H
         have H0_ := bo_ H; clear H; obtain ⟨t395, A33, H⟩ := H0_
         try dsimp only at H
         by_cases c34 : t395 = true
         ·subst c34
          rw [if_pos rfl] at H
          try dsimp only at H
          by_cases c35 : (t381.length : Int) = (l3.length : Int)
          rotate_left
          ·rw [if_neg c35] at H; exact absurd H (by simp)
          rw [if_pos c35] at H
          have c35b0 : ((t381.length : Int) == (l3.length : Int)) = true := beq_iff_eq.mpr c35
          have c35b1 : ((t381.length : Int) != (l3.length : Int)) = false := bne_eq_false_iff_eq.mpr c35
          have c35b2 : (t381.length == l3.length) = true := by first | simpa using c35 | (simp at c35 ⊢; omega)
          clear c35
          by_cases c36 : (t387.length : Int) = (x9_2.length : Int)
          rotate_left
          ·rw [if_neg c36] at H; exact absurd H (by simp)
          rw [if_pos c36] at H
          have c36b0 : ((t387.length : Int) == (x9_2.length : Int)) = true := beq_iff_eq.mpr c36
          have c36b1 : ((t387.length : Int) != (x9_2.length : Int)) = false := bne_eq_false_iff_eq.mpr c36
          have c36b2 : (t387.length == x9_2.length) = true := by first | simpa using c36 | (simp at c36 ⊢; omega)
          clear c36
          have H' := Aside0.mk H
          clear H
          go_wp2_with (first | ((with_reducible refine gate_callee (f := 7) rfl ?_); (try refine ug_ (by rfl) ?_); refine goesA_ (some 67) Try.func7 #[.int .u64 a1, .slice A2 l2.length c2] ?_; (with_reducible refine (clock_Clamps.calls a1 _ _ l2 t376 t377 _ ?side1 ?side2 A25.out).mono ?_); (case side1 => exact cs_ HR2 HB); (case side2 => exact HC2.out); rintro e w37 ⟨v378, rfl, ho0, hb⟩; refine ⟨_, rfl, ?_⟩; have HO379 := Aside0.mk (Kd.R_lower ho0 (below_size (hq_ HB))); replace HO_9 := rb_ HO_9 hb; replace HB := bs_ w hb; (try clear hb); (try clear hb2); (try clear hk); (try clear hi); (try clear ho0); obtain ⟨Ao38, co38, eo38⟩ := Kd.R_slice HO_9.out; subst eo38) | ((with_reducible refine gate_callee (f := 8) rfl ?_); (try refine ug_ (by rfl) ?_); refine goesA_ (some 74) Try.func8 #[.slice Ao38 x9_2.length co38, .slice A2 l2.length c2, .slice A3 l3.length c3] ?_; (with_reducible refine (levels_Run.calls k2 _ _ x9_2 _ _ l2 _ _ l3 t380 t381 t382 _ ?side1 ?side2 ?side3 ?side4 ?side5 ?side6 A26.out).mono ?_); (case side1 => exact cr_ HO_9); (case side2 => exact (Kd.R_reads' HO_9.out).2.1); (case side3 => exact cs_ HR2 HB); (case side4 => exact HC2.out); (case side5 => exact cs_ HR3 HB); (case side6 => exact HC3.out); rintro e w39 ⟨v383, v385, rfl, ho0, ho1, hb⟩; refine ⟨_, rfl, ?_⟩; have HO384 := Aside0.mk (Kd.R_lower (Kd.R_new' ho0 (Kd.R_lt (rs_ HO_9))) (below_size (hq_ HB))); have HO386 := Aside0.mk (Kd.R_lower ho1 (below_size (hq_ HB))); replace HO_9 := Aside0.mk (Kd.R_elder' (rs_ HO_9) (Kd.R_base ho0) hb); replace HO379 := rb_ HO379 hb; replace HB := bs_ w hb; (try clear hb); (try clear hb2); (try clear hk); (try clear hi); (try clear ho0); (try clear ho1); obtain ⟨Ao40, co40, eo40⟩ := Kd.R_slice HO379.out; subst eo40) | ((with_reducible refine gate_callee (f := 8) rfl ?_); (try refine ug_ (by rfl) ?_); refine goesA_ (some 82) Try.func8 #[.slice Ao38 x9_2.length co38, .slice Ao40 t376.length co40, .slice A3 l3.length c3] ?_; (with_reducible refine (levels_Run.calls k2 _ _ x9_2 _ _ t376 _ _ l3 t387 t388 t389 _ ?side1 ?side2 ?side3 ?side4 ?side5 ?side6 A27.out).mono ?_); (case side1 => exact cr_ HO_9); (case side2 => exact (Kd.R_reads' HO_9.out).2.1); (case side3 => exact cr_ HO379); (case side4 => exact (Kd.R_reads' HO379.out).2.1); (case side5 => exact cs_ HR3 HB); (case side6 => exact HC3.out); rintro e w41 ⟨v390, v392, rfl, ho0, ho1, hb⟩; refine ⟨_, rfl, ?_⟩; have HO391 := Aside0.mk (Kd.R_lower (Kd.R_new' (Kd.R_new' ho0 (Kd.R_lt (rs_ HO_9))) (Kd.R_lt (rs_ HO384))) (below_size (hq_ HB))); have HO393 := Aside0.mk (Kd.R_lower (Kd.R_new' ho1 (Kd.R_lt (rs_ HO386))) (below_size (hq_ HB))); replace HO_9 := Aside0.mk (Kd.R_elder' (rs_ HO_9) (Kd.R_base ho0) hb); replace HO379 := rb_ HO379 hb; replace HO384 := Aside0.mk (Kd.R_elder' (rs_ HO384) (Kd.R_base ho0) hb); replace HO386 := Aside0.mk (Kd.R_elder' (rs_ HO386) (Kd.R_base ho1) hb); replace HB := bs_ w hb; (try clear hb); (try clear hb2); (try clear hk); (try clear hi); (try clear ho0); (try clear ho1); obtain ⟨Ao42, co42, eo42⟩ := Kd.R_slice HO384.out; subst eo42; obtain ⟨Ao43, co43, eo43⟩ := Kd.R_slice HO391.out; subst eo43) | (go_at_call 9; (with_reducible refine (spigotref04_Same.calls k2 _ _ t380 _ _ t387 true _ ?side1 ?side2 ?side3 ?side4 A31.out).mono ?_); (case side1 => exact cr_ HO384); (case side2 => exact (Kd.R_reads' HO384.out).2.1); (case side3 => exact cr_ HO391); (case side4 => exact (Kd.R_reads' HO391.out).2.1); rintro e w' ⟨rfl, ⟨nd, rfl⟩⟩; obtain ⟨Ao44, co44, eo44⟩ := Kd.R_slice HO386.out; subst eo44; obtain ⟨Ao45, co45, eo45⟩ := Kd.R_slice HO393.out; subst eo45) | (go_at_call 10; (with_reducible refine (spigotref04_SameBools.calls k2 _ _ t381 _ _ t388 true _ ?side1 ?side2 ?side3 ?side4 A33.out).mono ?_); (case side1 => exact cr_ HO386); (case side2 => exact (Kd.R_reads' HO386.out).2.1); (case side3 => exact cr_ HO393); (case side4 => exact (Kd.R_reads' HO393.out).2.1); rintro e w' ⟨rfl, ⟨nd, rfl⟩⟩))
          go_loopg [21, 22] k2 (fun kq v21 v22 w' => ∃ (x21_3 : Int) (x22_3 : Int), v21 = .int .u64 x21_3 ∧ v22 = .int .i64 x22_3 ∧ Aside0 (spigottop_TopBuckets.l1 kq l0 a1 l2 l3 t381 t387 x21_3 x22_3 = some r) ∧ Aside0 (kq ≤ k2) ∧ Aside0 (Kd.R Kd.bool 4 w' w.heap.size (fun _ => True) (.slice Ao44 t381.length co44) t381) ∧ Aside0 (Kd.R k32 32 w' w.heap.size (fun _ => True) (.slice Ao43 t387.length co43) t387) ∧ Aside0 (Below w.heap.size w w'))
          case atStart => exact ⟨(0), (0), rf_, rf_, H', ⟨Nat.le_refl _⟩, ⟨by (with_reducible repeat (first | apply Kd.R_alloc | apply Kd.R_drewN | apply Kd.R_drew)); exact Kd.R_mono HO386.out (fun _ hk => trivial)⟩, ⟨by (with_reducible repeat (first | apply Kd.R_alloc | apply Kd.R_drewN | apply Kd.R_drew)); exact Kd.R_mono HO391.out (fun _ hk => trivial)⟩, bw_⟩
          case round =>
           clear H'
           try clear c2
           try clear c3
           try clear c9
           try clear c11
           try clear c13
           try clear c13b0
           try clear c28
           try clear c28b0
           try clear c28b1
           try clear c29
           try clear c29b0
           try clear c29b1
           try clear c30
           try clear c30b0
           try clear c30b1
           try clear c32
           try clear c34
           try clear c35
           try clear c35b0
           try clear c35b1
           try clear c35b2
           try clear c36
           try clear c36b0
           try clear c36b1
           try clear c36b2
           obtain ⟨x21_3, x22_3, rfl, rfl, HA, HK3, HO_16, HO_18, HB⟩ := hrel
           cases gk with
           | zero => exact absurd HA.out (by simp [spigottop_TopBuckets.l1])
           | succ k3 =>
            have H := HA.out
            clear HA
            simp only [spigottop_TopBuckets.l1] at H
            by_cases c46 : x22_3 < (l3.length : Int)
            ·rw [if_pos c46] at H
             have c46b0 : decide (x22_3 < (l3.length : Int)) = true := decide_eq_true c46
             clear c46
             by_cases c47 : 0 ≤ x22_3
             rotate_left
             ·rw [if_neg c47] at H; exact absurd H (by simp)
             rw [if_pos c47] at H
             have c47b0 : decide (0 ≤ x22_3) = true := decide_eq_true c47
             clear c47
             by_cases c48 : x22_3 < (t381.length : Int)
             rotate_left
             ·rw [if_neg c48] at H; exact absurd H (by simp)
             rw [if_pos c48] at H
             have c48b0 : decide (x22_3 < (t381.length : Int)) = true := decide_eq_true c48
             clear c48
             obtain ⟨bq49, hbq49⟩ : ∃ b_ : Bool, b_ = (rdOf false t381 x22_3) := ⟨_, rfl⟩
             replace H : (if bq49 = true then (spigottop_TopBuckets.l1 k3 l0 a1 l2 l3 t381 t387 (IntKind.u64.wrap (x21_3 + (IntKind.u64.wrap (rd l3 x22_3)))) (wrap64 (x22_3 + 1))) else (spigottop_TopBuckets.l1 k3 l0 a1 l2 l3 t381 t387 x21_3 (wrap64 (x22_3 + 1)))) = some r := by rw [← hbq49] at H; exact H
             have Nbq49 := Aside0.mk hbq49
             clear hbq49
             by_cases c50 : bq49 = true
             ·subst c50
              rw [if_pos rfl] at H
              try dsimp only at H
              have H' := Aside0.mk H
              clear H
              have p396 : 0 ≤ (x22_3 : Int) := of_decide_eq_true (by first | (with_reducible assumption) | assumption)
              have q396 : x22_3 < (t381.length : Int) := of_decide_eq_true (by first | (with_reducible assumption) | assumption)
              obtain ⟨ad396, e396, hx396_0⟩ := Kd.at_bool (Kd.R_reads' HO_16.out).2.2 x22_3 p396 q396
              (try rw [← Nbq49.out] at hx396_0)
              cases e396
              replace p396 := eq_true p396
              replace q396 := eq_true q396
              have p397 : 0 ≤ (x22_3 : Int) := of_decide_eq_true (by first | (with_reducible assumption) | assumption)
              have q397 : x22_3 < (l3.length : Int) := of_decide_eq_true (by first | (with_reducible assumption) | assumption)
              obtain ⟨ad397, e397, hx397_0⟩ := Kd.at_int HR3.out x22_3 p397 q397
              cases e397
              replace hx397_0 := (HB.out.cell (World.block_lt_of_cell? w _ hx397_0)).trans hx397_0
              replace p397 := eq_true p397
              replace q397 := eq_true q397
              go_wp2
              go_roundg k3
              case measure => have := HJ4.out; have := HK2.out; have := HK3.out; omega
              case rel => exact ⟨(IntKind.u64.wrap (x21_3 + (IntKind.u64.wrap (rd l3 x22_3)))), (wrap64 (x22_3 + 1)), rf_, rf_, H', ⟨by have := HJ4.out; have := HK2.out; have := HK3.out; omega⟩, ⟨rs_ HO_16⟩, ⟨rs_ HO_18⟩, bw_⟩
             ·replace c50 := Bool.eq_false_iff.mpr c50
              subst c50
              rw [if_neg (show ¬ (false = true) by decide)] at H
              try dsimp only at H
              have H' := Aside0.mk H
              clear H
              have p396 : 0 ≤ (x22_3 : Int) := of_decide_eq_true (by first | (with_reducible assumption) | assumption)
              have q396 : x22_3 < (t381.length : Int) := of_decide_eq_true (by first | (with_reducible assumption) | assumption)
              obtain ⟨ad396, e396, hx396_0⟩ := Kd.at_bool (Kd.R_reads' HO_16.out).2.2 x22_3 p396 q396
              (try rw [← Nbq49.out] at hx396_0)
              cases e396
              replace p396 := eq_true p396
              replace q396 := eq_true q396
              go_wp2
              go_roundg k3
              case measure => have := HJ4.out; have := HK2.out; have := HK3.out; omega
              case rel => exact ⟨(x21_3), (wrap64 (x22_3 + 1)), rf_, rf_, H', ⟨by have := HJ4.out; have := HK2.out; have := HK3.out; omega⟩, ⟨rs_ HO_16⟩, ⟨rs_ HO_18⟩, bw_⟩
            ·rw [if_neg c46] at H
             have c46b0 : decide (x22_3 < (l3.length : Int)) = false := decide_eq_false c46
             clear c46
             have H0_ := bo_ H; clear H; obtain ⟨t398, A51, H⟩ := H0_
             replace H : (spigottop_TopBuckets.l2 k3 l0 a1 t387 x21_3 t398 0) = some r := H
             have H' := Aside0.mk H
             clear H
             go_wp2_with (first | ((with_reducible refine gate_callee (f := 11) rfl ?_); (try refine ug_ (by rfl) ?_); refine goesA_ (some 141) Try.func11 #[.int .u64 a1, .slice A2 l2.length c2] ?_; (with_reducible refine (spigotref02_Greatest.calls k3 a1 _ _ l2 t398 _ ?side1 ?side2 A51.out).mono ?_); (case side1 => exact cs_ HR2 HB); (case side2 => exact HC2.out); rintro e w' ⟨rfl, ⟨nd, rfl⟩⟩; refine ⟨_, rfl, ?_⟩))
             go_loopg [24] k3 (fun kq v24 w' => ∃ (x24_4 : Int), v24 = .int .i64 x24_4 ∧ Aside0 (spigottop_TopBuckets.l2 kq l0 a1 t387 x21_3 t398 x24_4 = some r) ∧ Aside0 (kq ≤ k3) ∧ Aside0 (Kd.R k32 32 w' w.heap.size (fun _ => True) (.slice Ao43 t387.length co43) t387) ∧ Aside0 (Below w.heap.size w w'))
             case atStart => exact ⟨(0), rf_, H', ⟨Nat.le_refl _⟩, ⟨rs_ HO_18⟩, bw_⟩
             case round =>
              clear H'
              try clear c2
              try clear c3
              try clear c9
              try clear c11
              try clear c13
              try clear c13b0
              try clear c28
              try clear c28b0
              try clear c28b1
              try clear c29
              try clear c29b0
              try clear c29b1
              try clear c30
              try clear c30b0
              try clear c30b1
              try clear c32
              try clear c34
              try clear c35
              try clear c35b0
              try clear c35b1
              try clear c35b2
              try clear c36
              try clear c36b0
              try clear c36b1
              try clear c36b2
              try clear c46
              try clear c46b0
              obtain ⟨x24_4, rfl, HA, HK4, HO_18, HB⟩ := hrel
              cases gk with
              | zero => exact absurd HA.out (by simp [spigottop_TopBuckets.l2])
              | succ k4 =>
               have H := HA.out
               clear HA
               simp only [spigottop_TopBuckets.l2] at H
               by_cases c52 : x24_4 < (t387.length : Int)
               ·rw [if_pos c52] at H
                have c52b0 : decide (x24_4 < (t387.length : Int)) = true := decide_eq_true c52
                clear c52
                by_cases c53 : 0 ≤ x24_4
                rotate_left
                ·rw [if_neg c53] at H; exact absurd H (by simp)
                rw [if_pos c53] at H
                have c53b0 : decide (0 ≤ x24_4) = true := decide_eq_true c53
                clear c53
                by_cases c54 : x24_4 < (l0.length : Int)
                rotate_left
                ·rw [if_neg c54] at H; exact absurd H (by simp)
                rw [if_pos c54] at H
                have c54b0 : decide (x24_4 < (l0.length : Int)) = true := decide_eq_true c54
                clear c54
                have H0_ := bo_ H; clear H; obtain ⟨t401, A55, H⟩ := H0_
                replace H : (if t401 = true then (spigottop_TopBuckets.l2 k4 l0 a1 t387 x21_3 t398 (wrap64 (x24_4 + 1))) else (none)) = some r := H
                by_cases c56 : t401 = true
                ·subst c56
                 rw [if_pos rfl] at H
                 try dsimp only at H
                 have H' := Aside0.mk H
                 clear H
                 try go_wp2
                 replace HO_18 := Aside0.mk (Kd.R_drew HO_18.out)
                 replace HB := Aside0.mk (below_drew1 HB.out)
                 have p399 : 0 ≤ (x24_4 : Int) := of_decide_eq_true (by first | (with_reducible assumption) | assumption)
                 have q399 : x24_4 < (l0.length : Int) := of_decide_eq_true (by first | (with_reducible assumption) | assumption)
                 obtain ⟨ad399, e399, hx399_0, hx399_1, hx399_2⟩ := at_T30 HR0.out x24_4 p399 q399
                 have hw399_2 := hx399_2
                 have hw399_1 := hx399_1
                 have hw399_0 := hx399_0
                 cases e399
                 replace hx399_0 := (HB.out.cell (World.block_lt_of_cell? w _ hx399_0)).trans hx399_0
                 replace hx399_1 := (HB.out.cell (World.block_lt_of_cell? w _ hx399_1)).trans hx399_1
                 replace hx399_2 := (HB.out.cell (World.block_lt_of_cell? w _ hx399_2)).trans hx399_2
                 replace p399 := eq_true p399
                 replace q399 := eq_true q399
                 have p400 : 0 ≤ (x24_4 : Int) := of_decide_eq_true (by first | (with_reducible assumption) | assumption)
                 have q400 : x24_4 < (t387.length : Int) := of_decide_eq_true (by first | (with_reducible assumption) | assumption)
                 obtain ⟨ad400, e400, hx400_0, hx400_1, hx400_2, hx400_3, hx400_4, hx400_5⟩ := at_T32 (Kd.R_reads' HO_18.out).2.2 x24_4 p400 q400
                 cases e400
                 replace p400 := eq_true p400
                 replace q400 := eq_true q400
                 refine start_ (n := 13) (S := fun w' => w'.cell? (ad399.add ((x24_4).toNat * 3)) = some (.int .i64 ((rd_T30 l0 x24_4).f0)) ∧ w'.cell? ⟨(ad399.add ((x24_4).toNat * 3)).block, (ad399.add ((x24_4).toNat * 3)).off + 1, none⟩ = some (.int .i64 ((rd_T30 l0 x24_4).f1)) ∧ w'.cell? ⟨(ad399.add ((x24_4).toNat * 3)).block, (ad399.add ((x24_4).toNat * 3)).off + 2, none⟩ = some (.int .i64 ((rd_T30 l0 x24_4).f2)) ∧ w'.cell? (ad400.add ((x24_4).toNat * 6)) = some (.int .i64 ((rd_T32 t387 x24_4).f0.f0)) ∧ w'.cell? ⟨(ad400.add ((x24_4).toNat * 6)).block, (ad400.add ((x24_4).toNat * 6)).off + 1, none⟩ = some (.int .i64 ((rd_T32 t387 x24_4).f0.f1)) ∧ w'.cell? ⟨(ad400.add ((x24_4).toNat * 6)).block, (ad400.add ((x24_4).toNat * 6)).off + 2, none⟩ = some (.int .i64 ((rd_T32 t387 x24_4).f0.f2)) ∧ w'.cell? ⟨(ad400.add ((x24_4).toNat * 6)).block, (ad400.add ((x24_4).toNat * 6)).off + 3, none⟩ = some (.int .i64 ((rd_T32 t387 x24_4).f1)) ∧ w'.cell? ⟨(ad400.add ((x24_4).toNat * 6)).block, (ad400.add ((x24_4).toNat * 6)).off + 4, none⟩ = some (.int .i64 ((rd_T32 t387 x24_4).f2)) ∧ w'.cell? ⟨(ad400.add ((x24_4).toNat * 6)).block, (ad400.add ((x24_4).toNat * 6)).off + 5, none⟩ = some (.int .u64 ((rd_T32 t387 x24_4).f3))) (ds := []) (bl_ 13 0) (by kernel_rfl) rfl (by kernel_rfl) ⟨((HB.out.cell (World.block_lt_of_cell? w _ hw399_0)).trans hw399_0), ((HB.out.cell (World.block_lt_of_cell? w _ hw399_1)).trans hw399_1), ((HB.out.cell (World.block_lt_of_cell? w _ hw399_2)).trans hw399_2), hx400_0, hx400_1, hx400_2, hx400_3, hx400_4, hx400_5⟩ (fun hHeld => ?_); refine with_tabW spigottop_TopBuckets.tab28 spigottop_TopBuckets.bits28 (fun HT_ HW_ => ?_)
                 generalize wr.drew = w57 at HO_18 HB hx399_0 hx399_1 hx399_2 hx400_0 hx400_1 hx400_2 hx400_3 hx400_4 hx400_5 hHeld ⊢
                 refine pa_ 0 (some 148) (bl_ 13 1) HT_ ?_
                 refine pa_ 1 (some 149) (bl_ 13 3) HT_ ?_
                 refine pa_ 2 (some 150) (bl_ 13 7) HT_ ?_
                 refine pa_ 4 (some 152) (bl_ 13 23) HT_ ?_
                 refine pa_ 5 (some 153) (bl_ 13 55) HT_ ?_
                 refine pa_ 6 (some 154) (bl_ 13 119) HT_ ?_
                 refine pa_ 7 (some 155) (bl_ 13 247) HT_ ?_
                 refine pa_ 8 (some 156) (bl_ 13 503) HT_ ?_
                 refine pa_ 10 (some 158) (bl_ 13 1527) HT_ ?_
                 refine ta_ 3 (some 151) (bl_ 13 1535) HT_ HW_ hHeld ?_
                 refine ta_ 9 (some 157) (bl_ 13 2047) HT_ HW_ hHeld ?_
                 refine oa_ 11 (some 159) (bl_ 13 4095) HT_ fun K hK => ?_
                 refine goesB_ Try.func12 #[.agg #[.int .i64 ((rd_T30 l0 x24_4).f0), .int .i64 ((rd_T30 l0 x24_4).f1), .int .i64 ((rd_T30 l0 x24_4).f2)], .int .u64 a1, .int .u64 t398, .agg #[.int .i64 ((rd_T32 t387 x24_4).f0.f0), .int .i64 ((rd_T32 t387 x24_4).f0.f1), .int .i64 ((rd_T32 t387 x24_4).f0.f2), .int .i64 ((rd_T32 t387 x24_4).f1), .int .i64 ((rd_T32 t387 x24_4).f2), .int .u64 ((rd_T32 t387 x24_4).f3)], .int .u64 x21_3] ?_
                 with_reducible refine (spigottop_bounded04.calls k4 ((rd_T30 l0 x24_4).f0) ((rd_T30 l0 x24_4).f1) ((rd_T30 l0 x24_4).f2) a1 t398 ((rd_T32 t387 x24_4).f0.f0) ((rd_T32 t387 x24_4).f0.f1) ((rd_T32 t387 x24_4).f0.f2) ((rd_T32 t387 x24_4).f1) ((rd_T32 t387 x24_4).f2) ((rd_T32 t387 x24_4).f3) x21_3 true _ A55.out).mono ?_
                 rintro e w58 ⟨rfl, hb⟩
                 have HS3_ := (hb.cell (World.block_lt_of_cell? _ _ (hHeld.2.2.2.1))).trans (hHeld.2.2.2.1)
                 have HS4_ := (hb.cell (World.block_lt_of_cell? _ _ (hHeld.2.2.2.2.1))).trans (hHeld.2.2.2.2.1)
                 have HS5_ := (hb.cell (World.block_lt_of_cell? _ _ (hHeld.2.2.2.2.2.1))).trans (hHeld.2.2.2.2.2.1)
                 have HS6_ := (hb.cell (World.block_lt_of_cell? _ _ (hHeld.2.2.2.2.2.2.1))).trans (hHeld.2.2.2.2.2.2.1)
                 have HS7_ := (hb.cell (World.block_lt_of_cell? _ _ (hHeld.2.2.2.2.2.2.2.1))).trans (hHeld.2.2.2.2.2.2.2.1)
                 have HS8_ := (hb.cell (World.block_lt_of_cell? _ _ (hHeld.2.2.2.2.2.2.2.2))).trans (hHeld.2.2.2.2.2.2.2.2)
                 refine ⟨_, rfl, ?_⟩
                 replace HO_18 := rb_ HO_18 hb
                 replace HB := bs_ w hb
                 clear hb
                 refine hK.out _ _ ⟨((HB.out.cell (World.block_lt_of_cell? w _ hw399_0)).trans hw399_0), ((HB.out.cell (World.block_lt_of_cell? w _ hw399_1)).trans hw399_1), ((HB.out.cell (World.block_lt_of_cell? w _ hw399_2)).trans hw399_2), HS3_, HS4_, HS5_, HS6_, HS7_, HS8_⟩ (fun hHeld => ?_)
                 clear hK K
                 refine nm_ (some 159) ?_
                 refine pa_ 12 (some 160) (bl_ 13 8191) HT_ ?_
                 refine done_ (done_of HT_.out (by kernel_rfl)) ?_
                 try go_wp2
                 go_roundg k4
                 case measure => have := HJ4.out; have := HK2.out; have := HK3.out; have := HK4.out; omega
                 case rel => exact ⟨(wrap64 (x24_4 + 1)), rf_, H', ⟨by have := HJ4.out; have := HK2.out; have := HK3.out; have := HK4.out; omega⟩, ⟨rs_ HO_18⟩, bw_⟩
                ·replace c56 := Bool.eq_false_iff.mpr c56
                 subst c56
                 replace H : (none) = some r := by rw [if_neg (show ¬ (false = true) by decide)] at H; exact H
                 exact absurd H (by simp)
               ·rw [if_neg c52] at H
                have c52b0 : decide (x24_4 < (t387.length : Int)) = false := decide_eq_false c52
                clear c52
                have H0_ := bo_ H; clear H; obtain ⟨t402, A59, H⟩ := H0_
                replace H : (some t402) = some r := H
                obtain rfl := Option.some.inj H
                go_wp2_with (first | ((with_reducible refine gate_callee (f := 13) rfl ?_); (try refine ug_ (by rfl) ?_); refine goesA_ (some 163) Try.func13 #[.slice Ao43 t387.length co43, .int .u64 t398] ?_; (with_reducible refine (spigottop_waited04.calls k4 _ _ t387 t398 t402 _ ?side1 ?side2 A59.out).mono ?_); (case side1 => exact cr_ HO_18); (case side2 => exact (Kd.R_reads' HO_18.out).2.1); rintro e w60 ⟨rfl, hb⟩; refine ⟨_, rfl, ?_⟩; replace HO_18 := rb_ HO_18 hb; replace HB := bs_ w hb; clear hb))
                go_ret
                exact fi_
         ·replace c34 := Bool.eq_false_iff.mpr c34
          subst c34
          replace H : (none) = some r := by rw [if_neg (show ¬ (false = true) by decide)] at H; exact H
          exact absurd H (by simp)
        ·replace c32 := Bool.eq_false_iff.mpr c32
         subst c32
         replace H : (none) = some r := by rw [if_neg (show ¬ (false = true) by decide)] at H; exact H
         exact absurd H (by simp)
    ·replace c11 := Bool.eq_false_iff.mpr c11
     subst c11
     replace H : (none) = some r := by rw [if_neg (show ¬ (false = true) by decide)] at H; exact H
     exact absurd H (by simp)

end Go.Proofs.Ytiifhbaabnpkeaa.X
