-- written by xprint.py, a program of this session over the kit's print
import Derived.Test.YtfdpcnkghmmobaaX0
import Derived.Test.YtfdpcnkghmmobaaX31
import Derived.Test.YtfdpcnkghmmobaaX34
import Derived.Test.YtfdpcnkghmmobaaX36
import Derived.Test.YtfdpcnkghmmobaaX37
namespace Go.Proofs.Ytfdpcnkghmmobaa.X
open Go.RowKit Go.Proofs.YtfdpcnkghmmobaaW.PrintWords Go.Proofs.YtfdpcnkghmmobaaW.PrintLast Go.Proofs.YtfdpcnkghmmobaaW.PrintMore
attribute [local go_sem] max2_int min2_int max_two min_two max_three min_three max_four min_four   -- for this text's walks alone
set_option linter.unusedVariables false
set_option linter.unusedSimpArgs false

/-! ### spigotlaw39_WaitLater: function 4 -/
mutual
def spigotlaw39_WaitLater.j0 : Nat → List (S63) → Int → Int → List Int → Int → Bool → Bool → Option (Bool)
  | 0, _, _, _, _, _, _, _ => none
  | k + 1, x0, x1, x2, x3, x4, x11, x42 => if x42 = true then (some x11) else ((wait_Plan.f k x0 x1 x3).bind fun bt440 => ((wait_Plan.f k x0 x2 x3).bind fun bt447 => (if bt447.2.2 = 0 then (if bt440.2.2 = 0 then (if (bt440.1.length : Int) = (bt447.1.length : Int) then (spigotlaw39_WaitLater.j1 k x0 x1 x3 x4 x11 bt440.1 bt440.2.2 bt447.1 bt447.2.2 false) else (none)) else (none)) else (if bt440.2.2 = 0 then (spigotlaw39_WaitLater.j1 k x0 x1 x3 x4 x11 bt440.1 bt440.2.2 bt447.1 bt447.2.2 (bt447.2.2 != 6)) else (if bt440.2.2 = 6 then (spigotlaw39_WaitLater.j1 k x0 x1 x3 x4 x11 bt440.1 bt440.2.2 bt447.1 bt447.2.2 (bt447.2.2 != 6)) else (none))))))
def spigotlaw39_WaitLater.j1 : Nat → List (S63) → Int → List Int → Int → Bool → List Int → Int → List Int → Int → Bool → Option (Bool)
  | 0, _, _, _, _, _, _, _, _, _, _ => none
  | k + 1, x0, x1, x3, x4, x11, x12, x14, x15, x17, x88 => if x88 = true then (none) else (spigotlaw39_WaitLater.l0 k x0 x1 x3 x4 x11 x12 x14 x15 x17 0)
def spigotlaw39_WaitLater.l0 : Nat → List (S63) → Int → List Int → Int → Bool → List Int → Int → List Int → Int → Int → Option (Bool)
  | 0, _, _, _, _, _, _, _, _, _, _ => none
  | k + 1, x0, x1, x3, x4, x11, x12, x14, x15, x17, x18 => if x18 < (x15.length : Int) then (spigotlaw39_WaitLater.j3 k x0 x1 x3 x4 x11 x12 x14 x15 x17 x18 (x17 == 0)) else (spigotlaw39_WaitLater.j3 k x0 x1 x3 x4 x11 x12 x14 x15 x17 x18 false)
def spigotlaw39_WaitLater.j3 : Nat → List (S63) → Int → List Int → Int → Bool → List Int → Int → List Int → Int → Int → Bool → Option (Bool)
  | 0, _, _, _, _, _, _, _, _, _, _, _ => none
  | k + 1, x0, x1, x3, x4, x11, x12, x14, x15, x17, x18, x96 => if x96 = true then (if 0 ≤ x18 then (if x18 < (x15.length : Int) then (if x18 < (x12.length : Int) then (if (rd x15 x18) < (rd x12 x18) then (none) else (spigotlaw39_WaitLater.l0 k x0 x1 x3 x4 x11 x12 x14 x15 x17 (wrap64 (x18 + 1)))) else (none)) else (none)) else (none)) else (if x4 ≥ 0 then (spigotlaw39_WaitLater.j4 k x0 x1 x3 x4 x11 x12 x14 (decide (x4 < (x0.length : Int)))) else (spigotlaw39_WaitLater.j4 k x0 x1 x3 x4 x11 x12 x14 false))
def spigotlaw39_WaitLater.j4 : Nat → List (S63) → Int → List Int → Int → Bool → List Int → Int → Bool → Option (Bool)
  | 0, _, _, _, _, _, _, _, _ => none
  | k + 1, x0, x1, x3, x4, x11, x12, x14, x115 => if x115 = true then ((some (([] : List (S63)) : List (S63))).bind fun y456 => (if 0 ≤ x4 then (if x4 ≤ (x0.length : Int) then ((some (x0.take (x4 : Int).toNat : List (S63))).bind fun y459 => (if y456.length + y459.length < 2932031007402 then ((some (y456 ++ y459 : List (S63))).bind fun y463 => (if 0 ≤ (wrap64 (x4 + 1)) then (if (wrap64 (x4 + 1)) ≤ (x0.length : Int) then ((some (x0.drop ((wrap64 (x4 + 1)) : Int).toNat : List (S63))).bind fun y466 => (if y463.length + y466.length < 2932031007402 then ((wait_Plan.f k (y463 ++ y466) x1 x3).bind fun bt473 => (if x14 = 0 then (if bt473.2.2 = 0 then (spigotlaw39_WaitLater.j5 k x0 x1 x3 x11 x12 x14 bt473.1 ((bt473.1.length : Int) != (x12.length : Int))) else (spigotlaw39_WaitLater.j5 k x0 x1 x3 x11 x12 x14 bt473.1 true)) else (spigotlaw39_WaitLater.j5 k x0 x1 x3 x11 x12 x14 bt473.1 false))) else (none))) else (none)) else (none))) else (none))) else (none)) else (none))) else (spigotlaw39_WaitLater.j8 k x0 x1 x3 x11)
def spigotlaw39_WaitLater.j8 : Nat → List (S63) → Int → List Int → Bool → Option (Bool)
  | 0, _, _, _, _ => none
  | k + 1, x0, x1, x3, x11 => if (x3.length : Int) < 2 then (spigotlaw39_WaitLater.j9 k x0 x1 x3 x11 true) else (if 0 < (x3.length : Int) then (if 1 < (x3.length : Int) then (spigotlaw39_WaitLater.j9 k x0 x1 x3 x11 (decide ((wrap64 ((rd x3 0) + (rd x3 1))) > 1000000000))) else (none)) else (none))
def spigotlaw39_WaitLater.j9 : Nat → List (S63) → Int → List Int → Bool → Bool → Option (Bool)
  | 0, _, _, _, _, _ => none
  | k + 1, x0, x1, x3, x11, x178 => if x178 = true then (some x11) else (if 0 < (x3.length : Int) then (if 1 < (x3.length : Int) then ((wait_First.f k x0 x1 (wrap64 ((rd x3 0) + (rd x3 1)))).bind fun bt486 => (if 2 ≤ (x3.length : Int) then ((wait_Plan.f k x0 x1 (x3.take 2)).bind fun bt489 => (if x11 = true then (if bt486.2 = 0 then (if bt489.2.2 = 0 then (if (bt489.1.length : Int) = 2 then (if 1 < (bt489.1.length : Int) then (some (decide ((rd bt489.1 1) ≤ bt486.1))) else (none)) else (none)) else (none)) else (some true)) else (none))) else (none))) else (none)) else (none))
def spigotlaw39_WaitLater.j5 : Nat → List (S63) → Int → List Int → Bool → List Int → Int → List Int → Bool → Option (Bool)
  | 0, _, _, _, _, _, _, _, _ => none
  | k + 1, x0, x1, x3, x11, x12, x14, x20, x146 => if x146 = true then (none) else (spigotlaw39_WaitLater.l1 k x0 x1 x3 x11 x12 x14 x20 0)
def spigotlaw39_WaitLater.l1 : Nat → List (S63) → Int → List Int → Bool → List Int → Int → List Int → Int → Option (Bool)
  | 0, _, _, _, _, _, _, _, _ => none
  | k + 1, x0, x1, x3, x11, x12, x14, x20, x23 => if x23 < (x12.length : Int) then (spigotlaw39_WaitLater.j7 k x0 x1 x3 x11 x12 x14 x20 x23 (x14 == 0)) else (spigotlaw39_WaitLater.j7 k x0 x1 x3 x11 x12 x14 x20 x23 false)
def spigotlaw39_WaitLater.j7 : Nat → List (S63) → Int → List Int → Bool → List Int → Int → List Int → Int → Bool → Option (Bool)
  | 0, _, _, _, _, _, _, _, _, _ => none
  | k + 1, x0, x1, x3, x11, x12, x14, x20, x23, x154 => if x154 = true then (if 0 ≤ x23 then (if x23 < (x20.length : Int) then (if x23 < (x12.length : Int) then (if (rd x20 x23) > (rd x12 x23) then (none) else (spigotlaw39_WaitLater.l1 k x0 x1 x3 x11 x12 x14 x20 (wrap64 (x23 + 1)))) else (none)) else (none)) else (none)) else (spigotlaw39_WaitLater.j8 k x0 x1 x3 x11)
end
def spigotlaw39_WaitLater.f (k : Nat) (l0 : List (S63)) (a1 : Int) (a2 : Int) (l3 : List Int) (a4 : Int) : Option (Bool) := (spigotlaw39_alive.f k).bind fun t438 => ((spigotlaw39_fit.f k l0 l3).bind fun t439 => (if t439 = true then (if a2 < a1 then (spigotlaw39_WaitLater.j0 k l0 a1 a2 l3 a4 t438 true) else (spigotlaw39_WaitLater.j0 k l0 a1 a2 l3 a4 t438 (!t438))) else (spigotlaw39_WaitLater.j0 k l0 a1 a2 l3 a4 t438 true)))
theorem spigotlaw39_WaitLater.mono_l : ∀ k, (∀ y0 y1 y2 y3 y4 y5 y6, LeO (spigotlaw39_WaitLater.j0 k y0 y1 y2 y3 y4 y5 y6) (spigotlaw39_WaitLater.j0 (k + 1) y0 y1 y2 y3 y4 y5 y6)) ∧ (∀ y0 y1 y2 y3 y4 y5 y6 y7 y8 y9, LeO (spigotlaw39_WaitLater.j1 k y0 y1 y2 y3 y4 y5 y6 y7 y8 y9) (spigotlaw39_WaitLater.j1 (k + 1) y0 y1 y2 y3 y4 y5 y6 y7 y8 y9)) ∧ (∀ y0 y1 y2 y3 y4 y5 y6 y7 y8 y9, LeO (spigotlaw39_WaitLater.l0 k y0 y1 y2 y3 y4 y5 y6 y7 y8 y9) (spigotlaw39_WaitLater.l0 (k + 1) y0 y1 y2 y3 y4 y5 y6 y7 y8 y9)) ∧ (∀ y0 y1 y2 y3 y4 y5 y6 y7 y8 y9 y10, LeO (spigotlaw39_WaitLater.j3 k y0 y1 y2 y3 y4 y5 y6 y7 y8 y9 y10) (spigotlaw39_WaitLater.j3 (k + 1) y0 y1 y2 y3 y4 y5 y6 y7 y8 y9 y10)) ∧ (∀ y0 y1 y2 y3 y4 y5 y6 y7, LeO (spigotlaw39_WaitLater.j4 k y0 y1 y2 y3 y4 y5 y6 y7) (spigotlaw39_WaitLater.j4 (k + 1) y0 y1 y2 y3 y4 y5 y6 y7)) ∧ (∀ y0 y1 y2 y3, LeO (spigotlaw39_WaitLater.j8 k y0 y1 y2 y3) (spigotlaw39_WaitLater.j8 (k + 1) y0 y1 y2 y3)) ∧ (∀ y0 y1 y2 y3 y4, LeO (spigotlaw39_WaitLater.j9 k y0 y1 y2 y3 y4) (spigotlaw39_WaitLater.j9 (k + 1) y0 y1 y2 y3 y4)) ∧ (∀ y0 y1 y2 y3 y4 y5 y6 y7, LeO (spigotlaw39_WaitLater.j5 k y0 y1 y2 y3 y4 y5 y6 y7) (spigotlaw39_WaitLater.j5 (k + 1) y0 y1 y2 y3 y4 y5 y6 y7)) ∧ (∀ y0 y1 y2 y3 y4 y5 y6 y7, LeO (spigotlaw39_WaitLater.l1 k y0 y1 y2 y3 y4 y5 y6 y7) (spigotlaw39_WaitLater.l1 (k + 1) y0 y1 y2 y3 y4 y5 y6 y7)) ∧ (∀ y0 y1 y2 y3 y4 y5 y6 y7 y8, LeO (spigotlaw39_WaitLater.j7 k y0 y1 y2 y3 y4 y5 y6 y7 y8) (spigotlaw39_WaitLater.j7 (k + 1) y0 y1 y2 y3 y4 y5 y6 y7 y8))
  | 0 => ⟨fun _ _ _ _ _ _ _ r h => by simp [spigotlaw39_WaitLater.j0] at h, fun _ _ _ _ _ _ _ _ _ _ r h => by simp [spigotlaw39_WaitLater.j1] at h, fun _ _ _ _ _ _ _ _ _ _ r h => by simp [spigotlaw39_WaitLater.l0] at h, fun _ _ _ _ _ _ _ _ _ _ _ r h => by simp [spigotlaw39_WaitLater.j3] at h, fun _ _ _ _ _ _ _ _ r h => by simp [spigotlaw39_WaitLater.j4] at h, fun _ _ _ _ r h => by simp [spigotlaw39_WaitLater.j8] at h, fun _ _ _ _ _ r h => by simp [spigotlaw39_WaitLater.j9] at h, fun _ _ _ _ _ _ _ _ r h => by simp [spigotlaw39_WaitLater.j5] at h, fun _ _ _ _ _ _ _ _ r h => by simp [spigotlaw39_WaitLater.l1] at h, fun _ _ _ _ _ _ _ _ _ r h => by simp [spigotlaw39_WaitLater.j7] at h⟩
  | k + 1 => by
    obtain ⟨ih0, ih1, ih2, ih3, ih4, ih5, ih6, ih7, ih8, ih9⟩ := spigotlaw39_WaitLater.mono_l k
    refine ⟨?_, ?_, ?_, ?_, ?_, ?_, ?_, ?_, ?_, ?_⟩
    · intro y0 y1 y2 y3 y4 y5 y6
      unfold spigotlaw39_WaitLater.j0
      repeat' first
      | (with_reducible exact ih0 _ _ _ _ _ _ _)
      | (with_reducible exact ih1 _ _ _ _ _ _ _ _ _ _)
      | (with_reducible exact ih2 _ _ _ _ _ _ _ _ _ _)
      | (with_reducible exact ih3 _ _ _ _ _ _ _ _ _ _ _)
      | (with_reducible exact ih4 _ _ _ _ _ _ _ _)
      | (with_reducible exact ih5 _ _ _ _)
      | (with_reducible exact ih6 _ _ _ _ _)
      | (with_reducible exact ih7 _ _ _ _ _ _ _ _)
      | (with_reducible exact ih8 _ _ _ _ _ _ _ _)
      | (with_reducible exact ih9 _ _ _ _ _ _ _ _ _)
      | (with_reducible exact spigotlaw39_alive.mono _)
      | (with_reducible exact spigotlaw39_fit.mono _ _ _)
      | (with_reducible exact wait_First.mono _ _ _ _)
      | (with_reducible exact wait_Plan.mono _ _ _ _)
      | (with_reducible exact LeO.refl _)
      | (with_reducible exact LeO.none _)
      | (with_reducible refine LeO.ite ?_ ?_)
      | (with_reducible refine LeO.bind ?_ (fun _ => ?_))
      | exact ih0 _ _ _ _ _ _ _
      | exact ih1 _ _ _ _ _ _ _ _ _ _
      | exact ih2 _ _ _ _ _ _ _ _ _ _
      | exact ih3 _ _ _ _ _ _ _ _ _ _ _
      | exact ih4 _ _ _ _ _ _ _ _
      | exact ih5 _ _ _ _
      | exact ih6 _ _ _ _ _
      | exact ih7 _ _ _ _ _ _ _ _
      | exact ih8 _ _ _ _ _ _ _ _
      | exact ih9 _ _ _ _ _ _ _ _ _
      | exact spigotlaw39_alive.mono _
      | exact spigotlaw39_fit.mono _ _ _
      | exact wait_First.mono _ _ _ _
      | exact wait_Plan.mono _ _ _ _
      | exact LeO.none _
      | refine LeO.ite ?_ ?_
      | refine LeO.bind ?_ (fun _ => ?_)
    · intro y0 y1 y2 y3 y4 y5 y6 y7 y8 y9
      unfold spigotlaw39_WaitLater.j1
      repeat' first
      | (with_reducible exact ih0 _ _ _ _ _ _ _)
      | (with_reducible exact ih1 _ _ _ _ _ _ _ _ _ _)
      | (with_reducible exact ih2 _ _ _ _ _ _ _ _ _ _)
      | (with_reducible exact ih3 _ _ _ _ _ _ _ _ _ _ _)
      | (with_reducible exact ih4 _ _ _ _ _ _ _ _)
      | (with_reducible exact ih5 _ _ _ _)
      | (with_reducible exact ih6 _ _ _ _ _)
      | (with_reducible exact ih7 _ _ _ _ _ _ _ _)
      | (with_reducible exact ih8 _ _ _ _ _ _ _ _)
      | (with_reducible exact ih9 _ _ _ _ _ _ _ _ _)
      | (with_reducible exact spigotlaw39_alive.mono _)
      | (with_reducible exact spigotlaw39_fit.mono _ _ _)
      | (with_reducible exact wait_First.mono _ _ _ _)
      | (with_reducible exact wait_Plan.mono _ _ _ _)
      | (with_reducible exact LeO.refl _)
      | (with_reducible exact LeO.none _)
      | (with_reducible refine LeO.ite ?_ ?_)
      | (with_reducible refine LeO.bind ?_ (fun _ => ?_))
      | exact ih0 _ _ _ _ _ _ _
      | exact ih1 _ _ _ _ _ _ _ _ _ _
      | exact ih2 _ _ _ _ _ _ _ _ _ _
      | exact ih3 _ _ _ _ _ _ _ _ _ _ _
      | exact ih4 _ _ _ _ _ _ _ _
      | exact ih5 _ _ _ _
      | exact ih6 _ _ _ _ _
      | exact ih7 _ _ _ _ _ _ _ _
      | exact ih8 _ _ _ _ _ _ _ _
      | exact ih9 _ _ _ _ _ _ _ _ _
      | exact spigotlaw39_alive.mono _
      | exact spigotlaw39_fit.mono _ _ _
      | exact wait_First.mono _ _ _ _
      | exact wait_Plan.mono _ _ _ _
      | exact LeO.none _
      | refine LeO.ite ?_ ?_
      | refine LeO.bind ?_ (fun _ => ?_)
    · intro y0 y1 y2 y3 y4 y5 y6 y7 y8 y9
      unfold spigotlaw39_WaitLater.l0
      repeat' first
      | (with_reducible exact ih0 _ _ _ _ _ _ _)
      | (with_reducible exact ih1 _ _ _ _ _ _ _ _ _ _)
      | (with_reducible exact ih2 _ _ _ _ _ _ _ _ _ _)
      | (with_reducible exact ih3 _ _ _ _ _ _ _ _ _ _ _)
      | (with_reducible exact ih4 _ _ _ _ _ _ _ _)
      | (with_reducible exact ih5 _ _ _ _)
      | (with_reducible exact ih6 _ _ _ _ _)
      | (with_reducible exact ih7 _ _ _ _ _ _ _ _)
      | (with_reducible exact ih8 _ _ _ _ _ _ _ _)
      | (with_reducible exact ih9 _ _ _ _ _ _ _ _ _)
      | (with_reducible exact spigotlaw39_alive.mono _)
      | (with_reducible exact spigotlaw39_fit.mono _ _ _)
      | (with_reducible exact wait_First.mono _ _ _ _)
      | (with_reducible exact wait_Plan.mono _ _ _ _)
      | (with_reducible exact LeO.refl _)
      | (with_reducible exact LeO.none _)
      | (with_reducible refine LeO.ite ?_ ?_)
      | (with_reducible refine LeO.bind ?_ (fun _ => ?_))
      | exact ih0 _ _ _ _ _ _ _
      | exact ih1 _ _ _ _ _ _ _ _ _ _
      | exact ih2 _ _ _ _ _ _ _ _ _ _
      | exact ih3 _ _ _ _ _ _ _ _ _ _ _
      | exact ih4 _ _ _ _ _ _ _ _
      | exact ih5 _ _ _ _
      | exact ih6 _ _ _ _ _
      | exact ih7 _ _ _ _ _ _ _ _
      | exact ih8 _ _ _ _ _ _ _ _
      | exact ih9 _ _ _ _ _ _ _ _ _
      | exact spigotlaw39_alive.mono _
      | exact spigotlaw39_fit.mono _ _ _
      | exact wait_First.mono _ _ _ _
      | exact wait_Plan.mono _ _ _ _
      | exact LeO.none _
      | refine LeO.ite ?_ ?_
      | refine LeO.bind ?_ (fun _ => ?_)
    · intro y0 y1 y2 y3 y4 y5 y6 y7 y8 y9 y10
      unfold spigotlaw39_WaitLater.j3
      repeat' first
      | (with_reducible exact ih0 _ _ _ _ _ _ _)
      | (with_reducible exact ih1 _ _ _ _ _ _ _ _ _ _)
      | (with_reducible exact ih2 _ _ _ _ _ _ _ _ _ _)
      | (with_reducible exact ih3 _ _ _ _ _ _ _ _ _ _ _)
      | (with_reducible exact ih4 _ _ _ _ _ _ _ _)
      | (with_reducible exact ih5 _ _ _ _)
      | (with_reducible exact ih6 _ _ _ _ _)
      | (with_reducible exact ih7 _ _ _ _ _ _ _ _)
      | (with_reducible exact ih8 _ _ _ _ _ _ _ _)
      | (with_reducible exact ih9 _ _ _ _ _ _ _ _ _)
      | (with_reducible exact spigotlaw39_alive.mono _)
      | (with_reducible exact spigotlaw39_fit.mono _ _ _)
      | (with_reducible exact wait_First.mono _ _ _ _)
      | (with_reducible exact wait_Plan.mono _ _ _ _)
      | (with_reducible exact LeO.refl _)
      | (with_reducible exact LeO.none _)
      | (with_reducible refine LeO.ite ?_ ?_)
      | (with_reducible refine LeO.bind ?_ (fun _ => ?_))
      | exact ih0 _ _ _ _ _ _ _
      | exact ih1 _ _ _ _ _ _ _ _ _ _
      | exact ih2 _ _ _ _ _ _ _ _ _ _
      | exact ih3 _ _ _ _ _ _ _ _ _ _ _
      | exact ih4 _ _ _ _ _ _ _ _
      | exact ih5 _ _ _ _
      | exact ih6 _ _ _ _ _
      | exact ih7 _ _ _ _ _ _ _ _
      | exact ih8 _ _ _ _ _ _ _ _
      | exact ih9 _ _ _ _ _ _ _ _ _
      | exact spigotlaw39_alive.mono _
      | exact spigotlaw39_fit.mono _ _ _
      | exact wait_First.mono _ _ _ _
      | exact wait_Plan.mono _ _ _ _
      | exact LeO.none _
      | refine LeO.ite ?_ ?_
      | refine LeO.bind ?_ (fun _ => ?_)
    · intro y0 y1 y2 y3 y4 y5 y6 y7
      unfold spigotlaw39_WaitLater.j4
      repeat' first
      | (with_reducible exact ih0 _ _ _ _ _ _ _)
      | (with_reducible exact ih1 _ _ _ _ _ _ _ _ _ _)
      | (with_reducible exact ih2 _ _ _ _ _ _ _ _ _ _)
      | (with_reducible exact ih3 _ _ _ _ _ _ _ _ _ _ _)
      | (with_reducible exact ih4 _ _ _ _ _ _ _ _)
      | (with_reducible exact ih5 _ _ _ _)
      | (with_reducible exact ih6 _ _ _ _ _)
      | (with_reducible exact ih7 _ _ _ _ _ _ _ _)
      | (with_reducible exact ih8 _ _ _ _ _ _ _ _)
      | (with_reducible exact ih9 _ _ _ _ _ _ _ _ _)
      | (with_reducible exact spigotlaw39_alive.mono _)
      | (with_reducible exact spigotlaw39_fit.mono _ _ _)
      | (with_reducible exact wait_First.mono _ _ _ _)
      | (with_reducible exact wait_Plan.mono _ _ _ _)
      | (with_reducible exact LeO.refl _)
      | (with_reducible exact LeO.none _)
      | (with_reducible refine LeO.ite ?_ ?_)
      | (with_reducible refine LeO.bind ?_ (fun _ => ?_))
      | exact ih0 _ _ _ _ _ _ _
      | exact ih1 _ _ _ _ _ _ _ _ _ _
      | exact ih2 _ _ _ _ _ _ _ _ _ _
      | exact ih3 _ _ _ _ _ _ _ _ _ _ _
      | exact ih4 _ _ _ _ _ _ _ _
      | exact ih5 _ _ _ _
      | exact ih6 _ _ _ _ _
      | exact ih7 _ _ _ _ _ _ _ _
      | exact ih8 _ _ _ _ _ _ _ _
      | exact ih9 _ _ _ _ _ _ _ _ _
      | exact spigotlaw39_alive.mono _
      | exact spigotlaw39_fit.mono _ _ _
      | exact wait_First.mono _ _ _ _
      | exact wait_Plan.mono _ _ _ _
      | exact LeO.none _
      | refine LeO.ite ?_ ?_
      | refine LeO.bind ?_ (fun _ => ?_)
    · intro y0 y1 y2 y3
      unfold spigotlaw39_WaitLater.j8
      repeat' first
      | (with_reducible exact ih0 _ _ _ _ _ _ _)
      | (with_reducible exact ih1 _ _ _ _ _ _ _ _ _ _)
      | (with_reducible exact ih2 _ _ _ _ _ _ _ _ _ _)
      | (with_reducible exact ih3 _ _ _ _ _ _ _ _ _ _ _)
      | (with_reducible exact ih4 _ _ _ _ _ _ _ _)
      | (with_reducible exact ih5 _ _ _ _)
      | (with_reducible exact ih6 _ _ _ _ _)
      | (with_reducible exact ih7 _ _ _ _ _ _ _ _)
      | (with_reducible exact ih8 _ _ _ _ _ _ _ _)
      | (with_reducible exact ih9 _ _ _ _ _ _ _ _ _)
      | (with_reducible exact spigotlaw39_alive.mono _)
      | (with_reducible exact spigotlaw39_fit.mono _ _ _)
      | (with_reducible exact wait_First.mono _ _ _ _)
      | (with_reducible exact wait_Plan.mono _ _ _ _)
      | (with_reducible exact LeO.refl _)
      | (with_reducible exact LeO.none _)
      | (with_reducible refine LeO.ite ?_ ?_)
      | (with_reducible refine LeO.bind ?_ (fun _ => ?_))
      | exact ih0 _ _ _ _ _ _ _
      | exact ih1 _ _ _ _ _ _ _ _ _ _
      | exact ih2 _ _ _ _ _ _ _ _ _ _
      | exact ih3 _ _ _ _ _ _ _ _ _ _ _
      | exact ih4 _ _ _ _ _ _ _ _
      | exact ih5 _ _ _ _
      | exact ih6 _ _ _ _ _
      | exact ih7 _ _ _ _ _ _ _ _
      | exact ih8 _ _ _ _ _ _ _ _
      | exact ih9 _ _ _ _ _ _ _ _ _
      | exact spigotlaw39_alive.mono _
      | exact spigotlaw39_fit.mono _ _ _
      | exact wait_First.mono _ _ _ _
      | exact wait_Plan.mono _ _ _ _
      | exact LeO.none _
      | refine LeO.ite ?_ ?_
      | refine LeO.bind ?_ (fun _ => ?_)
    · intro y0 y1 y2 y3 y4
      unfold spigotlaw39_WaitLater.j9
      repeat' first
      | (with_reducible exact ih0 _ _ _ _ _ _ _)
      | (with_reducible exact ih1 _ _ _ _ _ _ _ _ _ _)
      | (with_reducible exact ih2 _ _ _ _ _ _ _ _ _ _)
      | (with_reducible exact ih3 _ _ _ _ _ _ _ _ _ _ _)
      | (with_reducible exact ih4 _ _ _ _ _ _ _ _)
      | (with_reducible exact ih5 _ _ _ _)
      | (with_reducible exact ih6 _ _ _ _ _)
      | (with_reducible exact ih7 _ _ _ _ _ _ _ _)
      | (with_reducible exact ih8 _ _ _ _ _ _ _ _)
      | (with_reducible exact ih9 _ _ _ _ _ _ _ _ _)
      | (with_reducible exact spigotlaw39_alive.mono _)
      | (with_reducible exact spigotlaw39_fit.mono _ _ _)
      | (with_reducible exact wait_First.mono _ _ _ _)
      | (with_reducible exact wait_Plan.mono _ _ _ _)
      | (with_reducible exact LeO.refl _)
      | (with_reducible exact LeO.none _)
      | (with_reducible refine LeO.ite ?_ ?_)
      | (with_reducible refine LeO.bind ?_ (fun _ => ?_))
      | exact ih0 _ _ _ _ _ _ _
      | exact ih1 _ _ _ _ _ _ _ _ _ _
      | exact ih2 _ _ _ _ _ _ _ _ _ _
      | exact ih3 _ _ _ _ _ _ _ _ _ _ _
      | exact ih4 _ _ _ _ _ _ _ _
      | exact ih5 _ _ _ _
      | exact ih6 _ _ _ _ _
      | exact ih7 _ _ _ _ _ _ _ _
      | exact ih8 _ _ _ _ _ _ _ _
      | exact ih9 _ _ _ _ _ _ _ _ _
      | exact spigotlaw39_alive.mono _
      | exact spigotlaw39_fit.mono _ _ _
      | exact wait_First.mono _ _ _ _
      | exact wait_Plan.mono _ _ _ _
      | exact LeO.none _
      | refine LeO.ite ?_ ?_
      | refine LeO.bind ?_ (fun _ => ?_)
    · intro y0 y1 y2 y3 y4 y5 y6 y7
      unfold spigotlaw39_WaitLater.j5
      repeat' first
      | (with_reducible exact ih0 _ _ _ _ _ _ _)
      | (with_reducible exact ih1 _ _ _ _ _ _ _ _ _ _)
      | (with_reducible exact ih2 _ _ _ _ _ _ _ _ _ _)
      | (with_reducible exact ih3 _ _ _ _ _ _ _ _ _ _ _)
      | (with_reducible exact ih4 _ _ _ _ _ _ _ _)
      | (with_reducible exact ih5 _ _ _ _)
      | (with_reducible exact ih6 _ _ _ _ _)
      | (with_reducible exact ih7 _ _ _ _ _ _ _ _)
      | (with_reducible exact ih8 _ _ _ _ _ _ _ _)
      | (with_reducible exact ih9 _ _ _ _ _ _ _ _ _)
      | (with_reducible exact spigotlaw39_alive.mono _)
      | (with_reducible exact spigotlaw39_fit.mono _ _ _)
      | (with_reducible exact wait_First.mono _ _ _ _)
      | (with_reducible exact wait_Plan.mono _ _ _ _)
      | (with_reducible exact LeO.refl _)
      | (with_reducible exact LeO.none _)
      | (with_reducible refine LeO.ite ?_ ?_)
      | (with_reducible refine LeO.bind ?_ (fun _ => ?_))
      | exact ih0 _ _ _ _ _ _ _
      | exact ih1 _ _ _ _ _ _ _ _ _ _
      | exact ih2 _ _ _ _ _ _ _ _ _ _
      | exact ih3 _ _ _ _ _ _ _ _ _ _ _
      | exact ih4 _ _ _ _ _ _ _ _
      | exact ih5 _ _ _ _
      | exact ih6 _ _ _ _ _
      | exact ih7 _ _ _ _ _ _ _ _
      | exact ih8 _ _ _ _ _ _ _ _
      | exact ih9 _ _ _ _ _ _ _ _ _
      | exact spigotlaw39_alive.mono _
      | exact spigotlaw39_fit.mono _ _ _
      | exact wait_First.mono _ _ _ _
      | exact wait_Plan.mono _ _ _ _
      | exact LeO.none _
      | refine LeO.ite ?_ ?_
      | refine LeO.bind ?_ (fun _ => ?_)
    · intro y0 y1 y2 y3 y4 y5 y6 y7
      unfold spigotlaw39_WaitLater.l1
      repeat' first
      | (with_reducible exact ih0 _ _ _ _ _ _ _)
      | (with_reducible exact ih1 _ _ _ _ _ _ _ _ _ _)
      | (with_reducible exact ih2 _ _ _ _ _ _ _ _ _ _)
      | (with_reducible exact ih3 _ _ _ _ _ _ _ _ _ _ _)
      | (with_reducible exact ih4 _ _ _ _ _ _ _ _)
      | (with_reducible exact ih5 _ _ _ _)
      | (with_reducible exact ih6 _ _ _ _ _)
      | (with_reducible exact ih7 _ _ _ _ _ _ _ _)
      | (with_reducible exact ih8 _ _ _ _ _ _ _ _)
      | (with_reducible exact ih9 _ _ _ _ _ _ _ _ _)
      | (with_reducible exact spigotlaw39_alive.mono _)
      | (with_reducible exact spigotlaw39_fit.mono _ _ _)
      | (with_reducible exact wait_First.mono _ _ _ _)
      | (with_reducible exact wait_Plan.mono _ _ _ _)
      | (with_reducible exact LeO.refl _)
      | (with_reducible exact LeO.none _)
      | (with_reducible refine LeO.ite ?_ ?_)
      | (with_reducible refine LeO.bind ?_ (fun _ => ?_))
      | exact ih0 _ _ _ _ _ _ _
      | exact ih1 _ _ _ _ _ _ _ _ _ _
      | exact ih2 _ _ _ _ _ _ _ _ _ _
      | exact ih3 _ _ _ _ _ _ _ _ _ _ _
      | exact ih4 _ _ _ _ _ _ _ _
      | exact ih5 _ _ _ _
      | exact ih6 _ _ _ _ _
      | exact ih7 _ _ _ _ _ _ _ _
      | exact ih8 _ _ _ _ _ _ _ _
      | exact ih9 _ _ _ _ _ _ _ _ _
      | exact spigotlaw39_alive.mono _
      | exact spigotlaw39_fit.mono _ _ _
      | exact wait_First.mono _ _ _ _
      | exact wait_Plan.mono _ _ _ _
      | exact LeO.none _
      | refine LeO.ite ?_ ?_
      | refine LeO.bind ?_ (fun _ => ?_)
    · intro y0 y1 y2 y3 y4 y5 y6 y7 y8
      unfold spigotlaw39_WaitLater.j7
      repeat' first
      | (with_reducible exact ih0 _ _ _ _ _ _ _)
      | (with_reducible exact ih1 _ _ _ _ _ _ _ _ _ _)
      | (with_reducible exact ih2 _ _ _ _ _ _ _ _ _ _)
      | (with_reducible exact ih3 _ _ _ _ _ _ _ _ _ _ _)
      | (with_reducible exact ih4 _ _ _ _ _ _ _ _)
      | (with_reducible exact ih5 _ _ _ _)
      | (with_reducible exact ih6 _ _ _ _ _)
      | (with_reducible exact ih7 _ _ _ _ _ _ _ _)
      | (with_reducible exact ih8 _ _ _ _ _ _ _ _)
      | (with_reducible exact ih9 _ _ _ _ _ _ _ _ _)
      | (with_reducible exact spigotlaw39_alive.mono _)
      | (with_reducible exact spigotlaw39_fit.mono _ _ _)
      | (with_reducible exact wait_First.mono _ _ _ _)
      | (with_reducible exact wait_Plan.mono _ _ _ _)
      | (with_reducible exact LeO.refl _)
      | (with_reducible exact LeO.none _)
      | (with_reducible refine LeO.ite ?_ ?_)
      | (with_reducible refine LeO.bind ?_ (fun _ => ?_))
      | exact ih0 _ _ _ _ _ _ _
      | exact ih1 _ _ _ _ _ _ _ _ _ _
      | exact ih2 _ _ _ _ _ _ _ _ _ _
      | exact ih3 _ _ _ _ _ _ _ _ _ _ _
      | exact ih4 _ _ _ _ _ _ _ _
      | exact ih5 _ _ _ _
      | exact ih6 _ _ _ _ _
      | exact ih7 _ _ _ _ _ _ _ _
      | exact ih8 _ _ _ _ _ _ _ _
      | exact ih9 _ _ _ _ _ _ _ _ _
      | exact spigotlaw39_alive.mono _
      | exact spigotlaw39_fit.mono _ _ _
      | exact wait_First.mono _ _ _ _
      | exact wait_Plan.mono _ _ _ _
      | exact LeO.none _
      | refine LeO.ite ?_ ?_
      | refine LeO.bind ?_ (fun _ => ?_)
theorem spigotlaw39_WaitLater.mono : ∀ a0 a1 a2 a3 a4 k, LeO (spigotlaw39_WaitLater.f k a0 a1 a2 a3 a4) (spigotlaw39_WaitLater.f (k + 1) a0 a1 a2 a3 a4) := by
  intro a0 a1 a2 a3 a4 k
  obtain ⟨ih0, ih1, ih2, ih3, ih4, ih5, ih6, ih7, ih8, ih9⟩ := spigotlaw39_WaitLater.mono_l k
  unfold spigotlaw39_WaitLater.f
  repeat' first
      | (with_reducible exact ih0 _ _ _ _ _ _ _)
      | (with_reducible exact ih1 _ _ _ _ _ _ _ _ _ _)
      | (with_reducible exact ih2 _ _ _ _ _ _ _ _ _ _)
      | (with_reducible exact ih3 _ _ _ _ _ _ _ _ _ _ _)
      | (with_reducible exact ih4 _ _ _ _ _ _ _ _)
      | (with_reducible exact ih5 _ _ _ _)
      | (with_reducible exact ih6 _ _ _ _ _)
      | (with_reducible exact ih7 _ _ _ _ _ _ _ _)
      | (with_reducible exact ih8 _ _ _ _ _ _ _ _)
      | (with_reducible exact ih9 _ _ _ _ _ _ _ _ _)
      | (with_reducible exact spigotlaw39_alive.mono _)
      | (with_reducible exact spigotlaw39_fit.mono _ _ _)
      | (with_reducible exact wait_First.mono _ _ _ _)
      | (with_reducible exact wait_Plan.mono _ _ _ _)
      | (with_reducible exact LeO.refl _)
      | (with_reducible exact LeO.none _)
      | (with_reducible refine LeO.ite ?_ ?_)
      | (with_reducible refine LeO.bind ?_ (fun _ => ?_))
      | exact ih0 _ _ _ _ _ _ _
      | exact ih1 _ _ _ _ _ _ _ _ _ _
      | exact ih2 _ _ _ _ _ _ _ _ _ _
      | exact ih3 _ _ _ _ _ _ _ _ _ _ _
      | exact ih4 _ _ _ _ _ _ _ _
      | exact ih5 _ _ _ _
      | exact ih6 _ _ _ _ _
      | exact ih7 _ _ _ _ _ _ _ _
      | exact ih8 _ _ _ _ _ _ _ _
      | exact ih9 _ _ _ _ _ _ _ _ _
      | exact spigotlaw39_alive.mono _
      | exact spigotlaw39_fit.mono _ _ _
      | exact wait_First.mono _ _ _ _
      | exact wait_Plan.mono _ _ _ _
      | exact LeO.none _
      | refine LeO.ite ?_ ?_
      | refine LeO.bind ?_ (fun _ => ?_)
def spigotlaw39_WaitLater.T11 : Bool × List (List Nat × List Nat) := (true, [([], []), ([], []), ([0, 1], [0, 1]), ([2], [2]), ([], []), ([], []), ([4, 5], [4, 5]), ([6], [6]), ([3, 7], [3, 7])])
def spigotlaw39_WaitLater.B11 : List Nat := [0, 0, 3, 7, 0, 0, 48, 112, 255]
theorem spigotlaw39_WaitLater.tab11 : rtab .any (opsOf Try.f4 11) = spigotlaw39_WaitLater.T11 := by kernel_rfl
theorem spigotlaw39_WaitLater.bits11 : waitsOk spigotlaw39_WaitLater.T11.2 spigotlaw39_WaitLater.B11 = true := by kernel_rfl
def spigotlaw39_WaitLater.T14 : Bool × List (List Nat × List Nat) := (true, [([], []), ([], []), ([], []), ([1, 2], [1, 2]), ([0, 3], [0, 3]), ([], []), ([], []), ([6], [6]), ([5, 7], [5, 7]), ([4, 8, 4], [4, 8]), ([9, 9, 0, 1, 2, 3, 4, 5, 6, 7, 8, 9], [9])])
def spigotlaw39_WaitLater.B14 : List Nat := [0, 0, 0, 6, 15, 0, 0, 64, 224, 511, 1023]
theorem spigotlaw39_WaitLater.tab14 : rtab .any (opsOf Try.f4 14) = spigotlaw39_WaitLater.T14 := by kernel_rfl
theorem spigotlaw39_WaitLater.bits14 : waitsOk spigotlaw39_WaitLater.T14.2 spigotlaw39_WaitLater.B14 = true := by kernel_rfl
def spigotlaw39_WaitLater.T21 : Bool × List (List Nat × List Nat) := (true, [([], []), ([], []), ([0, 1], [0, 1]), ([2], [2]), ([], []), ([], []), ([4, 5], [4, 5]), ([6], [6]), ([3, 7], [3, 7])])
def spigotlaw39_WaitLater.B21 : List Nat := [0, 0, 3, 7, 0, 0, 48, 112, 255]
theorem spigotlaw39_WaitLater.tab21 : rtab .any (opsOf Try.f4 21) = spigotlaw39_WaitLater.T21 := by kernel_rfl
theorem spigotlaw39_WaitLater.bits21 : waitsOk spigotlaw39_WaitLater.T21.2 spigotlaw39_WaitLater.B21 = true := by kernel_rfl
def spigotlaw39_WaitLater.T23 : Bool × List (List Nat × List Nat) := (true, [([], []), ([0], [0]), ([1], [1]), ([2], [2]), ([3], [3]), ([4, 3], [3, 4]), ([5, 3], [3, 5]), ([3], [3]), ([7, 3], [3, 7]), ([8, 3], [3, 8]), ([6, 9, 3], [3, 6, 9]), ([10, 3], [3, 10]), ([3, 11], [3, 11])])
def spigotlaw39_WaitLater.B23 : List Nat := [0, 1, 3, 7, 15, 31, 63, 15, 143, 399, 1023, 2047, 4095]
theorem spigotlaw39_WaitLater.tab23 : rtab .any (opsOf Try.f4 23) = spigotlaw39_WaitLater.T23 := by kernel_rfl
theorem spigotlaw39_WaitLater.bits23 : waitsOk spigotlaw39_WaitLater.T23.2 spigotlaw39_WaitLater.B23 = true := by kernel_rfl
def spigotlaw39_WaitLater.T25 : Bool × List (List Nat × List Nat) := (true, [([], []), ([], []), ([], []), ([2], [2]), ([3], [3]), ([], []), ([5], [5]), ([6], [6]), ([4, 7], [4, 7]), ([0, 1, 8], [0, 1, 8]), ([9], [9]), ([10], [10]), ([10], [10]), ([11, 9, 0, 1, 2, 3, 4, 5, 6, 7, 8, 9, 10, 11], [11]), ([12, 13, 0, 1, 2, 3, 4, 5, 6, 7, 8, 9, 10, 11, 12, 13], [12])])
def spigotlaw39_WaitLater.B25 : List Nat := [0, 0, 0, 4, 12, 0, 32, 96, 252, 511, 1023, 2047, 2047, 4095, 16383]
theorem spigotlaw39_WaitLater.tab25 : rtab .any (opsOf Try.f4 25) = spigotlaw39_WaitLater.T25 := by kernel_rfl
theorem spigotlaw39_WaitLater.bits25 : waitsOk spigotlaw39_WaitLater.T25.2 spigotlaw39_WaitLater.B25 = true := by kernel_rfl
set_option maxHeartbeats 8000000 in
set_option maxRecDepth 100000 in
theorem spigotlaw39_WaitLater.calls (k : Nat) (A0 : Option Addr) (c0 : Nat) (l0 : List (S63)) (a1 : Int) (a2 : Int) (A3 : Option Addr) (c3 : Nat) (l3 : List Int) (a4 : Int) (r : Bool) (w : World) (hr0 : Kd.C k63 w A0 l0.length l0) (hc0 : l0.length ≤ c0) (hr3 : Kd.C (Kd.int .i64) w A3 l3.length l3) (hc3 : l3.length ≤ c3) (h : spigotlaw39_WaitLater.f k l0 a1 a2 l3 a4 = some r) :
  Calls Try.prog 4 #[.slice A0 l0.length c0, .int .u64 a1, .int .u64 a2, .slice A3 l3.length c3, .int .i64 a4] w fun e w' => e = .returned (.bool r) ∧ Below w.heap.size w w' := by
 have HR0 := Aside0.mk hr0
 have HC0 := Aside0.mk hc0
 clear hr0 hc0
 have HR3 := Aside0.mk hr3
 have HC3 := Aside0.mk hc3
 clear hr3 hc3
 have HB := Aside0.mk (Below.refl w.heap.size w)
 have H : ((spigotlaw39_alive.f k).bind fun t438 => ((spigotlaw39_fit.f k l0 l3).bind fun t439 => (if t439 = true then (if a2 < a1 then (spigotlaw39_WaitLater.j0 k l0 a1 a2 l3 a4 t438 true) else (spigotlaw39_WaitLater.j0 k l0 a1 a2 l3 a4 t438 (!t438))) else (spigotlaw39_WaitLater.j0 k l0 a1 a2 l3 a4 t438 true)))) = some r := h
 clear h
 obtain ⟨t438, A6, H⟩ := bo_ H
 try dsimp only at H
 have HC7 := Aside0.mk H
 clear H
 go_enter Try.func4, Try.ntmps4
 go_upto_region 2 with (first | ((with_reducible refine gate_callee (f := 13) rfl ?_); (try refine ug_ (by rfl) ?_); refine goesA_ (some 29) Try.func13 #[] ?_; (with_reducible refine (spigotlaw39_alive.calls k  t438 _ A6.out).mono ?_); rintro e w8 ⟨rfl, hb⟩; refine ⟨_, rfl, ?_⟩; replace HB := bs_ w hb; clear hb))
 (try simp only [Act.put, List.setIfInBounds_toArray, List.set_cons_zero, List.set_cons_succ])
 go_cut [42] (fun v42 wc => ∃ (kq : Nat) (x42_6 : Bool), v42 = .bool x42_6 ∧ Aside0 (spigotlaw39_WaitLater.j0 kq l0 a1 a2 l3 a4 t438 x42_6 = some r) ∧ Aside0 (kq ≤ k) ∧ Aside0 (Below w.heap.size w wc))
 case first =>
  have H := HC7.out
  clear HC7
  obtain ⟨t439, A9, H⟩ := bo_ H
  try dsimp only at H
  by_cases c10 : t439 = true
  ·as_aux_lemma =>
   subst c10
   rw [if_pos rfl] at H
   try dsimp only at H
   by_cases c11 : a2 < a1
   ·as_aux_lemma =>
    rw [if_pos c11] at H
    have c11b0 : decide (a2 < a1) = true := decide_eq_true c11
    clear c11
    (first | rw [c11b0] | (simp only [i64_w, i32_w]; rw [c11b0]) | skip)
    have H' := Aside0.mk H
    clear H
    go_wp2_with (first | ((with_reducible refine gate_callee (f := 14) rfl ?_); (try refine ug_ (by rfl) ?_); refine goesA_ (some 32) Try.func14 #[.slice A0 l0.length c0, .slice A3 l3.length c3] ?_; (with_reducible refine (spigotlaw39_fit.calls k _ _ l0 _ _ l3 true _ ?side1 ?side2 ?side3 ?side4 A9.out).mono ?_); (case side1 => exact cs_ HR0 HB); (case side2 => exact HC0.out); (case side3 => exact cs_ HR3 HB); (case side4 => exact HC3.out); rintro e w12 ⟨rfl, hb⟩; refine ⟨_, rfl, ?_⟩; replace HB := bs_ w hb; clear hb))
    go_meet
    case rel => exact ⟨_, (true), rf_, H', al_, bw_⟩
   ·as_aux_lemma =>
    rw [if_neg c11] at H
    have c11b0 : decide (a2 < a1) = false := decide_eq_false c11
    clear c11
    (first | rw [c11b0] | (simp only [i64_w, i32_w]; rw [c11b0]) | skip)
    have H' := Aside0.mk H
    clear H
    go_wp2_with (first | ((with_reducible refine gate_callee (f := 14) rfl ?_); (try refine ug_ (by rfl) ?_); refine goesA_ (some 32) Try.func14 #[.slice A0 l0.length c0, .slice A3 l3.length c3] ?_; (with_reducible refine (spigotlaw39_fit.calls k _ _ l0 _ _ l3 true _ ?side1 ?side2 ?side3 ?side4 A9.out).mono ?_); (case side1 => exact cs_ HR0 HB); (case side2 => exact HC0.out); (case side3 => exact cs_ HR3 HB); (case side4 => exact HC3.out); rintro e w13 ⟨rfl, hb⟩; refine ⟨_, rfl, ?_⟩; replace HB := bs_ w hb; clear hb))
    go_meet
    case rel => exact ⟨_, (!t438), rf_, H', al_, bw_⟩
  ·as_aux_lemma =>
   replace c10 := Bool.eq_false_iff.mpr c10
   subst c10
   rw [if_neg (show ¬ (false = true) by decide)] at H
   try dsimp only at H
   have H' := Aside0.mk H
   clear H
   go_wp2_with (first | ((with_reducible refine gate_callee (f := 14) rfl ?_); (try refine ug_ (by rfl) ?_); refine goesA_ (some 32) Try.func14 #[.slice A0 l0.length c0, .slice A3 l3.length c3] ?_; (with_reducible refine (spigotlaw39_fit.calls k _ _ l0 _ _ l3 false _ ?side1 ?side2 ?side3 ?side4 A9.out).mono ?_); (case side1 => exact cs_ HR0 HB); (case side2 => exact HC0.out); (case side3 => exact cs_ HR3 HB); (case side4 => exact HC3.out); rintro e w14 ⟨rfl, hb⟩; refine ⟨_, rfl, ?_⟩; replace HB := bs_ w hb; clear hb))
   go_meet
   case rel => exact ⟨_, (true), rf_, H', al_, bw_⟩
 case rest =>
  clear HC7
  try clear c3
  obtain ⟨kq, x42_6, rfl, HA, HJ6, HB⟩ := hcut
  cases kq with
  | zero => exact absurd HA.out (by simp [spigotlaw39_WaitLater.j0])
  | succ kj6 =>
   have H := HA.out
   clear HA
   simp only [spigotlaw39_WaitLater.j0] at H
   by_cases c15 : x42_6 = true
   ·as_aux_lemma =>
    subst c15
    replace H : (some t438) = some r := by rw [if_pos rfl] at H; exact H
    obtain rfl := Option.some.inj H
    go_wp2
    go_ret
    exact fi_
   ·as_aux_lemma =>
    replace c15 := Bool.eq_false_iff.mpr c15
    subst c15
    rw [if_neg (show ¬ (false = true) by decide)] at H
    try dsimp only at H
    obtain ⟨⟨t440, t441, t442⟩, A16, H⟩ := bo_ H
    try dsimp only at H
    obtain ⟨⟨t447, t448, t449⟩, A17, H⟩ := bo_ H
    try dsimp only at H
    have HC18 := Aside0.mk H
    clear H
    go_upto_region 6 with (first | ((with_reducible refine gate_callee (f := 15) rfl ?_); (try refine ug_ (by rfl) ?_); refine goesA_ (some 48) Try.func15 #[.slice A0 l0.length c0, .int .u64 a1, .slice A3 l3.length c3] ?_; (with_reducible refine (wait_Plan.calls kj6 _ _ l0 a1 _ _ l3 t440 t441 t442 _ ?side1 ?side2 ?side3 ?side4 A16.out).mono ?_); (case side1 => exact cs_ HR0 HB); (case side2 => exact HC0.out); (case side3 => exact cs_ HR3 HB); (case side4 => exact HC3.out); rintro e w19 ⟨v443, v445, rfl, ho0, ho1, hb⟩; refine ⟨_, rfl, ?_⟩; have HO444 := Aside0.mk (Kd.R_lower ho0 (below_size (hq_ HB))); have HO446 := Aside0.mk (Kd.R_lower ho1 (below_size (hq_ HB))); replace HB := bs_ w hb; clear hb; (try clear ho0); (try clear ho1)) | ((with_reducible refine gate_callee (f := 15) rfl ?_); (try refine ug_ (by rfl) ?_); refine goesA_ (some 56) Try.func15 #[.slice A0 l0.length c0, .int .u64 a2, .slice A3 l3.length c3] ?_; (with_reducible refine (wait_Plan.calls kj6 _ _ l0 a2 _ _ l3 t447 t448 t449 _ ?side1 ?side2 ?side3 ?side4 A17.out).mono ?_); (case side1 => exact cs_ HR0 HB); (case side2 => exact HC0.out); (case side3 => exact cs_ HR3 HB); (case side4 => exact HC3.out); rintro e w20 ⟨v450, v452, rfl, ho0, ho1, hb⟩; refine ⟨_, rfl, ?_⟩; have HO451 := Aside0.mk (Kd.R_lower (Kd.R_new' ho0 (Kd.R_lt (rs_ HO444))) (below_size (hq_ HB))); have HO453 := Aside0.mk (Kd.R_lower (Kd.R_new' ho1 (Kd.R_lt (rs_ HO446))) (below_size (hq_ HB))); replace HO444 := Aside0.mk (Kd.R_elder' (rs_ HO444) (Kd.R_base ho0) hb); replace HO446 := Aside0.mk (Kd.R_elder' (rs_ HO446) (Kd.R_base ho1) hb); replace HB := bs_ w hb; (try clear hb); (try clear hb2); (try clear hk); (try clear hi); (try clear ho0); (try clear ho1)))
    (try simp only [Act.put, List.setIfInBounds_toArray, List.set_cons_zero, List.set_cons_succ])
    go_cut [88] (fun v88 wc => ∃ (kq : Nat) (x88_17 : Bool), v88 = .bool x88_17 ∧ Aside0 (spigotlaw39_WaitLater.j1 kq l0 a1 l3 a4 t438 t440 t442 t447 t449 x88_17 = some r) ∧ Aside0 (kq ≤ kj6) ∧ Aside0 (Kd.R (Kd.int .u64) 23 wc w.heap.size (fun k_ => some k_ ≠ (v450 : Value).ownBlock) v443 t440) ∧ Aside0 (Kd.R (Kd.int .u64) 23 wc w.heap.size (fun k_ => some k_ ≠ (v443 : Value).ownBlock) v450 t447) ∧ Aside0 (Below w.heap.size w wc))
    case first =>
     have H := HC18.out
     clear HC18
     by_cases c21 : t449 = 0
     ·as_aux_lemma =>
      rw [if_pos c21] at H
      have c21b0 : (t449 == 0) = true := beq_iff_eq.mpr c21
      have c21b1 : (t449 != 0) = false := bne_eq_false_iff_eq.mpr c21
      clear c21
      (first | rw [c21b0] | (simp only [i64_w, i32_w]; rw [c21b0]) | skip)
      by_cases c22 : t442 = 0
      rotate_left
      ·rw [if_neg c22] at H; exact absurd H (by simp)
      rw [if_pos c22] at H
      have c22b0 : (t442 == 0) = true := beq_iff_eq.mpr c22
      have c22b1 : (t442 != 0) = false := bne_eq_false_iff_eq.mpr c22
      clear c22
      by_cases c23 : (t440.length : Int) = (t447.length : Int)
      rotate_left
      ·rw [if_neg c23] at H; exact absurd H (by simp)
      rw [if_pos c23] at H
      have c23b0 : ((t440.length : Int) == (t447.length : Int)) = true := beq_iff_eq.mpr c23
      have c23b1 : ((t440.length : Int) != (t447.length : Int)) = false := bne_eq_false_iff_eq.mpr c23
      have c23b2 : (t440.length == t447.length) = true := by first | simpa using c23 | (simp at c23 ⊢; omega)
      clear c23
      have H' := Aside0.mk H
      clear H
      obtain ⟨Ao24, co24, eo24⟩ := Kd.R_slice HO444.out
      subst eo24
      obtain ⟨Ao25, co25, eo25⟩ := Kd.R_slice HO451.out
      subst eo25
      go_wp2
      go_meet
      case rel => exact ⟨_, (false), rf_, H', ⟨by have := HJ6.out; first | omega | exact Nat.le_refl _⟩, ⟨by (with_reducible repeat (first | apply Kd.R_alloc | apply Kd.R_drewN | apply Kd.R_drew)); exact Kd.R_mono HO444.out (fun _ hk => hk.2)⟩, ⟨by (with_reducible repeat (first | apply Kd.R_alloc | apply Kd.R_drewN | apply Kd.R_drew)); exact Kd.R_mono HO451.out (fun _ hk => hk.2)⟩, bw_⟩
     ·as_aux_lemma =>
      rw [if_neg c21] at H
      have c21b0 : (t449 == 0) = false := beq_eq_false_iff_ne.mpr c21
      have c21b1 : (t449 != 0) = true := bne_iff_ne.mpr c21
      (first | rw [c21b0] | (simp only [i64_w, i32_w]; rw [c21b0]) | skip)
      by_cases c26 : t442 = 0
      ·as_aux_lemma =>
       rw [if_pos c26] at H
       have c26b0 : (t442 == 0) = true := beq_iff_eq.mpr c26
       have c26b1 : (t442 != 0) = false := bne_eq_false_iff_eq.mpr c26
       clear c26
       have H' := Aside0.mk H
       clear H
       go_wp2
       go_meet
       case rel => exact ⟨_, ((t449 != 6)), rf_, H', ⟨by have := HJ6.out; first | omega | exact Nat.le_refl _⟩, ⟨by (with_reducible repeat (first | apply Kd.R_alloc | apply Kd.R_drewN | apply Kd.R_drew)); exact Kd.R_mono HO444.out (fun _ hk => hk.2)⟩, ⟨by (with_reducible repeat (first | apply Kd.R_alloc | apply Kd.R_drewN | apply Kd.R_drew)); exact Kd.R_mono HO451.out (fun _ hk => hk.2)⟩, bw_⟩
      ·as_aux_lemma =>
       rw [if_neg c26] at H
       have c26b0 : (t442 == 0) = false := beq_eq_false_iff_ne.mpr c26
       have c26b1 : (t442 != 0) = true := bne_iff_ne.mpr c26
       by_cases c27 : t442 = 6
       rotate_left
       ·rw [if_neg c27] at H; exact absurd H (by simp)
       rw [if_pos c27] at H
       have c27b0 : (t442 == 6) = true := beq_iff_eq.mpr c27
       have c27b1 : (t442 != 6) = false := bne_eq_false_iff_eq.mpr c27
       clear c27
       have H' := Aside0.mk H
       clear H
       go_wp2
       go_meet
       case rel => exact ⟨_, ((t449 != 6)), rf_, H', ⟨by have := HJ6.out; first | omega | exact Nat.le_refl _⟩, ⟨by (with_reducible repeat (first | apply Kd.R_alloc | apply Kd.R_drewN | apply Kd.R_drew)); exact Kd.R_mono HO444.out (fun _ hk => hk.2)⟩, ⟨by (with_reducible repeat (first | apply Kd.R_alloc | apply Kd.R_drewN | apply Kd.R_drew)); exact Kd.R_mono HO451.out (fun _ hk => hk.2)⟩, bw_⟩
    case rest =>
     clear HC18
     try clear c3
     try clear c15
     obtain ⟨kq, x88_17, rfl, HA, HJ17, HO_12, HO_15, HB⟩ := hcut
     cases kq with
     | zero => exact absurd HA.out (by simp [spigotlaw39_WaitLater.j1])
     | succ kj17 =>
      have H := HA.out
      clear HA
      simp only [spigotlaw39_WaitLater.j1] at H
      by_cases c28 : x88_17 = true
      ·as_aux_lemma =>
       subst c28
       replace H : (none) = some r := by rw [if_pos rfl] at H; exact H
       exact absurd H (by simp)
      ·as_aux_lemma =>
       replace c28 := Bool.eq_false_iff.mpr c28
       subst c28
       rw [if_neg (show ¬ (false = true) by decide)] at H
       try dsimp only at H
       have H' := Aside0.mk H
       clear H
       go_wp2
       go_loopg [18] kj17 (fun kq v18 w' => ∃ (x18_3 : Int), v18 = .int .i64 x18_3 ∧ Aside0 (spigotlaw39_WaitLater.l0 kq l0 a1 l3 a4 t438 t440 t442 t447 t449 x18_3 = some r) ∧ Aside0 (kq ≤ kj17) ∧ Aside0 (Kd.R (Kd.int .u64) 23 w' w.heap.size (fun k_ => some k_ ≠ (v450 : Value).ownBlock) v443 t440) ∧ Aside0 (Kd.R (Kd.int .u64) 23 w' w.heap.size (fun k_ => some k_ ≠ (v443 : Value).ownBlock) v450 t447) ∧ Aside0 (Below w.heap.size w w'))
       case atStart => exact ⟨(0), rf_, H', ⟨Nat.le_refl _⟩, ⟨rs_ HO_12⟩, ⟨rs_ HO_15⟩, bw_⟩
       case round =>
        clear H'
        try clear c3
        try clear c15
        try clear c28
        obtain ⟨x18_3, rfl, HA, HK3, HO_12, HO_15, HB⟩ := hrel
        cases gk with
        | zero => exact absurd HA.out (by simp [spigotlaw39_WaitLater.l0])
        | succ k3 =>
         have H := HA.out
         clear HA
         simp only [spigotlaw39_WaitLater.l0] at H
         have HC29 := Aside0.mk H
         clear H
         go_upto_region 9 with (fail)
         go_cut [96] (fun v96 wc => ∃ (kq : Nat) (x96_28 : Bool), v96 = .bool x96_28 ∧ Aside0 (spigotlaw39_WaitLater.j3 kq l0 a1 l3 a4 t438 t440 t442 t447 t449 x18_3 x96_28 = some r) ∧ Aside0 (kq ≤ k3) ∧ Aside0 (Kd.R (Kd.int .u64) 23 wc w.heap.size (fun k_ => some k_ ≠ (v450 : Value).ownBlock) v443 t440) ∧ Aside0 (Kd.R (Kd.int .u64) 23 wc w.heap.size (fun k_ => some k_ ≠ (v443 : Value).ownBlock) v450 t447) ∧ Aside0 (Below w.heap.size w wc))
         case first =>
          have H := HC29.out
          clear HC29
          by_cases c30 : x18_3 < (t447.length : Int)
          ·as_aux_lemma =>
           rw [if_pos c30] at H
           have c30b0 : decide (x18_3 < (t447.length : Int)) = true := decide_eq_true c30
           clear c30
           (first | rw [c30b0] | (simp only [i64_w, i32_w]; rw [c30b0]) | skip)
           have H' := Aside0.mk H
           clear H
           obtain ⟨Ao31, co31, eo31⟩ := Kd.R_slice HO_15.out
           subst eo31
           go_wp2
           go_meet
           case rel => exact ⟨_, ((t449 == 0)), rf_, H', ⟨by have := HJ6.out; have := HJ17.out; have := HK3.out; first | omega | exact Nat.le_refl _⟩, ⟨rs_ HO_12⟩, ⟨rs_ HO_15⟩, bw_⟩
          ·as_aux_lemma =>
           rw [if_neg c30] at H
           have c30b0 : decide (x18_3 < (t447.length : Int)) = false := decide_eq_false c30
           clear c30
           (first | rw [c30b0] | (simp only [i64_w, i32_w]; rw [c30b0]) | skip)
           have H' := Aside0.mk H
           clear H
           obtain ⟨Ao32, co32, eo32⟩ := Kd.R_slice HO_15.out
           subst eo32
           go_wp2
           go_meet
           case rel => exact ⟨_, (false), rf_, H', ⟨by have := HJ6.out; have := HJ17.out; have := HK3.out; first | omega | exact Nat.le_refl _⟩, ⟨rs_ HO_12⟩, ⟨rs_ HO_15⟩, bw_⟩
         case rest =>
          clear HC29
          try clear c3
          try clear c15
          try clear c28
          obtain ⟨kq, x96_28, rfl, HA, HJ28, HO_12, HO_15, HB⟩ := hcut
          cases kq with
          | zero => exact absurd HA.out (by simp [spigotlaw39_WaitLater.j3])
          | succ kj28 =>
           have H := HA.out
           clear HA
           simp only [spigotlaw39_WaitLater.j3] at H
           by_cases c33 : x96_28 = true
           ·as_aux_lemma =>
            subst c33
            rw [if_pos rfl] at H
            try dsimp only at H
            by_cases c34 : 0 ≤ x18_3
            rotate_left
            ·rw [if_neg c34] at H; exact absurd H (by simp)
            rw [if_pos c34] at H
            have c34b0 : decide (0 ≤ x18_3) = true := decide_eq_true c34
            clear c34
            by_cases c35 : x18_3 < (t447.length : Int)
            rotate_left
            ·rw [if_neg c35] at H; exact absurd H (by simp)
            rw [if_pos c35] at H
            have c35b0 : decide (x18_3 < (t447.length : Int)) = true := decide_eq_true c35
            clear c35
            by_cases c36 : x18_3 < (t440.length : Int)
            rotate_left
            ·rw [if_neg c36] at H; exact absurd H (by simp)
            rw [if_pos c36] at H
            have c36b0 : decide (x18_3 < (t440.length : Int)) = true := decide_eq_true c36
            clear c36
            by_cases c37 : (rd t447 x18_3) < (rd t440 x18_3)
            ·rw [if_pos c37] at H; exact absurd H (by simp)
            rw [if_neg c37] at H
            have c37b0 : decide ((rd t447 x18_3) < (rd t440 x18_3)) = false := decide_eq_false c37
            clear c37
            have H' := Aside0.mk H
            clear H
            try go_wp2
            replace HO_12 := Aside0.mk (Kd.R_drew HO_12.out)
            replace HO_15 := Aside0.mk (Kd.R_drew HO_15.out)
            replace HB := Aside0.mk (below_drew1 HB.out)
            obtain ⟨Ao39, co39, eo39⟩ := Kd.R_slice HO_15.out
            (first | subst eo39 | (injection eo39 with f1_ f2_ f3_; have f4_ := f1_.symm; have f5_ := f3_.symm; clear f1_ f2_ f3_; subst f4_; subst f5_))
            have p454 : 0 ≤ (x18_3 : Int) := of_decide_eq_true (by first | (with_reducible assumption) | assumption)
            have q454 : x18_3 < (t447.length : Int) := of_decide_eq_true (by first | (with_reducible assumption) | assumption)
            obtain ⟨ad454, e454, hx454_0⟩ := Kd.at_int (Kd.R_reads' HO_15.out).2.2 x18_3 p454 q454
            cases e454
            replace p454 := eq_true p454
            replace q454 := eq_true q454
            obtain ⟨Ao40, co40, eo40⟩ := Kd.R_slice HO_12.out
            (first | subst eo40 | (injection eo40 with f1_ f2_ f3_; have f4_ := f1_.symm; have f5_ := f3_.symm; clear f1_ f2_ f3_; subst f4_; subst f5_))
            have p455 : 0 ≤ (x18_3 : Int) := of_decide_eq_true (by first | (with_reducible assumption) | assumption)
            have q455 : x18_3 < (t440.length : Int) := of_decide_eq_true (by first | (with_reducible assumption) | assumption)
            obtain ⟨ad455, e455, hx455_0⟩ := Kd.at_int (Kd.R_reads' HO_12.out).2.2 x18_3 p455 q455
            cases e455
            replace p455 := eq_true p455
            replace q455 := eq_true q455
            refine start_ (n := 9) (S := fun w' => w'.cell? (ad454.add (x18_3).toNat) = some (.int .u64 (rd t447 x18_3)) ∧ w'.cell? (ad455.add (x18_3).toNat) = some (.int .u64 (rd t440 x18_3))) (ds := []) (bl_ 9 0) (by kernel_rfl) rfl (by kernel_rfl) ⟨hx454_0, hx455_0⟩ (fun hHeld => ?_); refine with_tabW spigotlaw39_WaitLater.tab11 spigotlaw39_WaitLater.bits11 (fun HT_ HW_ => ?_)
            generalize wc.drew = w38 at HO_12 HO_15 HB hx454_0 hx455_0 hHeld ⊢
            refine pa_ 0 (some 99) (bl_ 9 1) HT_ ?_
            refine pa_ 1 (some 100) (bl_ 9 3) HT_ ?_
            refine pa_ 2 (some 101) (bl_ 9 7) HT_ ?_
            refine pa_ 4 (some 103) (bl_ 9 23) HT_ ?_
            refine pa_ 5 (some 104) (bl_ 9 55) HT_ ?_
            refine pa_ 6 (some 105) (bl_ 9 119) HT_ ?_
            refine ta_ 3 (some 102) (bl_ 9 127) HT_ HW_ hHeld ?_
            refine ta_ 7 (some 106) (bl_ 9 255) HT_ HW_ hHeld ?_
            refine pa_ 8 (some 107) (bl_ 9 511) HT_ ?_
            refine done_ (done_of HT_.out (by kernel_rfl)) ?_
            try go_wp2
            go_roundg kj28
            case measure => have := HJ6.out; have := HJ17.out; have := HK3.out; have := HJ28.out; omega
            case rel => exact ⟨(wrap64 (x18_3 + 1)), rf_, H', ⟨by have := HJ6.out; have := HJ17.out; have := HK3.out; have := HJ28.out; omega⟩, ⟨rs_ HO_12⟩, ⟨rs_ HO_15⟩, bw_⟩
           ·as_aux_lemma =>
            replace c33 := Bool.eq_false_iff.mpr c33
            subst c33
            rw [if_neg (show ¬ (false = true) by decide)] at H
            try dsimp only at H
            have HC41 := Aside0.mk H
            clear H
            go_upto_region 13 with (fail)
            go_cut [115] (fun v115 wc => ∃ (kq : Nat) (x115_40 : Bool), v115 = .bool x115_40 ∧ Aside0 (spigotlaw39_WaitLater.j4 kq l0 a1 l3 a4 t438 t440 t442 x115_40 = some r) ∧ Aside0 (kq ≤ kj28) ∧ Aside0 (Kd.R (Kd.int .u64) 23 wc w.heap.size (fun _ => True) v443 t440) ∧ Aside0 (Below w.heap.size w wc))
            case first =>
             have H := HC41.out
             clear HC41
             by_cases c42 : a4 ≥ 0
             ·as_aux_lemma =>
              rw [if_pos c42] at H
              have c42b0 : decide (0 ≤ a4) = true := decide_eq_true c42
              clear c42
              (first | rw [c42b0] | (simp only [i64_w, i32_w]; rw [c42b0]) | skip)
              have H' := Aside0.mk H
              clear H
              go_wp2
              go_meet
              case rel => exact ⟨_, (decide (a4 < (l0.length : Int))), rf_, H', ⟨by have := HJ6.out; have := HJ17.out; have := HK3.out; have := HJ28.out; first | omega | exact Nat.le_refl _⟩, ⟨by (with_reducible repeat (first | apply Kd.R_alloc | apply Kd.R_drewN | apply Kd.R_drew)); exact Kd.R_mono HO_12.out (fun _ hk => trivial)⟩, bw_⟩
             ·as_aux_lemma =>
              rw [if_neg c42] at H
              have c42b0 : decide (0 ≤ a4) = false := decide_eq_false c42
              clear c42
              (first | rw [c42b0] | (simp only [i64_w, i32_w]; rw [c42b0]) | skip)
              have H' := Aside0.mk H
              clear H
              go_wp2
              go_meet
              case rel => exact ⟨_, (false), rf_, H', ⟨by have := HJ6.out; have := HJ17.out; have := HK3.out; have := HJ28.out; first | omega | exact Nat.le_refl _⟩, ⟨by (with_reducible repeat (first | apply Kd.R_alloc | apply Kd.R_drewN | apply Kd.R_drew)); exact Kd.R_mono HO_12.out (fun _ hk => trivial)⟩, bw_⟩
            case rest =>
             clear HC41
             try clear c3
             try clear c15
             try clear c28
             try clear c33
             obtain ⟨kq, x115_40, rfl, HA, HJ40, HO_12, HB⟩ := hcut
             cases kq with
             | zero => exact absurd HA.out (by simp [spigotlaw39_WaitLater.j4])
             | succ kj40 =>
              have H := HA.out
              clear HA
              simp only [spigotlaw39_WaitLater.j4] at H
              have HC43 := Aside0.mk H
              clear H
              go_upto_if 115 with (fail)
              go_cut [] (fun wc => ∃ (kq : Nat), Aside0 (spigotlaw39_WaitLater.j8 kq l0 a1 l3 t438 = some r) ∧ Aside0 (kq ≤ kj40) ∧ Aside0 (Below w.heap.size w wc))
              case first =>
               have H := HC43.out
               clear HC43
               by_cases c44 : x115_40 = true
               ·as_aux_lemma =>
                subst c44
                rw [if_pos rfl] at H
                try dsimp only at H
                obtain ⟨y456, hy456⟩ : ∃ y_ : List (S63), y_ = (([] : List (S63))) := ⟨_, rfl⟩
                replace H : (if 0 ≤ a4 then (if a4 ≤ (l0.length : Int) then ((some (l0.take (a4 : Int).toNat : List (S63))).bind fun y459 => (if y456.length + y459.length < 2932031007402 then ((some (y456 ++ y459 : List (S63))).bind fun y463 => (if 0 ≤ (wrap64 (a4 + 1)) then (if (wrap64 (a4 + 1)) ≤ (l0.length : Int) then ((some (l0.drop ((wrap64 (a4 + 1)) : Int).toNat : List (S63))).bind fun y466 => (if y463.length + y466.length < 2932031007402 then ((wait_Plan.f kj40 (y463 ++ y466) a1 l3).bind fun bt473 => (if t442 = 0 then (if bt473.2.2 = 0 then (spigotlaw39_WaitLater.j5 kj40 l0 a1 l3 t438 t440 t442 bt473.1 ((bt473.1.length : Int) != (t440.length : Int))) else (spigotlaw39_WaitLater.j5 kj40 l0 a1 l3 t438 t440 t442 bt473.1 true)) else (spigotlaw39_WaitLater.j5 kj40 l0 a1 l3 t438 t440 t442 bt473.1 false))) else (none))) else (none)) else (none))) else (none))) else (none)) else (none)) = some r := by first | (rw [hy456]; with_reducible exact H) | (have H2_ := (Option.bind_some _ _).symm.trans H; rw [hy456]; with_reducible exact H2_) | (have H2_ := (Option.bind_some _ _).symm.trans H; with_reducible exact H2_) | with_reducible exact H | (rw [hy456]; exact H) | exact H
                have Ny456 := Aside0.mk hy456
                clear hy456
                by_cases c45 : 0 ≤ a4
                rotate_left
                ·rw [if_neg c45] at H; exact absurd H (by simp)
                rw [if_pos c45] at H
                have c45b0 := eq_true c45
                have c45b1 : decide (0 ≤ a4) = true := decide_eq_true c45
                clear c45
                by_cases c46 : a4 ≤ (l0.length : Int)
                rotate_left
                ·rw [if_neg c46] at H; exact absurd H (by simp)
                rw [if_pos c46] at H
                have c46b0 := eq_true c46
                have c46b1 : decide (a4 ≤ (l0.length : Int)) = true := decide_eq_true c46
                clear c46
                obtain ⟨y459, hy459⟩ : ∃ y_ : List (S63), y_ = (l0.take (a4 : Int).toNat) := ⟨_, rfl⟩
                replace H : (if y456.length + y459.length < 2932031007402 then ((some (y456 ++ y459 : List (S63))).bind fun y463 => (if 0 ≤ (wrap64 (a4 + 1)) then (if (wrap64 (a4 + 1)) ≤ (l0.length : Int) then ((some (l0.drop ((wrap64 (a4 + 1)) : Int).toNat : List (S63))).bind fun y466 => (if y463.length + y466.length < 2932031007402 then ((wait_Plan.f kj40 (y463 ++ y466) a1 l3).bind fun bt473 => (if t442 = 0 then (if bt473.2.2 = 0 then (spigotlaw39_WaitLater.j5 kj40 l0 a1 l3 t438 t440 t442 bt473.1 ((bt473.1.length : Int) != (t440.length : Int))) else (spigotlaw39_WaitLater.j5 kj40 l0 a1 l3 t438 t440 t442 bt473.1 true)) else (spigotlaw39_WaitLater.j5 kj40 l0 a1 l3 t438 t440 t442 bt473.1 false))) else (none))) else (none)) else (none))) else (none)) = some r := by first | (rw [hy459]; with_reducible exact H) | (have H2_ := (Option.bind_some _ _).symm.trans H; rw [hy459]; with_reducible exact H2_) | (have H2_ := (Option.bind_some _ _).symm.trans H; with_reducible exact H2_) | with_reducible exact H | (rw [hy459]; exact H) | exact H
                have Ny459 := Aside0.mk hy459
                clear hy459
                by_cases c47 : y456.length + y459.length < 2932031007402
                rotate_left
                ·rw [if_neg c47] at H; exact absurd H (by simp)
                rw [if_pos c47] at H
                have LMc47 := Aside0.mk c47
                clear c47
                obtain ⟨y463, hy463⟩ : ∃ y_ : List (S63), y_ = (y456 ++ y459) := ⟨_, rfl⟩
                replace H : (if 0 ≤ (wrap64 (a4 + 1)) then (if (wrap64 (a4 + 1)) ≤ (l0.length : Int) then ((some (l0.drop ((wrap64 (a4 + 1)) : Int).toNat : List (S63))).bind fun y466 => (if y463.length + y466.length < 2932031007402 then ((wait_Plan.f kj40 (y463 ++ y466) a1 l3).bind fun bt473 => (if t442 = 0 then (if bt473.2.2 = 0 then (spigotlaw39_WaitLater.j5 kj40 l0 a1 l3 t438 t440 t442 bt473.1 ((bt473.1.length : Int) != (t440.length : Int))) else (spigotlaw39_WaitLater.j5 kj40 l0 a1 l3 t438 t440 t442 bt473.1 true)) else (spigotlaw39_WaitLater.j5 kj40 l0 a1 l3 t438 t440 t442 bt473.1 false))) else (none))) else (none)) else (none)) = some r := by first | (rw [hy463]; with_reducible exact H) | (have H2_ := (Option.bind_some _ _).symm.trans H; rw [hy463]; with_reducible exact H2_) | (have H2_ := (Option.bind_some _ _).symm.trans H; with_reducible exact H2_) | with_reducible exact H | (rw [hy463]; exact H) | exact H
                have Ny463 := Aside0.mk hy463
                clear hy463
                obtain ⟨ji48, hji48⟩ : ∃ j_ : Int, (wrap64 (a4 + 1)) = j_ := ⟨_, rfl⟩
                replace H : (if 0 ≤ (ji48) then (if (ji48) ≤ (l0.length : Int) then ((some (l0.drop ((ji48) : Int).toNat : List (S63))).bind fun y466 => (if y463.length + y466.length < 2932031007402 then ((wait_Plan.f kj40 (y463 ++ y466) a1 l3).bind fun bt473 => (if t442 = 0 then (if bt473.2.2 = 0 then (spigotlaw39_WaitLater.j5 kj40 l0 a1 l3 t438 t440 t442 bt473.1 ((bt473.1.length : Int) != (t440.length : Int))) else (spigotlaw39_WaitLater.j5 kj40 l0 a1 l3 t438 t440 t442 bt473.1 true)) else (spigotlaw39_WaitLater.j5 kj40 l0 a1 l3 t438 t440 t442 bt473.1 false))) else (none))) else (none)) else (none)) = some r := by first | (rw [hji48] at H; exact H) | (simp only [hji48] at H ⊢; exact H)
                have hji48w : (IntKind.i64.wrap (a4 + 1)) = ji48 := (i64_w _).trans hji48
                by_cases c49 : 0 ≤ (ji48)
                rotate_left
                ·rw [if_neg c49] at H; exact absurd H (by simp)
                rw [if_pos c49] at H
                have c49b0 := eq_true c49
                have c49b1 : decide (0 ≤ (ji48)) = true := decide_eq_true c49
                clear c49
                by_cases c50 : (ji48) ≤ (l0.length : Int)
                rotate_left
                ·rw [if_neg c50] at H; exact absurd H (by simp)
                rw [if_pos c50] at H
                have c50b0 := eq_true c50
                have c50b1 : decide ((ji48) ≤ (l0.length : Int)) = true := decide_eq_true c50
                clear c50
                obtain ⟨y466, hy466⟩ : ∃ y_ : List (S63), y_ = (l0.drop ((ji48) : Int).toNat) := ⟨_, rfl⟩
                replace H : (if y463.length + y466.length < 2932031007402 then ((wait_Plan.f kj40 (y463 ++ y466) a1 l3).bind fun bt473 => (if t442 = 0 then (if bt473.2.2 = 0 then (spigotlaw39_WaitLater.j5 kj40 l0 a1 l3 t438 t440 t442 bt473.1 ((bt473.1.length : Int) != (t440.length : Int))) else (spigotlaw39_WaitLater.j5 kj40 l0 a1 l3 t438 t440 t442 bt473.1 true)) else (spigotlaw39_WaitLater.j5 kj40 l0 a1 l3 t438 t440 t442 bt473.1 false))) else (none)) = some r := by first | (rw [hy466]; with_reducible exact H) | (have H2_ := (Option.bind_some _ _).symm.trans H; rw [hy466]; with_reducible exact H2_) | (have H2_ := (Option.bind_some _ _).symm.trans H; with_reducible exact H2_) | with_reducible exact H | (rw [hy466]; exact H) | exact H
                have Ny466 := Aside0.mk hy466
                clear hy466
                by_cases c51 : y463.length + y466.length < 2932031007402
                rotate_left
                ·rw [if_neg c51] at H; exact absurd H (by simp)
                rw [if_pos c51] at H
                have LMc51 := Aside0.mk c51
                clear c51
                obtain ⟨y470, hy470⟩ : ∃ y_ : List (S63), y_ = (y463 ++ y466) := ⟨_, rfl⟩
                replace H : ((wait_Plan.f kj40 y470 a1 l3).bind fun bt473 => (if t442 = 0 then (if bt473.2.2 = 0 then (spigotlaw39_WaitLater.j5 kj40 l0 a1 l3 t438 t440 t442 bt473.1 ((bt473.1.length : Int) != (t440.length : Int))) else (spigotlaw39_WaitLater.j5 kj40 l0 a1 l3 t438 t440 t442 bt473.1 true)) else (spigotlaw39_WaitLater.j5 kj40 l0 a1 l3 t438 t440 t442 bt473.1 false))) = some r := by first | (rw [hy470]; with_reducible exact H) | (have H2_ := (Option.bind_some _ _).symm.trans H; rw [hy470]; with_reducible exact H2_) | (have H2_ := (Option.bind_some _ _).symm.trans H; with_reducible exact H2_) | with_reducible exact H | (rw [hy470]; exact H) | exact H
                have Ny470 := Aside0.mk hy470
                clear hy470
                obtain ⟨⟨t473, t474, t475⟩, A52, H⟩ := bo_ H
                try dsimp only at H
                have HC53 := Aside0.mk H
                clear H
                try go_wp2
                replace HO_12 := Aside0.mk (Kd.R_drew HO_12.out)
                replace HB := Aside0.mk (below_drew1 HB.out)
                have q55 : (a4 : Int) ≤ ((l0.length : Int) : Int) := of_decide_eq_true (by first | (with_reducible assumption) | assumption)
                obtain ⟨i055, hi055, _, hsz55, _⟩ := info_parts info63
                have hroom55 : l0.length ≤ c0 := HC0.out
                have hC55 : Kd.C k63 _ A0 l0.length l0 := HR0.out
                have hcut55 := cut_to (P := Try.prog) 22 63 .i64 Try.underlying22 hi055 A0 l0.length c0 a4 (of_decide_eq_true (by first | (with_reducible assumption) | assumption)) q55 hroom55
                have hr55 := Kd.C_take (m := (a4 : Int).toNat) hC55 (by omega)
                have hy55 : y459.length = (a4 : Int).toNat := (by rw [Ny459.out, List.length_take]; omega)
                rw [← Ny459.out] at hr55
                rw [← hy55] at hcut55
                have HR462 := Aside0.mk hr55
                have HC462 := Aside0.mk (show y459.length ≤ c0 from by omega)
                clear hr55 hC55 hroom55 hi055 hsz55
                have KY55 := Aside0.mk hy55
                clear hy55
                replace q55 := eq_true q55
                have q56 : ((ji48) : Int) ≤ ((l0.length : Int) : Int) := of_decide_eq_true (by first | (with_reducible assumption) | assumption)
                obtain ⟨i056, hi056, _, hsz56, _⟩ := info_parts info63
                have hroom56 : l0.length ≤ c0 := HC0.out
                have hC56 : Kd.C k63 _ A0 l0.length l0 := HR0.out
                have q056 : (0 : Int) ≤ ((ji48) : Int) := of_decide_eq_true (by first | (with_reducible assumption) | assumption)
                have hcut56 := cut_from (P := Try.prog) 22 63 .i64 Try.underlying22 hi056 6 hsz56 A0 l0.length c0 (ji48) q056 q56
                have hr56 := Kd.C_drop (m := ((ji48) : Int).toNat) (c := c0) hC56 (by omega) hroom56
                obtain ⟨A56, hA56⟩ : ∃ A1, A1 = (if c0 = ((ji48) : Int).toNat then A0 else (A0 : Option Addr).map (·.add (((ji48) : Int).toNat * 6))) := ⟨_, rfl⟩
                obtain ⟨c56, hc56⟩ : ∃ c1, c1 = c0 - ((ji48) : Int).toNat := ⟨_, rfl⟩
                have hy56 : y466.length = l0.length - ((ji48) : Int).toNat := (by rw [Ny466.out, List.length_drop] <;> omega)
                rw [show (l0).drop ((ji48) : Int).toNat = y466 from Ny466.out.symm] at hr56
                replace hr56 : Kd.C k63 _ A56 y466.length y466 := (by rw [hA56]; exact hr56)
                rw [← hy56, ← hA56, ← hc56] at hcut56
                have HR469 := Aside0.mk hr56
                have HC469 := Aside0.mk (show y466.length ≤ c56 from by rw [hy56, hc56]; exact Nat.sub_le_sub_right hroom56 _)
                clear hr56 hC56 hroom56 hi056 hsz56 hc56
                have KY56 := Aside0.mk hy56
                have KA56 := Aside0.mk hA56
                clear hy56 hA56
                replace q56 := eq_true q56
                refine start_ (n := 11) (S := fun w' => True) (ds := []) (bl_ 11 0) (by kernel_rfl) rfl (by kernel_rfl) trivial (fun hHeld => ?_); refine with_tabW spigotlaw39_WaitLater.tab14 spigotlaw39_WaitLater.bits14 (fun HT_ HW_ => ?_)
                generalize wc.drew = w54 at HO_12 HB HR462 HR469 hHeld ⊢
                refine pa_ 1 (some 117) (bl_ 11 2) HT_ ?_
                refine pa_ 2 (some 118) (bl_ 11 6) HT_ ?_
                refine pa_ 3 (some 119) (bl_ 11 14) HT_ ?_
                refine pa_ 5 (some 121) (bl_ 11 46) HT_ ?_
                refine pa_ 6 (some 122) (bl_ 11 110) HT_ ?_
                refine pa_ 7 (some 123) (bl_ 11 238) HT_ ?_
                refine pa_ 8 (some 124) (bl_ 11 494) HT_ ?_
                refine oa_ 0 (some 116) (bl_ 11 495) HT_ fun K hK => ?_
                refine Kd.R_lit_step k63 _ 63 ?hg (N := 116) ?hd (xs := ([] : List (S63))) (inner := []) (ok := fun _ => True) (okp := fun _ => True) ?hr ?hp (fun _ hk => hk) trivial (Below.refl _ _) (Nat.le_refl _) (by simp) ?_; (case hd => rfl); (case hg => rfl); (case hr => first | (go_simp; done) | (go_simp; rfl)); (case hp => exact (Reps.none _ _))
                intro v457 w57 ho58 hb hg_ hnew_
                clear hg_ hnew_
                (first | rw [← Ny456.out] at ho58 | (simp only [Int.reduceToNat] at ho58; rw [← Ny456.out] at ho58))
                have HO458 := Aside0.mk (Kd.R_lower ho58 (below_size (hq_ HB)))
                replace HO_12 := rb_ HO_12 hb
                replace HB := bs_ w hb
                clear hb ho58
                refine hK.out _ _ trivial (fun hHeld => ?_)
                clear hK K
                refine nm_ (some 116) ?_
                refine oa_ 4 (some 120) (bl_ 11 511) HT_ fun K hK => ?_
                refine Kd.R_append_rows_step k63 (w0 := w) w.heap.size (by rfl) (.tmp 116) (.tmp 119) 22 63 (.agg #[(.int .i64 0), (.int .i64 0), (.int .i64 0), (.int .i64 0), (.int .i64 0), (.int .u64 0)]) 48 rfl Try.underlying22 info63 rfl (by decide) (by omega) v457 y456 y459 _ _ _ (fun _ => True) (fun _ => False) rfl rfl ?aO ?aR (fun _ _ h => h) (fun _ h => h.elim) ?aF ?aB ?aS ?aL ?_
                (case aR => exact cs_ HR462 HB)
                (case aB => exact (hq_ HB))
                (case aF => exact (fun _ _ => trivial))
                (case aO => exact (rs_ HO458))
                (case aS => exact (below_size (hq_ HB)))
                (case aL => have := LMc47.out; omega)
                intro v464 w59 ho hb hg hat
                rw [← Ny463.out] at ho
                have HO465 := Aside0.mk (ho)
                replace HO_12 := Aside0.mk (Kd.R_over' (rs_ HO_12) (Kd.R_typed (rs_ HO458)) (by decide) hg)
                replace HB := Aside0.mk (hb)
                clear HO458
                clear ho hb hg hat
                refine hK.out _ _ trivial (fun hHeld => ?_)
                clear hK K
                refine nm_ (some 120) ?_
                refine oa_ 9 (some 125) (bl_ 11 1023) HT_ fun K hK => ?_
                refine Kd.R_append_rows_step k63 (w0 := w) w.heap.size (by rfl) (.tmp 120) (.tmp 124) 22 63 (.agg #[(.int .i64 0), (.int .i64 0), (.int .i64 0), (.int .i64 0), (.int .i64 0), (.int .u64 0)]) 48 rfl Try.underlying22 info63 rfl (by decide) (by omega) v464 y463 y466 _ _ _ (fun _ => True) (fun _ => False) rfl rfl ?aO ?aR (fun _ _ h => h) (fun _ h => h.elim) ?aF ?aB ?aS ?aL ?_
                (case aR => exact cs_ HR469 HB)
                (case aB => exact (hq_ HB))
                (case aF => exact (fun _ _ => trivial))
                (case aO => exact (rs_ HO465))
                (case aS => exact (below_size (hq_ HB)))
                (case aL => have := LMc51.out; omega)
                intro v471 w60 ho hb hg hat
                rw [← Ny470.out] at ho
                have HO472 := Aside0.mk (ho)
                replace HO_12 := Aside0.mk (Kd.R_over' (rs_ HO_12) (Kd.R_typed (rs_ HO465)) (by decide) hg)
                replace HB := Aside0.mk (hb)
                clear HO465
                clear ho hb hg hat
                refine hK.out _ _ trivial (fun hHeld => ?_)
                clear hK K
                refine nm_ (some 125) ?_
                refine pa_ 10 (some 19) (bl_ 11 2047) HT_ ?_
                refine done_ (done_of HT_.out (by kernel_rfl)) ?_
                obtain ⟨Ao61, co61, eo61⟩ := Kd.R_slice HO472.out
                subst eo61
                go_upto_region 16 with (first | ((with_reducible refine gate_callee (f := 15) rfl ?_); (try refine ug_ (by rfl) ?_); refine goesA_ (some 130) Try.func15 #[.slice Ao61 y470.length co61, .int .u64 a1, .slice A3 l3.length c3] ?_; (with_reducible refine (wait_Plan.calls kj40 _ _ y470 a1 _ _ l3 t473 t474 t475 _ ?side1 ?side2 ?side3 ?side4 A52.out).mono ?_); (case side1 => exact cr_ HO472); (case side2 => exact (Kd.R_reads' HO472.out).2.1); (case side3 => exact cs_ HR3 HB); (case side4 => exact HC3.out); rintro e w62 ⟨v476, v478, rfl, ho0, ho1, hb⟩; refine ⟨_, rfl, ?_⟩; have HO477 := Aside0.mk (Kd.R_lower (Kd.R_new' ho0 (Kd.R_lt (rs_ HO_12))) (below_size (hq_ HB))); have HO479 := Aside0.mk (Kd.R_lower (Kd.R_new' ho1 (Kd.R_lt (rs_ HO472))) (below_size (hq_ HB))); replace HO_12 := Aside0.mk (Kd.R_elder' (rs_ HO_12) (Kd.R_base ho0) hb); replace HO472 := Aside0.mk (Kd.R_elder' (rs_ HO472) (Kd.R_base ho1) hb); replace HB := bs_ w hb; (try clear hb); (try clear hb2); (try clear hk); (try clear hi); (try clear ho0); (try clear ho1)))
                (try simp only [Act.put, List.setIfInBounds_toArray, List.set_cons_zero, List.set_cons_succ])
                go_cut [146] (fun v146 wc => ∃ (kq : Nat) (x146_52 : Bool), v146 = .bool x146_52 ∧ Aside0 (spigotlaw39_WaitLater.j5 kq l0 a1 l3 t438 t440 t442 t473 x146_52 = some r) ∧ Aside0 (kq ≤ kj40) ∧ Aside0 (Kd.R (Kd.int .u64) 23 wc w.heap.size (fun k_ => some k_ ≠ (v476 : Value).ownBlock) v443 t440) ∧ Aside0 (Kd.R (Kd.int .u64) 23 wc w.heap.size (fun k_ => some k_ ≠ (v443 : Value).ownBlock) v476 t473) ∧ Aside0 (Below w.heap.size w wc))
                case first =>
                 have H := HC53.out
                 clear HC53
                 by_cases c63 : t442 = 0
                 ·as_aux_lemma =>
                  rw [if_pos c63] at H
                  have c63b0 : (t442 == 0) = true := beq_iff_eq.mpr c63
                  have c63b1 : (t442 != 0) = false := bne_eq_false_iff_eq.mpr c63
                  clear c63
                  (first | rw [c63b0] | (simp only [i64_w, i32_w]; rw [c63b0]) | skip)
                  by_cases c64 : t475 = 0
                  ·as_aux_lemma =>
                   rw [if_pos c64] at H
                   have c64b0 : (t475 == 0) = true := beq_iff_eq.mpr c64
                   have c64b1 : (t475 != 0) = false := bne_eq_false_iff_eq.mpr c64
                   clear c64
                   have H' := Aside0.mk H
                   clear H
                   obtain ⟨Ao65, co65, eo65⟩ := Kd.R_slice HO477.out
                   subst eo65
                   obtain ⟨Ao66, co66, eo66⟩ := Kd.R_slice HO_12.out
                   subst eo66
                   go_wp2
                   go_meet
                   case rel => exact ⟨_, (((t473.length : Int) != (t440.length : Int))), rf_, H', ⟨by have := HJ6.out; have := HJ17.out; have := HK3.out; have := HJ28.out; have := HJ40.out; first | omega | exact Nat.le_refl _⟩, ⟨by (with_reducible repeat (first | apply Kd.R_alloc | apply Kd.R_drewN | apply Kd.R_drew)); exact Kd.R_mono HO_12.out (fun _ hk => hk.2)⟩, ⟨by (with_reducible repeat (first | apply Kd.R_alloc | apply Kd.R_drewN | apply Kd.R_drew)); exact Kd.R_mono HO477.out (fun _ hk => hk.2)⟩, bw_⟩
                  ·as_aux_lemma =>
                   rw [if_neg c64] at H
                   have c64b0 : (t475 == 0) = false := beq_eq_false_iff_ne.mpr c64
                   have c64b1 : (t475 != 0) = true := bne_iff_ne.mpr c64
                   have H' := Aside0.mk H
                   clear H
                   go_wp2
                   go_meet
                   case rel => exact ⟨_, (true), rf_, H', ⟨by have := HJ6.out; have := HJ17.out; have := HK3.out; have := HJ28.out; have := HJ40.out; first | omega | exact Nat.le_refl _⟩, ⟨by (with_reducible repeat (first | apply Kd.R_alloc | apply Kd.R_drewN | apply Kd.R_drew)); exact Kd.R_mono HO_12.out (fun _ hk => hk.2)⟩, ⟨by (with_reducible repeat (first | apply Kd.R_alloc | apply Kd.R_drewN | apply Kd.R_drew)); exact Kd.R_mono HO477.out (fun _ hk => hk.2)⟩, bw_⟩
                 ·as_aux_lemma =>
                  rw [if_neg c63] at H
                  have c63b0 : (t442 == 0) = false := beq_eq_false_iff_ne.mpr c63
                  have c63b1 : (t442 != 0) = true := bne_iff_ne.mpr c63
                  (first | rw [c63b0] | (simp only [i64_w, i32_w]; rw [c63b0]) | skip)
                  have H' := Aside0.mk H
                  clear H
                  go_wp2
                  go_meet
                  case rel => exact ⟨_, (false), rf_, H', ⟨by have := HJ6.out; have := HJ17.out; have := HK3.out; have := HJ28.out; have := HJ40.out; first | omega | exact Nat.le_refl _⟩, ⟨by (with_reducible repeat (first | apply Kd.R_alloc | apply Kd.R_drewN | apply Kd.R_drew)); exact Kd.R_mono HO_12.out (fun _ hk => hk.2)⟩, ⟨by (with_reducible repeat (first | apply Kd.R_alloc | apply Kd.R_drewN | apply Kd.R_drew)); exact Kd.R_mono HO477.out (fun _ hk => hk.2)⟩, bw_⟩
                case rest =>
                 clear HC53
                 try clear c1
                 try clear c3
                 try clear c15
                 try clear c28
                 try clear c33
                 try clear c44
                 try clear c45
                 try clear c45b0
                 try clear c45b1
                 try clear c46
                 try clear c46b0
                 try clear c46b1
                 try clear c47
                 try clear c49
                 try clear c49b0
                 try clear c49b1
                 try clear c50
                 try clear c50b0
                 try clear c50b1
                 try clear c51
                 try clear q55
                 try clear c56
                 try clear q56
                 try clear q056
                 try clear q55
                 try clear q56
                 obtain ⟨kq, x146_52, rfl, HA, HJ52, HO_12, HO_20, HB⟩ := hcut
                 cases kq with
                 | zero => exact absurd HA.out (by simp [spigotlaw39_WaitLater.j5])
                 | succ kj52 =>
                  have H := HA.out
                  clear HA
                  simp only [spigotlaw39_WaitLater.j5] at H
                  by_cases c67 : x146_52 = true
                  ·as_aux_lemma =>
                   subst c67
                   replace H : (none) = some r := by rw [if_pos rfl] at H; exact H
                   exact absurd H (by simp)
                  ·as_aux_lemma =>
                   replace c67 := Bool.eq_false_iff.mpr c67
                   subst c67
                   rw [if_neg (show ¬ (false = true) by decide)] at H
                   try dsimp only at H
                   have H' := Aside0.mk H
                   clear H
                   go_wp2
                   go_loopg [23] kj52 (fun kq v23 w' => ∃ (x23_7 : Int), v23 = .int .i64 x23_7 ∧ Aside0 (spigotlaw39_WaitLater.l1 kq l0 a1 l3 t438 t440 t442 t473 x23_7 = some r) ∧ Aside0 (kq ≤ kj52) ∧ Aside0 (Kd.R (Kd.int .u64) 23 w' w.heap.size (fun k_ => some k_ ≠ (v476 : Value).ownBlock) v443 t440) ∧ Aside0 (Kd.R (Kd.int .u64) 23 w' w.heap.size (fun k_ => some k_ ≠ (v443 : Value).ownBlock) v476 t473) ∧ Aside0 (Below w.heap.size w w'))
                   case atStart => exact ⟨(0), rf_, H', ⟨Nat.le_refl _⟩, ⟨rs_ HO_12⟩, ⟨rs_ HO_20⟩, bw_⟩
                   case round =>
                    clear H'
                    try clear c1
                    try clear c3
                    try clear c15
                    try clear c28
                    try clear c33
                    try clear c44
                    try clear c45
                    try clear c45b0
                    try clear c45b1
                    try clear c46
                    try clear c46b0
                    try clear c46b1
                    try clear c47
                    try clear c49
                    try clear c49b0
                    try clear c49b1
                    try clear c50
                    try clear c50b0
                    try clear c50b1
                    try clear c51
                    try clear q55
                    try clear c56
                    try clear q56
                    try clear c67
                    try clear q056
                    try clear q55
                    try clear q56
                    obtain ⟨x23_7, rfl, HA, HK7, HO_12, HO_20, HB⟩ := hrel
                    cases gk with
                    | zero => exact absurd HA.out (by simp [spigotlaw39_WaitLater.l1])
                    | succ k7 =>
                     have H := HA.out
                     clear HA
                     simp only [spigotlaw39_WaitLater.l1] at H
                     have HC68 := Aside0.mk H
                     clear H
                     go_upto_region 19 with (fail)
                     go_cut [154] (fun v154 wc => ∃ (kq : Nat) (x154_67 : Bool), v154 = .bool x154_67 ∧ Aside0 (spigotlaw39_WaitLater.j7 kq l0 a1 l3 t438 t440 t442 t473 x23_7 x154_67 = some r) ∧ Aside0 (kq ≤ k7) ∧ Aside0 (Kd.R (Kd.int .u64) 23 wc w.heap.size (fun k_ => some k_ ≠ (v476 : Value).ownBlock) v443 t440) ∧ Aside0 (Kd.R (Kd.int .u64) 23 wc w.heap.size (fun k_ => some k_ ≠ (v443 : Value).ownBlock) v476 t473) ∧ Aside0 (Below w.heap.size w wc))
                     case first =>
                      have H := HC68.out
                      clear HC68
                      by_cases c69 : x23_7 < (t440.length : Int)
                      ·as_aux_lemma =>
                       rw [if_pos c69] at H
                       have c69b0 : decide (x23_7 < (t440.length : Int)) = true := decide_eq_true c69
                       clear c69
                       (first | rw [c69b0] | (simp only [i64_w, i32_w]; rw [c69b0]) | skip)
                       have H' := Aside0.mk H
                       clear H
                       obtain ⟨Ao70, co70, eo70⟩ := Kd.R_slice HO_12.out
                       subst eo70
                       go_wp2
                       go_meet
                       case rel => exact ⟨_, ((t442 == 0)), rf_, H', ⟨by have := HJ6.out; have := HJ17.out; have := HK3.out; have := HJ28.out; have := HJ40.out; have := HJ52.out; have := HK7.out; first | omega | exact Nat.le_refl _⟩, ⟨rs_ HO_12⟩, ⟨rs_ HO_20⟩, bw_⟩
                      ·as_aux_lemma =>
                       rw [if_neg c69] at H
                       have c69b0 : decide (x23_7 < (t440.length : Int)) = false := decide_eq_false c69
                       clear c69
                       (first | rw [c69b0] | (simp only [i64_w, i32_w]; rw [c69b0]) | skip)
                       have H' := Aside0.mk H
                       clear H
                       obtain ⟨Ao71, co71, eo71⟩ := Kd.R_slice HO_12.out
                       subst eo71
                       go_wp2
                       go_meet
                       case rel => exact ⟨_, (false), rf_, H', ⟨by have := HJ6.out; have := HJ17.out; have := HK3.out; have := HJ28.out; have := HJ40.out; have := HJ52.out; have := HK7.out; first | omega | exact Nat.le_refl _⟩, ⟨rs_ HO_12⟩, ⟨rs_ HO_20⟩, bw_⟩
                     case rest =>
                      clear HC68
                      try clear c1
                      try clear c3
                      try clear c15
                      try clear c28
                      try clear c33
                      try clear c44
                      try clear c45
                      try clear c45b0
                      try clear c45b1
                      try clear c46
                      try clear c46b0
                      try clear c46b1
                      try clear c47
                      try clear c49
                      try clear c49b0
                      try clear c49b1
                      try clear c50
                      try clear c50b0
                      try clear c50b1
                      try clear c51
                      try clear q55
                      try clear c56
                      try clear q56
                      try clear c67
                      try clear q056
                      try clear q55
                      try clear q56
                      obtain ⟨kq, x154_67, rfl, HA, HJ67, HO_12, HO_20, HB⟩ := hcut
                      cases kq with
                      | zero => exact absurd HA.out (by simp [spigotlaw39_WaitLater.j7])
                      | succ kj67 =>
                       have H := HA.out
                       clear HA
                       simp only [spigotlaw39_WaitLater.j7] at H
                       by_cases c72 : x154_67 = true
                       ·as_aux_lemma =>
                        subst c72
                        rw [if_pos rfl] at H
                        try dsimp only at H
                        by_cases c73 : 0 ≤ x23_7
                        rotate_left
                        ·rw [if_neg c73] at H; exact absurd H (by simp)
                        rw [if_pos c73] at H
                        have c73b0 : decide (0 ≤ x23_7) = true := decide_eq_true c73
                        clear c73
                        by_cases c74 : x23_7 < (t473.length : Int)
                        rotate_left
                        ·rw [if_neg c74] at H; exact absurd H (by simp)
                        rw [if_pos c74] at H
                        have c74b0 : decide (x23_7 < (t473.length : Int)) = true := decide_eq_true c74
                        clear c74
                        by_cases c75 : x23_7 < (t440.length : Int)
                        rotate_left
                        ·rw [if_neg c75] at H; exact absurd H (by simp)
                        rw [if_pos c75] at H
                        have c75b0 : decide (x23_7 < (t440.length : Int)) = true := decide_eq_true c75
                        clear c75
                        by_cases c76 : (rd t473 x23_7) > (rd t440 x23_7)
                        ·rw [if_pos c76] at H; exact absurd H (by simp)
                        rw [if_neg c76] at H
                        have c76b0 : decide ((rd t440 x23_7) < (rd t473 x23_7)) = false := decide_eq_false c76
                        clear c76
                        have H' := Aside0.mk H
                        clear H
                        try go_wp2
                        replace HO_12 := Aside0.mk (Kd.R_drew HO_12.out)
                        replace HO_20 := Aside0.mk (Kd.R_drew HO_20.out)
                        replace HB := Aside0.mk (below_drew1 HB.out)
                        obtain ⟨Ao78, co78, eo78⟩ := Kd.R_slice HO_20.out
                        (first | subst eo78 | (injection eo78 with f1_ f2_ f3_; have f4_ := f1_.symm; have f5_ := f3_.symm; clear f1_ f2_ f3_; subst f4_; subst f5_))
                        have p480 : 0 ≤ (x23_7 : Int) := of_decide_eq_true (by first | (with_reducible assumption) | assumption)
                        have q480 : x23_7 < (t473.length : Int) := of_decide_eq_true (by first | (with_reducible assumption) | assumption)
                        obtain ⟨ad480, e480, hx480_0⟩ := Kd.at_int (Kd.R_reads' HO_20.out).2.2 x23_7 p480 q480
                        cases e480
                        replace p480 := eq_true p480
                        replace q480 := eq_true q480
                        obtain ⟨Ao79, co79, eo79⟩ := Kd.R_slice HO_12.out
                        (first | subst eo79 | (injection eo79 with f1_ f2_ f3_; have f4_ := f1_.symm; have f5_ := f3_.symm; clear f1_ f2_ f3_; subst f4_; subst f5_))
                        have p481 : 0 ≤ (x23_7 : Int) := of_decide_eq_true (by first | (with_reducible assumption) | assumption)
                        have q481 : x23_7 < (t440.length : Int) := of_decide_eq_true (by first | (with_reducible assumption) | assumption)
                        obtain ⟨ad481, e481, hx481_0⟩ := Kd.at_int (Kd.R_reads' HO_12.out).2.2 x23_7 p481 q481
                        cases e481
                        replace p481 := eq_true p481
                        replace q481 := eq_true q481
                        refine start_ (n := 9) (S := fun w' => w'.cell? (ad480.add (x23_7).toNat) = some (.int .u64 (rd t473 x23_7)) ∧ w'.cell? (ad481.add (x23_7).toNat) = some (.int .u64 (rd t440 x23_7))) (ds := []) (bl_ 9 0) (by kernel_rfl) rfl (by kernel_rfl) ⟨hx480_0, hx481_0⟩ (fun hHeld => ?_); refine with_tabW spigotlaw39_WaitLater.tab21 spigotlaw39_WaitLater.bits21 (fun HT_ HW_ => ?_)
                        generalize wc.drew = w77 at HO_12 HO_20 HB hx480_0 hx481_0 hHeld ⊢
                        refine pa_ 0 (some 157) (bl_ 9 1) HT_ ?_
                        refine pa_ 1 (some 158) (bl_ 9 3) HT_ ?_
                        refine pa_ 2 (some 159) (bl_ 9 7) HT_ ?_
                        refine pa_ 4 (some 161) (bl_ 9 23) HT_ ?_
                        refine pa_ 5 (some 162) (bl_ 9 55) HT_ ?_
                        refine pa_ 6 (some 163) (bl_ 9 119) HT_ ?_
                        refine ta_ 3 (some 160) (bl_ 9 127) HT_ HW_ hHeld ?_
                        refine ta_ 7 (some 164) (bl_ 9 255) HT_ HW_ hHeld ?_
                        refine pa_ 8 (some 165) (bl_ 9 511) HT_ ?_
                        refine done_ (done_of HT_.out (by kernel_rfl)) ?_
                        try go_wp2
                        go_roundg kj67
                        case measure => have := HJ6.out; have := HJ17.out; have := HK3.out; have := HJ28.out; have := HJ40.out; have := HJ52.out; have := HK7.out; have := HJ67.out; omega
                        case rel => exact ⟨(wrap64 (x23_7 + 1)), rf_, H', ⟨by have := HJ6.out; have := HJ17.out; have := HK3.out; have := HJ28.out; have := HJ40.out; have := HJ52.out; have := HK7.out; have := HJ67.out; omega⟩, ⟨rs_ HO_12⟩, ⟨rs_ HO_20⟩, bw_⟩
                       ·as_aux_lemma =>
                        replace c72 := Bool.eq_false_iff.mpr c72
                        subst c72
                        replace H : (spigotlaw39_WaitLater.j8 kj67 l0 a1 l3 t438) = some r := by rw [if_neg (show ¬ (false = true) by decide)] at H; exact H
                        have H' := Aside0.mk H
                        clear H
                        go_wp2
                        go_meet
                        case rel => exact ⟨_, H', ⟨by have := HJ6.out; have := HJ17.out; have := HK3.out; have := HJ28.out; have := HJ40.out; have := HJ52.out; have := HK7.out; have := HJ67.out; first | omega | exact Nat.le_refl _⟩, bw_⟩
               ·as_aux_lemma =>
                replace c44 := Bool.eq_false_iff.mpr c44
                subst c44
                replace H : (spigotlaw39_WaitLater.j8 kj40 l0 a1 l3 t438) = some r := by rw [if_neg (show ¬ (false = true) by decide)] at H; exact H
                have H' := Aside0.mk H
                clear H
                go_wp2
                go_meet
                case rel => exact ⟨_, H', ⟨by have := HJ6.out; have := HJ17.out; have := HK3.out; have := HJ28.out; have := HJ40.out; first | omega | exact Nat.le_refl _⟩, bw_⟩
              case rest =>
               clear HC43
               try clear c3
               try clear c15
               try clear c28
               try clear c33
               obtain ⟨kq, HA, HJ42, HB⟩ := hcut
               cases kq with
               | zero => exact absurd HA.out (by simp [spigotlaw39_WaitLater.j8])
               | succ kj42 =>
                have H := HA.out
                clear HA
                simp only [spigotlaw39_WaitLater.j8] at H
                have HC80 := Aside0.mk H
                clear H
                go_upto_region 23 with (fail)
                go_cut [178] (fun v178 wc => ∃ (kq : Nat) (x178_79 : Bool), v178 = .bool x178_79 ∧ Aside0 (spigotlaw39_WaitLater.j9 kq l0 a1 l3 t438 x178_79 = some r) ∧ Aside0 (kq ≤ kj42) ∧ Aside0 (Below w.heap.size w wc))
                case first =>
                 have H := HC80.out
                 clear HC80
                 by_cases c81 : (l3.length : Int) < 2
                 ·as_aux_lemma =>
                  rw [if_pos c81] at H
                  have c81b0 : decide ((l3.length : Int) < 2) = true := decide_eq_true c81
                  have c81b1 : decide (l3.length < 2) = true := decide_eq_true (by omega)
                  clear c81
                  (first | rw [c81b0] | (simp only [i64_w, i32_w]; rw [c81b0]) | skip)
                  have H' := Aside0.mk H
                  clear H
                  try go_wp2
                  replace HB := Aside0.mk (below_drew1 HB.out)
                  refine start_ (n := 13) (S := fun w' => True) (ds := []) (bl_ 13 0) (by kernel_rfl) rfl (by kernel_rfl) trivial (fun hHeld => ?_); refine with_tabW spigotlaw39_WaitLater.tab23 spigotlaw39_WaitLater.bits23 (fun HT_ HW_ => ?_)
                  generalize wc.drew = w82 at HB hHeld ⊢
                  refine pa_ 0 (some 166) (bl_ 13 1) HT_ ?_
                  refine pa_ 1 (some 167) (bl_ 13 3) HT_ ?_
                  refine pa_ 2 (some 168) (bl_ 13 7) HT_ ?_
                  refine pa_ 3 (some 169) (bl_ 13 15) HT_ ?_
                  refine pz_ 4 (some 170) (bl_ 13 31) HT_ ?_
                  refine pz_ 5 (some 171) (bl_ 13 63) HT_ ?_
                  refine pz_ 6 (some 172) (bl_ 13 127) HT_ ?_
                  refine pz_ 7 (some 173) (bl_ 13 255) HT_ ?_
                  refine pz_ 8 (some 174) (bl_ 13 511) HT_ ?_
                  refine pz_ 9 (some 175) (bl_ 13 1023) HT_ ?_
                  refine pz_ 10 (some 176) (bl_ 13 2047) HT_ ?_
                  refine pz_ 11 (some 177) (bl_ 13 4095) HT_ ?_
                  refine pa_ 12 (some 178) (bl_ 13 8191) HT_ ?_
                  refine done_ (done_of HT_.out (by kernel_rfl)) ?_
                  try go_wp2
                  go_meet
                  case rel => exact ⟨_, (true), rf_, H', ⟨by have := HJ6.out; have := HJ17.out; have := HK3.out; have := HJ28.out; have := HJ40.out; have := HJ42.out; first | omega | exact Nat.le_refl _⟩, bw_⟩
                 ·as_aux_lemma =>
                  rw [if_neg c81] at H
                  have c81b0 : decide ((l3.length : Int) < 2) = false := decide_eq_false c81
                  have c81b1 : decide (l3.length < 2) = false := decide_eq_false (by omega)
                  clear c81
                  (first | rw [c81b0] | (simp only [i64_w, i32_w]; rw [c81b0]) | skip)
                  by_cases c83 : 0 < (l3.length : Int)
                  rotate_left
                  ·rw [if_neg c83] at H; exact absurd H (by simp)
                  rw [if_pos c83] at H
                  have c83b0 : decide (0 < (l3.length : Int)) = true := decide_eq_true c83
                  have c83b1 : decide (0 < l3.length) = true := decide_eq_true (by omega)
                  clear c83
                  by_cases c84 : 1 < (l3.length : Int)
                  rotate_left
                  ·rw [if_neg c84] at H; exact absurd H (by simp)
                  rw [if_pos c84] at H
                  have c84b0 : decide (1 < (l3.length : Int)) = true := decide_eq_true c84
                  have c84b1 : decide (1 < l3.length) = true := decide_eq_true (by omega)
                  clear c84
                  have H' := Aside0.mk H
                  clear H
                  try go_wp2
                  replace HB := Aside0.mk (below_drew1 HB.out)
                  have p482 : 0 ≤ (0 : Int) := (by omega)
                  have q482 : 0 < (l3.length : Int) := of_decide_eq_true (by first | (with_reducible assumption) | assumption)
                  obtain ⟨ad482, e482, hx482_0⟩ := Kd.at_int HR3.out 0 p482 q482
                  have hw482_0 := hx482_0
                  (try rw [show ((0 : Int)).toNat = 0 from rfl] at hw482_0)
                  (try rw [show 0 * 1 = 0 from rfl] at hw482_0)
                  (try rw [Addr.add_zero'] at hw482_0)
                  cases e482
                  have qi482 : (0 < l3.length) = True := eq_true (by omega)
                  (try rw [show ((0 : Int)).toNat = 0 from rfl] at hx482_0)
                  (try rw [Addr.add_zero'] at hx482_0)
                  replace hx482_0 := (HB.out.cell (World.block_lt_of_cell? w _ hx482_0)).trans hx482_0
                  replace p482 := eq_true p482
                  replace q482 := eq_true q482
                  have p483 : 0 ≤ (1 : Int) := (by omega)
                  have q483 : 1 < (l3.length : Int) := of_decide_eq_true (by first | (with_reducible assumption) | assumption)
                  obtain ⟨ad483, e483, hx483_0⟩ := Kd.at_int HR3.out 1 p483 q483
                  have hw483_0 := hx483_0
                  (try rw [show ((1 : Int)).toNat = 1 from rfl] at hw483_0)
                  (try rw [show 1 * 1 = 1 from rfl] at hw483_0)
                  (try simp only [Nat.reduceMul, Nat.reduceEqDiff, Go.Addr.add, ↓reduceIte] at hw483_0)
                  obtain rfl : ad482 = ad483 := (by injection e483)
                  (try simp only [show (1 : Int).toNat = 1 from rfl, Nat.reduceMul, Nat.reduceEqDiff, Go.Addr.add, ↓reduceIte] at hx483_0)
                  have qi483 : (1 < l3.length) = True := eq_true (by omega)
                  (try rw [show ((1 : Int)).toNat = 1 from rfl] at hx483_0)
                  replace hx483_0 := (HB.out.cell (World.block_lt_of_cell? w _ hx483_0)).trans hx483_0
                  replace p483 := eq_true p483
                  replace q483 := eq_true q483
                  refine start_ (n := 13) (S := fun w' => w'.cell? ad482 = some (.int .i64 (rd l3 0)) ∧ w'.cell? ⟨ad482.block, ad482.off + 1, none⟩ = some (.int .i64 (rd l3 1))) (ds := []) (bl_ 13 0) (by kernel_rfl) rfl (by kernel_rfl) ⟨((HB.out.cell (World.block_lt_of_cell? w _ hw482_0)).trans hw482_0), ((HB.out.cell (World.block_lt_of_cell? w _ hw483_0)).trans hw483_0)⟩ (fun hHeld => ?_); refine with_tabW spigotlaw39_WaitLater.tab23 spigotlaw39_WaitLater.bits23 (fun HT_ HW_ => ?_)
                  generalize wc.drew = w85 at HB hx482_0 hx483_0 hHeld ⊢
                  refine pa_ 0 (some 166) (bl_ 13 1) HT_ ?_
                  refine pa_ 1 (some 167) (bl_ 13 3) HT_ ?_
                  refine pa_ 2 (some 168) (bl_ 13 7) HT_ ?_
                  refine pa_ 3 (some 169) (bl_ 13 15) HT_ ?_
                  refine pa_ 4 (some 170) (bl_ 13 31) HT_ ?_
                  refine pa_ 5 (some 171) (bl_ 13 63) HT_ ?_
                  refine pa_ 7 (some 173) (bl_ 13 191) HT_ ?_
                  refine pa_ 8 (some 174) (bl_ 13 447) HT_ ?_
                  refine ta_ 6 (some 172) (bl_ 13 511) HT_ HW_ hHeld ?_
                  refine ta_ 9 (some 175) (bl_ 13 1023) HT_ HW_ hHeld ?_
                  refine pa_ 10 (some 176) (bl_ 13 2047) HT_ ?_
                  refine pa_ 11 (some 177) (bl_ 13 4095) HT_ ?_
                  refine pa_ 12 (some 178) (bl_ 13 8191) HT_ ?_
                  refine done_ (done_of HT_.out (by kernel_rfl)) ?_
                  try go_wp2
                  go_meet
                  case rel => exact ⟨_, (decide ((wrap64 ((rd l3 0) + (rd l3 1))) > 1000000000)), rf_, H', ⟨by have := HJ6.out; have := HJ17.out; have := HK3.out; have := HJ28.out; have := HJ40.out; have := HJ42.out; first | omega | exact Nat.le_refl _⟩, bw_⟩
                case rest =>
                 clear HC80
                 try clear c3
                 try clear c15
                 try clear c28
                 try clear c33
                 obtain ⟨kq, x178_79, rfl, HA, HJ79, HB⟩ := hcut
                 cases kq with
                 | zero => exact absurd HA.out (by simp [spigotlaw39_WaitLater.j9])
                 | succ kj79 =>
                  have H := HA.out
                  clear HA
                  simp only [spigotlaw39_WaitLater.j9] at H
                  by_cases c86 : x178_79 = true
                  ·as_aux_lemma =>
                   subst c86
                   replace H : (some t438) = some r := by rw [if_pos rfl] at H; exact H
                   obtain rfl := Option.some.inj H
                   go_wp2
                   go_ret
                   exact fi_
                  ·as_aux_lemma =>
                   replace c86 := Bool.eq_false_iff.mpr c86
                   subst c86
                   rw [if_neg (show ¬ (false = true) by decide)] at H
                   try dsimp only at H
                   by_cases c87 : 0 < (l3.length : Int)
                   rotate_left
                   ·rw [if_neg c87] at H; exact absurd H (by simp)
                   rw [if_pos c87] at H
                   have c87b0 : decide (0 < (l3.length : Int)) = true := decide_eq_true c87
                   have c87b1 : decide (0 < l3.length) = true := decide_eq_true (by omega)
                   clear c87
                   by_cases c88 : 1 < (l3.length : Int)
                   rotate_left
                   ·rw [if_neg c88] at H; exact absurd H (by simp)
                   rw [if_pos c88] at H
                   have c88b0 : decide (1 < (l3.length : Int)) = true := decide_eq_true c88
                   have c88b1 : decide (1 < l3.length) = true := decide_eq_true (by omega)
                   clear c88
                   obtain ⟨⟨t486, t487⟩, A89, H⟩ := bo_ H
                   try dsimp only at H
                   by_cases c90 : 2 ≤ (l3.length : Int)
                   rotate_left
                   ·rw [if_neg c90] at H; exact absurd H (by simp)
                   rw [if_pos c90] at H
                   have c90b0 := eq_true c90
                   have c90b1 : decide (2 ≤ (l3.length : Int)) = true := decide_eq_true c90
                   clear c90
                   obtain ⟨⟨t489, t490, t491⟩, A91, H⟩ := bo_ H
                   try dsimp only at H
                   by_cases c92 : t438 = true
                   ·as_aux_lemma =>
                    subst c92
                    rw [if_pos rfl] at H
                    try dsimp only at H
                    by_cases c93 : t487 = 0
                    ·as_aux_lemma =>
                     rw [if_pos c93] at H
                     have c93b0 : (t487 == 0) = true := beq_iff_eq.mpr c93
                     have c93b1 : (t487 != 0) = false := bne_eq_false_iff_eq.mpr c93
                     clear c93
                     by_cases c94 : t491 = 0
                     rotate_left
                     ·rw [if_neg c94] at H; exact absurd H (by simp)
                     rw [if_pos c94] at H
                     have c94b0 : (t491 == 0) = true := beq_iff_eq.mpr c94
                     have c94b1 : (t491 != 0) = false := bne_eq_false_iff_eq.mpr c94
                     clear c94
                     by_cases c95 : (t489.length : Int) = 2
                     rotate_left
                     ·rw [if_neg c95] at H; exact absurd H (by simp)
                     rw [if_pos c95] at H
                     have c95b0 : ((t489.length : Int) == 2) = true := beq_iff_eq.mpr c95
                     have c95b1 : ((t489.length : Int) != 2) = false := bne_eq_false_iff_eq.mpr c95
                     clear c95
                     by_cases c96 : 1 < (t489.length : Int)
                     rotate_left
                     ·rw [if_neg c96] at H; exact absurd H (by simp)
                     rw [if_pos c96] at H
                     have c96b0 : decide (1 < (t489.length : Int)) = true := decide_eq_true c96
                     have c96b1 : decide (1 < t489.length) = true := decide_eq_true (by omega)
                     clear c96
                     obtain rfl := Option.some.inj H
                     try go_wp2
                     replace HB := Aside0.mk (below_drew1 HB.out)
                     have p484 : 0 ≤ (0 : Int) := (by omega)
                     have q484 : 0 < (l3.length : Int) := of_decide_eq_true (by first | (with_reducible assumption) | assumption)
                     obtain ⟨ad484, e484, hx484_0⟩ := Kd.at_int HR3.out 0 p484 q484
                     have hw484_0 := hx484_0
                     (try rw [show ((0 : Int)).toNat = 0 from rfl] at hw484_0)
                     (try rw [show 0 * 1 = 0 from rfl] at hw484_0)
                     (try rw [Addr.add_zero'] at hw484_0)
                     cases e484
                     have qi484 : (0 < l3.length) = True := eq_true (by omega)
                     (try rw [show ((0 : Int)).toNat = 0 from rfl] at hx484_0)
                     (try rw [Addr.add_zero'] at hx484_0)
                     replace hx484_0 := (HB.out.cell (World.block_lt_of_cell? w _ hx484_0)).trans hx484_0
                     replace p484 := eq_true p484
                     replace q484 := eq_true q484
                     have p485 : 0 ≤ (1 : Int) := (by omega)
                     have q485 : 1 < (l3.length : Int) := of_decide_eq_true (by first | (with_reducible assumption) | assumption)
                     obtain ⟨ad485, e485, hx485_0⟩ := Kd.at_int HR3.out 1 p485 q485
                     have hw485_0 := hx485_0
                     (try rw [show ((1 : Int)).toNat = 1 from rfl] at hw485_0)
                     (try rw [show 1 * 1 = 1 from rfl] at hw485_0)
                     (try simp only [Nat.reduceMul, Nat.reduceEqDiff, Go.Addr.add, ↓reduceIte] at hw485_0)
                     obtain rfl : ad484 = ad485 := (by injection e485)
                     (try simp only [show (1 : Int).toNat = 1 from rfl, Nat.reduceMul, Nat.reduceEqDiff, Go.Addr.add, ↓reduceIte] at hx485_0)
                     have qi485 : (1 < l3.length) = True := eq_true (by omega)
                     (try rw [show ((1 : Int)).toNat = 1 from rfl] at hx485_0)
                     replace hx485_0 := (HB.out.cell (World.block_lt_of_cell? w _ hx485_0)).trans hx485_0
                     replace p485 := eq_true p485
                     replace q485 := eq_true q485
                     refine start_ (n := 15) (S := fun w' => w'.cell? ad484 = some (.int .i64 (rd l3 0)) ∧ w'.cell? ⟨ad484.block, ad484.off + 1, none⟩ = some (.int .i64 (rd l3 1))) (ds := []) (bl_ 15 0) (by kernel_rfl) rfl (by kernel_rfl) ⟨((HB.out.cell (World.block_lt_of_cell? w _ hw484_0)).trans hw484_0), ((HB.out.cell (World.block_lt_of_cell? w _ hw485_0)).trans hw485_0)⟩ (fun hHeld => ?_); refine with_tabW spigotlaw39_WaitLater.tab25 spigotlaw39_WaitLater.bits25 (fun HT_ HW_ => ?_)
                     generalize wc.drew = w97 at HB hx484_0 hx485_0 hHeld ⊢
                     refine pa_ 0 (some 181) (bl_ 15 1) HT_ ?_
                     refine pa_ 1 (some 182) (bl_ 15 3) HT_ ?_
                     refine pa_ 2 (some 183) (bl_ 15 7) HT_ ?_
                     refine pa_ 3 (some 184) (bl_ 15 15) HT_ ?_
                     refine pa_ 5 (some 186) (bl_ 15 47) HT_ ?_
                     refine pa_ 6 (some 187) (bl_ 15 111) HT_ ?_
                     refine ta_ 4 (some 185) (bl_ 15 127) HT_ HW_ hHeld ?_
                     refine ta_ 7 (some 188) (bl_ 15 255) HT_ HW_ hHeld ?_
                     refine pa_ 8 (some 189) (bl_ 15 511) HT_ ?_
                     refine oa_ 9 (some 190) (bl_ 15 1023) HT_ fun K hK => ?_
                     refine goesB_ Try.func16 #[.slice A0 l0.length c0, .int .u64 a1, .int .i64 (wrap64 ((rd l3 0) + (rd l3 1)))] ?_
                     with_reducible refine (wait_First.calls kj79 _ _ l0 a1 (wrap64 ((rd l3 0) + (rd l3 1))) t486 t487 _ ?side1 ?side2 A89.out).mono ?_
                     (case side1 => exact cs_ HR0 HB)
                     (case side2 => exact HC0.out)
                     rintro e w98 ⟨rfl, hb⟩
                     refine ⟨_, rfl, ?_⟩
                     replace HB := bs_ w hb
                     clear hb
                     refine hK.out _ _ ⟨((HB.out.cell (World.block_lt_of_cell? w _ hw484_0)).trans hw484_0), ((HB.out.cell (World.block_lt_of_cell? w _ hw485_0)).trans hw485_0)⟩ (fun hHeld => ?_)
                     clear hK K
                     refine nm_ (some 190) ?_
                     refine pa_ 10 (some 180) (bl_ 15 2047) HT_ ?_
                     refine pa_ 11 (some 191) (bl_ 15 4095) HT_ ?_
                     refine pa_ 12 (some 192) (bl_ 15 8191) HT_ ?_
                     refine pa_ 13 (some 24) (bl_ 15 16383) HT_ ?_
                     refine pa_ 14 (some 25) (bl_ 15 32767) HT_ ?_
                     refine done_ (done_of HT_.out (by kernel_rfl)) ?_
                     obtain ⟨i099, hi099, _, hsz99, _⟩ := info_parts info2
                     obtain ⟨hcut99, hA99, hC99⟩ := print_take_of (P := Try.prog) (Value.int .i64) 0 24 2 .i64 Try.underlying24 hi099 hsz99 (some ad484) c3 l3 2 (by omega) (of_decide_eq_true (by first | (with_reducible assumption) | assumption)) HC3.out
                     have HR488 := Aside0.mk (Kd.C_of_reads (h1 := fun _ => rfl) (hA99 _ (Kd.reads_of_C HR3.out)))
                     have HC488 := Aside0.mk hC99
                     clear hA99 hC99 hi099 hsz99
                     try go_wp2_with (first | ((with_reducible refine gate_callee (f := 15) rfl ?_); (try refine ug_ (by rfl) ?_); refine goesL_ (some 198) rfl rfl Try.func15 (by kernel_rfl) rfl #[.slice A0 l0.length c0, .int .u64 a1, .slice (some ad484) (l3.take 2).length c3] rfl (by (try simp only [List.map_toArray, List.map_cons, List.map_nil]); first | done | (rw [show (l3.take 2).length = 2 from (by rw [List.length_take]; have h_ : (2 : Int) ≤ (l3.length : Int) := of_decide_eq_true (by first | (with_reducible assumption) | assumption); omega)] <;> rfl) | rfl | (simp only [List.length_drop, List.length_take]; rfl)) ?_; (with_reducible refine (wait_Plan.calls kj79 _ _ l0 a1 _ _ (l3.take 2) t489 t490 t491 _ ?side1 ?side2 ?side3 ?side4 A91.out).mono ?_); (case side1 => exact cs_ HR0 HB); (case side2 => exact HC0.out); (case side3 => exact cs_ HR488 HB); (case side4 => exact HC488.out); rintro e w100 ⟨v492, v494, rfl, ho0, ho1, hb⟩; refine ⟨_, rfl, ?_⟩; have HO493 := Aside0.mk (Kd.R_lower ho0 (below_size (hq_ HB))); have HO495 := Aside0.mk (Kd.R_lower ho1 (below_size (hq_ HB))); replace HB := bs_ w hb; clear hb; (try clear ho0); (try clear ho1); obtain ⟨Ao101, co101, eo101⟩ := Kd.R_slice HO493.out; subst eo101; have p496 : 0 ≤ (1 : Int) := (by omega); have q496 : 1 < (t489.length : Int) := of_decide_eq_true (by first | (with_reducible assumption) | assumption); obtain ⟨ad496, e496, hx496_0⟩ := Kd.at_int (Kd.R_reads' HO493.out).2.2 1 p496 q496; cases e496; (try simp only [show (1 : Int).toNat = 1 from rfl, Nat.reduceMul, Nat.reduceEqDiff, Go.Addr.add, ↓reduceIte] at hx496_0); have qi496 : (1 < t489.length) = True := eq_true (by omega); (try rw [show ((1 : Int)).toNat = 1 from rfl] at hx496_0); replace p496 := eq_true p496; replace q496 := eq_true q496))
                     go_ret
                     exact fi_
                    ·as_aux_lemma =>
                     rw [if_neg c93] at H
                     have c93b0 : (t487 == 0) = false := beq_eq_false_iff_ne.mpr c93
                     have c93b1 : (t487 != 0) = true := bne_iff_ne.mpr c93
                     obtain rfl := Option.some.inj H
                     try go_wp2
                     replace HB := Aside0.mk (below_drew1 HB.out)
                     have p484 : 0 ≤ (0 : Int) := (by omega)
                     have q484 : 0 < (l3.length : Int) := of_decide_eq_true (by first | (with_reducible assumption) | assumption)
                     obtain ⟨ad484, e484, hx484_0⟩ := Kd.at_int HR3.out 0 p484 q484
                     have hw484_0 := hx484_0
                     (try rw [show ((0 : Int)).toNat = 0 from rfl] at hw484_0)
                     (try rw [show 0 * 1 = 0 from rfl] at hw484_0)
                     (try rw [Addr.add_zero'] at hw484_0)
                     cases e484
                     have qi484 : (0 < l3.length) = True := eq_true (by omega)
                     (try rw [show ((0 : Int)).toNat = 0 from rfl] at hx484_0)
                     (try rw [Addr.add_zero'] at hx484_0)
                     replace hx484_0 := (HB.out.cell (World.block_lt_of_cell? w _ hx484_0)).trans hx484_0
                     replace p484 := eq_true p484
                     replace q484 := eq_true q484
                     have p485 : 0 ≤ (1 : Int) := (by omega)
                     have q485 : 1 < (l3.length : Int) := of_decide_eq_true (by first | (with_reducible assumption) | assumption)
                     obtain ⟨ad485, e485, hx485_0⟩ := Kd.at_int HR3.out 1 p485 q485
                     have hw485_0 := hx485_0
                     (try rw [show ((1 : Int)).toNat = 1 from rfl] at hw485_0)
                     (try rw [show 1 * 1 = 1 from rfl] at hw485_0)
                     (try simp only [Nat.reduceMul, Nat.reduceEqDiff, Go.Addr.add, ↓reduceIte] at hw485_0)
                     obtain rfl : ad484 = ad485 := (by injection e485)
                     (try simp only [show (1 : Int).toNat = 1 from rfl, Nat.reduceMul, Nat.reduceEqDiff, Go.Addr.add, ↓reduceIte] at hx485_0)
                     have qi485 : (1 < l3.length) = True := eq_true (by omega)
                     (try rw [show ((1 : Int)).toNat = 1 from rfl] at hx485_0)
                     replace hx485_0 := (HB.out.cell (World.block_lt_of_cell? w _ hx485_0)).trans hx485_0
                     replace p485 := eq_true p485
                     replace q485 := eq_true q485
                     refine start_ (n := 15) (S := fun w' => w'.cell? ad484 = some (.int .i64 (rd l3 0)) ∧ w'.cell? ⟨ad484.block, ad484.off + 1, none⟩ = some (.int .i64 (rd l3 1))) (ds := []) (bl_ 15 0) (by kernel_rfl) rfl (by kernel_rfl) ⟨((HB.out.cell (World.block_lt_of_cell? w _ hw484_0)).trans hw484_0), ((HB.out.cell (World.block_lt_of_cell? w _ hw485_0)).trans hw485_0)⟩ (fun hHeld => ?_); refine with_tabW spigotlaw39_WaitLater.tab25 spigotlaw39_WaitLater.bits25 (fun HT_ HW_ => ?_)
                     generalize wc.drew = w102 at HB hx484_0 hx485_0 hHeld ⊢
                     refine pa_ 0 (some 181) (bl_ 15 1) HT_ ?_
                     refine pa_ 1 (some 182) (bl_ 15 3) HT_ ?_
                     refine pa_ 2 (some 183) (bl_ 15 7) HT_ ?_
                     refine pa_ 3 (some 184) (bl_ 15 15) HT_ ?_
                     refine pa_ 5 (some 186) (bl_ 15 47) HT_ ?_
                     refine pa_ 6 (some 187) (bl_ 15 111) HT_ ?_
                     refine ta_ 4 (some 185) (bl_ 15 127) HT_ HW_ hHeld ?_
                     refine ta_ 7 (some 188) (bl_ 15 255) HT_ HW_ hHeld ?_
                     refine pa_ 8 (some 189) (bl_ 15 511) HT_ ?_
                     refine oa_ 9 (some 190) (bl_ 15 1023) HT_ fun K hK => ?_
                     refine goesB_ Try.func16 #[.slice A0 l0.length c0, .int .u64 a1, .int .i64 (wrap64 ((rd l3 0) + (rd l3 1)))] ?_
                     with_reducible refine (wait_First.calls kj79 _ _ l0 a1 (wrap64 ((rd l3 0) + (rd l3 1))) t486 t487 _ ?side1 ?side2 A89.out).mono ?_
                     (case side1 => exact cs_ HR0 HB)
                     (case side2 => exact HC0.out)
                     rintro e w103 ⟨rfl, hb⟩
                     refine ⟨_, rfl, ?_⟩
                     replace HB := bs_ w hb
                     clear hb
                     refine hK.out _ _ ⟨((HB.out.cell (World.block_lt_of_cell? w _ hw484_0)).trans hw484_0), ((HB.out.cell (World.block_lt_of_cell? w _ hw485_0)).trans hw485_0)⟩ (fun hHeld => ?_)
                     clear hK K
                     refine nm_ (some 190) ?_
                     refine pa_ 10 (some 180) (bl_ 15 2047) HT_ ?_
                     refine pa_ 11 (some 191) (bl_ 15 4095) HT_ ?_
                     refine pa_ 12 (some 192) (bl_ 15 8191) HT_ ?_
                     refine pa_ 13 (some 24) (bl_ 15 16383) HT_ ?_
                     refine pa_ 14 (some 25) (bl_ 15 32767) HT_ ?_
                     refine done_ (done_of HT_.out (by kernel_rfl)) ?_
                     obtain ⟨i0104, hi0104, _, hsz104, _⟩ := info_parts info2
                     obtain ⟨hcut104, hA104, hC104⟩ := print_take_of (P := Try.prog) (Value.int .i64) 0 24 2 .i64 Try.underlying24 hi0104 hsz104 (some ad484) c3 l3 2 (by omega) (of_decide_eq_true (by first | (with_reducible assumption) | assumption)) HC3.out
                     have HR488 := Aside0.mk (Kd.C_of_reads (h1 := fun _ => rfl) (hA104 _ (Kd.reads_of_C HR3.out)))
                     have HC488 := Aside0.mk hC104
                     clear hA104 hC104 hi0104 hsz104
                     try go_wp2_with (first | ((with_reducible refine gate_callee (f := 15) rfl ?_); (try refine ug_ (by rfl) ?_); refine goesL_ (some 198) rfl rfl Try.func15 (by kernel_rfl) rfl #[.slice A0 l0.length c0, .int .u64 a1, .slice (some ad484) (l3.take 2).length c3] rfl (by (try simp only [List.map_toArray, List.map_cons, List.map_nil]); first | done | (rw [show (l3.take 2).length = 2 from (by rw [List.length_take]; have h_ : (2 : Int) ≤ (l3.length : Int) := of_decide_eq_true (by first | (with_reducible assumption) | assumption); omega)] <;> rfl) | rfl | (simp only [List.length_drop, List.length_take]; rfl)) ?_; (with_reducible refine (wait_Plan.calls kj79 _ _ l0 a1 _ _ (l3.take 2) t489 t490 t491 _ ?side1 ?side2 ?side3 ?side4 A91.out).mono ?_); (case side1 => exact cs_ HR0 HB); (case side2 => exact HC0.out); (case side3 => exact cs_ HR488 HB); (case side4 => exact HC488.out); rintro e w105 ⟨v492, v494, rfl, ho0, ho1, hb⟩; refine ⟨_, rfl, ?_⟩; have HO493 := Aside0.mk (Kd.R_lower ho0 (below_size (hq_ HB))); have HO495 := Aside0.mk (Kd.R_lower ho1 (below_size (hq_ HB))); replace HB := bs_ w hb; clear hb; (try clear ho0); (try clear ho1)))
                     go_ret
                     exact fi_
                   ·as_aux_lemma =>
                    replace c92 := Bool.eq_false_iff.mpr c92
                    subst c92
                    replace H : (none) = some r := by rw [if_neg (show ¬ (false = true) by decide)] at H; exact H
                    exact absurd H (by simp)

end Go.Proofs.Ytfdpcnkghmmobaa.X
