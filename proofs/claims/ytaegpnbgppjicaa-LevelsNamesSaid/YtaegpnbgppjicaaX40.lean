-- written by xprint.py, a program of this session over the kit's print
import Derived.Test.YtaegpnbgppjicaaX0
import Derived.Test.YtaegpnbgppjicaaX14
import Derived.Test.YtaegpnbgppjicaaX25
import Derived.Test.YtaegpnbgppjicaaX30
import Derived.Test.YtaegpnbgppjicaaX31
import Derived.Test.YtaegpnbgppjicaaX35
namespace Go.Proofs.Ytaegpnbgppjicaa.X
open Go.RowKit Go.Proofs.YtaegpnbgppjicaaW.PrintWords Go.Proofs.YtaegpnbgppjicaaW.PrintLast Go.Proofs.YtaegpnbgppjicaaW.PrintMore
attribute [local go_sem] max2_int min2_int max_two min_two max_three min_three max_four min_four   -- for this text's walks alone
set_option linter.unusedVariables false
set_option linter.unusedSimpArgs false

/-! ### spigotlaw04_LevelsNames: function 8 -/
def spigotlaw04_LevelsNames.f (k : Nat)  : Option (Bool) := (some (List.replicate 9 z37 : List (S37))).bind fun y580 => ((spigotlaw04_given.f).bind fun t583 => (if 0 < (t583.length : Int) then ((some (([(⟨(⟨(rd_T37 t583 0).f0.f0, (rd_T37 t583 0).f0.f1, (rd_T37 t583 0).f0.f2⟩ : S34), (rd_T37 t583 0).f1, (rd_T37 t583 0).f2, (rd_T37 t583 0).f3⟩ : S37), (⟨(⟨0, 0, 0⟩ : S34), 0, 0, 0⟩ : S37)] : List (S37)) : List (S37))).bind fun y587 => ((levels_Refill.f k y580 0).bind fun bt590 => ((levels_Refill.f k y587 0).bind fun bt594 => ((levels_Take.f k y587 0 (-1)).bind fun bt598 => ((spigotlaw04_given.f).bind fun t603 => ((levels_Take.f k t603 0 (-1)).bind fun bt606 => ((spigotlaw04_given.f).bind fun t611 => ((levels_Holds.f k t611 (-1)).bind fun bt614 => ((spigotlaw04_given.f).bind fun t616 => ((levels_Wait.f k t616 (-1)).bind fun bt619 => ((levels_Run.f k y580 ([] : List Int) ([] : List Int)).bind fun bt621 => ((spigotlaw04_given.f).bind fun t628 => ((levels_Run.f k t628 (List.replicate 201 0) ([] : List Int)).bind fun bt634 => ((spigotlaw04_given.f).bind fun t641 => ((levels_Run.f k t641 (List.replicate 1 0) ([] : List Int)).bind fun bt647 => ((spigotlaw04_given.f).bind fun t654 => ((levels_Run.f k t654 ([] : List Int) (([(-1)] : List Int))).bind fun bt660 => ((spigotlaw04_given.f).bind fun t667 => ((levels_Run.f k t667 (List.replicate 1 0) (([(-1)] : List Int))).bind fun bt676 => ((levels_Check.f k y580).bind fun t683 => (if t683 = 4 then ((levels_Check.f k y587).bind fun t684 => (if t684 = 8 then (if bt590.2 = 4 then (if bt594.2 = 8 then (if bt598.2.2 = 8 then (if bt606.2.2 = 2 then (if bt614.2 = 2 then (if bt619.2 = 2 then (if bt621.2.2 = 4 then (if bt634.2.2 = 4 then (if bt647.2.2 = 2 then (if bt660.2.2 = 2 then ((levels_Take.f k ([] : List (S37)) 5 9223372036854775807).bind fun bt685 => ((levels_Wait.f k ([] : List (S37)) 9223372036854775807).bind fun bt690 => ((spigotlaw04_given.f).bind fun t692 => ((levels_Run.f k t692 ([] : List Int) ([] : List Int)).bind fun bt695 => ((spigotlaw04_given.f).bind fun t702 => ((levels_Take.f k t702 0 0).bind fun bt705 => ((spigotlaw04_given.f).bind fun t710 => ((levels_Take.f k t710 9 6).bind fun bt713 => ((spigotlaw04_given.f).bind fun t718 => ((levels_Wait.f k t718 6).bind fun bt721 => ((spigotlaw04_given.f).bind fun t723 => ((levels_Run.f k t723 (List.replicate 200 0) (List.replicate 200 0)).bind fun bt732 => (if bt685.2.2 = 0 then (if bt685.2.1 = true then (if (bt685.1.length : Int) = 0 then (if bt690.2 = 0 then (if bt690.1 = 0 then (if bt695.2.2 = 0 then ((spigotlaw04_given.f).bind fun t739 => ((spigotref04_Same.f k bt695.1 t739).bind fun t742 => (if t742 = true then (if (bt695.2.1.length : Int) = 0 then (if bt705.2.2 = 0 then (if bt705.2.1 = true then ((spigotlaw04_given.f).bind fun t743 => ((spigotref04_Same.f k bt705.1 t743).bind fun t746 => (if bt676.2.2 = 2 then (if t746 = true then (if bt713.2.2 = 0 then (if bt713.2.1 = true then (none) else (if (bt713.1.length : Int) = 2 then (if 0 < (bt713.1.length : Int) then (if ((rd_T37 bt713.1 0).f1) = 5 then (if ((rd_T37 bt713.1 0).f3) = 9 then (if bt721.2 = 0 then (if bt721.1 = 18446744073709551615 then (if bt732.2.2 = 0 then (if (bt732.2.1.length : Int) = 200 then (if (bt732.1.length : Int) = 2 then ((spigotlaw04_alive.f k).bind fun t749 => (some t749)) else (none)) else (none)) else (none)) else (none)) else (none)) else (none)) else (none)) else (none)) else (none))) else (none)) else (none)) else (none)))) else (none)) else (none)) else (none)) else (none)))) else (none)) else (none)) else (none)) else (none)) else (none)) else (none)))))))))))))) else (none)) else (none)) else (none)) else (none)) else (none)) else (none)) else (none)) else (none)) else (none)) else (none)) else (none))) else (none)))))))))))))))))))))) else (none)))
theorem spigotlaw04_LevelsNames.mono : ∀ k, LeO (spigotlaw04_LevelsNames.f k ) (spigotlaw04_LevelsNames.f (k + 1) ) := by
  intro  k
  unfold spigotlaw04_LevelsNames.f
  repeat' first
      | (with_reducible exact levels_Check.mono _ _)
      | (with_reducible exact levels_Holds.mono _ _ _)
      | (with_reducible exact levels_Refill.mono _ _ _)
      | (with_reducible exact levels_Run.mono _ _ _ _)
      | (with_reducible exact levels_Take.mono _ _ _ _)
      | (with_reducible exact levels_Wait.mono _ _ _)
      | (with_reducible exact spigotlaw04_alive.mono _)
      | (with_reducible exact spigotref04_Same.mono _ _ _)
      | (with_reducible exact LeO.refl _)
      | (with_reducible exact LeO.none _)
      | (with_reducible refine LeO.ite ?_ ?_)
      | (with_reducible refine LeO.bind ?_ (fun _ => ?_))
      | exact levels_Check.mono _ _
      | exact levels_Holds.mono _ _ _
      | exact levels_Refill.mono _ _ _
      | exact levels_Run.mono _ _ _ _
      | exact levels_Take.mono _ _ _ _
      | exact levels_Wait.mono _ _ _
      | exact spigotlaw04_alive.mono _
      | exact spigotref04_Same.mono _ _ _
      | exact LeO.none _
      | refine LeO.ite ?_ ?_
      | refine LeO.bind ?_ (fun _ => ?_)
def spigotlaw04_LevelsNames.T10 : Bool × List (List Nat × List Nat) := (true, [([], []), ([], []), ([0, 1, 0], [0, 1]), ([2], [2]), ([3], [3]), ([3], [3]), ([3], [3]), ([4, 2, 0, 1, 2, 3, 4], [4]), ([5, 7, 0, 1, 2, 3, 4, 5, 7], [5]), ([6, 8, 0, 1, 2, 3, 4, 5, 6, 7, 8], [6])])
def spigotlaw04_LevelsNames.B10 : List Nat := [0, 0, 3, 7, 15, 15, 15, 31, 191, 511]
theorem spigotlaw04_LevelsNames.tab10 : rtab .any (opsOf Try.f8 10) = spigotlaw04_LevelsNames.T10 := by kernel_rfl
theorem spigotlaw04_LevelsNames.bits10 : waitsOk spigotlaw04_LevelsNames.T10.2 spigotlaw04_LevelsNames.B10 = true := by kernel_rfl
def spigotlaw04_LevelsNames.T11 : Bool × List (List Nat × List Nat) := (true, [([], []), ([], []), ([0, 1, 0], [0, 1]), ([2], [2]), ([3], [3]), ([3], [3]), ([3], [3]), ([4, 2, 0, 1, 2, 3, 4], [4]), ([5, 7, 0, 1, 2, 3, 4, 5, 7], [5]), ([6, 8, 0, 1, 2, 3, 4, 5, 6, 7, 8], [6])])
def spigotlaw04_LevelsNames.B11 : List Nat := [0, 0, 3, 7, 15, 15, 15, 31, 191, 511]
theorem spigotlaw04_LevelsNames.tab11 : rtab .any (opsOf Try.f8 11) = spigotlaw04_LevelsNames.T11 := by kernel_rfl
theorem spigotlaw04_LevelsNames.bits11 : waitsOk spigotlaw04_LevelsNames.T11.2 spigotlaw04_LevelsNames.B11 = true := by kernel_rfl
def spigotlaw04_LevelsNames.T13 : Bool × List (List Nat × List Nat) := (true, [([], []), ([], []), ([], []), ([0, 1, 2, 0], [0, 1, 2]), ([3], [3]), ([4], [4]), ([4], [4]), ([4], [4]), ([5, 3, 0, 1, 2, 3, 4, 5], [5]), ([6, 8, 0, 1, 2, 3, 4, 5, 6, 8], [6]), ([7, 9, 0, 1, 2, 3, 4, 5, 6, 7, 8, 9], [7])])
def spigotlaw04_LevelsNames.B13 : List Nat := [0, 0, 0, 7, 15, 31, 31, 31, 63, 383, 1023]
theorem spigotlaw04_LevelsNames.tab13 : rtab .any (opsOf Try.f8 13) = spigotlaw04_LevelsNames.T13 := by kernel_rfl
theorem spigotlaw04_LevelsNames.bits13 : waitsOk spigotlaw04_LevelsNames.T13.2 spigotlaw04_LevelsNames.B13 = true := by kernel_rfl
def spigotlaw04_LevelsNames.T21 : Bool × List (List Nat × List Nat) := (true, [([], []), ([], []), ([], []), ([0, 1, 2, 0], [0, 1, 2]), ([3], [3]), ([4], [4]), ([4], [4]), ([4], [4]), ([5, 3, 0, 1, 2, 3, 4, 5], [5]), ([6, 8, 0, 1, 2, 3, 4, 5, 6, 8], [6]), ([7, 9, 0, 1, 2, 3, 4, 5, 6, 7, 8, 9], [7])])
def spigotlaw04_LevelsNames.B21 : List Nat := [0, 0, 0, 7, 15, 31, 31, 31, 63, 383, 1023]
theorem spigotlaw04_LevelsNames.tab21 : rtab .any (opsOf Try.f8 21) = spigotlaw04_LevelsNames.T21 := by kernel_rfl
theorem spigotlaw04_LevelsNames.bits21 : waitsOk spigotlaw04_LevelsNames.T21.2 spigotlaw04_LevelsNames.B21 = true := by kernel_rfl
set_option maxHeartbeats 8000000 in
set_option maxRecDepth 100000 in
theorem spigotlaw04_LevelsNames.calls (k : Nat)  (r : Bool) (w : World) (h : spigotlaw04_LevelsNames.f k  = some r) :
  Calls Try.prog 8 #[] w fun e w' => e = .returned (.bool r) ∧ Below w.heap.size w w' := by
 have hu37 := Try.underlying37
 have HB := Aside0.mk (Below.refl w.heap.size w)
 have H : ((some (List.replicate 9 z37 : List (S37))).bind fun y580 => ((spigotlaw04_given.f).bind fun t583 => (if 0 < (t583.length : Int) then ((some (([(⟨(⟨(rd_T37 t583 0).f0.f0, (rd_T37 t583 0).f0.f1, (rd_T37 t583 0).f0.f2⟩ : S34), (rd_T37 t583 0).f1, (rd_T37 t583 0).f2, (rd_T37 t583 0).f3⟩ : S37), (⟨(⟨0, 0, 0⟩ : S34), 0, 0, 0⟩ : S37)] : List (S37)) : List (S37))).bind fun y587 => ((levels_Refill.f k y580 0).bind fun bt590 => ((levels_Refill.f k y587 0).bind fun bt594 => ((levels_Take.f k y587 0 (-1)).bind fun bt598 => ((spigotlaw04_given.f).bind fun t603 => ((levels_Take.f k t603 0 (-1)).bind fun bt606 => ((spigotlaw04_given.f).bind fun t611 => ((levels_Holds.f k t611 (-1)).bind fun bt614 => ((spigotlaw04_given.f).bind fun t616 => ((levels_Wait.f k t616 (-1)).bind fun bt619 => ((levels_Run.f k y580 ([] : List Int) ([] : List Int)).bind fun bt621 => ((spigotlaw04_given.f).bind fun t628 => ((levels_Run.f k t628 (List.replicate 201 0) ([] : List Int)).bind fun bt634 => ((spigotlaw04_given.f).bind fun t641 => ((levels_Run.f k t641 (List.replicate 1 0) ([] : List Int)).bind fun bt647 => ((spigotlaw04_given.f).bind fun t654 => ((levels_Run.f k t654 ([] : List Int) (([(-1)] : List Int))).bind fun bt660 => ((spigotlaw04_given.f).bind fun t667 => ((levels_Run.f k t667 (List.replicate 1 0) (([(-1)] : List Int))).bind fun bt676 => ((levels_Check.f k y580).bind fun t683 => (if t683 = 4 then ((levels_Check.f k y587).bind fun t684 => (if t684 = 8 then (if bt590.2 = 4 then (if bt594.2 = 8 then (if bt598.2.2 = 8 then (if bt606.2.2 = 2 then (if bt614.2 = 2 then (if bt619.2 = 2 then (if bt621.2.2 = 4 then (if bt634.2.2 = 4 then (if bt647.2.2 = 2 then (if bt660.2.2 = 2 then ((levels_Take.f k ([] : List (S37)) 5 9223372036854775807).bind fun bt685 => ((levels_Wait.f k ([] : List (S37)) 9223372036854775807).bind fun bt690 => ((spigotlaw04_given.f).bind fun t692 => ((levels_Run.f k t692 ([] : List Int) ([] : List Int)).bind fun bt695 => ((spigotlaw04_given.f).bind fun t702 => ((levels_Take.f k t702 0 0).bind fun bt705 => ((spigotlaw04_given.f).bind fun t710 => ((levels_Take.f k t710 9 6).bind fun bt713 => ((spigotlaw04_given.f).bind fun t718 => ((levels_Wait.f k t718 6).bind fun bt721 => ((spigotlaw04_given.f).bind fun t723 => ((levels_Run.f k t723 (List.replicate 200 0) (List.replicate 200 0)).bind fun bt732 => (if bt685.2.2 = 0 then (if bt685.2.1 = true then (if (bt685.1.length : Int) = 0 then (if bt690.2 = 0 then (if bt690.1 = 0 then (if bt695.2.2 = 0 then ((spigotlaw04_given.f).bind fun t739 => ((spigotref04_Same.f k bt695.1 t739).bind fun t742 => (if t742 = true then (if (bt695.2.1.length : Int) = 0 then (if bt705.2.2 = 0 then (if bt705.2.1 = true then ((spigotlaw04_given.f).bind fun t743 => ((spigotref04_Same.f k bt705.1 t743).bind fun t746 => (if bt676.2.2 = 2 then (if t746 = true then (if bt713.2.2 = 0 then (if bt713.2.1 = true then (none) else (if (bt713.1.length : Int) = 2 then (if 0 < (bt713.1.length : Int) then (if ((rd_T37 bt713.1 0).f1) = 5 then (if ((rd_T37 bt713.1 0).f3) = 9 then (if bt721.2 = 0 then (if bt721.1 = 18446744073709551615 then (if bt732.2.2 = 0 then (if (bt732.2.1.length : Int) = 200 then (if (bt732.1.length : Int) = 2 then ((spigotlaw04_alive.f k).bind fun t749 => (some t749)) else (none)) else (none)) else (none)) else (none)) else (none)) else (none)) else (none)) else (none)) else (none))) else (none)) else (none)) else (none)))) else (none)) else (none)) else (none)) else (none)))) else (none)) else (none)) else (none)) else (none)) else (none)) else (none)))))))))))))) else (none)) else (none)) else (none)) else (none)) else (none)) else (none)) else (none)) else (none)) else (none)) else (none)) else (none))) else (none)))))))))))))))))))))) else (none)))) = some r := h
 clear h
 obtain ⟨y580, hy580⟩ : ∃ y_ : List (S37), y_ = (List.replicate 9 z37) := ⟨_, rfl⟩
 replace H : ((spigotlaw04_given.f).bind fun t583 => (if 0 < (t583.length : Int) then ((some (([(⟨(⟨(rd_T37 t583 0).f0.f0, (rd_T37 t583 0).f0.f1, (rd_T37 t583 0).f0.f2⟩ : S34), (rd_T37 t583 0).f1, (rd_T37 t583 0).f2, (rd_T37 t583 0).f3⟩ : S37), (⟨(⟨0, 0, 0⟩ : S34), 0, 0, 0⟩ : S37)] : List (S37)) : List (S37))).bind fun y587 => ((levels_Refill.f k y580 0).bind fun bt590 => ((levels_Refill.f k y587 0).bind fun bt594 => ((levels_Take.f k y587 0 (-1)).bind fun bt598 => ((spigotlaw04_given.f).bind fun t603 => ((levels_Take.f k t603 0 (-1)).bind fun bt606 => ((spigotlaw04_given.f).bind fun t611 => ((levels_Holds.f k t611 (-1)).bind fun bt614 => ((spigotlaw04_given.f).bind fun t616 => ((levels_Wait.f k t616 (-1)).bind fun bt619 => ((levels_Run.f k y580 ([] : List Int) ([] : List Int)).bind fun bt621 => ((spigotlaw04_given.f).bind fun t628 => ((levels_Run.f k t628 (List.replicate 201 0) ([] : List Int)).bind fun bt634 => ((spigotlaw04_given.f).bind fun t641 => ((levels_Run.f k t641 (List.replicate 1 0) ([] : List Int)).bind fun bt647 => ((spigotlaw04_given.f).bind fun t654 => ((levels_Run.f k t654 ([] : List Int) (([(-1)] : List Int))).bind fun bt660 => ((spigotlaw04_given.f).bind fun t667 => ((levels_Run.f k t667 (List.replicate 1 0) (([(-1)] : List Int))).bind fun bt676 => ((levels_Check.f k y580).bind fun t683 => (if t683 = 4 then ((levels_Check.f k y587).bind fun t684 => (if t684 = 8 then (if bt590.2 = 4 then (if bt594.2 = 8 then (if bt598.2.2 = 8 then (if bt606.2.2 = 2 then (if bt614.2 = 2 then (if bt619.2 = 2 then (if bt621.2.2 = 4 then (if bt634.2.2 = 4 then (if bt647.2.2 = 2 then (if bt660.2.2 = 2 then ((levels_Take.f k ([] : List (S37)) 5 9223372036854775807).bind fun bt685 => ((levels_Wait.f k ([] : List (S37)) 9223372036854775807).bind fun bt690 => ((spigotlaw04_given.f).bind fun t692 => ((levels_Run.f k t692 ([] : List Int) ([] : List Int)).bind fun bt695 => ((spigotlaw04_given.f).bind fun t702 => ((levels_Take.f k t702 0 0).bind fun bt705 => ((spigotlaw04_given.f).bind fun t710 => ((levels_Take.f k t710 9 6).bind fun bt713 => ((spigotlaw04_given.f).bind fun t718 => ((levels_Wait.f k t718 6).bind fun bt721 => ((spigotlaw04_given.f).bind fun t723 => ((levels_Run.f k t723 (List.replicate 200 0) (List.replicate 200 0)).bind fun bt732 => (if bt685.2.2 = 0 then (if bt685.2.1 = true then (if (bt685.1.length : Int) = 0 then (if bt690.2 = 0 then (if bt690.1 = 0 then (if bt695.2.2 = 0 then ((spigotlaw04_given.f).bind fun t739 => ((spigotref04_Same.f k bt695.1 t739).bind fun t742 => (if t742 = true then (if (bt695.2.1.length : Int) = 0 then (if bt705.2.2 = 0 then (if bt705.2.1 = true then ((spigotlaw04_given.f).bind fun t743 => ((spigotref04_Same.f k bt705.1 t743).bind fun t746 => (if bt676.2.2 = 2 then (if t746 = true then (if bt713.2.2 = 0 then (if bt713.2.1 = true then (none) else (if (bt713.1.length : Int) = 2 then (if 0 < (bt713.1.length : Int) then (if ((rd_T37 bt713.1 0).f1) = 5 then (if ((rd_T37 bt713.1 0).f3) = 9 then (if bt721.2 = 0 then (if bt721.1 = 18446744073709551615 then (if bt732.2.2 = 0 then (if (bt732.2.1.length : Int) = 200 then (if (bt732.1.length : Int) = 2 then ((spigotlaw04_alive.f k).bind fun t749 => (some t749)) else (none)) else (none)) else (none)) else (none)) else (none)) else (none)) else (none)) else (none)) else (none))) else (none)) else (none)) else (none)))) else (none)) else (none)) else (none)) else (none)))) else (none)) else (none)) else (none)) else (none)) else (none)) else (none)))))))))))))) else (none)) else (none)) else (none)) else (none)) else (none)) else (none)) else (none)) else (none)) else (none)) else (none)) else (none))) else (none)))))))))))))))))))))) else (none))) = some r := by first | (rw [hy580]; with_reducible exact H) | (have H2_ := (Option.bind_some _ _).symm.trans H; rw [hy580]; with_reducible exact H2_) | (have H2_ := (Option.bind_some _ _).symm.trans H; with_reducible exact H2_) | with_reducible exact H | (rw [hy580]; exact H) | exact H
 have Ny580 := Aside0.mk hy580
 clear hy580
 have H0_ := bo_ H; clear H; obtain ⟨t583, A1, H⟩ := H0_
 try dsimp only at H
 by_cases c2 : 0 < (t583.length : Int)
 rotate_left
 ·rw [if_neg c2] at H; exact absurd H (by simp)
 rw [if_pos c2] at H
 have c2b0 : decide (0 < (t583.length : Int)) = true := decide_eq_true c2
 have c2b1 : decide (0 < t583.length) = true := decide_eq_true (by omega)
 clear c2
 obtain ⟨y587, hy587⟩ : ∃ y_ : List (S37), y_ = (([(⟨(⟨(rd_T37 t583 0).f0.f0, (rd_T37 t583 0).f0.f1, (rd_T37 t583 0).f0.f2⟩ : S34), (rd_T37 t583 0).f1, (rd_T37 t583 0).f2, (rd_T37 t583 0).f3⟩ : S37), (⟨(⟨0, 0, 0⟩ : S34), 0, 0, 0⟩ : S37)] : List (S37))) := ⟨_, rfl⟩
 replace H : ((levels_Refill.f k y580 0).bind fun bt590 => ((levels_Refill.f k y587 0).bind fun bt594 => ((levels_Take.f k y587 0 (-1)).bind fun bt598 => ((spigotlaw04_given.f).bind fun t603 => ((levels_Take.f k t603 0 (-1)).bind fun bt606 => ((spigotlaw04_given.f).bind fun t611 => ((levels_Holds.f k t611 (-1)).bind fun bt614 => ((spigotlaw04_given.f).bind fun t616 => ((levels_Wait.f k t616 (-1)).bind fun bt619 => ((levels_Run.f k y580 ([] : List Int) ([] : List Int)).bind fun bt621 => ((spigotlaw04_given.f).bind fun t628 => ((levels_Run.f k t628 (List.replicate 201 0) ([] : List Int)).bind fun bt634 => ((spigotlaw04_given.f).bind fun t641 => ((levels_Run.f k t641 (List.replicate 1 0) ([] : List Int)).bind fun bt647 => ((spigotlaw04_given.f).bind fun t654 => ((levels_Run.f k t654 ([] : List Int) (([(-1)] : List Int))).bind fun bt660 => ((spigotlaw04_given.f).bind fun t667 => ((levels_Run.f k t667 (List.replicate 1 0) (([(-1)] : List Int))).bind fun bt676 => ((levels_Check.f k y580).bind fun t683 => (if t683 = 4 then ((levels_Check.f k y587).bind fun t684 => (if t684 = 8 then (if bt590.2 = 4 then (if bt594.2 = 8 then (if bt598.2.2 = 8 then (if bt606.2.2 = 2 then (if bt614.2 = 2 then (if bt619.2 = 2 then (if bt621.2.2 = 4 then (if bt634.2.2 = 4 then (if bt647.2.2 = 2 then (if bt660.2.2 = 2 then ((levels_Take.f k ([] : List (S37)) 5 9223372036854775807).bind fun bt685 => ((levels_Wait.f k ([] : List (S37)) 9223372036854775807).bind fun bt690 => ((spigotlaw04_given.f).bind fun t692 => ((levels_Run.f k t692 ([] : List Int) ([] : List Int)).bind fun bt695 => ((spigotlaw04_given.f).bind fun t702 => ((levels_Take.f k t702 0 0).bind fun bt705 => ((spigotlaw04_given.f).bind fun t710 => ((levels_Take.f k t710 9 6).bind fun bt713 => ((spigotlaw04_given.f).bind fun t718 => ((levels_Wait.f k t718 6).bind fun bt721 => ((spigotlaw04_given.f).bind fun t723 => ((levels_Run.f k t723 (List.replicate 200 0) (List.replicate 200 0)).bind fun bt732 => (if bt685.2.2 = 0 then (if bt685.2.1 = true then (if (bt685.1.length : Int) = 0 then (if bt690.2 = 0 then (if bt690.1 = 0 then (if bt695.2.2 = 0 then ((spigotlaw04_given.f).bind fun t739 => ((spigotref04_Same.f k bt695.1 t739).bind fun t742 => (if t742 = true then (if (bt695.2.1.length : Int) = 0 then (if bt705.2.2 = 0 then (if bt705.2.1 = true then ((spigotlaw04_given.f).bind fun t743 => ((spigotref04_Same.f k bt705.1 t743).bind fun t746 => (if bt676.2.2 = 2 then (if t746 = true then (if bt713.2.2 = 0 then (if bt713.2.1 = true then (none) else (if (bt713.1.length : Int) = 2 then (if 0 < (bt713.1.length : Int) then (if ((rd_T37 bt713.1 0).f1) = 5 then (if ((rd_T37 bt713.1 0).f3) = 9 then (if bt721.2 = 0 then (if bt721.1 = 18446744073709551615 then (if bt732.2.2 = 0 then (if (bt732.2.1.length : Int) = 200 then (if (bt732.1.length : Int) = 2 then ((spigotlaw04_alive.f k).bind fun t749 => (some t749)) else (none)) else (none)) else (none)) else (none)) else (none)) else (none)) else (none)) else (none)) else (none))) else (none)) else (none)) else (none)))) else (none)) else (none)) else (none)) else (none)))) else (none)) else (none)) else (none)) else (none)) else (none)) else (none)))))))))))))) else (none)) else (none)) else (none)) else (none)) else (none)) else (none)) else (none)) else (none)) else (none)) else (none)) else (none))) else (none))))))))))))))))))))) = some r := by first | (rw [hy587]; with_reducible exact H) | (have H2_ := (Option.bind_some _ _).symm.trans H; rw [hy587]; with_reducible exact H2_) | (have H2_ := (Option.bind_some _ _).symm.trans H; with_reducible exact H2_) | with_reducible exact H | (rw [hy587]; exact H) | exact H
 have Ny587 := Aside0.mk hy587
 clear hy587
 have H0_ := bo_ H; clear H; obtain ⟨⟨t590, t591⟩, A3, H⟩ := H0_
 try dsimp only at H
 have H0_ := bo_ H; clear H; obtain ⟨⟨t594, t595⟩, A4, H⟩ := H0_
 try dsimp only at H
 have H0_ := bo_ H; clear H; obtain ⟨⟨t598, t599, t600⟩, A5, H⟩ := H0_
 try dsimp only at H
 have H0_ := bo_ H; clear H; obtain ⟨t603, A6, H⟩ := H0_
 try dsimp only at H
 have H0_ := bo_ H; clear H; obtain ⟨⟨t606, t607, t608⟩, A7, H⟩ := H0_
 try dsimp only at H
 have H0_ := bo_ H; clear H; obtain ⟨t611, A8, H⟩ := H0_
 try dsimp only at H
 have H0_ := bo_ H; clear H; obtain ⟨⟨t614, t615⟩, A9, H⟩ := H0_
 try dsimp only at H
 have H0_ := bo_ H; clear H; obtain ⟨t616, A10, H⟩ := H0_
 try dsimp only at H
 have H0_ := bo_ H; clear H; obtain ⟨⟨t619, t620⟩, A11, H⟩ := H0_
 try dsimp only at H
 have H0_ := bo_ H; clear H; obtain ⟨⟨t621, t622, t623⟩, A12, H⟩ := H0_
 try dsimp only at H
 have H0_ := bo_ H; clear H; obtain ⟨t628, A13, H⟩ := H0_
 try dsimp only at H
 obtain ⟨y631, hy631⟩ : ∃ y_ : List Int, y_ = (List.replicate 201 0) := ⟨_, rfl⟩
 replace H : ((levels_Run.f k t628 y631 ([] : List Int)).bind fun bt634 => ((spigotlaw04_given.f).bind fun t641 => ((levels_Run.f k t641 (List.replicate 1 0) ([] : List Int)).bind fun bt647 => ((spigotlaw04_given.f).bind fun t654 => ((levels_Run.f k t654 ([] : List Int) (([(-1)] : List Int))).bind fun bt660 => ((spigotlaw04_given.f).bind fun t667 => ((levels_Run.f k t667 (List.replicate 1 0) (([(-1)] : List Int))).bind fun bt676 => ((levels_Check.f k y580).bind fun t683 => (if t683 = 4 then ((levels_Check.f k y587).bind fun t684 => (if t684 = 8 then (if t591 = 4 then (if t595 = 8 then (if t600 = 8 then (if t608 = 2 then (if t615 = 2 then (if t620 = 2 then (if t623 = 4 then (if bt634.2.2 = 4 then (if bt647.2.2 = 2 then (if bt660.2.2 = 2 then ((levels_Take.f k ([] : List (S37)) 5 9223372036854775807).bind fun bt685 => ((levels_Wait.f k ([] : List (S37)) 9223372036854775807).bind fun bt690 => ((spigotlaw04_given.f).bind fun t692 => ((levels_Run.f k t692 ([] : List Int) ([] : List Int)).bind fun bt695 => ((spigotlaw04_given.f).bind fun t702 => ((levels_Take.f k t702 0 0).bind fun bt705 => ((spigotlaw04_given.f).bind fun t710 => ((levels_Take.f k t710 9 6).bind fun bt713 => ((spigotlaw04_given.f).bind fun t718 => ((levels_Wait.f k t718 6).bind fun bt721 => ((spigotlaw04_given.f).bind fun t723 => ((levels_Run.f k t723 (List.replicate 200 0) (List.replicate 200 0)).bind fun bt732 => (if bt685.2.2 = 0 then (if bt685.2.1 = true then (if (bt685.1.length : Int) = 0 then (if bt690.2 = 0 then (if bt690.1 = 0 then (if bt695.2.2 = 0 then ((spigotlaw04_given.f).bind fun t739 => ((spigotref04_Same.f k bt695.1 t739).bind fun t742 => (if t742 = true then (if (bt695.2.1.length : Int) = 0 then (if bt705.2.2 = 0 then (if bt705.2.1 = true then ((spigotlaw04_given.f).bind fun t743 => ((spigotref04_Same.f k bt705.1 t743).bind fun t746 => (if bt676.2.2 = 2 then (if t746 = true then (if bt713.2.2 = 0 then (if bt713.2.1 = true then (none) else (if (bt713.1.length : Int) = 2 then (if 0 < (bt713.1.length : Int) then (if ((rd_T37 bt713.1 0).f1) = 5 then (if ((rd_T37 bt713.1 0).f3) = 9 then (if bt721.2 = 0 then (if bt721.1 = 18446744073709551615 then (if bt732.2.2 = 0 then (if (bt732.2.1.length : Int) = 200 then (if (bt732.1.length : Int) = 2 then ((spigotlaw04_alive.f k).bind fun t749 => (some t749)) else (none)) else (none)) else (none)) else (none)) else (none)) else (none)) else (none)) else (none)) else (none))) else (none)) else (none)) else (none)))) else (none)) else (none)) else (none)) else (none)))) else (none)) else (none)) else (none)) else (none)) else (none)) else (none)))))))))))))) else (none)) else (none)) else (none)) else (none)) else (none)) else (none)) else (none)) else (none)) else (none)) else (none)) else (none))) else (none)))))))))) = some r := by first | (rw [hy631]; with_reducible exact H) | (have H2_ := (Option.bind_some _ _).symm.trans H; rw [hy631]; with_reducible exact H2_) | (have H2_ := (Option.bind_some _ _).symm.trans H; with_reducible exact H2_) | with_reducible exact H | (rw [hy631]; exact H) | exact H
 have Ny631 := Aside0.mk hy631
 clear hy631
 have H0_ := bo_ H; clear H; obtain ⟨⟨t634, t635, t636⟩, A14, H⟩ := H0_
 try dsimp only at H
 have H0_ := bo_ H; clear H; obtain ⟨t641, A15, H⟩ := H0_
 try dsimp only at H
 obtain ⟨y644, hy644⟩ : ∃ y_ : List Int, y_ = (List.replicate 1 0) := ⟨_, rfl⟩
 replace H : ((levels_Run.f k t641 y644 ([] : List Int)).bind fun bt647 => ((spigotlaw04_given.f).bind fun t654 => ((levels_Run.f k t654 ([] : List Int) (([(-1)] : List Int))).bind fun bt660 => ((spigotlaw04_given.f).bind fun t667 => ((levels_Run.f k t667 (List.replicate 1 0) (([(-1)] : List Int))).bind fun bt676 => ((levels_Check.f k y580).bind fun t683 => (if t683 = 4 then ((levels_Check.f k y587).bind fun t684 => (if t684 = 8 then (if t591 = 4 then (if t595 = 8 then (if t600 = 8 then (if t608 = 2 then (if t615 = 2 then (if t620 = 2 then (if t623 = 4 then (if t636 = 4 then (if bt647.2.2 = 2 then (if bt660.2.2 = 2 then ((levels_Take.f k ([] : List (S37)) 5 9223372036854775807).bind fun bt685 => ((levels_Wait.f k ([] : List (S37)) 9223372036854775807).bind fun bt690 => ((spigotlaw04_given.f).bind fun t692 => ((levels_Run.f k t692 ([] : List Int) ([] : List Int)).bind fun bt695 => ((spigotlaw04_given.f).bind fun t702 => ((levels_Take.f k t702 0 0).bind fun bt705 => ((spigotlaw04_given.f).bind fun t710 => ((levels_Take.f k t710 9 6).bind fun bt713 => ((spigotlaw04_given.f).bind fun t718 => ((levels_Wait.f k t718 6).bind fun bt721 => ((spigotlaw04_given.f).bind fun t723 => ((levels_Run.f k t723 (List.replicate 200 0) (List.replicate 200 0)).bind fun bt732 => (if bt685.2.2 = 0 then (if bt685.2.1 = true then (if (bt685.1.length : Int) = 0 then (if bt690.2 = 0 then (if bt690.1 = 0 then (if bt695.2.2 = 0 then ((spigotlaw04_given.f).bind fun t739 => ((spigotref04_Same.f k bt695.1 t739).bind fun t742 => (if t742 = true then (if (bt695.2.1.length : Int) = 0 then (if bt705.2.2 = 0 then (if bt705.2.1 = true then ((spigotlaw04_given.f).bind fun t743 => ((spigotref04_Same.f k bt705.1 t743).bind fun t746 => (if bt676.2.2 = 2 then (if t746 = true then (if bt713.2.2 = 0 then (if bt713.2.1 = true then (none) else (if (bt713.1.length : Int) = 2 then (if 0 < (bt713.1.length : Int) then (if ((rd_T37 bt713.1 0).f1) = 5 then (if ((rd_T37 bt713.1 0).f3) = 9 then (if bt721.2 = 0 then (if bt721.1 = 18446744073709551615 then (if bt732.2.2 = 0 then (if (bt732.2.1.length : Int) = 200 then (if (bt732.1.length : Int) = 2 then ((spigotlaw04_alive.f k).bind fun t749 => (some t749)) else (none)) else (none)) else (none)) else (none)) else (none)) else (none)) else (none)) else (none)) else (none))) else (none)) else (none)) else (none)))) else (none)) else (none)) else (none)) else (none)))) else (none)) else (none)) else (none)) else (none)) else (none)) else (none)))))))))))))) else (none)) else (none)) else (none)) else (none)) else (none)) else (none)) else (none)) else (none)) else (none)) else (none)) else (none))) else (none)))))))) = some r := by first | (rw [hy644]; with_reducible exact H) | (have H2_ := (Option.bind_some _ _).symm.trans H; rw [hy644]; with_reducible exact H2_) | (have H2_ := (Option.bind_some _ _).symm.trans H; with_reducible exact H2_) | with_reducible exact H | (rw [hy644]; exact H) | exact H
 have Ny644 := Aside0.mk hy644
 clear hy644
 have H0_ := bo_ H; clear H; obtain ⟨⟨t647, t648, t649⟩, A16, H⟩ := H0_
 try dsimp only at H
 have H0_ := bo_ H; clear H; obtain ⟨t654, A17, H⟩ := H0_
 try dsimp only at H
 obtain ⟨y657, hy657⟩ : ∃ y_ : List Int, y_ = (([(-1)] : List Int)) := ⟨_, rfl⟩
 replace H : ((levels_Run.f k t654 ([] : List Int) y657).bind fun bt660 => ((spigotlaw04_given.f).bind fun t667 => ((levels_Run.f k t667 (List.replicate 1 0) (([(-1)] : List Int))).bind fun bt676 => ((levels_Check.f k y580).bind fun t683 => (if t683 = 4 then ((levels_Check.f k y587).bind fun t684 => (if t684 = 8 then (if t591 = 4 then (if t595 = 8 then (if t600 = 8 then (if t608 = 2 then (if t615 = 2 then (if t620 = 2 then (if t623 = 4 then (if t636 = 4 then (if t649 = 2 then (if bt660.2.2 = 2 then ((levels_Take.f k ([] : List (S37)) 5 9223372036854775807).bind fun bt685 => ((levels_Wait.f k ([] : List (S37)) 9223372036854775807).bind fun bt690 => ((spigotlaw04_given.f).bind fun t692 => ((levels_Run.f k t692 ([] : List Int) ([] : List Int)).bind fun bt695 => ((spigotlaw04_given.f).bind fun t702 => ((levels_Take.f k t702 0 0).bind fun bt705 => ((spigotlaw04_given.f).bind fun t710 => ((levels_Take.f k t710 9 6).bind fun bt713 => ((spigotlaw04_given.f).bind fun t718 => ((levels_Wait.f k t718 6).bind fun bt721 => ((spigotlaw04_given.f).bind fun t723 => ((levels_Run.f k t723 (List.replicate 200 0) (List.replicate 200 0)).bind fun bt732 => (if bt685.2.2 = 0 then (if bt685.2.1 = true then (if (bt685.1.length : Int) = 0 then (if bt690.2 = 0 then (if bt690.1 = 0 then (if bt695.2.2 = 0 then ((spigotlaw04_given.f).bind fun t739 => ((spigotref04_Same.f k bt695.1 t739).bind fun t742 => (if t742 = true then (if (bt695.2.1.length : Int) = 0 then (if bt705.2.2 = 0 then (if bt705.2.1 = true then ((spigotlaw04_given.f).bind fun t743 => ((spigotref04_Same.f k bt705.1 t743).bind fun t746 => (if bt676.2.2 = 2 then (if t746 = true then (if bt713.2.2 = 0 then (if bt713.2.1 = true then (none) else (if (bt713.1.length : Int) = 2 then (if 0 < (bt713.1.length : Int) then (if ((rd_T37 bt713.1 0).f1) = 5 then (if ((rd_T37 bt713.1 0).f3) = 9 then (if bt721.2 = 0 then (if bt721.1 = 18446744073709551615 then (if bt732.2.2 = 0 then (if (bt732.2.1.length : Int) = 200 then (if (bt732.1.length : Int) = 2 then ((spigotlaw04_alive.f k).bind fun t749 => (some t749)) else (none)) else (none)) else (none)) else (none)) else (none)) else (none)) else (none)) else (none)) else (none))) else (none)) else (none)) else (none)))) else (none)) else (none)) else (none)) else (none)))) else (none)) else (none)) else (none)) else (none)) else (none)) else (none)))))))))))))) else (none)) else (none)) else (none)) else (none)) else (none)) else (none)) else (none)) else (none)) else (none)) else (none)) else (none))) else (none)))))) = some r := by first | (rw [hy657]; with_reducible exact H) | (have H2_ := (Option.bind_some _ _).symm.trans H; rw [hy657]; with_reducible exact H2_) | (have H2_ := (Option.bind_some _ _).symm.trans H; with_reducible exact H2_) | with_reducible exact H | (rw [hy657]; exact H) | exact H
 have Ny657 := Aside0.mk hy657
 clear hy657
 have H0_ := bo_ H; clear H; obtain ⟨⟨t660, t661, t662⟩, A18, H⟩ := H0_
 try dsimp only at H
 have H0_ := bo_ H; clear H; obtain ⟨t667, A19, H⟩ := H0_
 try dsimp only at H
 obtain ⟨y670, hy670⟩ : ∃ y_ : List Int, y_ = (List.replicate 1 0) := ⟨_, rfl⟩
 replace H : ((levels_Run.f k t667 y670 (([(-1)] : List Int))).bind fun bt676 => ((levels_Check.f k y580).bind fun t683 => (if t683 = 4 then ((levels_Check.f k y587).bind fun t684 => (if t684 = 8 then (if t591 = 4 then (if t595 = 8 then (if t600 = 8 then (if t608 = 2 then (if t615 = 2 then (if t620 = 2 then (if t623 = 4 then (if t636 = 4 then (if t649 = 2 then (if t662 = 2 then ((levels_Take.f k ([] : List (S37)) 5 9223372036854775807).bind fun bt685 => ((levels_Wait.f k ([] : List (S37)) 9223372036854775807).bind fun bt690 => ((spigotlaw04_given.f).bind fun t692 => ((levels_Run.f k t692 ([] : List Int) ([] : List Int)).bind fun bt695 => ((spigotlaw04_given.f).bind fun t702 => ((levels_Take.f k t702 0 0).bind fun bt705 => ((spigotlaw04_given.f).bind fun t710 => ((levels_Take.f k t710 9 6).bind fun bt713 => ((spigotlaw04_given.f).bind fun t718 => ((levels_Wait.f k t718 6).bind fun bt721 => ((spigotlaw04_given.f).bind fun t723 => ((levels_Run.f k t723 (List.replicate 200 0) (List.replicate 200 0)).bind fun bt732 => (if bt685.2.2 = 0 then (if bt685.2.1 = true then (if (bt685.1.length : Int) = 0 then (if bt690.2 = 0 then (if bt690.1 = 0 then (if bt695.2.2 = 0 then ((spigotlaw04_given.f).bind fun t739 => ((spigotref04_Same.f k bt695.1 t739).bind fun t742 => (if t742 = true then (if (bt695.2.1.length : Int) = 0 then (if bt705.2.2 = 0 then (if bt705.2.1 = true then ((spigotlaw04_given.f).bind fun t743 => ((spigotref04_Same.f k bt705.1 t743).bind fun t746 => (if bt676.2.2 = 2 then (if t746 = true then (if bt713.2.2 = 0 then (if bt713.2.1 = true then (none) else (if (bt713.1.length : Int) = 2 then (if 0 < (bt713.1.length : Int) then (if ((rd_T37 bt713.1 0).f1) = 5 then (if ((rd_T37 bt713.1 0).f3) = 9 then (if bt721.2 = 0 then (if bt721.1 = 18446744073709551615 then (if bt732.2.2 = 0 then (if (bt732.2.1.length : Int) = 200 then (if (bt732.1.length : Int) = 2 then ((spigotlaw04_alive.f k).bind fun t749 => (some t749)) else (none)) else (none)) else (none)) else (none)) else (none)) else (none)) else (none)) else (none)) else (none))) else (none)) else (none)) else (none)))) else (none)) else (none)) else (none)) else (none)))) else (none)) else (none)) else (none)) else (none)) else (none)) else (none)))))))))))))) else (none)) else (none)) else (none)) else (none)) else (none)) else (none)) else (none)) else (none)) else (none)) else (none)) else (none))) else (none)))) = some r := by first | (rw [hy670]; with_reducible exact H) | (have H2_ := (Option.bind_some _ _).symm.trans H; rw [hy670]; with_reducible exact H2_) | (have H2_ := (Option.bind_some _ _).symm.trans H; with_reducible exact H2_) | with_reducible exact H | (rw [hy670]; exact H) | exact H
 have Ny670 := Aside0.mk hy670
 clear hy670
 obtain ⟨y673, hy673⟩ : ∃ y_ : List Int, y_ = (([(-1)] : List Int)) := ⟨_, rfl⟩
 replace H : ((levels_Run.f k t667 y670 y673).bind fun bt676 => ((levels_Check.f k y580).bind fun t683 => (if t683 = 4 then ((levels_Check.f k y587).bind fun t684 => (if t684 = 8 then (if t591 = 4 then (if t595 = 8 then (if t600 = 8 then (if t608 = 2 then (if t615 = 2 then (if t620 = 2 then (if t623 = 4 then (if t636 = 4 then (if t649 = 2 then (if t662 = 2 then ((levels_Take.f k ([] : List (S37)) 5 9223372036854775807).bind fun bt685 => ((levels_Wait.f k ([] : List (S37)) 9223372036854775807).bind fun bt690 => ((spigotlaw04_given.f).bind fun t692 => ((levels_Run.f k t692 ([] : List Int) ([] : List Int)).bind fun bt695 => ((spigotlaw04_given.f).bind fun t702 => ((levels_Take.f k t702 0 0).bind fun bt705 => ((spigotlaw04_given.f).bind fun t710 => ((levels_Take.f k t710 9 6).bind fun bt713 => ((spigotlaw04_given.f).bind fun t718 => ((levels_Wait.f k t718 6).bind fun bt721 => ((spigotlaw04_given.f).bind fun t723 => ((levels_Run.f k t723 (List.replicate 200 0) (List.replicate 200 0)).bind fun bt732 => (if bt685.2.2 = 0 then (if bt685.2.1 = true then (if (bt685.1.length : Int) = 0 then (if bt690.2 = 0 then (if bt690.1 = 0 then (if bt695.2.2 = 0 then ((spigotlaw04_given.f).bind fun t739 => ((spigotref04_Same.f k bt695.1 t739).bind fun t742 => (if t742 = true then (if (bt695.2.1.length : Int) = 0 then (if bt705.2.2 = 0 then (if bt705.2.1 = true then ((spigotlaw04_given.f).bind fun t743 => ((spigotref04_Same.f k bt705.1 t743).bind fun t746 => (if bt676.2.2 = 2 then (if t746 = true then (if bt713.2.2 = 0 then (if bt713.2.1 = true then (none) else (if (bt713.1.length : Int) = 2 then (if 0 < (bt713.1.length : Int) then (if ((rd_T37 bt713.1 0).f1) = 5 then (if ((rd_T37 bt713.1 0).f3) = 9 then (if bt721.2 = 0 then (if bt721.1 = 18446744073709551615 then (if bt732.2.2 = 0 then (if (bt732.2.1.length : Int) = 200 then (if (bt732.1.length : Int) = 2 then ((spigotlaw04_alive.f k).bind fun t749 => (some t749)) else (none)) else (none)) else (none)) else (none)) else (none)) else (none)) else (none)) else (none)) else (none))) else (none)) else (none)) else (none)))) else (none)) else (none)) else (none)) else (none)))) else (none)) else (none)) else (none)) else (none)) else (none)) else (none)))))))))))))) else (none)) else (none)) else (none)) else (none)) else (none)) else (none)) else (none)) else (none)) else (none)) else (none)) else (none))) else (none)))) = some r := by first | (rw [hy673]; with_reducible exact H) | (have H2_ := (Option.bind_some _ _).symm.trans H; rw [hy673]; with_reducible exact H2_) | (have H2_ := (Option.bind_some _ _).symm.trans H; with_reducible exact H2_) | with_reducible exact H | (rw [hy673]; exact H) | exact H
 have Ny673 := Aside0.mk hy673
 clear hy673
 have H0_ := bo_ H; clear H; obtain ⟨⟨t676, t677, t678⟩, A20, H⟩ := H0_
 try dsimp only at H
 have H0_ := bo_ H; clear H; obtain ⟨t683, A21, H⟩ := H0_
 try dsimp only at H
 obtain ⟨c22b0, c22b1, H⟩ := ct_ H
 have H0_ := bo_ H; clear H; obtain ⟨t684, A23, H⟩ := H0_
 try dsimp only at H
 obtain ⟨c24b0, c24b1, H⟩ := ct_ H
 obtain ⟨c25b0, c25b1, H⟩ := ct_ H
 obtain ⟨c26b0, c26b1, H⟩ := ct_ H
 obtain ⟨c27b0, c27b1, H⟩ := ct_ H
 obtain ⟨c28b0, c28b1, H⟩ := ct_ H
 obtain ⟨c29b0, c29b1, H⟩ := ct_ H
 obtain ⟨c30b0, c30b1, H⟩ := ct_ H
 obtain ⟨c31b0, c31b1, H⟩ := ct_ H
 obtain ⟨c32b0, c32b1, H⟩ := ct_ H
 obtain ⟨c33b0, c33b1, H⟩ := ct_ H
 obtain ⟨c34b0, c34b1, H⟩ := ct_ H
 have H0_ := bo_ H; clear H; obtain ⟨⟨t685, t686, t687⟩, A35, H⟩ := H0_
 try dsimp only at H
 have H0_ := bo_ H; clear H; obtain ⟨⟨t690, t691⟩, A36, H⟩ := H0_
 try dsimp only at H
 have H0_ := bo_ H; clear H; obtain ⟨t692, A37, H⟩ := H0_
 try dsimp only at H
 have H0_ := bo_ H; clear H; obtain ⟨⟨t695, t696, t697⟩, A38, H⟩ := H0_
 try dsimp only at H
 have H0_ := bo_ H; clear H; obtain ⟨t702, A39, H⟩ := H0_
 try dsimp only at H
 have H0_ := bo_ H; clear H; obtain ⟨⟨t705, t706, t707⟩, A40, H⟩ := H0_
 try dsimp only at H
 have H0_ := bo_ H; clear H; obtain ⟨t710, A41, H⟩ := H0_
 try dsimp only at H
 have H0_ := bo_ H; clear H; obtain ⟨⟨t713, t714, t715⟩, A42, H⟩ := H0_
 try dsimp only at H
 have H0_ := bo_ H; clear H; obtain ⟨t718, A43, H⟩ := H0_
 try dsimp only at H
 have H0_ := bo_ H; clear H; obtain ⟨⟨t721, t722⟩, A44, H⟩ := H0_
 try dsimp only at H
 have H0_ := bo_ H; clear H; obtain ⟨t723, A45, H⟩ := H0_
 try dsimp only at H
 obtain ⟨y726, hy726⟩ : ∃ y_ : List Int, y_ = (List.replicate 200 0) := ⟨_, rfl⟩
 replace H : ((levels_Run.f k t723 y726 (List.replicate 200 0)).bind fun bt732 => (if t687 = 0 then (if t686 = true then (if (t685.length : Int) = 0 then (if t691 = 0 then (if t690 = 0 then (if t697 = 0 then ((spigotlaw04_given.f).bind fun t739 => ((spigotref04_Same.f k t695 t739).bind fun t742 => (if t742 = true then (if (t696.length : Int) = 0 then (if t707 = 0 then (if t706 = true then ((spigotlaw04_given.f).bind fun t743 => ((spigotref04_Same.f k t705 t743).bind fun t746 => (if t678 = 2 then (if t746 = true then (if t715 = 0 then (if t714 = true then (none) else (if (t713.length : Int) = 2 then (if 0 < (t713.length : Int) then (if ((rd_T37 t713 0).f1) = 5 then (if ((rd_T37 t713 0).f3) = 9 then (if t722 = 0 then (if t721 = 18446744073709551615 then (if bt732.2.2 = 0 then (if (bt732.2.1.length : Int) = 200 then (if (bt732.1.length : Int) = 2 then ((spigotlaw04_alive.f k).bind fun t749 => (some t749)) else (none)) else (none)) else (none)) else (none)) else (none)) else (none)) else (none)) else (none)) else (none))) else (none)) else (none)) else (none)))) else (none)) else (none)) else (none)) else (none)))) else (none)) else (none)) else (none)) else (none)) else (none)) else (none))) = some r := by first | (rw [hy726]; with_reducible exact H) | (have H2_ := (Option.bind_some _ _).symm.trans H; rw [hy726]; with_reducible exact H2_) | (have H2_ := (Option.bind_some _ _).symm.trans H; with_reducible exact H2_) | with_reducible exact H | (rw [hy726]; exact H) | exact H
 have Ny726 := Aside0.mk hy726
 clear hy726
 obtain ⟨y729, hy729⟩ : ∃ y_ : List Int, y_ = (List.replicate 200 0) := ⟨_, rfl⟩
 replace H : ((levels_Run.f k t723 y726 y729).bind fun bt732 => (if t687 = 0 then (if t686 = true then (if (t685.length : Int) = 0 then (if t691 = 0 then (if t690 = 0 then (if t697 = 0 then ((spigotlaw04_given.f).bind fun t739 => ((spigotref04_Same.f k t695 t739).bind fun t742 => (if t742 = true then (if (t696.length : Int) = 0 then (if t707 = 0 then (if t706 = true then ((spigotlaw04_given.f).bind fun t743 => ((spigotref04_Same.f k t705 t743).bind fun t746 => (if t678 = 2 then (if t746 = true then (if t715 = 0 then (if t714 = true then (none) else (if (t713.length : Int) = 2 then (if 0 < (t713.length : Int) then (if ((rd_T37 t713 0).f1) = 5 then (if ((rd_T37 t713 0).f3) = 9 then (if t722 = 0 then (if t721 = 18446744073709551615 then (if bt732.2.2 = 0 then (if (bt732.2.1.length : Int) = 200 then (if (bt732.1.length : Int) = 2 then ((spigotlaw04_alive.f k).bind fun t749 => (some t749)) else (none)) else (none)) else (none)) else (none)) else (none)) else (none)) else (none)) else (none)) else (none))) else (none)) else (none)) else (none)))) else (none)) else (none)) else (none)) else (none)))) else (none)) else (none)) else (none)) else (none)) else (none)) else (none))) = some r := by first | (rw [hy729]; with_reducible exact H) | (have H2_ := (Option.bind_some _ _).symm.trans H; rw [hy729]; with_reducible exact H2_) | (have H2_ := (Option.bind_some _ _).symm.trans H; with_reducible exact H2_) | with_reducible exact H | (rw [hy729]; exact H) | exact H
 have Ny729 := Aside0.mk hy729
 clear hy729
 have H0_ := bo_ H; clear H; obtain ⟨⟨t732, t733, t734⟩, A46, H⟩ := H0_
 try dsimp only at H
 obtain ⟨c47b0, c47b1, H⟩ := ct_ H
 by_cases c48 : t686 = true
 ·subst c48
  rw [if_pos rfl] at H
  try dsimp only at H
  obtain ⟨c49b0, c49b1, H⟩ := ct_ H
  obtain ⟨c50b0, c50b1, H⟩ := ct_ H
  obtain ⟨c51b0, c51b1, H⟩ := ct_ H
  obtain ⟨c52b0, c52b1, H⟩ := ct_ H
  have H0_ := bo_ H; clear H; obtain ⟨t739, A53, H⟩ := H0_
  try dsimp only at H
  have H0_ := bo_ H; clear H; obtain ⟨t742, A54, H⟩ := H0_
  try dsimp only at H
  by_cases c55 : t742 = true
  ·subst c55
   rw [if_pos rfl] at H
   try dsimp only at H
   obtain ⟨c56b0, c56b1, H⟩ := ct_ H
   obtain ⟨c57b0, c57b1, H⟩ := ct_ H
   by_cases c58 : t706 = true
   ·subst c58
    rw [if_pos rfl] at H
    try dsimp only at H
    have H0_ := bo_ H; clear H; obtain ⟨t743, A59, H⟩ := H0_
    try dsimp only at H
    have H0_ := bo_ H; clear H; obtain ⟨t746, A60, H⟩ := H0_
    try dsimp only at H
    obtain ⟨c61b0, c61b1, H⟩ := ct_ H
    by_cases c62 : t746 = true
    ·subst c62
     rw [if_pos rfl] at H
     try dsimp only at H
     obtain ⟨c63b0, c63b1, H⟩ := ct_ H
     by_cases c64 : t714 = true
     ·subst c64
      replace H : (none) = some r := by rw [if_pos rfl] at H; exact H
      exact absurd H (by simp)
     ·replace c64 := Bool.eq_false_iff.mpr c64
      subst c64
      rw [if_neg (show ¬ (false = true) by decide)] at H
      try dsimp only at H
      obtain ⟨c65b0, c65b1, H⟩ := ct_ H
      by_cases c66 : 0 < (t713.length : Int)
      rotate_left
      ·rw [if_neg c66] at H; exact absurd H (by simp)
      rw [if_pos c66] at H
      have c66b0 : decide (0 < (t713.length : Int)) = true := decide_eq_true c66
      have c66b1 : decide (0 < t713.length) = true := decide_eq_true (by omega)
      clear c66
      obtain ⟨c67b0, c67b1, H⟩ := ct_ H
      obtain ⟨c68b0, c68b1, H⟩ := ct_ H
      obtain ⟨c69b0, c69b1, H⟩ := ct_ H
      obtain ⟨c70b0, c70b1, H⟩ := ct_ H
      obtain ⟨c71b0, c71b1, H⟩ := ct_ H
      obtain ⟨c72b0, c72b1, H⟩ := ct_ H
      obtain ⟨c73b0, c73b1, H⟩ := ct_ H
      have H0_ := bo_ H; clear H; obtain ⟨t749, A74, H⟩ := H0_
      replace H : (some t749) = some r := H
      obtain rfl := Option.some.inj H
      go_enter Try.func8, Try.ntmps8
      try simp only [List.append]
      try go_wp2_with (first | ((with_reducible refine gate_dst (N := 53) rfl ?_); (try refine ug_ (by rfl) ?_); refine Kd.R_make k37 _ 37 rfl (N := 53) rfl 22 _ _ rfl 9 rfl rfl Try.underlying22 (.agg #[(.int .i64 0), (.int .i64 0), (.int .i64 0), (.int .i64 0), (.int .i64 0), (.int .u64 0)]) 48 info37 rfl (by decide) (by omega) z37 (ok := fun _ => True) (okp := fun _ => True) (k37_mkM _ _ _ z37 ) (fun _ hk => hk) trivial (by omega) (by omega) (Below.refl _ _) (Nat.le_refl _) ?_; intro v581 w75 ho76 hb hg_ hnew_; clear hg_ hnew_; (first | rw [← Ny580.out] at ho76 | (simp only [Int.reduceToNat] at ho76; rw [← Ny580.out] at ho76)); have HO582 := Aside0.mk (Kd.R_lower ho76 (below_size (hq_ HB))); replace HB := bs_ w hb; clear hb ho76) | ((with_reducible refine gate_callee (f := 31) rfl ?_); (try refine ug_ (by rfl) ?_); refine goesA_ (some 54) Try.func31 #[] ?_; (with_reducible refine (spigotlaw04_given.calls  t583 _ A1.out).mono ?_); rintro e w77 ⟨v584, rfl, ho0, hb⟩; refine ⟨_, rfl, ?_⟩; have HO585 := Aside0.mk (Kd.R_lower (Kd.R_new' ho0 (Kd.R_lt (rs_ HO582))) (below_size (hq_ HB))); replace HO582 := Aside0.mk (Kd.R_elder' (rs_ HO582) (Kd.R_base ho0) hb); replace HB := bs_ w hb; (try clear hb); (try clear hb2); (try clear hk); (try clear hi); (try clear ho0); obtain ⟨Ao78, co78, eo78⟩ := Kd.R_slice HO585.out; subst eo78; have p586 : 0 ≤ (0 : Int) := (by omega); have q586 : 0 < (t583.length : Int) := of_decide_eq_true (by first | (with_reducible assumption) | assumption); obtain ⟨ad586, e586, hx586_0, hx586_1, hx586_2, hx586_3, hx586_4, hx586_5⟩ := at_T37 (Kd.R_reads' HO585.out).2.2 0 p586 q586; cases e586; have qi586 : (0 < t583.length) = True := eq_true (by omega); (try rw [show ((0 : Int)).toNat = 0 from rfl] at hx586_0); (try rw [show 0 * 6 = 0 from rfl] at hx586_0); (try rw [Addr.add_zero'] at hx586_0); (try rw [show ((0 : Int)).toNat = 0 from rfl] at hx586_1); (try rw [show 0 * 6 = 0 from rfl] at hx586_1); (try rw [Addr.add_zero'] at hx586_1); (try rw [show ((0 : Int)).toNat = 0 from rfl] at hx586_2); (try rw [show 0 * 6 = 0 from rfl] at hx586_2); (try rw [Addr.add_zero'] at hx586_2); (try rw [show ((0 : Int)).toNat = 0 from rfl] at hx586_3); (try rw [show 0 * 6 = 0 from rfl] at hx586_3); (try rw [Addr.add_zero'] at hx586_3); (try rw [show ((0 : Int)).toNat = 0 from rfl] at hx586_4); (try rw [show 0 * 6 = 0 from rfl] at hx586_4); (try rw [Addr.add_zero'] at hx586_4); (try rw [show ((0 : Int)).toNat = 0 from rfl] at hx586_5); (try rw [show 0 * 6 = 0 from rfl] at hx586_5); (try rw [Addr.add_zero'] at hx586_5); replace p586 := eq_true p586; replace q586 := eq_true q586; have n_ := Aside0.mk (Kd.R_mono (ok' := (fun _ => True)) HO582.out (fun k_ hk => trivial)); clear HO582; have HO582 := n_; clear n_; (try clear HO585)) | ((with_reducible refine gate_dst (N := 58) rfl ?_); (try refine ug_ (by rfl) ?_); refine Kd.R_lit k37 _ 37 ?hg (N := 58) ?hd (xs := ([(⟨(⟨(rd_T37 t583 0).f0.f0, (rd_T37 t583 0).f0.f1, (rd_T37 t583 0).f0.f2⟩ : S34), (rd_T37 t583 0).f1, (rd_T37 t583 0).f2, (rd_T37 t583 0).f3⟩ : S37), (⟨(⟨0, 0, 0⟩ : S34), 0, 0, 0⟩ : S37)] : List (S37))) (inner := [.int .i64 ((rd_T37 t583 0).f0.f0), .int .i64 ((rd_T37 t583 0).f0.f1), .int .i64 ((rd_T37 t583 0).f0.f2), .int .i64 ((rd_T37 t583 0).f1), .int .i64 ((rd_T37 t583 0).f2), .int .u64 ((rd_T37 t583 0).f3), .int .i64 0, .int .i64 0, .int .i64 0, .int .i64 0, .int .i64 0, .int .u64 0]) (ok := fun _ => True) (okp := fun _ => True) ?hr ?hp (fun _ hk => hk) trivial (Below.refl _ _) (Nat.le_refl _) (by simp) ?_; (case hd => rfl); (case hg => rfl); (case hr => first | (go_simp; done) | (go_simp; rfl)); (case hp => exact (Reps.c6 (show Kd.M k37 _ _ _ (⟨(⟨(rd_T37 t583 0).f0.f0, (rd_T37 t583 0).f0.f1, (rd_T37 t583 0).f0.f2⟩ : S34), (rd_T37 t583 0).f1, (rd_T37 t583 0).f2, (rd_T37 t583 0).f3⟩ : S37) [.int .i64 ((rd_T37 t583 0).f0.f0), .int .i64 ((rd_T37 t583 0).f0.f1), .int .i64 ((rd_T37 t583 0).f0.f2), .int .i64 ((rd_T37 t583 0).f1), .int .i64 ((rd_T37 t583 0).f2), .int .u64 ((rd_T37 t583 0).f3)] from (k37_mkM _ _ _ (⟨(⟨(rd_T37 t583 0).f0.f0, (rd_T37 t583 0).f0.f1, (rd_T37 t583 0).f0.f2⟩ : S34), (rd_T37 t583 0).f1, (rd_T37 t583 0).f2, (rd_T37 t583 0).f3⟩ : S37) )) (Reps.c6 (show Kd.M k37 _ _ _ (⟨(⟨0, 0, 0⟩ : S34), 0, 0, 0⟩ : S37) [.int .i64 0, .int .i64 0, .int .i64 0, .int .i64 0, .int .i64 0, .int .u64 0] from (k37_mkM _ _ _ (⟨(⟨0, 0, 0⟩ : S34), 0, 0, 0⟩ : S37) )) (Reps.none _ _)))); intro v588 w79 ho80 hb hg_ hnew_; clear hg_ hnew_; (first | rw [← Ny587.out] at ho80 | (simp only [Int.reduceToNat] at ho80; rw [← Ny587.out] at ho80)); have HO589 := Aside0.mk (Kd.R_lower (Kd.R_new' ho80 (Kd.R_lt (rs_ HO582))) (below_size (hq_ HB))); replace HO582 := Aside0.mk (Kd.R_elder' (rs_ HO582) (Kd.R_base ho80) hb); replace HB := bs_ w hb; clear hb ho80; obtain ⟨Ao81, co81, eo81⟩ := Kd.R_slice HO582.out; subst eo81) | ((with_reducible refine gate_callee (f := 19) rfl ?_); (try refine ug_ (by rfl) ?_); refine goesA_ (some 61) Try.func19 #[.slice Ao81 y580.length co81, .int .u64 0] ?_; (with_reducible refine (levels_Refill.calls k _ _ y580 0 t590 t591 _ ?side1 ?side2 A3.out).mono ?_); (case side1 => exact cr_ HO582); (case side2 => exact (Kd.R_reads' HO582.out).2.1); rintro e w82 ⟨v592, rfl, ho0, hb⟩; refine ⟨_, rfl, ?_⟩; have HO593 := Aside0.mk (Kd.R_lower (Kd.R_new' (Kd.R_new' ho0 (Kd.R_lt (rs_ HO582))) (Kd.R_lt (rs_ HO589))) (below_size (hq_ HB))); replace HO582 := Aside0.mk (Kd.R_elder' (rs_ HO582) (Kd.R_base ho0) hb); replace HO589 := Aside0.mk (Kd.R_elder' (rs_ HO589) (Kd.R_base ho0) hb); replace HB := bs_ w hb; (try clear hb); (try clear hb2); (try clear hk); (try clear hi); (try clear ho0); have n_ := Aside0.mk (Kd.R_mono (ok' := (fun k_ => some k_ ≠ (v588 : Value).ownBlock)) HO582.out (fun k_ hk => hk.1.2)); clear HO582; have HO582 := n_; clear n_; have n_ := Aside0.mk (Kd.R_mono (ok' := (fun k_ => some k_ ≠ (.slice Ao81 y580.length co81 : Value).ownBlock)) HO589.out (fun k_ hk => hk.1.2)); clear HO589; have HO589 := n_; clear n_; (try clear HO593); obtain ⟨Ao83, co83, eo83⟩ := Kd.R_slice HO589.out; subst eo83) | ((with_reducible refine gate_callee (f := 19) rfl ?_); (try refine ug_ (by rfl) ?_); refine goesA_ (some 66) Try.func19 #[.slice Ao83 y587.length co83, .int .u64 0] ?_; (with_reducible refine (levels_Refill.calls k _ _ y587 0 t594 t595 _ ?side1 ?side2 A4.out).mono ?_); (case side1 => exact cr_ HO589); (case side2 => exact (Kd.R_reads' HO589.out).2.1); rintro e w84 ⟨v596, rfl, ho0, hb⟩; refine ⟨_, rfl, ?_⟩; have HO597 := Aside0.mk (Kd.R_lower (Kd.R_new' (Kd.R_new' ho0 (Kd.R_lt (rs_ HO582))) (Kd.R_lt (rs_ HO589))) (below_size (hq_ HB))); replace HO582 := Aside0.mk (Kd.R_elder' (rs_ HO582) (Kd.R_base ho0) hb); replace HO589 := Aside0.mk (Kd.R_elder' (rs_ HO589) (Kd.R_base ho0) hb); replace HB := bs_ w hb; (try clear hb); (try clear hb2); (try clear hk); (try clear hi); (try clear ho0); have n_ := Aside0.mk (Kd.R_mono (ok' := (fun k_ => some k_ ≠ (.slice Ao83 y587.length co83 : Value).ownBlock)) HO582.out (fun k_ hk => hk.1)); clear HO582; have HO582 := n_; clear n_; have n_ := Aside0.mk (Kd.R_mono (ok' := (fun k_ => some k_ ≠ (.slice Ao81 y580.length co81 : Value).ownBlock)) HO589.out (fun k_ hk => hk.1)); clear HO589; have HO589 := n_; clear n_; (try clear HO597)) | ((with_reducible refine gate_callee (f := 23) rfl ?_); (try refine ug_ (by rfl) ?_); refine goesA_ (some 71) Try.func23 #[.slice Ao83 y587.length co83, .int .u64 0, .int .i64 (-1)] ?_; (with_reducible refine (levels_Take.calls k _ _ y587 0 (-1) t598 t599 t600 _ ?side1 ?side2 A5.out).mono ?_); (case side1 => exact cr_ HO589); (case side2 => exact (Kd.R_reads' HO589.out).2.1); rintro e w85 ⟨v601, rfl, ho0, hb⟩; refine ⟨_, rfl, ?_⟩; have HO602 := Aside0.mk (Kd.R_lower (Kd.R_new' (Kd.R_new' ho0 (Kd.R_lt (rs_ HO582))) (Kd.R_lt (rs_ HO589))) (below_size (hq_ HB))); replace HO582 := Aside0.mk (Kd.R_elder' (rs_ HO582) (Kd.R_base ho0) hb); replace HO589 := Aside0.mk (Kd.R_elder' (rs_ HO589) (Kd.R_base ho0) hb); replace HB := bs_ w hb; (try clear hb); (try clear hb2); (try clear hk); (try clear hi); (try clear ho0); have n_ := Aside0.mk (Kd.R_mono (ok' := (fun k_ => some k_ ≠ (.slice Ao83 y587.length co83 : Value).ownBlock)) HO582.out (fun k_ hk => hk.1)); clear HO582; have HO582 := n_; clear n_; have n_ := Aside0.mk (Kd.R_mono (ok' := (fun k_ => some k_ ≠ (.slice Ao81 y580.length co81 : Value).ownBlock)) HO589.out (fun k_ hk => hk.1)); clear HO589; have HO589 := n_; clear n_; (try clear HO602)) | ((with_reducible refine gate_callee (f := 31) rfl ?_); (try refine ug_ (by rfl) ?_); refine goesA_ (some 76) Try.func31 #[] ?_; (with_reducible refine (spigotlaw04_given.calls  t603 _ A6.out).mono ?_); rintro e w86 ⟨v604, rfl, ho0, hb⟩; refine ⟨_, rfl, ?_⟩; have HO605 := Aside0.mk (Kd.R_lower (Kd.R_new' (Kd.R_new' ho0 (Kd.R_lt (rs_ HO582))) (Kd.R_lt (rs_ HO589))) (below_size (hq_ HB))); replace HO582 := Aside0.mk (Kd.R_elder' (rs_ HO582) (Kd.R_base ho0) hb); replace HO589 := Aside0.mk (Kd.R_elder' (rs_ HO589) (Kd.R_base ho0) hb); replace HB := bs_ w hb; (try clear hb); (try clear hb2); (try clear hk); (try clear hi); (try clear ho0); obtain ⟨Ao87, co87, eo87⟩ := Kd.R_slice HO605.out; subst eo87) | ((with_reducible refine gate_callee (f := 23) rfl ?_); (try refine ug_ (by rfl) ?_); refine goesA_ (some 77) Try.func23 #[.slice Ao87 t603.length co87, .int .u64 0, .int .i64 (-1)] ?_; (with_reducible refine (levels_Take.calls k _ _ t603 0 (-1) t606 t607 t608 _ ?side1 ?side2 A7.out).mono ?_); (case side1 => exact cr_ HO605); (case side2 => exact (Kd.R_reads' HO605.out).2.1); rintro e w88 ⟨v609, rfl, ho0, hb⟩; refine ⟨_, rfl, ?_⟩; have HO610 := Aside0.mk (Kd.R_lower (Kd.R_new' (Kd.R_new' (Kd.R_new' ho0 (Kd.R_lt (rs_ HO582))) (Kd.R_lt (rs_ HO589))) (Kd.R_lt (rs_ HO605))) (below_size (hq_ HB))); replace HO582 := Aside0.mk (Kd.R_elder' (rs_ HO582) (Kd.R_base ho0) hb); replace HO589 := Aside0.mk (Kd.R_elder' (rs_ HO589) (Kd.R_base ho0) hb); replace HO605 := Aside0.mk (Kd.R_elder' (rs_ HO605) (Kd.R_base ho0) hb); replace HB := bs_ w hb; (try clear hb); (try clear hb2); (try clear hk); (try clear hi); (try clear ho0); have n_ := Aside0.mk (Kd.R_mono (ok' := (fun k_ => some k_ ≠ (.slice Ao83 y587.length co83 : Value).ownBlock)) HO582.out (fun k_ hk => hk.1.1)); clear HO582; have HO582 := n_; clear n_; have n_ := Aside0.mk (Kd.R_mono (ok' := (fun k_ => some k_ ≠ (.slice Ao81 y580.length co81 : Value).ownBlock)) HO589.out (fun k_ hk => hk.1.1)); clear HO589; have HO589 := n_; clear n_; (try clear HO605 HO610)) | ((with_reducible refine gate_callee (f := 31) rfl ?_); (try refine ug_ (by rfl) ?_); refine goesA_ (some 82) Try.func31 #[] ?_; (with_reducible refine (spigotlaw04_given.calls  t611 _ A8.out).mono ?_); rintro e w89 ⟨v612, rfl, ho0, hb⟩; refine ⟨_, rfl, ?_⟩; have HO613 := Aside0.mk (Kd.R_lower (Kd.R_new' (Kd.R_new' ho0 (Kd.R_lt (rs_ HO582))) (Kd.R_lt (rs_ HO589))) (below_size (hq_ HB))); replace HO582 := Aside0.mk (Kd.R_elder' (rs_ HO582) (Kd.R_base ho0) hb); replace HO589 := Aside0.mk (Kd.R_elder' (rs_ HO589) (Kd.R_base ho0) hb); replace HB := bs_ w hb; (try clear hb); (try clear hb2); (try clear hk); (try clear hi); (try clear ho0); obtain ⟨Ao90, co90, eo90⟩ := Kd.R_slice HO613.out; subst eo90) | ((with_reducible refine gate_callee (f := 20) rfl ?_); (try refine ug_ (by rfl) ?_); refine goesA_ (some 83) Try.func20 #[.slice Ao90 t611.length co90, .int .i64 (-1)] ?_; (with_reducible refine (levels_Holds.calls k _ _ t611 (-1) t614 t615 _ ?side1 ?side2 A9.out).mono ?_); (case side1 => exact cr_ HO613); (case side2 => exact (Kd.R_reads' HO613.out).2.1); rintro e w91 ⟨rfl, hb⟩; refine ⟨_, rfl, ?_⟩; replace HO582 := rb_ HO582 hb; replace HO589 := rb_ HO589 hb; replace HO613 := rb_ HO613 hb; replace HB := bs_ w hb; clear hb; have n_ := Aside0.mk (Kd.R_mono (ok' := (fun k_ => some k_ ≠ (.slice Ao83 y587.length co83 : Value).ownBlock)) HO582.out (fun k_ hk => hk.1)); clear HO582; have HO582 := n_; clear n_; have n_ := Aside0.mk (Kd.R_mono (ok' := (fun k_ => some k_ ≠ (.slice Ao81 y580.length co81 : Value).ownBlock)) HO589.out (fun k_ hk => hk.1)); clear HO589; have HO589 := n_; clear n_; (try clear HO613)) | ((with_reducible refine gate_callee (f := 31) rfl ?_); (try refine ug_ (by rfl) ?_); refine goesA_ (some 87) Try.func31 #[] ?_; (with_reducible refine (spigotlaw04_given.calls  t616 _ A10.out).mono ?_); rintro e w92 ⟨v617, rfl, ho0, hb⟩; refine ⟨_, rfl, ?_⟩; have HO618 := Aside0.mk (Kd.R_lower (Kd.R_new' (Kd.R_new' ho0 (Kd.R_lt (rs_ HO582))) (Kd.R_lt (rs_ HO589))) (below_size (hq_ HB))); replace HO582 := Aside0.mk (Kd.R_elder' (rs_ HO582) (Kd.R_base ho0) hb); replace HO589 := Aside0.mk (Kd.R_elder' (rs_ HO589) (Kd.R_base ho0) hb); replace HB := bs_ w hb; (try clear hb); (try clear hb2); (try clear hk); (try clear hi); (try clear ho0); obtain ⟨Ao93, co93, eo93⟩ := Kd.R_slice HO618.out; subst eo93) | ((with_reducible refine gate_callee (f := 18) rfl ?_); (try refine ug_ (by rfl) ?_); refine goesA_ (some 88) Try.func18 #[.slice Ao93 t616.length co93, .int .i64 (-1)] ?_; (with_reducible refine (levels_Wait.calls k _ _ t616 (-1) t619 t620 _ ?side1 ?side2 A11.out).mono ?_); (case side1 => exact cr_ HO618); (case side2 => exact (Kd.R_reads' HO618.out).2.1); rintro e w94 ⟨rfl, hb⟩; refine ⟨_, rfl, ?_⟩; replace HO582 := rb_ HO582 hb; replace HO589 := rb_ HO589 hb; replace HO618 := rb_ HO618 hb; replace HB := bs_ w hb; clear hb; have n_ := Aside0.mk (Kd.R_mono (ok' := (fun k_ => some k_ ≠ (.slice Ao83 y587.length co83 : Value).ownBlock)) HO582.out (fun k_ hk => hk.1)); clear HO582; have HO582 := n_; clear n_; have n_ := Aside0.mk (Kd.R_mono (ok' := (fun k_ => some k_ ≠ (.slice Ao81 y580.length co81 : Value).ownBlock)) HO589.out (fun k_ hk => hk.1)); clear HO589; have HO589 := n_; clear n_; (try clear HO618)) | ((with_reducible refine gate_callee (f := 12) rfl ?_); (try refine ug_ (by rfl) ?_); refine goesA_ (some 93) Try.func12 #[.slice Ao81 y580.length co81, .slice none 0 0, .slice none 0 0] ?_; (refine (levels_Run.calls k _ _ y580 _ _ ([] : List Int) _ _ ([] : List Int) t621 t622 t623 _ ?side1 ?side2 ?side3 ?side4 ?side5 ?side6 A12.out).mono ?_); (case side1 => exact cr_ HO582); (case side2 => exact (Kd.R_reads' HO582.out).2.1); (case side3 => exact Kd.C_nil _ _); (case side4 => exact Nat.le_refl _); (case side5 => exact Kd.C_nil _ _); (case side6 => exact Nat.le_refl _); rintro e w95 ⟨v624, v626, rfl, ho0, ho1, hb⟩; refine ⟨_, rfl, ?_⟩; have HO625 := Aside0.mk (Kd.R_lower (Kd.R_new' (Kd.R_new' ho0 (Kd.R_lt (rs_ HO582))) (Kd.R_lt (rs_ HO589))) (below_size (hq_ HB))); have HO627 := Aside0.mk (Kd.R_lower ho1 (below_size (hq_ HB))); replace HO582 := Aside0.mk (Kd.R_elder' (rs_ HO582) (Kd.R_base ho0) hb); replace HO589 := Aside0.mk (Kd.R_elder' (rs_ HO589) (Kd.R_base ho0) hb); replace HB := bs_ w hb; (try clear hb); (try clear hb2); (try clear hk); (try clear hi); (try clear ho0); (try clear ho1); have n_ := Aside0.mk (Kd.R_mono (ok' := (fun k_ => some k_ ≠ (.slice Ao83 y587.length co83 : Value).ownBlock)) HO582.out (fun k_ hk => hk.1)); clear HO582; have HO582 := n_; clear n_; have n_ := Aside0.mk (Kd.R_mono (ok' := (fun k_ => some k_ ≠ (.slice Ao81 y580.length co81 : Value).ownBlock)) HO589.out (fun k_ hk => hk.1)); clear HO589; have HO589 := n_; clear n_; (try clear HO625 HO627)))
      replace HO582 := Aside0.mk (Kd.R_drew HO582.out)
      replace HO589 := Aside0.mk (Kd.R_drew HO589.out)
      replace HB := Aside0.mk (below_drew1 HB.out)
      refine start_ (n := 10) (S := fun w' => True) (ds := []) (bl_ 10 0) (by kernel_rfl) rfl (by kernel_rfl) trivial (fun hHeld => ?_); refine with_tabW spigotlaw04_LevelsNames.tab10 spigotlaw04_LevelsNames.bits10 (fun HT_ HW_ => ?_)
      generalize w95.drew = w96 at HO582 HO589 HB hHeld ⊢
      refine join_ (σ := Value × Value) 8 (bl_ 10 3) (fun s_ => [(98, s_.1), (99, s_.2)]) (fun s_ w' => (Kd.R k37 37 w' w.heap.size (fun k_ => some k_ ≠ (.slice Ao83 y587.length co83 : Value).ownBlock ∧ some k_ ≠ (s_.1 : Value).ownBlock) (.slice Ao81 y580.length co81) y580) ∧ (Kd.R k37 37 w' w.heap.size (fun k_ => some k_ ≠ (.slice Ao81 y580.length co81 : Value).ownBlock ∧ some k_ ≠ (s_.1 : Value).ownBlock) (.slice Ao83 y587.length co83) y587) ∧ (Kd.R k37 37 w' w.heap.size (fun k_ => some k_ ≠ (.slice Ao81 y580.length co81 : Value).ownBlock ∧ some k_ ≠ (.slice Ao83 y587.length co83 : Value).ownBlock) s_.1 t628) ∧ (Kd.R (Kd.int .u64) 35 w' w.heap.size (fun _ => True) s_.2 y631) ∧ (Below w.heap.size w w')) ?_ ?_
      rotate_left
      ·intro hCont
       refine tw_ 0 1 (some 98) (some 99) (bl_ 10 1) (bl_ 10 2) HT_ (fun K hK => ?_) fun K hK => ?_
       ·refine goesB_ Try.func31 #[] ?_
        with_reducible refine (spigotlaw04_given.calls  t628 _ A13.out).mono ?_
        rintro e w97 ⟨v629, rfl, ho0, hb⟩
        refine ⟨_, rfl, ?_⟩
        have HO630 := Aside0.mk (Kd.R_lower (Kd.R_new' (Kd.R_new' ho0 (Kd.R_lt (rs_ HO582))) (Kd.R_lt (rs_ HO589))) (below_size (hq_ HB)))
        replace HO582 := Aside0.mk (Kd.R_elder' (rs_ HO582) (Kd.R_base ho0) hb)
        replace HO589 := Aside0.mk (Kd.R_elder' (rs_ HO589) (Kd.R_base ho0) hb)
        replace HB := bs_ w hb
        (try clear hb)
        (try clear hb2)
        (try clear hk)
        (try clear hi)
        (try clear ho0)
        refine hK.out _ _ trivial (fun hHeld => ?_)
        clear hK K
        refine nm_ (some 98) ?_
        refine oa_ 1 (some 99) (bl_ 10 3) HT_ fun K hK => ?_
        refine Kd.R_make_step (Kd.int .u64) _ 35 (by rfl) (N := 99) rfl 23 _ _ rfl 201 rfl rfl Try.underlying23 (.int .u64 0) 8 info35 rfl (by decide) (by omega) 0 (ok := fun _ => True) (okp := fun _ => True) rfl (fun _ hk => hk) trivial (by omega) (by omega) (Below.refl _ _) (Nat.le_refl _) ?_
        intro v632 w98 ho99 hb hg_ hnew_
        clear hg_ hnew_
        (first | rw [← Ny631.out] at ho99 | (simp only [Int.reduceToNat] at ho99; rw [← Ny631.out] at ho99))
        have HO633 := Aside0.mk (Kd.R_lower ho99 (below_size (hq_ HB)))
        replace HO582 := rb_ HO582 hb
        replace HO589 := rb_ HO589 hb
        replace HO630 := rb_ HO630 hb
        replace HB := bs_ w hb
        clear hb ho99
        refine hK.out _ _ trivial (fun hHeld => ?_)
        clear hK K
        refine nm_ (some 99) ?_
        exact no_ (hCont (v629, v632) _ ⟨(rs_ HO582), (rs_ HO589), (by (with_reducible repeat (first | apply Kd.R_alloc | apply Kd.R_drewN | apply Kd.R_drew)); exact Kd.R_mono HO630.out (fun _ hk => ⟨hk.1.2, hk.2⟩)), (rs_ HO633), (hq_ HB)⟩)
       ·refine Kd.R_make_step (Kd.int .u64) _ 35 (by rfl) (N := 99) rfl 23 _ _ rfl 201 rfl rfl Try.underlying23 (.int .u64 0) 8 info35 rfl (by decide) (by omega) 0 (ok := fun _ => True) (okp := fun _ => True) rfl (fun _ hk => hk) trivial (by omega) (by omega) (Below.refl _ _) (Nat.le_refl _) ?_
        intro v632 w97 ho98 hb hg_ hnew_
        clear hg_ hnew_
        (first | rw [← Ny631.out] at ho98 | (simp only [Int.reduceToNat] at ho98; rw [← Ny631.out] at ho98))
        have HO633 := Aside0.mk (Kd.R_lower ho98 (below_size (hq_ HB)))
        replace HO582 := rb_ HO582 hb
        replace HO589 := rb_ HO589 hb
        replace HB := bs_ w hb
        clear hb ho98
        refine hK.out _ _ trivial (fun hHeld => ?_)
        clear hK K
        refine nm_ (some 99) ?_
        refine oa_ 0 (some 98) (bl_ 10 3) HT_ fun K hK => ?_
        refine goesB_ Try.func31 #[] ?_
        with_reducible refine (spigotlaw04_given.calls  t628 _ A13.out).mono ?_
        rintro e w99 ⟨v629, rfl, ho0, hb⟩
        refine ⟨_, rfl, ?_⟩
        have HO630 := Aside0.mk (Kd.R_lower (Kd.R_new' (Kd.R_new' ho0 (Kd.R_lt (rs_ HO582))) (Kd.R_lt (rs_ HO589))) (below_size (hq_ HB)))
        replace HO582 := Aside0.mk (Kd.R_elder' (rs_ HO582) (Kd.R_base ho0) hb)
        replace HO589 := Aside0.mk (Kd.R_elder' (rs_ HO589) (Kd.R_base ho0) hb)
        replace HO633 := rb_ HO633 hb
        replace HB := bs_ w hb
        (try clear hb)
        (try clear hb2)
        (try clear hk)
        (try clear hi)
        (try clear ho0)
        refine hK.out _ _ trivial (fun hHeld => ?_)
        clear hK K
        refine nm_ (some 98) ?_
        exact no_ (hCont (v629, v632) _ ⟨(rs_ HO582), (rs_ HO589), (by (with_reducible repeat (first | apply Kd.R_alloc | apply Kd.R_drewN | apply Kd.R_drew)); exact Kd.R_mono HO630.out (fun _ hk => ⟨hk.1.2, hk.2⟩)), (rs_ HO633), (hq_ HB)⟩)
      rintro ⟨v629, v632⟩ w100 ⟨h0_, h1_, h2_, h3_, h4_⟩
      have HO630 : Aside0 (Kd.R k37 37 w100 w.heap.size (fun k_ => some k_ ≠ (.slice Ao81 y580.length co81 : Value).ownBlock ∧ some k_ ≠ (.slice Ao83 y587.length co83 : Value).ownBlock) v629 t628) := ⟨h2_⟩
      have HO633 : Aside0 (Kd.R (Kd.int .u64) 35 w100 w.heap.size (fun _ => True) v632 y631) := ⟨h3_⟩
      replace HO582 : Aside0 (Kd.R k37 37 w100 w.heap.size (fun k_ => some k_ ≠ (.slice Ao83 y587.length co83 : Value).ownBlock ∧ some k_ ≠ (v629 : Value).ownBlock) (.slice Ao81 y580.length co81) y580) := ⟨h0_⟩
      replace HO589 : Aside0 (Kd.R k37 37 w100 w.heap.size (fun k_ => some k_ ≠ (.slice Ao81 y580.length co81 : Value).ownBlock ∧ some k_ ≠ (v629 : Value).ownBlock) (.slice Ao83 y587.length co83) y587) := ⟨h1_⟩
      replace HB := Aside0.mk h4_
      clear h0_ h1_ h2_ h3_ h4_
      have hHeld := trivial
      obtain ⟨Ao101, co101, eo101⟩ := Kd.R_slice HO630.out
      (first | subst eo101 | (injection eo101 with f1_ f2_ f3_; have f4_ := f1_.symm; have f5_ := f3_.symm; clear f1_ f2_ f3_; subst f4_; subst f5_))
      obtain ⟨Ao102, co102, eo102⟩ := Kd.R_slice HO633.out
      (first | subst eo102 | (injection eo102 with f1_ f2_ f3_; have f4_ := f1_.symm; have f5_ := f3_.symm; clear f1_ f2_ f3_; subst f4_; subst f5_))
      refine nq_ ?_
      refine oa_ 2 (some 100) (bl_ 10 7) HT_ fun K hK => ?_
      refine goesB_ Try.func12 #[.slice Ao101 t628.length co101, .slice Ao102 y631.length co102, .slice none 0 0] ?_
      refine (levels_Run.calls k _ _ t628 _ _ y631 _ _ ([] : List Int) t634 t635 t636 _ ?side1 ?side2 ?side3 ?side4 ?side5 ?side6 A14.out).mono ?_
      (case side1 => exact cr_ HO630)
      (case side2 => exact (Kd.R_reads' HO630.out).2.1)
      (case side3 => exact cr_ HO633)
      (case side4 => exact (Kd.R_reads' HO633.out).2.1)
      (case side5 => exact Kd.C_nil _ _)
      (case side6 => exact Nat.le_refl _)
      rintro e w103 ⟨v637, v639, rfl, ho0, ho1, hb⟩
      refine ⟨_, rfl, ?_⟩
      have HO638 := Aside0.mk (Kd.R_lower (Kd.R_new' (Kd.R_new' (Kd.R_new' ho0 (Kd.R_lt (rs_ HO582))) (Kd.R_lt (rs_ HO589))) (Kd.R_lt (rs_ HO630))) (below_size (hq_ HB)))
      have HO640 := Aside0.mk (Kd.R_lower ho1 (below_size (hq_ HB)))
      replace HO582 := Aside0.mk (Kd.R_elder' (rs_ HO582) (Kd.R_base ho0) hb)
      replace HO589 := Aside0.mk (Kd.R_elder' (rs_ HO589) (Kd.R_base ho0) hb)
      replace HO630 := Aside0.mk (Kd.R_elder' (rs_ HO630) (Kd.R_base ho0) hb)
      replace HO633 := rb_ HO633 hb
      replace HB := bs_ w hb
      (try clear hb)
      (try clear hb2)
      (try clear hk)
      (try clear hi)
      (try clear ho0)
      (try clear ho1)
      refine hK.out _ _ trivial (fun hHeld => ?_)
      clear hK K
      refine nm_ (some 100) ?_
      refine pa_ 3 (some 97) (bl_ 10 15) HT_ ?_
      refine pa_ 4 (some 101) (bl_ 10 31) HT_ ?_
      refine pa_ 5 (some 102) (bl_ 10 63) HT_ ?_
      refine pa_ 6 (some 103) (bl_ 10 127) HT_ ?_
      refine pa_ 7 (some 20) (bl_ 10 255) HT_ ?_
      refine pa_ 8 (some 21) (bl_ 10 511) HT_ ?_
      refine pa_ 9 (some 22) (bl_ 10 1023) HT_ ?_
      refine done_ (done_of HT_.out (by kernel_rfl)) ?_
      have n_ := Aside0.mk (Kd.R_mono (ok' := (fun k_ => some k_ ≠ (.slice Ao83 y587.length co83 : Value).ownBlock)) HO582.out (fun k_ hk => hk.1.1))
      clear HO582
      have HO582 := n_
      clear n_
      have n_ := Aside0.mk (Kd.R_mono (ok' := (fun k_ => some k_ ≠ (.slice Ao81 y580.length co81 : Value).ownBlock)) HO589.out (fun k_ hk => hk.1.1))
      clear HO589
      have HO589 := n_
      clear n_
      (try clear HO630 HO633 HO638 HO640)
      try go_wp2
      replace HO582 := Aside0.mk (Kd.R_drew HO582.out)
      replace HO589 := Aside0.mk (Kd.R_drew HO589.out)
      replace HB := Aside0.mk (below_drew1 HB.out)
      refine start_ (n := 10) (S := fun w' => True) (ds := []) (bl_ 10 0) (by kernel_rfl) rfl (by kernel_rfl) trivial (fun hHeld => ?_); refine with_tabW spigotlaw04_LevelsNames.tab11 spigotlaw04_LevelsNames.bits11 (fun HT_ HW_ => ?_)
      generalize w103.drew = w104 at HO582 HO589 HB hHeld ⊢
      refine join_ (σ := Value × Value) 8 (bl_ 10 3) (fun s_ => [(105, s_.1), (106, s_.2)]) (fun s_ w' => (Kd.R k37 37 w' w.heap.size (fun k_ => some k_ ≠ (.slice Ao83 y587.length co83 : Value).ownBlock ∧ some k_ ≠ (s_.1 : Value).ownBlock) (.slice Ao81 y580.length co81) y580) ∧ (Kd.R k37 37 w' w.heap.size (fun k_ => some k_ ≠ (.slice Ao81 y580.length co81 : Value).ownBlock ∧ some k_ ≠ (s_.1 : Value).ownBlock) (.slice Ao83 y587.length co83) y587) ∧ (Kd.R k37 37 w' w.heap.size (fun k_ => some k_ ≠ (.slice Ao81 y580.length co81 : Value).ownBlock ∧ some k_ ≠ (.slice Ao83 y587.length co83 : Value).ownBlock) s_.1 t641) ∧ (Kd.R (Kd.int .u64) 35 w' w.heap.size (fun _ => True) s_.2 y644) ∧ (Below w.heap.size w w')) ?_ ?_
      rotate_left
      ·intro hCont
       refine tw_ 0 1 (some 105) (some 106) (bl_ 10 1) (bl_ 10 2) HT_ (fun K hK => ?_) fun K hK => ?_
       ·refine goesB_ Try.func31 #[] ?_
        with_reducible refine (spigotlaw04_given.calls  t641 _ A15.out).mono ?_
        rintro e w105 ⟨v642, rfl, ho0, hb⟩
        refine ⟨_, rfl, ?_⟩
        have HO643 := Aside0.mk (Kd.R_lower (Kd.R_new' (Kd.R_new' ho0 (Kd.R_lt (rs_ HO582))) (Kd.R_lt (rs_ HO589))) (below_size (hq_ HB)))
        replace HO582 := Aside0.mk (Kd.R_elder' (rs_ HO582) (Kd.R_base ho0) hb)
        replace HO589 := Aside0.mk (Kd.R_elder' (rs_ HO589) (Kd.R_base ho0) hb)
        replace HB := bs_ w hb
        (try clear hb)
        (try clear hb2)
        (try clear hk)
        (try clear hi)
        (try clear ho0)
        refine hK.out _ _ trivial (fun hHeld => ?_)
        clear hK K
        refine nm_ (some 105) ?_
        refine oa_ 1 (some 106) (bl_ 10 3) HT_ fun K hK => ?_
        refine Kd.R_make_step (Kd.int .u64) _ 35 (by rfl) (N := 106) rfl 23 _ _ rfl 1 rfl rfl Try.underlying23 (.int .u64 0) 8 info35 rfl (by decide) (by omega) 0 (ok := fun _ => True) (okp := fun _ => True) rfl (fun _ hk => hk) trivial (by omega) (by omega) (Below.refl _ _) (Nat.le_refl _) ?_
        intro v645 w106 ho107 hb hg_ hnew_
        clear hg_ hnew_
        (first | rw [← Ny644.out] at ho107 | (simp only [Int.reduceToNat] at ho107; rw [← Ny644.out] at ho107))
        have HO646 := Aside0.mk (Kd.R_lower ho107 (below_size (hq_ HB)))
        replace HO582 := rb_ HO582 hb
        replace HO589 := rb_ HO589 hb
        replace HO643 := rb_ HO643 hb
        replace HB := bs_ w hb
        clear hb ho107
        refine hK.out _ _ trivial (fun hHeld => ?_)
        clear hK K
        refine nm_ (some 106) ?_
        exact no_ (hCont (v642, v645) _ ⟨(rs_ HO582), (rs_ HO589), (by (with_reducible repeat (first | apply Kd.R_alloc | apply Kd.R_drewN | apply Kd.R_drew)); exact Kd.R_mono HO643.out (fun _ hk => ⟨hk.1.2, hk.2⟩)), (rs_ HO646), (hq_ HB)⟩)
       ·refine Kd.R_make_step (Kd.int .u64) _ 35 (by rfl) (N := 106) rfl 23 _ _ rfl 1 rfl rfl Try.underlying23 (.int .u64 0) 8 info35 rfl (by decide) (by omega) 0 (ok := fun _ => True) (okp := fun _ => True) rfl (fun _ hk => hk) trivial (by omega) (by omega) (Below.refl _ _) (Nat.le_refl _) ?_
        intro v645 w105 ho106 hb hg_ hnew_
        clear hg_ hnew_
        (first | rw [← Ny644.out] at ho106 | (simp only [Int.reduceToNat] at ho106; rw [← Ny644.out] at ho106))
        have HO646 := Aside0.mk (Kd.R_lower ho106 (below_size (hq_ HB)))
        replace HO582 := rb_ HO582 hb
        replace HO589 := rb_ HO589 hb
        replace HB := bs_ w hb
        clear hb ho106
        refine hK.out _ _ trivial (fun hHeld => ?_)
        clear hK K
        refine nm_ (some 106) ?_
        refine oa_ 0 (some 105) (bl_ 10 3) HT_ fun K hK => ?_
        refine goesB_ Try.func31 #[] ?_
        with_reducible refine (spigotlaw04_given.calls  t641 _ A15.out).mono ?_
        rintro e w107 ⟨v642, rfl, ho0, hb⟩
        refine ⟨_, rfl, ?_⟩
        have HO643 := Aside0.mk (Kd.R_lower (Kd.R_new' (Kd.R_new' ho0 (Kd.R_lt (rs_ HO582))) (Kd.R_lt (rs_ HO589))) (below_size (hq_ HB)))
        replace HO582 := Aside0.mk (Kd.R_elder' (rs_ HO582) (Kd.R_base ho0) hb)
        replace HO589 := Aside0.mk (Kd.R_elder' (rs_ HO589) (Kd.R_base ho0) hb)
        replace HO646 := rb_ HO646 hb
        replace HB := bs_ w hb
        (try clear hb)
        (try clear hb2)
        (try clear hk)
        (try clear hi)
        (try clear ho0)
        refine hK.out _ _ trivial (fun hHeld => ?_)
        clear hK K
        refine nm_ (some 105) ?_
        exact no_ (hCont (v642, v645) _ ⟨(rs_ HO582), (rs_ HO589), (by (with_reducible repeat (first | apply Kd.R_alloc | apply Kd.R_drewN | apply Kd.R_drew)); exact Kd.R_mono HO643.out (fun _ hk => ⟨hk.1.2, hk.2⟩)), (rs_ HO646), (hq_ HB)⟩)
      rintro ⟨v642, v645⟩ w108 ⟨h0_, h1_, h2_, h3_, h4_⟩
      have HO643 : Aside0 (Kd.R k37 37 w108 w.heap.size (fun k_ => some k_ ≠ (.slice Ao81 y580.length co81 : Value).ownBlock ∧ some k_ ≠ (.slice Ao83 y587.length co83 : Value).ownBlock) v642 t641) := ⟨h2_⟩
      have HO646 : Aside0 (Kd.R (Kd.int .u64) 35 w108 w.heap.size (fun _ => True) v645 y644) := ⟨h3_⟩
      replace HO582 : Aside0 (Kd.R k37 37 w108 w.heap.size (fun k_ => some k_ ≠ (.slice Ao83 y587.length co83 : Value).ownBlock ∧ some k_ ≠ (v642 : Value).ownBlock) (.slice Ao81 y580.length co81) y580) := ⟨h0_⟩
      replace HO589 : Aside0 (Kd.R k37 37 w108 w.heap.size (fun k_ => some k_ ≠ (.slice Ao81 y580.length co81 : Value).ownBlock ∧ some k_ ≠ (v642 : Value).ownBlock) (.slice Ao83 y587.length co83) y587) := ⟨h1_⟩
      replace HB := Aside0.mk h4_
      clear h0_ h1_ h2_ h3_ h4_
      have hHeld := trivial
      obtain ⟨Ao109, co109, eo109⟩ := Kd.R_slice HO643.out
      (first | subst eo109 | (injection eo109 with f1_ f2_ f3_; have f4_ := f1_.symm; have f5_ := f3_.symm; clear f1_ f2_ f3_; subst f4_; subst f5_))
      obtain ⟨Ao110, co110, eo110⟩ := Kd.R_slice HO646.out
      (first | subst eo110 | (injection eo110 with f1_ f2_ f3_; have f4_ := f1_.symm; have f5_ := f3_.symm; clear f1_ f2_ f3_; subst f4_; subst f5_))
      refine nq_ ?_
      refine oa_ 2 (some 107) (bl_ 10 7) HT_ fun K hK => ?_
      refine goesB_ Try.func12 #[.slice Ao109 t641.length co109, .slice Ao110 y644.length co110, .slice none 0 0] ?_
      refine (levels_Run.calls k _ _ t641 _ _ y644 _ _ ([] : List Int) t647 t648 t649 _ ?side1 ?side2 ?side3 ?side4 ?side5 ?side6 A16.out).mono ?_
      (case side1 => exact cr_ HO643)
      (case side2 => exact (Kd.R_reads' HO643.out).2.1)
      (case side3 => exact cr_ HO646)
      (case side4 => exact (Kd.R_reads' HO646.out).2.1)
      (case side5 => exact Kd.C_nil _ _)
      (case side6 => exact Nat.le_refl _)
      rintro e w111 ⟨v650, v652, rfl, ho0, ho1, hb⟩
      refine ⟨_, rfl, ?_⟩
      have HO651 := Aside0.mk (Kd.R_lower (Kd.R_new' (Kd.R_new' (Kd.R_new' ho0 (Kd.R_lt (rs_ HO582))) (Kd.R_lt (rs_ HO589))) (Kd.R_lt (rs_ HO643))) (below_size (hq_ HB)))
      have HO653 := Aside0.mk (Kd.R_lower ho1 (below_size (hq_ HB)))
      replace HO582 := Aside0.mk (Kd.R_elder' (rs_ HO582) (Kd.R_base ho0) hb)
      replace HO589 := Aside0.mk (Kd.R_elder' (rs_ HO589) (Kd.R_base ho0) hb)
      replace HO643 := Aside0.mk (Kd.R_elder' (rs_ HO643) (Kd.R_base ho0) hb)
      replace HO646 := rb_ HO646 hb
      replace HB := bs_ w hb
      (try clear hb)
      (try clear hb2)
      (try clear hk)
      (try clear hi)
      (try clear ho0)
      (try clear ho1)
      refine hK.out _ _ trivial (fun hHeld => ?_)
      clear hK K
      refine nm_ (some 107) ?_
      refine pa_ 3 (some 104) (bl_ 10 15) HT_ ?_
      refine pa_ 4 (some 108) (bl_ 10 31) HT_ ?_
      refine pa_ 5 (some 109) (bl_ 10 63) HT_ ?_
      refine pa_ 6 (some 110) (bl_ 10 127) HT_ ?_
      refine pa_ 7 (some 23) (bl_ 10 255) HT_ ?_
      refine pa_ 8 (some 24) (bl_ 10 511) HT_ ?_
      refine pa_ 9 (some 25) (bl_ 10 1023) HT_ ?_
      refine done_ (done_of HT_.out (by kernel_rfl)) ?_
      have n_ := Aside0.mk (Kd.R_mono (ok' := (fun k_ => some k_ ≠ (.slice Ao83 y587.length co83 : Value).ownBlock)) HO582.out (fun k_ hk => hk.1.1))
      clear HO582
      have HO582 := n_
      clear n_
      have n_ := Aside0.mk (Kd.R_mono (ok' := (fun k_ => some k_ ≠ (.slice Ao81 y580.length co81 : Value).ownBlock)) HO589.out (fun k_ hk => hk.1.1))
      clear HO589
      have HO589 := n_
      clear n_
      (try clear HO643 HO646 HO651 HO653)
      try go_wp2_with (first | ((with_reducible refine gate_callee (f := 31) rfl ?_); (try refine ug_ (by rfl) ?_); refine goesA_ (some 112) Try.func31 #[] ?_; (with_reducible refine (spigotlaw04_given.calls  t654 _ A17.out).mono ?_); rintro e w112 ⟨v655, rfl, ho0, hb⟩; refine ⟨_, rfl, ?_⟩; have HO656 := Aside0.mk (Kd.R_lower (Kd.R_new' (Kd.R_new' ho0 (Kd.R_lt (rs_ HO582))) (Kd.R_lt (rs_ HO589))) (below_size (hq_ HB))); replace HO582 := Aside0.mk (Kd.R_elder' (rs_ HO582) (Kd.R_base ho0) hb); replace HO589 := Aside0.mk (Kd.R_elder' (rs_ HO589) (Kd.R_base ho0) hb); replace HB := bs_ w hb; (try clear hb); (try clear hb2); (try clear hk); (try clear hi); (try clear ho0)) | ((with_reducible refine gate_dst (N := 113) rfl ?_); (try refine ug_ (by rfl) ?_); refine Kd.R_lit (Kd.int .i64) _ 2 ?hg (N := 113) ?hd (xs := ([(-1)] : List Int)) (inner := [.int .i64 (-1)]) (ok := fun _ => True) (okp := fun _ => True) ?hr ?hp (fun _ hk => hk) trivial (Below.refl _ _) (Nat.le_refl _) (by simp) ?_; (case hd => rfl); (case hg => rfl); (case hr => first | (go_simp; done) | (go_simp; rfl)); (case hp => exact (Reps.one (show Kd.M (Kd.int .i64) _ _ _ (-1) [.int .i64 (-1)] from rfl) (Reps.none _ _))); intro v658 w113 ho114 hb hg_ hnew_; clear hg_ hnew_; (first | rw [← Ny657.out] at ho114 | (simp only [Int.reduceToNat] at ho114; rw [← Ny657.out] at ho114)); have HO659 := Aside0.mk (Kd.R_lower ho114 (below_size (hq_ HB))); replace HO582 := rb_ HO582 hb; replace HO589 := rb_ HO589 hb; replace HO656 := rb_ HO656 hb; replace HB := bs_ w hb; clear hb ho114; obtain ⟨Ao115, co115, eo115⟩ := Kd.R_slice HO656.out; subst eo115; obtain ⟨Ao116, co116, eo116⟩ := Kd.R_slice HO659.out; subst eo116) | ((with_reducible refine gate_callee (f := 12) rfl ?_); (try refine ug_ (by rfl) ?_); refine goesA_ (some 114) Try.func12 #[.slice Ao115 t654.length co115, .slice none 0 0, .slice Ao116 y657.length co116] ?_; (refine (levels_Run.calls k _ _ t654 _ _ ([] : List Int) _ _ y657 t660 t661 t662 _ ?side1 ?side2 ?side3 ?side4 ?side5 ?side6 A18.out).mono ?_); (case side1 => exact cr_ HO656); (case side2 => exact (Kd.R_reads' HO656.out).2.1); (case side3 => exact Kd.C_nil _ _); (case side4 => exact Nat.le_refl _); (case side5 => exact cr_ HO659); (case side6 => exact (Kd.R_reads' HO659.out).2.1); rintro e w117 ⟨v663, v665, rfl, ho0, ho1, hb⟩; refine ⟨_, rfl, ?_⟩; have HO664 := Aside0.mk (Kd.R_lower (Kd.R_new' (Kd.R_new' (Kd.R_new' ho0 (Kd.R_lt (rs_ HO582))) (Kd.R_lt (rs_ HO589))) (Kd.R_lt (rs_ HO656))) (below_size (hq_ HB))); have HO666 := Aside0.mk (Kd.R_lower ho1 (below_size (hq_ HB))); replace HO582 := Aside0.mk (Kd.R_elder' (rs_ HO582) (Kd.R_base ho0) hb); replace HO589 := Aside0.mk (Kd.R_elder' (rs_ HO589) (Kd.R_base ho0) hb); replace HO656 := Aside0.mk (Kd.R_elder' (rs_ HO656) (Kd.R_base ho0) hb); replace HO659 := rb_ HO659 hb; replace HB := bs_ w hb; (try clear hb); (try clear hb2); (try clear hk); (try clear hi); (try clear ho0); (try clear ho1); have n_ := Aside0.mk (Kd.R_mono (ok' := (fun k_ => some k_ ≠ (.slice Ao83 y587.length co83 : Value).ownBlock)) HO582.out (fun k_ hk => hk.1.1)); clear HO582; have HO582 := n_; clear n_; have n_ := Aside0.mk (Kd.R_mono (ok' := (fun k_ => some k_ ≠ (.slice Ao81 y580.length co81 : Value).ownBlock)) HO589.out (fun k_ hk => hk.1.1)); clear HO589; have HO589 := n_; clear n_; (try clear HO656 HO659 HO664 HO666)))
      replace HO582 := Aside0.mk (Kd.R_drew HO582.out)
      replace HO589 := Aside0.mk (Kd.R_drew HO589.out)
      replace HB := Aside0.mk (below_drew1 HB.out)
      refine start_ (n := 11) (S := fun w' => True) (ds := []) (bl_ 11 0) (by kernel_rfl) rfl (by kernel_rfl) trivial (fun hHeld => ?_); refine with_tabW spigotlaw04_LevelsNames.tab13 spigotlaw04_LevelsNames.bits13 (fun HT_ HW_ => ?_)
      generalize w117.drew = w118 at HO582 HO589 HB hHeld ⊢
      refine join_ (σ := Value × Value × Value) 8 (bl_ 11 7) (fun s_ => [(119, s_.1), (120, s_.2.1), (121, s_.2.2)]) (fun s_ w' => (Kd.R k37 37 w' w.heap.size (fun k_ => some k_ ≠ (.slice Ao83 y587.length co83 : Value).ownBlock ∧ some k_ ≠ (s_.1 : Value).ownBlock) (.slice Ao81 y580.length co81) y580) ∧ (Kd.R k37 37 w' w.heap.size (fun k_ => some k_ ≠ (.slice Ao81 y580.length co81 : Value).ownBlock ∧ some k_ ≠ (s_.1 : Value).ownBlock) (.slice Ao83 y587.length co83) y587) ∧ (Kd.R k37 37 w' w.heap.size (fun k_ => some k_ ≠ (.slice Ao81 y580.length co81 : Value).ownBlock ∧ some k_ ≠ (.slice Ao83 y587.length co83 : Value).ownBlock) s_.1 t667) ∧ (Kd.R (Kd.int .u64) 35 w' w.heap.size (fun _ => True) s_.2.1 y670) ∧ (Kd.R (Kd.int .i64) 2 w' w.heap.size (fun _ => True) s_.2.2 y673) ∧ (Below w.heap.size w w')) ?_ ?_
      rotate_left
      ·intro hJ0_1_2
       refine join_ (σ := Value × Value) 9 (bl_ 11 3) (fun s_ => [(119, s_.1), (120, s_.2)]) (fun s_ w' => (Kd.R k37 37 w' w.heap.size (fun k_ => some k_ ≠ (.slice Ao83 y587.length co83 : Value).ownBlock ∧ some k_ ≠ (s_.1 : Value).ownBlock) (.slice Ao81 y580.length co81) y580) ∧ (Kd.R k37 37 w' w.heap.size (fun k_ => some k_ ≠ (.slice Ao81 y580.length co81 : Value).ownBlock ∧ some k_ ≠ (s_.1 : Value).ownBlock) (.slice Ao83 y587.length co83) y587) ∧ (Kd.R k37 37 w' w.heap.size (fun k_ => some k_ ≠ (.slice Ao81 y580.length co81 : Value).ownBlock ∧ some k_ ≠ (.slice Ao83 y587.length co83 : Value).ownBlock) s_.1 t667) ∧ (Kd.R (Kd.int .u64) 35 w' w.heap.size (fun _ => True) s_.2 y670) ∧ (Below w.heap.size w w')) ?_ ?_
       rotate_left
       ·intro hJ0_1
        refine join_ (σ := Value × Value) 9 (bl_ 11 5) (fun s_ => [(119, s_.1), (121, s_.2)]) (fun s_ w' => (Kd.R k37 37 w' w.heap.size (fun k_ => some k_ ≠ (.slice Ao83 y587.length co83 : Value).ownBlock ∧ some k_ ≠ (s_.1 : Value).ownBlock) (.slice Ao81 y580.length co81) y580) ∧ (Kd.R k37 37 w' w.heap.size (fun k_ => some k_ ≠ (.slice Ao81 y580.length co81 : Value).ownBlock ∧ some k_ ≠ (s_.1 : Value).ownBlock) (.slice Ao83 y587.length co83) y587) ∧ (Kd.R k37 37 w' w.heap.size (fun k_ => some k_ ≠ (.slice Ao81 y580.length co81 : Value).ownBlock ∧ some k_ ≠ (.slice Ao83 y587.length co83 : Value).ownBlock) s_.1 t667) ∧ (Kd.R (Kd.int .i64) 2 w' w.heap.size (fun _ => True) s_.2 y673) ∧ (Below w.heap.size w w')) ?_ ?_
        rotate_left
        ·intro hJ0_2
         refine join_ (σ := Value × Value) 9 (bl_ 11 6) (fun s_ => [(120, s_.1), (121, s_.2)]) (fun s_ w' => (Kd.R k37 37 w' w.heap.size (fun k_ => some k_ ≠ (.slice Ao83 y587.length co83 : Value).ownBlock) (.slice Ao81 y580.length co81) y580) ∧ (Kd.R k37 37 w' w.heap.size (fun k_ => some k_ ≠ (.slice Ao81 y580.length co81 : Value).ownBlock) (.slice Ao83 y587.length co83) y587) ∧ (Kd.R (Kd.int .u64) 35 w' w.heap.size (fun _ => True) s_.1 y670) ∧ (Kd.R (Kd.int .i64) 2 w' w.heap.size (fun _ => True) s_.2 y673) ∧ (Below w.heap.size w w')) ?_ ?_
         rotate_left
         ·intro hJ1_2
          refine join_ (σ := Value) 10 (bl_ 11 1) (fun s_ => [(119, s_)]) (fun s_ w' => (Kd.R k37 37 w' w.heap.size (fun k_ => some k_ ≠ (.slice Ao83 y587.length co83 : Value).ownBlock ∧ some k_ ≠ (s_ : Value).ownBlock) (.slice Ao81 y580.length co81) y580) ∧ (Kd.R k37 37 w' w.heap.size (fun k_ => some k_ ≠ (.slice Ao81 y580.length co81 : Value).ownBlock ∧ some k_ ≠ (s_ : Value).ownBlock) (.slice Ao83 y587.length co83) y587) ∧ (Kd.R k37 37 w' w.heap.size (fun k_ => some k_ ≠ (.slice Ao81 y580.length co81 : Value).ownBlock ∧ some k_ ≠ (.slice Ao83 y587.length co83 : Value).ownBlock) s_ t667) ∧ (Below w.heap.size w w')) ?_ ?_
          rotate_left
          ·intro hJ0
           refine join_ (σ := Value) 10 (bl_ 11 2) (fun s_ => [(120, s_)]) (fun s_ w' => (Kd.R k37 37 w' w.heap.size (fun k_ => some k_ ≠ (.slice Ao83 y587.length co83 : Value).ownBlock) (.slice Ao81 y580.length co81) y580) ∧ (Kd.R k37 37 w' w.heap.size (fun k_ => some k_ ≠ (.slice Ao81 y580.length co81 : Value).ownBlock) (.slice Ao83 y587.length co83) y587) ∧ (Kd.R (Kd.int .u64) 35 w' w.heap.size (fun _ => True) s_ y670) ∧ (Below w.heap.size w w')) ?_ ?_
           rotate_left
           ·intro hJ1
            refine join_ (σ := Value) 10 (bl_ 11 4) (fun s_ => [(121, s_)]) (fun s_ w' => (Kd.R k37 37 w' w.heap.size (fun k_ => some k_ ≠ (.slice Ao83 y587.length co83 : Value).ownBlock) (.slice Ao81 y580.length co81) y580) ∧ (Kd.R k37 37 w' w.heap.size (fun k_ => some k_ ≠ (.slice Ao81 y580.length co81 : Value).ownBlock) (.slice Ao83 y587.length co83) y587) ∧ (Kd.R (Kd.int .i64) 2 w' w.heap.size (fun _ => True) s_ y673) ∧ (Below w.heap.size w w')) ?_ ?_
            rotate_left
            ·intro hJ2
             refine three_ (i := 0) (j := 1) (k := 2) (Ni := some 119) (Nj := some 120) (Nk := some 121) (bl_ 11 1) (bl_ 11 2) (bl_ 11 4) rfl rfl rfl rfl rfl rfl (three_of HT_.out (by kernel_rfl)) (by decide) (by decide) (by decide) (fun K hK => ?_) (fun K hK => ?_) (fun K hK => ?_)
             ·refine goesB_ Try.func31 #[] ?_
              with_reducible refine (spigotlaw04_given.calls  t667 _ A19.out).mono ?_
              rintro e w119 ⟨v668, rfl, ho0, hb⟩
              refine ⟨_, rfl, ?_⟩
              have HO669 := Aside0.mk (Kd.R_lower (Kd.R_new' (Kd.R_new' ho0 (Kd.R_lt (rs_ HO582))) (Kd.R_lt (rs_ HO589))) (below_size (hq_ HB)))
              replace HO582 := Aside0.mk (Kd.R_elder' (rs_ HO582) (Kd.R_base ho0) hb)
              replace HO589 := Aside0.mk (Kd.R_elder' (rs_ HO589) (Kd.R_base ho0) hb)
              replace HB := bs_ w hb
              (try clear hb)
              (try clear hb2)
              (try clear hk)
              (try clear hi)
              (try clear ho0)
              refine hK.out _ _ trivial (fun hHeld => ?_)
              clear hK K
              refine nm_ (some 119) ?_
              exact no_ (hJ0 (v668) _ ⟨(rs_ HO582), (rs_ HO589), (by (with_reducible repeat (first | apply Kd.R_alloc | apply Kd.R_drewN | apply Kd.R_drew)); exact Kd.R_mono HO669.out (fun _ hk => ⟨hk.1.2, hk.2⟩)), (hq_ HB)⟩)
             ·refine Kd.R_make_step (Kd.int .u64) _ 35 (by rfl) (N := 120) rfl 23 _ _ rfl 1 rfl rfl Try.underlying23 (.int .u64 0) 8 info35 rfl (by decide) (by omega) 0 (ok := fun _ => True) (okp := fun _ => True) rfl (fun _ hk => hk) trivial (by omega) (by omega) (Below.refl _ _) (Nat.le_refl _) ?_
              intro v671 w119 ho120 hb hg_ hnew_
              clear hg_ hnew_
              (first | rw [← Ny670.out] at ho120 | (simp only [Int.reduceToNat] at ho120; rw [← Ny670.out] at ho120))
              have HO672 := Aside0.mk (Kd.R_lower ho120 (below_size (hq_ HB)))
              replace HO582 := rb_ HO582 hb
              replace HO589 := rb_ HO589 hb
              replace HB := bs_ w hb
              clear hb ho120
              refine hK.out _ _ trivial (fun hHeld => ?_)
              clear hK K
              refine nm_ (some 120) ?_
              exact no_ (hJ1 (v671) _ ⟨(rs_ HO582), (rs_ HO589), (rs_ HO672), (hq_ HB)⟩)
             ·refine Kd.R_lit_step (Kd.int .i64) _ 2 ?hg (N := 121) ?hd (xs := ([(-1)] : List Int)) (inner := [.int .i64 (-1)]) (ok := fun _ => True) (okp := fun _ => True) ?hr ?hp (fun _ hk => hk) trivial (Below.refl _ _) (Nat.le_refl _) (by simp) ?_; (case hd => rfl); (case hg => rfl); (case hr => first | (go_simp; done) | (go_simp; rfl)); (case hp => exact (Reps.one (show Kd.M (Kd.int .i64) _ _ _ (-1) [.int .i64 (-1)] from rfl) (Reps.none _ _)))
              intro v674 w119 ho120 hb hg_ hnew_
              clear hg_ hnew_
              (first | rw [← Ny673.out] at ho120 | (simp only [Int.reduceToNat] at ho120; rw [← Ny673.out] at ho120))
              have HO675 := Aside0.mk (Kd.R_lower ho120 (below_size (hq_ HB)))
              replace HO582 := rb_ HO582 hb
              replace HO589 := rb_ HO589 hb
              replace HB := bs_ w hb
              clear hb ho120
              refine hK.out _ _ trivial (fun hHeld => ?_)
              clear hK K
              refine nm_ (some 121) ?_
              exact no_ (hJ2 (v674) _ ⟨(rs_ HO582), (rs_ HO589), (rs_ HO675), (hq_ HB)⟩)
            ·rintro v674 w121 ⟨h0_, h1_, h2_, h3_⟩
             have HO675 : Aside0 (Kd.R (Kd.int .i64) 2 w121 w.heap.size (fun _ => True) v674 y673) := ⟨h2_⟩
             replace HO582 : Aside0 (Kd.R k37 37 w121 w.heap.size (fun k_ => some k_ ≠ (.slice Ao83 y587.length co83 : Value).ownBlock) (.slice Ao81 y580.length co81) y580) := ⟨h0_⟩
             replace HO589 : Aside0 (Kd.R k37 37 w121 w.heap.size (fun k_ => some k_ ≠ (.slice Ao81 y580.length co81 : Value).ownBlock) (.slice Ao83 y587.length co83) y587) := ⟨h1_⟩
             replace HB := Aside0.mk h3_
             clear h0_ h1_ h2_ h3_
             have hHeld := trivial
             refine nq_ ?_
             refine tw_ 0 1 (some 119) (some 120) (bl_ 11 5) (bl_ 11 6) HT_ (fun K hK => ?_) fun K hK => ?_
             ·refine goesB_ Try.func31 #[] ?_
              with_reducible refine (spigotlaw04_given.calls  t667 _ A19.out).mono ?_
              rintro e w122 ⟨v668, rfl, ho0, hb⟩
              refine ⟨_, rfl, ?_⟩
              have HO669 := Aside0.mk (Kd.R_lower (Kd.R_new' (Kd.R_new' ho0 (Kd.R_lt (rs_ HO582))) (Kd.R_lt (rs_ HO589))) (below_size (hq_ HB)))
              replace HO582 := Aside0.mk (Kd.R_elder' (rs_ HO582) (Kd.R_base ho0) hb)
              replace HO589 := Aside0.mk (Kd.R_elder' (rs_ HO589) (Kd.R_base ho0) hb)
              replace HO675 := rb_ HO675 hb
              replace HB := bs_ w hb
              (try clear hb)
              (try clear hb2)
              (try clear hk)
              (try clear hi)
              (try clear ho0)
              refine hK.out _ _ trivial (fun hHeld => ?_)
              clear hK K
              refine nm_ (some 119) ?_
              exact no_ (hJ0_2 (v668, v674) _ ⟨(rs_ HO582), (rs_ HO589), (by (with_reducible repeat (first | apply Kd.R_alloc | apply Kd.R_drewN | apply Kd.R_drew)); exact Kd.R_mono HO669.out (fun _ hk => ⟨hk.1.2, hk.2⟩)), (rs_ HO675), (hq_ HB)⟩)
             ·refine Kd.R_make_step (Kd.int .u64) _ 35 (by rfl) (N := 120) rfl 23 _ _ rfl 1 rfl rfl Try.underlying23 (.int .u64 0) 8 info35 rfl (by decide) (by omega) 0 (ok := fun _ => True) (okp := fun _ => True) rfl (fun _ hk => hk) trivial (by omega) (by omega) (Below.refl _ _) (Nat.le_refl _) ?_
              intro v671 w122 ho123 hb hg_ hnew_
              clear hg_ hnew_
              (first | rw [← Ny670.out] at ho123 | (simp only [Int.reduceToNat] at ho123; rw [← Ny670.out] at ho123))
              have HO672 := Aside0.mk (Kd.R_lower ho123 (below_size (hq_ HB)))
              replace HO582 := rb_ HO582 hb
              replace HO589 := rb_ HO589 hb
              replace HO675 := rb_ HO675 hb
              replace HB := bs_ w hb
              clear hb ho123
              refine hK.out _ _ trivial (fun hHeld => ?_)
              clear hK K
              refine nm_ (some 120) ?_
              exact no_ (hJ1_2 (v671, v674) _ ⟨(rs_ HO582), (rs_ HO589), (rs_ HO672), (rs_ HO675), (hq_ HB)⟩)
           ·rintro v671 w121 ⟨h0_, h1_, h2_, h3_⟩
            have HO672 : Aside0 (Kd.R (Kd.int .u64) 35 w121 w.heap.size (fun _ => True) v671 y670) := ⟨h2_⟩
            replace HO582 : Aside0 (Kd.R k37 37 w121 w.heap.size (fun k_ => some k_ ≠ (.slice Ao83 y587.length co83 : Value).ownBlock) (.slice Ao81 y580.length co81) y580) := ⟨h0_⟩
            replace HO589 : Aside0 (Kd.R k37 37 w121 w.heap.size (fun k_ => some k_ ≠ (.slice Ao81 y580.length co81 : Value).ownBlock) (.slice Ao83 y587.length co83) y587) := ⟨h1_⟩
            replace HB := Aside0.mk h3_
            clear h0_ h1_ h2_ h3_
            have hHeld := trivial
            refine nq_ ?_
            refine tw_ 0 2 (some 119) (some 121) (bl_ 11 3) (bl_ 11 6) HT_ (fun K hK => ?_) fun K hK => ?_
            ·refine goesB_ Try.func31 #[] ?_
             with_reducible refine (spigotlaw04_given.calls  t667 _ A19.out).mono ?_
             rintro e w122 ⟨v668, rfl, ho0, hb⟩
             refine ⟨_, rfl, ?_⟩
             have HO669 := Aside0.mk (Kd.R_lower (Kd.R_new' (Kd.R_new' ho0 (Kd.R_lt (rs_ HO582))) (Kd.R_lt (rs_ HO589))) (below_size (hq_ HB)))
             replace HO582 := Aside0.mk (Kd.R_elder' (rs_ HO582) (Kd.R_base ho0) hb)
             replace HO589 := Aside0.mk (Kd.R_elder' (rs_ HO589) (Kd.R_base ho0) hb)
             replace HO672 := rb_ HO672 hb
             replace HB := bs_ w hb
             (try clear hb)
             (try clear hb2)
             (try clear hk)
             (try clear hi)
             (try clear ho0)
             refine hK.out _ _ trivial (fun hHeld => ?_)
             clear hK K
             refine nm_ (some 119) ?_
             exact no_ (hJ0_1 (v668, v671) _ ⟨(rs_ HO582), (rs_ HO589), (by (with_reducible repeat (first | apply Kd.R_alloc | apply Kd.R_drewN | apply Kd.R_drew)); exact Kd.R_mono HO669.out (fun _ hk => ⟨hk.1.2, hk.2⟩)), (rs_ HO672), (hq_ HB)⟩)
            ·refine Kd.R_lit_step (Kd.int .i64) _ 2 ?hg (N := 121) ?hd (xs := ([(-1)] : List Int)) (inner := [.int .i64 (-1)]) (ok := fun _ => True) (okp := fun _ => True) ?hr ?hp (fun _ hk => hk) trivial (Below.refl _ _) (Nat.le_refl _) (by simp) ?_; (case hd => rfl); (case hg => rfl); (case hr => first | (go_simp; done) | (go_simp; rfl)); (case hp => exact (Reps.one (show Kd.M (Kd.int .i64) _ _ _ (-1) [.int .i64 (-1)] from rfl) (Reps.none _ _)))
             intro v674 w122 ho123 hb hg_ hnew_
             clear hg_ hnew_
             (first | rw [← Ny673.out] at ho123 | (simp only [Int.reduceToNat] at ho123; rw [← Ny673.out] at ho123))
             have HO675 := Aside0.mk (Kd.R_lower ho123 (below_size (hq_ HB)))
             replace HO582 := rb_ HO582 hb
             replace HO589 := rb_ HO589 hb
             replace HO672 := rb_ HO672 hb
             replace HB := bs_ w hb
             clear hb ho123
             refine hK.out _ _ trivial (fun hHeld => ?_)
             clear hK K
             refine nm_ (some 121) ?_
             exact no_ (hJ1_2 (v671, v674) _ ⟨(rs_ HO582), (rs_ HO589), (rs_ HO672), (rs_ HO675), (hq_ HB)⟩)
          ·rintro v668 w120 ⟨h0_, h1_, h2_, h3_⟩
           have HO669 : Aside0 (Kd.R k37 37 w120 w.heap.size (fun k_ => some k_ ≠ (.slice Ao81 y580.length co81 : Value).ownBlock ∧ some k_ ≠ (.slice Ao83 y587.length co83 : Value).ownBlock) v668 t667) := ⟨h2_⟩
           replace HO582 : Aside0 (Kd.R k37 37 w120 w.heap.size (fun k_ => some k_ ≠ (.slice Ao83 y587.length co83 : Value).ownBlock ∧ some k_ ≠ (v668 : Value).ownBlock) (.slice Ao81 y580.length co81) y580) := ⟨h0_⟩
           replace HO589 : Aside0 (Kd.R k37 37 w120 w.heap.size (fun k_ => some k_ ≠ (.slice Ao81 y580.length co81 : Value).ownBlock ∧ some k_ ≠ (v668 : Value).ownBlock) (.slice Ao83 y587.length co83) y587) := ⟨h1_⟩
           replace HB := Aside0.mk h3_
           clear h0_ h1_ h2_ h3_
           have hHeld := trivial
           refine nq_ ?_
           refine tw_ 1 2 (some 120) (some 121) (bl_ 11 3) (bl_ 11 5) HT_ (fun K hK => ?_) fun K hK => ?_
           ·refine Kd.R_make_step (Kd.int .u64) _ 35 (by rfl) (N := 120) rfl 23 _ _ rfl 1 rfl rfl Try.underlying23 (.int .u64 0) 8 info35 rfl (by decide) (by omega) 0 (ok := fun _ => True) (okp := fun _ => True) rfl (fun _ hk => hk) trivial (by omega) (by omega) (Below.refl _ _) (Nat.le_refl _) ?_
            intro v671 w121 ho122 hb hg_ hnew_
            clear hg_ hnew_
            (first | rw [← Ny670.out] at ho122 | (simp only [Int.reduceToNat] at ho122; rw [← Ny670.out] at ho122))
            have HO672 := Aside0.mk (Kd.R_lower ho122 (below_size (hq_ HB)))
            replace HO582 := rb_ HO582 hb
            replace HO589 := rb_ HO589 hb
            replace HO669 := rb_ HO669 hb
            replace HB := bs_ w hb
            clear hb ho122
            refine hK.out _ _ trivial (fun hHeld => ?_)
            clear hK K
            refine nm_ (some 120) ?_
            exact no_ (hJ0_1 (v668, v671) _ ⟨(rs_ HO582), (rs_ HO589), (rs_ HO669), (rs_ HO672), (hq_ HB)⟩)
           ·refine Kd.R_lit_step (Kd.int .i64) _ 2 ?hg (N := 121) ?hd (xs := ([(-1)] : List Int)) (inner := [.int .i64 (-1)]) (ok := fun _ => True) (okp := fun _ => True) ?hr ?hp (fun _ hk => hk) trivial (Below.refl _ _) (Nat.le_refl _) (by simp) ?_; (case hd => rfl); (case hg => rfl); (case hr => first | (go_simp; done) | (go_simp; rfl)); (case hp => exact (Reps.one (show Kd.M (Kd.int .i64) _ _ _ (-1) [.int .i64 (-1)] from rfl) (Reps.none _ _)))
            intro v674 w121 ho122 hb hg_ hnew_
            clear hg_ hnew_
            (first | rw [← Ny673.out] at ho122 | (simp only [Int.reduceToNat] at ho122; rw [← Ny673.out] at ho122))
            have HO675 := Aside0.mk (Kd.R_lower ho122 (below_size (hq_ HB)))
            replace HO582 := rb_ HO582 hb
            replace HO589 := rb_ HO589 hb
            replace HO669 := rb_ HO669 hb
            replace HB := bs_ w hb
            clear hb ho122
            refine hK.out _ _ trivial (fun hHeld => ?_)
            clear hK K
            refine nm_ (some 121) ?_
            exact no_ (hJ0_2 (v668, v674) _ ⟨(rs_ HO582), (rs_ HO589), (rs_ HO669), (rs_ HO675), (hq_ HB)⟩)
         ·rintro ⟨v671, v674⟩ w123 ⟨h0_, h1_, h2_, h3_, h4_⟩
          have HO672 : Aside0 (Kd.R (Kd.int .u64) 35 w123 w.heap.size (fun _ => True) v671 y670) := ⟨h2_⟩
          have HO675 : Aside0 (Kd.R (Kd.int .i64) 2 w123 w.heap.size (fun _ => True) v674 y673) := ⟨h3_⟩
          replace HO582 : Aside0 (Kd.R k37 37 w123 w.heap.size (fun k_ => some k_ ≠ (.slice Ao83 y587.length co83 : Value).ownBlock) (.slice Ao81 y580.length co81) y580) := ⟨h0_⟩
          replace HO589 : Aside0 (Kd.R k37 37 w123 w.heap.size (fun k_ => some k_ ≠ (.slice Ao81 y580.length co81 : Value).ownBlock) (.slice Ao83 y587.length co83) y587) := ⟨h1_⟩
          replace HB := Aside0.mk h4_
          clear h0_ h1_ h2_ h3_ h4_
          have hHeld := trivial
          refine nq_ ?_
          refine oa_ 0 (some 119) (bl_ 11 7) HT_ fun K hK => ?_
          refine goesB_ Try.func31 #[] ?_
          with_reducible refine (spigotlaw04_given.calls  t667 _ A19.out).mono ?_
          rintro e w124 ⟨v668, rfl, ho0, hb⟩
          refine ⟨_, rfl, ?_⟩
          have HO669 := Aside0.mk (Kd.R_lower (Kd.R_new' (Kd.R_new' ho0 (Kd.R_lt (rs_ HO582))) (Kd.R_lt (rs_ HO589))) (below_size (hq_ HB)))
          replace HO582 := Aside0.mk (Kd.R_elder' (rs_ HO582) (Kd.R_base ho0) hb)
          replace HO589 := Aside0.mk (Kd.R_elder' (rs_ HO589) (Kd.R_base ho0) hb)
          replace HO672 := rb_ HO672 hb
          replace HO675 := rb_ HO675 hb
          replace HB := bs_ w hb
          (try clear hb)
          (try clear hb2)
          (try clear hk)
          (try clear hi)
          (try clear ho0)
          refine hK.out _ _ trivial (fun hHeld => ?_)
          clear hK K
          refine nm_ (some 119) ?_
          exact no_ (hJ0_1_2 (v668, v671, v674) _ ⟨(rs_ HO582), (rs_ HO589), (by (with_reducible repeat (first | apply Kd.R_alloc | apply Kd.R_drewN | apply Kd.R_drew)); exact Kd.R_mono HO669.out (fun _ hk => ⟨hk.1.2, hk.2⟩)), (rs_ HO672), (rs_ HO675), (hq_ HB)⟩)
        ·rintro ⟨v668, v674⟩ w122 ⟨h0_, h1_, h2_, h3_, h4_⟩
         have HO669 : Aside0 (Kd.R k37 37 w122 w.heap.size (fun k_ => some k_ ≠ (.slice Ao81 y580.length co81 : Value).ownBlock ∧ some k_ ≠ (.slice Ao83 y587.length co83 : Value).ownBlock) v668 t667) := ⟨h2_⟩
         have HO675 : Aside0 (Kd.R (Kd.int .i64) 2 w122 w.heap.size (fun _ => True) v674 y673) := ⟨h3_⟩
         replace HO582 : Aside0 (Kd.R k37 37 w122 w.heap.size (fun k_ => some k_ ≠ (.slice Ao83 y587.length co83 : Value).ownBlock ∧ some k_ ≠ (v668 : Value).ownBlock) (.slice Ao81 y580.length co81) y580) := ⟨h0_⟩
         replace HO589 : Aside0 (Kd.R k37 37 w122 w.heap.size (fun k_ => some k_ ≠ (.slice Ao81 y580.length co81 : Value).ownBlock ∧ some k_ ≠ (v668 : Value).ownBlock) (.slice Ao83 y587.length co83) y587) := ⟨h1_⟩
         replace HB := Aside0.mk h4_
         clear h0_ h1_ h2_ h3_ h4_
         have hHeld := trivial
         refine nq_ ?_
         refine oa_ 1 (some 120) (bl_ 11 7) HT_ fun K hK => ?_
         refine Kd.R_make_step (Kd.int .u64) _ 35 (by rfl) (N := 120) rfl 23 _ _ rfl 1 rfl rfl Try.underlying23 (.int .u64 0) 8 info35 rfl (by decide) (by omega) 0 (ok := fun _ => True) (okp := fun _ => True) rfl (fun _ hk => hk) trivial (by omega) (by omega) (Below.refl _ _) (Nat.le_refl _) ?_
         intro v671 w123 ho124 hb hg_ hnew_
         clear hg_ hnew_
         (first | rw [← Ny670.out] at ho124 | (simp only [Int.reduceToNat] at ho124; rw [← Ny670.out] at ho124))
         have HO672 := Aside0.mk (Kd.R_lower ho124 (below_size (hq_ HB)))
         replace HO582 := rb_ HO582 hb
         replace HO589 := rb_ HO589 hb
         replace HO669 := rb_ HO669 hb
         replace HO675 := rb_ HO675 hb
         replace HB := bs_ w hb
         clear hb ho124
         refine hK.out _ _ trivial (fun hHeld => ?_)
         clear hK K
         refine nm_ (some 120) ?_
         exact no_ (hJ0_1_2 (v668, v671, v674) _ ⟨(rs_ HO582), (rs_ HO589), (rs_ HO669), (rs_ HO672), (rs_ HO675), (hq_ HB)⟩)
       ·rintro ⟨v668, v671⟩ w122 ⟨h0_, h1_, h2_, h3_, h4_⟩
        have HO669 : Aside0 (Kd.R k37 37 w122 w.heap.size (fun k_ => some k_ ≠ (.slice Ao81 y580.length co81 : Value).ownBlock ∧ some k_ ≠ (.slice Ao83 y587.length co83 : Value).ownBlock) v668 t667) := ⟨h2_⟩
        have HO672 : Aside0 (Kd.R (Kd.int .u64) 35 w122 w.heap.size (fun _ => True) v671 y670) := ⟨h3_⟩
        replace HO582 : Aside0 (Kd.R k37 37 w122 w.heap.size (fun k_ => some k_ ≠ (.slice Ao83 y587.length co83 : Value).ownBlock ∧ some k_ ≠ (v668 : Value).ownBlock) (.slice Ao81 y580.length co81) y580) := ⟨h0_⟩
        replace HO589 : Aside0 (Kd.R k37 37 w122 w.heap.size (fun k_ => some k_ ≠ (.slice Ao81 y580.length co81 : Value).ownBlock ∧ some k_ ≠ (v668 : Value).ownBlock) (.slice Ao83 y587.length co83) y587) := ⟨h1_⟩
        replace HB := Aside0.mk h4_
        clear h0_ h1_ h2_ h3_ h4_
        have hHeld := trivial
        refine nq_ ?_
        refine oa_ 2 (some 121) (bl_ 11 7) HT_ fun K hK => ?_
        refine Kd.R_lit_step (Kd.int .i64) _ 2 ?hg (N := 121) ?hd (xs := ([(-1)] : List Int)) (inner := [.int .i64 (-1)]) (ok := fun _ => True) (okp := fun _ => True) ?hr ?hp (fun _ hk => hk) trivial (Below.refl _ _) (Nat.le_refl _) (by simp) ?_; (case hd => rfl); (case hg => rfl); (case hr => first | (go_simp; done) | (go_simp; rfl)); (case hp => exact (Reps.one (show Kd.M (Kd.int .i64) _ _ _ (-1) [.int .i64 (-1)] from rfl) (Reps.none _ _)))
        intro v674 w123 ho124 hb hg_ hnew_
        clear hg_ hnew_
        (first | rw [← Ny673.out] at ho124 | (simp only [Int.reduceToNat] at ho124; rw [← Ny673.out] at ho124))
        have HO675 := Aside0.mk (Kd.R_lower ho124 (below_size (hq_ HB)))
        replace HO582 := rb_ HO582 hb
        replace HO589 := rb_ HO589 hb
        replace HO669 := rb_ HO669 hb
        replace HO672 := rb_ HO672 hb
        replace HB := bs_ w hb
        clear hb ho124
        refine hK.out _ _ trivial (fun hHeld => ?_)
        clear hK K
        refine nm_ (some 121) ?_
        exact no_ (hJ0_1_2 (v668, v671, v674) _ ⟨(rs_ HO582), (rs_ HO589), (rs_ HO669), (rs_ HO672), (rs_ HO675), (hq_ HB)⟩)
      rintro ⟨v668, v671, v674⟩ w124 ⟨h0_, h1_, h2_, h3_, h4_, h5_⟩
      have HO669 : Aside0 (Kd.R k37 37 w124 w.heap.size (fun k_ => some k_ ≠ (.slice Ao81 y580.length co81 : Value).ownBlock ∧ some k_ ≠ (.slice Ao83 y587.length co83 : Value).ownBlock) v668 t667) := ⟨h2_⟩
      have HO672 : Aside0 (Kd.R (Kd.int .u64) 35 w124 w.heap.size (fun _ => True) v671 y670) := ⟨h3_⟩
      have HO675 : Aside0 (Kd.R (Kd.int .i64) 2 w124 w.heap.size (fun _ => True) v674 y673) := ⟨h4_⟩
      replace HO582 : Aside0 (Kd.R k37 37 w124 w.heap.size (fun k_ => some k_ ≠ (.slice Ao83 y587.length co83 : Value).ownBlock ∧ some k_ ≠ (v668 : Value).ownBlock) (.slice Ao81 y580.length co81) y580) := ⟨h0_⟩
      replace HO589 : Aside0 (Kd.R k37 37 w124 w.heap.size (fun k_ => some k_ ≠ (.slice Ao81 y580.length co81 : Value).ownBlock ∧ some k_ ≠ (v668 : Value).ownBlock) (.slice Ao83 y587.length co83) y587) := ⟨h1_⟩
      replace HB := Aside0.mk h5_
      clear h0_ h1_ h2_ h3_ h4_ h5_
      have hHeld := trivial
      obtain ⟨Ao125, co125, eo125⟩ := Kd.R_slice HO669.out
      (first | subst eo125 | (injection eo125 with f1_ f2_ f3_; have f4_ := f1_.symm; have f5_ := f3_.symm; clear f1_ f2_ f3_; subst f4_; subst f5_))
      obtain ⟨Ao126, co126, eo126⟩ := Kd.R_slice HO672.out
      (first | subst eo126 | (injection eo126 with f1_ f2_ f3_; have f4_ := f1_.symm; have f5_ := f3_.symm; clear f1_ f2_ f3_; subst f4_; subst f5_))
      obtain ⟨Ao127, co127, eo127⟩ := Kd.R_slice HO675.out
      (first | subst eo127 | (injection eo127 with f1_ f2_ f3_; have f4_ := f1_.symm; have f5_ := f3_.symm; clear f1_ f2_ f3_; subst f4_; subst f5_))
      refine nq_ ?_
      refine oa_ 3 (some 122) (bl_ 11 15) HT_ fun K hK => ?_
      refine goesB_ Try.func12 #[.slice Ao125 t667.length co125, .slice Ao126 y670.length co126, .slice Ao127 y673.length co127] ?_
      with_reducible refine (levels_Run.calls k _ _ t667 _ _ y670 _ _ y673 t676 t677 t678 _ ?side1 ?side2 ?side3 ?side4 ?side5 ?side6 A20.out).mono ?_
      (case side1 => exact cr_ HO669)
      (case side2 => exact (Kd.R_reads' HO669.out).2.1)
      (case side3 => exact cr_ HO672)
      (case side4 => exact (Kd.R_reads' HO672.out).2.1)
      (case side5 => exact cr_ HO675)
      (case side6 => exact (Kd.R_reads' HO675.out).2.1)
      rintro e w128 ⟨v679, v681, rfl, ho0, ho1, hb⟩
      refine ⟨_, rfl, ?_⟩
      have HO680 := Aside0.mk (Kd.R_lower (Kd.R_new' (Kd.R_new' (Kd.R_new' ho0 (Kd.R_lt (rs_ HO582))) (Kd.R_lt (rs_ HO589))) (Kd.R_lt (rs_ HO669))) (below_size (hq_ HB)))
      have HO682 := Aside0.mk (Kd.R_lower ho1 (below_size (hq_ HB)))
      replace HO582 := Aside0.mk (Kd.R_elder' (rs_ HO582) (Kd.R_base ho0) hb)
      replace HO589 := Aside0.mk (Kd.R_elder' (rs_ HO589) (Kd.R_base ho0) hb)
      replace HO669 := Aside0.mk (Kd.R_elder' (rs_ HO669) (Kd.R_base ho0) hb)
      replace HO672 := rb_ HO672 hb
      replace HO675 := rb_ HO675 hb
      replace HB := bs_ w hb
      (try clear hb)
      (try clear hb2)
      (try clear hk)
      (try clear hi)
      (try clear ho0)
      (try clear ho1)
      refine hK.out _ _ trivial (fun hHeld => ?_)
      clear hK K
      refine nm_ (some 122) ?_
      refine pa_ 4 (some 118) (bl_ 11 31) HT_ ?_
      refine pa_ 5 (some 123) (bl_ 11 63) HT_ ?_
      refine pa_ 6 (some 124) (bl_ 11 127) HT_ ?_
      refine pa_ 7 (some 125) (bl_ 11 255) HT_ ?_
      refine pa_ 8 (some 29) (bl_ 11 511) HT_ ?_
      refine pa_ 9 (some 30) (bl_ 11 1023) HT_ ?_
      refine pa_ 10 (some 31) (bl_ 11 2047) HT_ ?_
      refine done_ (done_of HT_.out (by kernel_rfl)) ?_
      have n_ := Aside0.mk (Kd.R_mono (ok' := (fun k_ => some k_ ≠ (.slice Ao83 y587.length co83 : Value).ownBlock)) HO582.out (fun k_ hk => hk.1.1))
      clear HO582
      have HO582 := n_
      clear n_
      have n_ := Aside0.mk (Kd.R_mono (ok' := (fun k_ => some k_ ≠ (.slice Ao81 y580.length co81 : Value).ownBlock)) HO589.out (fun k_ hk => hk.1.1))
      clear HO589
      have HO589 := n_
      clear n_
      (try clear HO669 HO672 HO675 HO680 HO682)
      try go_wp2_with (first | ((with_reducible refine gate_callee (f := 26) rfl ?_); (try refine ug_ (by rfl) ?_); refine goesA_ (some 127) Try.func26 #[.slice Ao81 y580.length co81] ?_; (with_reducible refine (levels_Check.calls k _ _ y580 t683 _ ?side1 ?side2 A21.out).mono ?_); (case side1 => exact cr_ HO582); (case side2 => exact (Kd.R_reads' HO582.out).2.1); rintro e w129 ⟨rfl, hb⟩; refine ⟨_, rfl, ?_⟩; replace HO582 := rb_ HO582 hb; replace HO589 := rb_ HO589 hb; replace HB := bs_ w hb; clear hb; have n_ := Aside0.mk (Kd.R_mono (ok' := (fun _ => True)) HO589.out (fun k_ hk => trivial)); clear HO589; have HO589 := n_; clear n_; (try clear HO582)) | (go_at_call 26; (with_reducible refine (levels_Check.calls k _ _ y587 t684 _ ?side1 ?side2 A23.out).mono ?_); (case side1 => exact cr_ HO589); (case side2 => exact (Kd.R_reads' HO589.out).2.1); rintro e w130 ⟨rfl, hb⟩; replace HO589 := rb_ HO589 hb; replace HB := bs_ w hb; clear hb; (try clear HO589)) | ((with_reducible refine gate_callee (f := 23) rfl ?_); (try refine ug_ (by rfl) ?_); refine goesA_ (some 179) Try.func23 #[.slice none 0 0, .int .u64 5, .int .i64 9223372036854775807] ?_; (refine (levels_Take.calls k _ _ ([] : List (S37)) 5 9223372036854775807 t685 true t687 _ ?side1 ?side2 A35.out).mono ?_); (case side1 => exact Kd.C_nil _ _); (case side2 => exact Nat.le_refl _); rintro e w131 ⟨v688, rfl, ho0, hb⟩; refine ⟨_, rfl, ?_⟩; have HO689 := Aside0.mk (Kd.R_lower ho0 (below_size (hq_ HB))); replace HB := bs_ w hb; clear hb; (try clear ho0)) | ((with_reducible refine gate_callee (f := 18) rfl ?_); (try refine ug_ (by rfl) ?_); refine goesA_ (some 184) Try.func18 #[.slice none 0 0, .int .i64 9223372036854775807] ?_; (refine (levels_Wait.calls k _ _ ([] : List (S37)) 9223372036854775807 t690 t691 _ ?side1 ?side2 A36.out).mono ?_); (case side1 => exact Kd.C_nil _ _); (case side2 => exact Nat.le_refl _); rintro e w132 ⟨rfl, hb⟩; refine ⟨_, rfl, ?_⟩; replace HO689 := rb_ HO689 hb; replace HB := bs_ w hb; clear hb) | ((with_reducible refine gate_callee (f := 31) rfl ?_); (try refine ug_ (by rfl) ?_); refine goesA_ (some 188) Try.func31 #[] ?_; (with_reducible refine (spigotlaw04_given.calls  t692 _ A37.out).mono ?_); rintro e w133 ⟨v693, rfl, ho0, hb⟩; refine ⟨_, rfl, ?_⟩; have HO694 := Aside0.mk (Kd.R_lower (Kd.R_new' ho0 (Kd.R_lt (rs_ HO689))) (below_size (hq_ HB))); replace HO689 := Aside0.mk (Kd.R_elder' (rs_ HO689) (Kd.R_base ho0) hb); replace HB := bs_ w hb; (try clear hb); (try clear hb2); (try clear hk); (try clear hi); (try clear ho0); obtain ⟨Ao134, co134, eo134⟩ := Kd.R_slice HO694.out; subst eo134) | ((with_reducible refine gate_callee (f := 12) rfl ?_); (try refine ug_ (by rfl) ?_); refine goesA_ (some 189) Try.func12 #[.slice Ao134 t692.length co134, .slice none 0 0, .slice none 0 0] ?_; (refine (levels_Run.calls k _ _ t692 _ _ ([] : List Int) _ _ ([] : List Int) t695 t696 t697 _ ?side1 ?side2 ?side3 ?side4 ?side5 ?side6 A38.out).mono ?_); (case side1 => exact cr_ HO694); (case side2 => exact (Kd.R_reads' HO694.out).2.1); (case side3 => exact Kd.C_nil _ _); (case side4 => exact Nat.le_refl _); (case side5 => exact Kd.C_nil _ _); (case side6 => exact Nat.le_refl _); rintro e w135 ⟨v698, v700, rfl, ho0, ho1, hb⟩; refine ⟨_, rfl, ?_⟩; have HO699 := Aside0.mk (Kd.R_lower (Kd.R_new' (Kd.R_new' ho0 (Kd.R_lt (rs_ HO689))) (Kd.R_lt (rs_ HO694))) (below_size (hq_ HB))); have HO701 := Aside0.mk (Kd.R_lower ho1 (below_size (hq_ HB))); replace HO689 := Aside0.mk (Kd.R_elder' (rs_ HO689) (Kd.R_base ho0) hb); replace HO694 := Aside0.mk (Kd.R_elder' (rs_ HO694) (Kd.R_base ho0) hb); replace HB := bs_ w hb; (try clear hb); (try clear hb2); (try clear hk); (try clear hi); (try clear ho0); (try clear ho1); have n_ := Aside0.mk (Kd.R_mono (ok' := (fun k_ => some k_ ≠ (v698 : Value).ownBlock)) HO689.out (fun k_ hk => hk.2)); clear HO689; have HO689 := n_; clear n_; have n_ := Aside0.mk (Kd.R_mono (ok' := (fun k_ => some k_ ≠ (v688 : Value).ownBlock)) HO699.out (fun k_ hk => hk.1.2)); clear HO699; have HO699 := n_; clear n_; (try clear HO694)) | ((with_reducible refine gate_callee (f := 31) rfl ?_); (try refine ug_ (by rfl) ?_); refine goesA_ (some 194) Try.func31 #[] ?_; (with_reducible refine (spigotlaw04_given.calls  t702 _ A39.out).mono ?_); rintro e w136 ⟨v703, rfl, ho0, hb⟩; refine ⟨_, rfl, ?_⟩; have HO704 := Aside0.mk (Kd.R_lower (Kd.R_new' (Kd.R_new' ho0 (Kd.R_lt (rs_ HO689))) (Kd.R_lt (rs_ HO699))) (below_size (hq_ HB))); replace HO689 := Aside0.mk (Kd.R_elder' (rs_ HO689) (Kd.R_base ho0) hb); replace HO699 := Aside0.mk (Kd.R_elder' (rs_ HO699) (Kd.R_base ho0) hb); replace HO701 := rb_ HO701 hb; replace HB := bs_ w hb; (try clear hb); (try clear hb2); (try clear hk); (try clear hi); (try clear ho0); obtain ⟨Ao137, co137, eo137⟩ := Kd.R_slice HO704.out; subst eo137) | ((with_reducible refine gate_callee (f := 23) rfl ?_); (try refine ug_ (by rfl) ?_); refine goesA_ (some 195) Try.func23 #[.slice Ao137 t702.length co137, .int .u64 0, .int .i64 0] ?_; (with_reducible refine (levels_Take.calls k _ _ t702 0 0 t705 true t707 _ ?side1 ?side2 A40.out).mono ?_); (case side1 => exact cr_ HO704); (case side2 => exact (Kd.R_reads' HO704.out).2.1); rintro e w138 ⟨v708, rfl, ho0, hb⟩; refine ⟨_, rfl, ?_⟩; have HO709 := Aside0.mk (Kd.R_lower (Kd.R_new' (Kd.R_new' (Kd.R_new' ho0 (Kd.R_lt (rs_ HO689))) (Kd.R_lt (rs_ HO699))) (Kd.R_lt (rs_ HO704))) (below_size (hq_ HB))); replace HO689 := Aside0.mk (Kd.R_elder' (rs_ HO689) (Kd.R_base ho0) hb); replace HO699 := Aside0.mk (Kd.R_elder' (rs_ HO699) (Kd.R_base ho0) hb); replace HO701 := rb_ HO701 hb; replace HO704 := Aside0.mk (Kd.R_elder' (rs_ HO704) (Kd.R_base ho0) hb); replace HB := bs_ w hb; (try clear hb); (try clear hb2); (try clear hk); (try clear hi); (try clear ho0); have n_ := Aside0.mk (Kd.R_mono (ok' := (fun k_ => some k_ ≠ (v698 : Value).ownBlock ∧ some k_ ≠ (v708 : Value).ownBlock)) HO689.out (fun k_ hk => ⟨hk.1.1, hk.2⟩)); clear HO689; have HO689 := n_; clear n_; have n_ := Aside0.mk (Kd.R_mono (ok' := (fun k_ => some k_ ≠ (v688 : Value).ownBlock ∧ some k_ ≠ (v708 : Value).ownBlock)) HO699.out (fun k_ hk => ⟨hk.1.1, hk.2⟩)); clear HO699; have HO699 := n_; clear n_; have n_ := Aside0.mk (Kd.R_mono (ok' := (fun k_ => some k_ ≠ (v688 : Value).ownBlock ∧ some k_ ≠ (v698 : Value).ownBlock)) HO709.out (fun k_ hk => ⟨hk.1.1.2, hk.1.2⟩)); clear HO709; have HO709 := n_; clear n_; (try clear HO704)) | ((with_reducible refine gate_callee (f := 31) rfl ?_); (try refine ug_ (by rfl) ?_); refine goesA_ (some 200) Try.func31 #[] ?_; (with_reducible refine (spigotlaw04_given.calls  t710 _ A41.out).mono ?_); rintro e w139 ⟨v711, rfl, ho0, hb⟩; refine ⟨_, rfl, ?_⟩; have HO712 := Aside0.mk (Kd.R_lower (Kd.R_new' (Kd.R_new' (Kd.R_new' ho0 (Kd.R_lt (rs_ HO689))) (Kd.R_lt (rs_ HO699))) (Kd.R_lt (rs_ HO709))) (below_size (hq_ HB))); replace HO689 := Aside0.mk (Kd.R_elder' (rs_ HO689) (Kd.R_base ho0) hb); replace HO699 := Aside0.mk (Kd.R_elder' (rs_ HO699) (Kd.R_base ho0) hb); replace HO701 := rb_ HO701 hb; replace HO709 := Aside0.mk (Kd.R_elder' (rs_ HO709) (Kd.R_base ho0) hb); replace HB := bs_ w hb; (try clear hb); (try clear hb2); (try clear hk); (try clear hi); (try clear ho0); obtain ⟨Ao140, co140, eo140⟩ := Kd.R_slice HO712.out; subst eo140) | ((with_reducible refine gate_callee (f := 23) rfl ?_); (try refine ug_ (by rfl) ?_); refine goesA_ (some 201) Try.func23 #[.slice Ao140 t710.length co140, .int .u64 9, .int .i64 6] ?_; (with_reducible refine (levels_Take.calls k _ _ t710 9 6 t713 false t715 _ ?side1 ?side2 A42.out).mono ?_); (case side1 => exact cr_ HO712); (case side2 => exact (Kd.R_reads' HO712.out).2.1); rintro e w141 ⟨v716, rfl, ho0, hb⟩; refine ⟨_, rfl, ?_⟩; have HO717 := Aside0.mk (Kd.R_lower (Kd.R_new' (Kd.R_new' (Kd.R_new' (Kd.R_new' ho0 (Kd.R_lt (rs_ HO689))) (Kd.R_lt (rs_ HO699))) (Kd.R_lt (rs_ HO709))) (Kd.R_lt (rs_ HO712))) (below_size (hq_ HB))); replace HO689 := Aside0.mk (Kd.R_elder' (rs_ HO689) (Kd.R_base ho0) hb); replace HO699 := Aside0.mk (Kd.R_elder' (rs_ HO699) (Kd.R_base ho0) hb); replace HO701 := rb_ HO701 hb; replace HO709 := Aside0.mk (Kd.R_elder' (rs_ HO709) (Kd.R_base ho0) hb); replace HO712 := Aside0.mk (Kd.R_elder' (rs_ HO712) (Kd.R_base ho0) hb); replace HB := bs_ w hb; (try clear hb); (try clear hb2); (try clear hk); (try clear hi); (try clear ho0); have n_ := Aside0.mk (Kd.R_mono (ok' := (fun k_ => some k_ ≠ (v698 : Value).ownBlock ∧ some k_ ≠ (v708 : Value).ownBlock ∧ some k_ ≠ (v716 : Value).ownBlock)) HO689.out (fun k_ hk => ⟨hk.1.1.1, ⟨hk.1.1.2, hk.2⟩⟩)); clear HO689; have HO689 := n_; clear n_; have n_ := Aside0.mk (Kd.R_mono (ok' := (fun k_ => some k_ ≠ (v688 : Value).ownBlock ∧ some k_ ≠ (v708 : Value).ownBlock ∧ some k_ ≠ (v716 : Value).ownBlock)) HO699.out (fun k_ hk => ⟨hk.1.1.1, ⟨hk.1.1.2, hk.2⟩⟩)); clear HO699; have HO699 := n_; clear n_; have n_ := Aside0.mk (Kd.R_mono (ok' := (fun k_ => some k_ ≠ (v688 : Value).ownBlock ∧ some k_ ≠ (v698 : Value).ownBlock ∧ some k_ ≠ (v716 : Value).ownBlock)) HO709.out (fun k_ hk => ⟨hk.1.1.1, ⟨hk.1.1.2, hk.2⟩⟩)); clear HO709; have HO709 := n_; clear n_; have n_ := Aside0.mk (Kd.R_mono (ok' := (fun k_ => some k_ ≠ (v688 : Value).ownBlock ∧ some k_ ≠ (v698 : Value).ownBlock ∧ some k_ ≠ (v708 : Value).ownBlock)) HO717.out (fun k_ hk => ⟨hk.1.1.1.2, ⟨hk.1.1.2, hk.1.2⟩⟩)); clear HO717; have HO717 := n_; clear n_; (try clear HO712)) | ((with_reducible refine gate_callee (f := 31) rfl ?_); (try refine ug_ (by rfl) ?_); refine goesA_ (some 206) Try.func31 #[] ?_; (with_reducible refine (spigotlaw04_given.calls  t718 _ A43.out).mono ?_); rintro e w142 ⟨v719, rfl, ho0, hb⟩; refine ⟨_, rfl, ?_⟩; have HO720 := Aside0.mk (Kd.R_lower (Kd.R_new' (Kd.R_new' (Kd.R_new' (Kd.R_new' ho0 (Kd.R_lt (rs_ HO689))) (Kd.R_lt (rs_ HO699))) (Kd.R_lt (rs_ HO709))) (Kd.R_lt (rs_ HO717))) (below_size (hq_ HB))); replace HO689 := Aside0.mk (Kd.R_elder' (rs_ HO689) (Kd.R_base ho0) hb); replace HO699 := Aside0.mk (Kd.R_elder' (rs_ HO699) (Kd.R_base ho0) hb); replace HO701 := rb_ HO701 hb; replace HO709 := Aside0.mk (Kd.R_elder' (rs_ HO709) (Kd.R_base ho0) hb); replace HO717 := Aside0.mk (Kd.R_elder' (rs_ HO717) (Kd.R_base ho0) hb); replace HB := bs_ w hb; (try clear hb); (try clear hb2); (try clear hk); (try clear hi); (try clear ho0); obtain ⟨Ao143, co143, eo143⟩ := Kd.R_slice HO720.out; subst eo143) | ((with_reducible refine gate_callee (f := 18) rfl ?_); (try refine ug_ (by rfl) ?_); refine goesA_ (some 207) Try.func18 #[.slice Ao143 t718.length co143, .int .i64 6] ?_; (with_reducible refine (levels_Wait.calls k _ _ t718 6 t721 t722 _ ?side1 ?side2 A44.out).mono ?_); (case side1 => exact cr_ HO720); (case side2 => exact (Kd.R_reads' HO720.out).2.1); rintro e w144 ⟨rfl, hb⟩; refine ⟨_, rfl, ?_⟩; replace HO689 := rb_ HO689 hb; replace HO699 := rb_ HO699 hb; replace HO701 := rb_ HO701 hb; replace HO709 := rb_ HO709 hb; replace HO717 := rb_ HO717 hb; replace HO720 := rb_ HO720 hb; replace HB := bs_ w hb; clear hb; have n_ := Aside0.mk (Kd.R_mono (ok' := (fun k_ => some k_ ≠ (v698 : Value).ownBlock ∧ some k_ ≠ (v708 : Value).ownBlock ∧ some k_ ≠ (v716 : Value).ownBlock)) HO689.out (fun k_ hk => ⟨hk.1.1, ⟨hk.1.2.1, hk.1.2.2⟩⟩)); clear HO689; have HO689 := n_; clear n_; have n_ := Aside0.mk (Kd.R_mono (ok' := (fun k_ => some k_ ≠ (v688 : Value).ownBlock ∧ some k_ ≠ (v708 : Value).ownBlock ∧ some k_ ≠ (v716 : Value).ownBlock)) HO699.out (fun k_ hk => ⟨hk.1.1, ⟨hk.1.2.1, hk.1.2.2⟩⟩)); clear HO699; have HO699 := n_; clear n_; have n_ := Aside0.mk (Kd.R_mono (ok' := (fun k_ => some k_ ≠ (v688 : Value).ownBlock ∧ some k_ ≠ (v698 : Value).ownBlock ∧ some k_ ≠ (v716 : Value).ownBlock)) HO709.out (fun k_ hk => ⟨hk.1.1, ⟨hk.1.2.1, hk.1.2.2⟩⟩)); clear HO709; have HO709 := n_; clear n_; have n_ := Aside0.mk (Kd.R_mono (ok' := (fun k_ => some k_ ≠ (v688 : Value).ownBlock ∧ some k_ ≠ (v698 : Value).ownBlock ∧ some k_ ≠ (v708 : Value).ownBlock)) HO717.out (fun k_ hk => ⟨hk.1.1, ⟨hk.1.2.1, hk.1.2.2⟩⟩)); clear HO717; have HO717 := n_; clear n_; (try clear HO720)))
      replace HO689 := Aside0.mk (Kd.R_drew HO689.out)
      replace HO699 := Aside0.mk (Kd.R_drew HO699.out)
      replace HO701 := Aside0.mk (Kd.R_drew HO701.out)
      replace HO709 := Aside0.mk (Kd.R_drew HO709.out)
      replace HO717 := Aside0.mk (Kd.R_drew HO717.out)
      replace HB := Aside0.mk (below_drew1 HB.out)
      refine start_ (n := 11) (S := fun w' => True) (ds := []) (bl_ 11 0) (by kernel_rfl) rfl (by kernel_rfl) trivial (fun hHeld => ?_); refine with_tabW spigotlaw04_LevelsNames.tab21 spigotlaw04_LevelsNames.bits21 (fun HT_ HW_ => ?_)
      generalize w144.drew = w145 at HO689 HO699 HO701 HO709 HO717 HB hHeld ⊢
      refine join_ (σ := Value × Value × Value) 8 (bl_ 11 7) (fun s_ => [(211, s_.1), (212, s_.2.1), (213, s_.2.2)]) (fun s_ w' => (Kd.R k37 37 w' w.heap.size (fun k_ => some k_ ≠ (v698 : Value).ownBlock ∧ some k_ ≠ (v708 : Value).ownBlock ∧ some k_ ≠ (v716 : Value).ownBlock ∧ some k_ ≠ (s_.1 : Value).ownBlock) v688 t685) ∧ (Kd.R k37 37 w' w.heap.size (fun k_ => some k_ ≠ (v688 : Value).ownBlock ∧ some k_ ≠ (v708 : Value).ownBlock ∧ some k_ ≠ (v716 : Value).ownBlock ∧ some k_ ≠ (s_.1 : Value).ownBlock) v698 t695) ∧ (Kd.R Kd.bool 4 w' w.heap.size (fun _ => True) v700 t696) ∧ (Kd.R k37 37 w' w.heap.size (fun k_ => some k_ ≠ (v688 : Value).ownBlock ∧ some k_ ≠ (v698 : Value).ownBlock ∧ some k_ ≠ (v716 : Value).ownBlock ∧ some k_ ≠ (s_.1 : Value).ownBlock) v708 t705) ∧ (Kd.R k37 37 w' w.heap.size (fun k_ => some k_ ≠ (v688 : Value).ownBlock ∧ some k_ ≠ (v698 : Value).ownBlock ∧ some k_ ≠ (v708 : Value).ownBlock ∧ some k_ ≠ (s_.1 : Value).ownBlock) v716 t713) ∧ (Kd.R k37 37 w' w.heap.size (fun k_ => some k_ ≠ (v688 : Value).ownBlock ∧ some k_ ≠ (v698 : Value).ownBlock ∧ some k_ ≠ (v708 : Value).ownBlock ∧ some k_ ≠ (v716 : Value).ownBlock) s_.1 t723) ∧ (Kd.R (Kd.int .u64) 35 w' w.heap.size (fun _ => True) s_.2.1 y726) ∧ (Kd.R (Kd.int .i64) 2 w' w.heap.size (fun _ => True) s_.2.2 y729) ∧ (Below w.heap.size w w')) ?_ ?_
      rotate_left
      ·intro hJ0_1_2
       refine join_ (σ := Value × Value) 9 (bl_ 11 3) (fun s_ => [(211, s_.1), (212, s_.2)]) (fun s_ w' => (Kd.R k37 37 w' w.heap.size (fun k_ => some k_ ≠ (v698 : Value).ownBlock ∧ some k_ ≠ (v708 : Value).ownBlock ∧ some k_ ≠ (v716 : Value).ownBlock ∧ some k_ ≠ (s_.1 : Value).ownBlock) v688 t685) ∧ (Kd.R k37 37 w' w.heap.size (fun k_ => some k_ ≠ (v688 : Value).ownBlock ∧ some k_ ≠ (v708 : Value).ownBlock ∧ some k_ ≠ (v716 : Value).ownBlock ∧ some k_ ≠ (s_.1 : Value).ownBlock) v698 t695) ∧ (Kd.R Kd.bool 4 w' w.heap.size (fun _ => True) v700 t696) ∧ (Kd.R k37 37 w' w.heap.size (fun k_ => some k_ ≠ (v688 : Value).ownBlock ∧ some k_ ≠ (v698 : Value).ownBlock ∧ some k_ ≠ (v716 : Value).ownBlock ∧ some k_ ≠ (s_.1 : Value).ownBlock) v708 t705) ∧ (Kd.R k37 37 w' w.heap.size (fun k_ => some k_ ≠ (v688 : Value).ownBlock ∧ some k_ ≠ (v698 : Value).ownBlock ∧ some k_ ≠ (v708 : Value).ownBlock ∧ some k_ ≠ (s_.1 : Value).ownBlock) v716 t713) ∧ (Kd.R k37 37 w' w.heap.size (fun k_ => some k_ ≠ (v688 : Value).ownBlock ∧ some k_ ≠ (v698 : Value).ownBlock ∧ some k_ ≠ (v708 : Value).ownBlock ∧ some k_ ≠ (v716 : Value).ownBlock) s_.1 t723) ∧ (Kd.R (Kd.int .u64) 35 w' w.heap.size (fun _ => True) s_.2 y726) ∧ (Below w.heap.size w w')) ?_ ?_
       rotate_left
       ·intro hJ0_1
        refine join_ (σ := Value × Value) 9 (bl_ 11 5) (fun s_ => [(211, s_.1), (213, s_.2)]) (fun s_ w' => (Kd.R k37 37 w' w.heap.size (fun k_ => some k_ ≠ (v698 : Value).ownBlock ∧ some k_ ≠ (v708 : Value).ownBlock ∧ some k_ ≠ (v716 : Value).ownBlock ∧ some k_ ≠ (s_.1 : Value).ownBlock) v688 t685) ∧ (Kd.R k37 37 w' w.heap.size (fun k_ => some k_ ≠ (v688 : Value).ownBlock ∧ some k_ ≠ (v708 : Value).ownBlock ∧ some k_ ≠ (v716 : Value).ownBlock ∧ some k_ ≠ (s_.1 : Value).ownBlock) v698 t695) ∧ (Kd.R Kd.bool 4 w' w.heap.size (fun _ => True) v700 t696) ∧ (Kd.R k37 37 w' w.heap.size (fun k_ => some k_ ≠ (v688 : Value).ownBlock ∧ some k_ ≠ (v698 : Value).ownBlock ∧ some k_ ≠ (v716 : Value).ownBlock ∧ some k_ ≠ (s_.1 : Value).ownBlock) v708 t705) ∧ (Kd.R k37 37 w' w.heap.size (fun k_ => some k_ ≠ (v688 : Value).ownBlock ∧ some k_ ≠ (v698 : Value).ownBlock ∧ some k_ ≠ (v708 : Value).ownBlock ∧ some k_ ≠ (s_.1 : Value).ownBlock) v716 t713) ∧ (Kd.R k37 37 w' w.heap.size (fun k_ => some k_ ≠ (v688 : Value).ownBlock ∧ some k_ ≠ (v698 : Value).ownBlock ∧ some k_ ≠ (v708 : Value).ownBlock ∧ some k_ ≠ (v716 : Value).ownBlock) s_.1 t723) ∧ (Kd.R (Kd.int .i64) 2 w' w.heap.size (fun _ => True) s_.2 y729) ∧ (Below w.heap.size w w')) ?_ ?_
        rotate_left
        ·intro hJ0_2
         refine join_ (σ := Value × Value) 9 (bl_ 11 6) (fun s_ => [(212, s_.1), (213, s_.2)]) (fun s_ w' => (Kd.R k37 37 w' w.heap.size (fun k_ => some k_ ≠ (v698 : Value).ownBlock ∧ some k_ ≠ (v708 : Value).ownBlock ∧ some k_ ≠ (v716 : Value).ownBlock) v688 t685) ∧ (Kd.R k37 37 w' w.heap.size (fun k_ => some k_ ≠ (v688 : Value).ownBlock ∧ some k_ ≠ (v708 : Value).ownBlock ∧ some k_ ≠ (v716 : Value).ownBlock) v698 t695) ∧ (Kd.R Kd.bool 4 w' w.heap.size (fun _ => True) v700 t696) ∧ (Kd.R k37 37 w' w.heap.size (fun k_ => some k_ ≠ (v688 : Value).ownBlock ∧ some k_ ≠ (v698 : Value).ownBlock ∧ some k_ ≠ (v716 : Value).ownBlock) v708 t705) ∧ (Kd.R k37 37 w' w.heap.size (fun k_ => some k_ ≠ (v688 : Value).ownBlock ∧ some k_ ≠ (v698 : Value).ownBlock ∧ some k_ ≠ (v708 : Value).ownBlock) v716 t713) ∧ (Kd.R (Kd.int .u64) 35 w' w.heap.size (fun _ => True) s_.1 y726) ∧ (Kd.R (Kd.int .i64) 2 w' w.heap.size (fun _ => True) s_.2 y729) ∧ (Below w.heap.size w w')) ?_ ?_
         rotate_left
         ·intro hJ1_2
          refine join_ (σ := Value) 10 (bl_ 11 1) (fun s_ => [(211, s_)]) (fun s_ w' => (Kd.R k37 37 w' w.heap.size (fun k_ => some k_ ≠ (v698 : Value).ownBlock ∧ some k_ ≠ (v708 : Value).ownBlock ∧ some k_ ≠ (v716 : Value).ownBlock ∧ some k_ ≠ (s_ : Value).ownBlock) v688 t685) ∧ (Kd.R k37 37 w' w.heap.size (fun k_ => some k_ ≠ (v688 : Value).ownBlock ∧ some k_ ≠ (v708 : Value).ownBlock ∧ some k_ ≠ (v716 : Value).ownBlock ∧ some k_ ≠ (s_ : Value).ownBlock) v698 t695) ∧ (Kd.R Kd.bool 4 w' w.heap.size (fun _ => True) v700 t696) ∧ (Kd.R k37 37 w' w.heap.size (fun k_ => some k_ ≠ (v688 : Value).ownBlock ∧ some k_ ≠ (v698 : Value).ownBlock ∧ some k_ ≠ (v716 : Value).ownBlock ∧ some k_ ≠ (s_ : Value).ownBlock) v708 t705) ∧ (Kd.R k37 37 w' w.heap.size (fun k_ => some k_ ≠ (v688 : Value).ownBlock ∧ some k_ ≠ (v698 : Value).ownBlock ∧ some k_ ≠ (v708 : Value).ownBlock ∧ some k_ ≠ (s_ : Value).ownBlock) v716 t713) ∧ (Kd.R k37 37 w' w.heap.size (fun k_ => some k_ ≠ (v688 : Value).ownBlock ∧ some k_ ≠ (v698 : Value).ownBlock ∧ some k_ ≠ (v708 : Value).ownBlock ∧ some k_ ≠ (v716 : Value).ownBlock) s_ t723) ∧ (Below w.heap.size w w')) ?_ ?_
          rotate_left
          ·intro hJ0
           refine join_ (σ := Value) 10 (bl_ 11 2) (fun s_ => [(212, s_)]) (fun s_ w' => (Kd.R k37 37 w' w.heap.size (fun k_ => some k_ ≠ (v698 : Value).ownBlock ∧ some k_ ≠ (v708 : Value).ownBlock ∧ some k_ ≠ (v716 : Value).ownBlock) v688 t685) ∧ (Kd.R k37 37 w' w.heap.size (fun k_ => some k_ ≠ (v688 : Value).ownBlock ∧ some k_ ≠ (v708 : Value).ownBlock ∧ some k_ ≠ (v716 : Value).ownBlock) v698 t695) ∧ (Kd.R Kd.bool 4 w' w.heap.size (fun _ => True) v700 t696) ∧ (Kd.R k37 37 w' w.heap.size (fun k_ => some k_ ≠ (v688 : Value).ownBlock ∧ some k_ ≠ (v698 : Value).ownBlock ∧ some k_ ≠ (v716 : Value).ownBlock) v708 t705) ∧ (Kd.R k37 37 w' w.heap.size (fun k_ => some k_ ≠ (v688 : Value).ownBlock ∧ some k_ ≠ (v698 : Value).ownBlock ∧ some k_ ≠ (v708 : Value).ownBlock) v716 t713) ∧ (Kd.R (Kd.int .u64) 35 w' w.heap.size (fun _ => True) s_ y726) ∧ (Below w.heap.size w w')) ?_ ?_
           rotate_left
           ·intro hJ1
            refine join_ (σ := Value) 10 (bl_ 11 4) (fun s_ => [(213, s_)]) (fun s_ w' => (Kd.R k37 37 w' w.heap.size (fun k_ => some k_ ≠ (v698 : Value).ownBlock ∧ some k_ ≠ (v708 : Value).ownBlock ∧ some k_ ≠ (v716 : Value).ownBlock) v688 t685) ∧ (Kd.R k37 37 w' w.heap.size (fun k_ => some k_ ≠ (v688 : Value).ownBlock ∧ some k_ ≠ (v708 : Value).ownBlock ∧ some k_ ≠ (v716 : Value).ownBlock) v698 t695) ∧ (Kd.R Kd.bool 4 w' w.heap.size (fun _ => True) v700 t696) ∧ (Kd.R k37 37 w' w.heap.size (fun k_ => some k_ ≠ (v688 : Value).ownBlock ∧ some k_ ≠ (v698 : Value).ownBlock ∧ some k_ ≠ (v716 : Value).ownBlock) v708 t705) ∧ (Kd.R k37 37 w' w.heap.size (fun k_ => some k_ ≠ (v688 : Value).ownBlock ∧ some k_ ≠ (v698 : Value).ownBlock ∧ some k_ ≠ (v708 : Value).ownBlock) v716 t713) ∧ (Kd.R (Kd.int .i64) 2 w' w.heap.size (fun _ => True) s_ y729) ∧ (Below w.heap.size w w')) ?_ ?_
            rotate_left
            ·intro hJ2
             refine three_ (i := 0) (j := 1) (k := 2) (Ni := some 211) (Nj := some 212) (Nk := some 213) (bl_ 11 1) (bl_ 11 2) (bl_ 11 4) rfl rfl rfl rfl rfl rfl (three_of HT_.out (by kernel_rfl)) (by decide) (by decide) (by decide) (fun K hK => ?_) (fun K hK => ?_) (fun K hK => ?_)
             ·refine goesB_ Try.func31 #[] ?_
              with_reducible refine (spigotlaw04_given.calls  t723 _ A45.out).mono ?_
              rintro e w146 ⟨v724, rfl, ho0, hb⟩
              refine ⟨_, rfl, ?_⟩
              have HO725 := Aside0.mk (Kd.R_lower (Kd.R_new' (Kd.R_new' (Kd.R_new' (Kd.R_new' ho0 (Kd.R_lt (rs_ HO689))) (Kd.R_lt (rs_ HO699))) (Kd.R_lt (rs_ HO709))) (Kd.R_lt (rs_ HO717))) (below_size (hq_ HB)))
              replace HO689 := Aside0.mk (Kd.R_elder' (rs_ HO689) (Kd.R_base ho0) hb)
              replace HO699 := Aside0.mk (Kd.R_elder' (rs_ HO699) (Kd.R_base ho0) hb)
              replace HO701 := rb_ HO701 hb
              replace HO709 := Aside0.mk (Kd.R_elder' (rs_ HO709) (Kd.R_base ho0) hb)
              replace HO717 := Aside0.mk (Kd.R_elder' (rs_ HO717) (Kd.R_base ho0) hb)
              replace HB := bs_ w hb
              (try clear hb)
              (try clear hb2)
              (try clear hk)
              (try clear hi)
              (try clear ho0)
              refine hK.out _ _ trivial (fun hHeld => ?_)
              clear hK K
              refine nm_ (some 211) ?_
              exact no_ (hJ0 (v724) _ ⟨(by (with_reducible repeat (first | apply Kd.R_alloc | apply Kd.R_drewN | apply Kd.R_drew)); exact Kd.R_mono HO689.out (fun _ hk => ⟨hk.1.1, ⟨hk.1.2.1, ⟨hk.1.2.2, hk.2⟩⟩⟩)), (by (with_reducible repeat (first | apply Kd.R_alloc | apply Kd.R_drewN | apply Kd.R_drew)); exact Kd.R_mono HO699.out (fun _ hk => ⟨hk.1.1, ⟨hk.1.2.1, ⟨hk.1.2.2, hk.2⟩⟩⟩)), (rs_ HO701), (by (with_reducible repeat (first | apply Kd.R_alloc | apply Kd.R_drewN | apply Kd.R_drew)); exact Kd.R_mono HO709.out (fun _ hk => ⟨hk.1.1, ⟨hk.1.2.1, ⟨hk.1.2.2, hk.2⟩⟩⟩)), (by (with_reducible repeat (first | apply Kd.R_alloc | apply Kd.R_drewN | apply Kd.R_drew)); exact Kd.R_mono HO717.out (fun _ hk => ⟨hk.1.1, ⟨hk.1.2.1, ⟨hk.1.2.2, hk.2⟩⟩⟩)), (by (with_reducible repeat (first | apply Kd.R_alloc | apply Kd.R_drewN | apply Kd.R_drew)); exact Kd.R_mono HO725.out (fun _ hk => ⟨hk.1.1.1.2, ⟨hk.1.1.2, ⟨hk.1.2, hk.2⟩⟩⟩)), (hq_ HB)⟩)
             ·refine Kd.R_make_step (Kd.int .u64) _ 35 (by rfl) (N := 212) rfl 23 _ _ rfl 200 rfl rfl Try.underlying23 (.int .u64 0) 8 info35 rfl (by decide) (by omega) 0 (ok := fun _ => True) (okp := fun _ => True) rfl (fun _ hk => hk) trivial (by omega) (by omega) (Below.refl _ _) (Nat.le_refl _) ?_
              intro v727 w146 ho147 hb hg_ hnew_
              clear hg_ hnew_
              (first | rw [← Ny726.out] at ho147 | (simp only [Int.reduceToNat] at ho147; rw [← Ny726.out] at ho147))
              have HO728 := Aside0.mk (Kd.R_lower ho147 (below_size (hq_ HB)))
              replace HO689 := rb_ HO689 hb
              replace HO699 := rb_ HO699 hb
              replace HO701 := rb_ HO701 hb
              replace HO709 := rb_ HO709 hb
              replace HO717 := rb_ HO717 hb
              replace HB := bs_ w hb
              clear hb ho147
              refine hK.out _ _ trivial (fun hHeld => ?_)
              clear hK K
              refine nm_ (some 212) ?_
              exact no_ (hJ1 (v727) _ ⟨(rs_ HO689), (rs_ HO699), (rs_ HO701), (rs_ HO709), (rs_ HO717), (rs_ HO728), (hq_ HB)⟩)
             ·refine Kd.R_make_step (Kd.int .i64) _ 2 (by rfl) (N := 213) rfl 24 _ _ rfl 200 rfl rfl Try.underlying24 (.int .i64 0) 8 info2 rfl (by decide) (by omega) 0 (ok := fun _ => True) (okp := fun _ => True) rfl (fun _ hk => hk) trivial (by omega) (by omega) (Below.refl _ _) (Nat.le_refl _) ?_
              intro v730 w146 ho147 hb hg_ hnew_
              clear hg_ hnew_
              (first | rw [← Ny729.out] at ho147 | (simp only [Int.reduceToNat] at ho147; rw [← Ny729.out] at ho147))
              have HO731 := Aside0.mk (Kd.R_lower ho147 (below_size (hq_ HB)))
              replace HO689 := rb_ HO689 hb
              replace HO699 := rb_ HO699 hb
              replace HO701 := rb_ HO701 hb
              replace HO709 := rb_ HO709 hb
              replace HO717 := rb_ HO717 hb
              replace HB := bs_ w hb
              clear hb ho147
              refine hK.out _ _ trivial (fun hHeld => ?_)
              clear hK K
              refine nm_ (some 213) ?_
              exact no_ (hJ2 (v730) _ ⟨(rs_ HO689), (rs_ HO699), (rs_ HO701), (rs_ HO709), (rs_ HO717), (rs_ HO731), (hq_ HB)⟩)
            ·rintro v730 w148 ⟨h0_, h1_, h2_, h3_, h4_, h5_, h6_⟩
             have HO731 : Aside0 (Kd.R (Kd.int .i64) 2 w148 w.heap.size (fun _ => True) v730 y729) := ⟨h5_⟩
             replace HO689 : Aside0 (Kd.R k37 37 w148 w.heap.size (fun k_ => some k_ ≠ (v698 : Value).ownBlock ∧ some k_ ≠ (v708 : Value).ownBlock ∧ some k_ ≠ (v716 : Value).ownBlock) v688 t685) := ⟨h0_⟩
             replace HO699 : Aside0 (Kd.R k37 37 w148 w.heap.size (fun k_ => some k_ ≠ (v688 : Value).ownBlock ∧ some k_ ≠ (v708 : Value).ownBlock ∧ some k_ ≠ (v716 : Value).ownBlock) v698 t695) := ⟨h1_⟩
             replace HO701 : Aside0 (Kd.R Kd.bool 4 w148 w.heap.size (fun _ => True) v700 t696) := ⟨h2_⟩
             replace HO709 : Aside0 (Kd.R k37 37 w148 w.heap.size (fun k_ => some k_ ≠ (v688 : Value).ownBlock ∧ some k_ ≠ (v698 : Value).ownBlock ∧ some k_ ≠ (v716 : Value).ownBlock) v708 t705) := ⟨h3_⟩
             replace HO717 : Aside0 (Kd.R k37 37 w148 w.heap.size (fun k_ => some k_ ≠ (v688 : Value).ownBlock ∧ some k_ ≠ (v698 : Value).ownBlock ∧ some k_ ≠ (v708 : Value).ownBlock) v716 t713) := ⟨h4_⟩
             replace HB := Aside0.mk h6_
             clear h0_ h1_ h2_ h3_ h4_ h5_ h6_
             have hHeld := trivial
             refine nq_ ?_
             refine tw_ 0 1 (some 211) (some 212) (bl_ 11 5) (bl_ 11 6) HT_ (fun K hK => ?_) fun K hK => ?_
             ·refine goesB_ Try.func31 #[] ?_
              with_reducible refine (spigotlaw04_given.calls  t723 _ A45.out).mono ?_
              rintro e w149 ⟨v724, rfl, ho0, hb⟩
              refine ⟨_, rfl, ?_⟩
              have HO725 := Aside0.mk (Kd.R_lower (Kd.R_new' (Kd.R_new' (Kd.R_new' (Kd.R_new' ho0 (Kd.R_lt (rs_ HO689))) (Kd.R_lt (rs_ HO699))) (Kd.R_lt (rs_ HO709))) (Kd.R_lt (rs_ HO717))) (below_size (hq_ HB)))
              replace HO689 := Aside0.mk (Kd.R_elder' (rs_ HO689) (Kd.R_base ho0) hb)
              replace HO699 := Aside0.mk (Kd.R_elder' (rs_ HO699) (Kd.R_base ho0) hb)
              replace HO701 := rb_ HO701 hb
              replace HO709 := Aside0.mk (Kd.R_elder' (rs_ HO709) (Kd.R_base ho0) hb)
              replace HO717 := Aside0.mk (Kd.R_elder' (rs_ HO717) (Kd.R_base ho0) hb)
              replace HO731 := rb_ HO731 hb
              replace HB := bs_ w hb
              (try clear hb)
              (try clear hb2)
              (try clear hk)
              (try clear hi)
              (try clear ho0)
              refine hK.out _ _ trivial (fun hHeld => ?_)
              clear hK K
              refine nm_ (some 211) ?_
              exact no_ (hJ0_2 (v724, v730) _ ⟨(by (with_reducible repeat (first | apply Kd.R_alloc | apply Kd.R_drewN | apply Kd.R_drew)); exact Kd.R_mono HO689.out (fun _ hk => ⟨hk.1.1, ⟨hk.1.2.1, ⟨hk.1.2.2, hk.2⟩⟩⟩)), (by (with_reducible repeat (first | apply Kd.R_alloc | apply Kd.R_drewN | apply Kd.R_drew)); exact Kd.R_mono HO699.out (fun _ hk => ⟨hk.1.1, ⟨hk.1.2.1, ⟨hk.1.2.2, hk.2⟩⟩⟩)), (rs_ HO701), (by (with_reducible repeat (first | apply Kd.R_alloc | apply Kd.R_drewN | apply Kd.R_drew)); exact Kd.R_mono HO709.out (fun _ hk => ⟨hk.1.1, ⟨hk.1.2.1, ⟨hk.1.2.2, hk.2⟩⟩⟩)), (by (with_reducible repeat (first | apply Kd.R_alloc | apply Kd.R_drewN | apply Kd.R_drew)); exact Kd.R_mono HO717.out (fun _ hk => ⟨hk.1.1, ⟨hk.1.2.1, ⟨hk.1.2.2, hk.2⟩⟩⟩)), (by (with_reducible repeat (first | apply Kd.R_alloc | apply Kd.R_drewN | apply Kd.R_drew)); exact Kd.R_mono HO725.out (fun _ hk => ⟨hk.1.1.1.2, ⟨hk.1.1.2, ⟨hk.1.2, hk.2⟩⟩⟩)), (rs_ HO731), (hq_ HB)⟩)
             ·refine Kd.R_make_step (Kd.int .u64) _ 35 (by rfl) (N := 212) rfl 23 _ _ rfl 200 rfl rfl Try.underlying23 (.int .u64 0) 8 info35 rfl (by decide) (by omega) 0 (ok := fun _ => True) (okp := fun _ => True) rfl (fun _ hk => hk) trivial (by omega) (by omega) (Below.refl _ _) (Nat.le_refl _) ?_
              intro v727 w149 ho150 hb hg_ hnew_
              clear hg_ hnew_
              (first | rw [← Ny726.out] at ho150 | (simp only [Int.reduceToNat] at ho150; rw [← Ny726.out] at ho150))
              have HO728 := Aside0.mk (Kd.R_lower ho150 (below_size (hq_ HB)))
              replace HO689 := rb_ HO689 hb
              replace HO699 := rb_ HO699 hb
              replace HO701 := rb_ HO701 hb
              replace HO709 := rb_ HO709 hb
              replace HO717 := rb_ HO717 hb
              replace HO731 := rb_ HO731 hb
              replace HB := bs_ w hb
              clear hb ho150
              refine hK.out _ _ trivial (fun hHeld => ?_)
              clear hK K
              refine nm_ (some 212) ?_
              exact no_ (hJ1_2 (v727, v730) _ ⟨(rs_ HO689), (rs_ HO699), (rs_ HO701), (rs_ HO709), (rs_ HO717), (rs_ HO728), (rs_ HO731), (hq_ HB)⟩)
           ·rintro v727 w148 ⟨h0_, h1_, h2_, h3_, h4_, h5_, h6_⟩
            have HO728 : Aside0 (Kd.R (Kd.int .u64) 35 w148 w.heap.size (fun _ => True) v727 y726) := ⟨h5_⟩
            replace HO689 : Aside0 (Kd.R k37 37 w148 w.heap.size (fun k_ => some k_ ≠ (v698 : Value).ownBlock ∧ some k_ ≠ (v708 : Value).ownBlock ∧ some k_ ≠ (v716 : Value).ownBlock) v688 t685) := ⟨h0_⟩
            replace HO699 : Aside0 (Kd.R k37 37 w148 w.heap.size (fun k_ => some k_ ≠ (v688 : Value).ownBlock ∧ some k_ ≠ (v708 : Value).ownBlock ∧ some k_ ≠ (v716 : Value).ownBlock) v698 t695) := ⟨h1_⟩
            replace HO701 : Aside0 (Kd.R Kd.bool 4 w148 w.heap.size (fun _ => True) v700 t696) := ⟨h2_⟩
            replace HO709 : Aside0 (Kd.R k37 37 w148 w.heap.size (fun k_ => some k_ ≠ (v688 : Value).ownBlock ∧ some k_ ≠ (v698 : Value).ownBlock ∧ some k_ ≠ (v716 : Value).ownBlock) v708 t705) := ⟨h3_⟩
            replace HO717 : Aside0 (Kd.R k37 37 w148 w.heap.size (fun k_ => some k_ ≠ (v688 : Value).ownBlock ∧ some k_ ≠ (v698 : Value).ownBlock ∧ some k_ ≠ (v708 : Value).ownBlock) v716 t713) := ⟨h4_⟩
            replace HB := Aside0.mk h6_
            clear h0_ h1_ h2_ h3_ h4_ h5_ h6_
            have hHeld := trivial
            refine nq_ ?_
            refine tw_ 0 2 (some 211) (some 213) (bl_ 11 3) (bl_ 11 6) HT_ (fun K hK => ?_) fun K hK => ?_
            ·refine goesB_ Try.func31 #[] ?_
             with_reducible refine (spigotlaw04_given.calls  t723 _ A45.out).mono ?_
             rintro e w149 ⟨v724, rfl, ho0, hb⟩
             refine ⟨_, rfl, ?_⟩
             have HO725 := Aside0.mk (Kd.R_lower (Kd.R_new' (Kd.R_new' (Kd.R_new' (Kd.R_new' ho0 (Kd.R_lt (rs_ HO689))) (Kd.R_lt (rs_ HO699))) (Kd.R_lt (rs_ HO709))) (Kd.R_lt (rs_ HO717))) (below_size (hq_ HB)))
             replace HO689 := Aside0.mk (Kd.R_elder' (rs_ HO689) (Kd.R_base ho0) hb)
             replace HO699 := Aside0.mk (Kd.R_elder' (rs_ HO699) (Kd.R_base ho0) hb)
             replace HO701 := rb_ HO701 hb
             replace HO709 := Aside0.mk (Kd.R_elder' (rs_ HO709) (Kd.R_base ho0) hb)
             replace HO717 := Aside0.mk (Kd.R_elder' (rs_ HO717) (Kd.R_base ho0) hb)
             replace HO728 := rb_ HO728 hb
             replace HB := bs_ w hb
             (try clear hb)
             (try clear hb2)
             (try clear hk)
             (try clear hi)
             (try clear ho0)
             refine hK.out _ _ trivial (fun hHeld => ?_)
             clear hK K
             refine nm_ (some 211) ?_
             exact no_ (hJ0_1 (v724, v727) _ ⟨(by (with_reducible repeat (first | apply Kd.R_alloc | apply Kd.R_drewN | apply Kd.R_drew)); exact Kd.R_mono HO689.out (fun _ hk => ⟨hk.1.1, ⟨hk.1.2.1, ⟨hk.1.2.2, hk.2⟩⟩⟩)), (by (with_reducible repeat (first | apply Kd.R_alloc | apply Kd.R_drewN | apply Kd.R_drew)); exact Kd.R_mono HO699.out (fun _ hk => ⟨hk.1.1, ⟨hk.1.2.1, ⟨hk.1.2.2, hk.2⟩⟩⟩)), (rs_ HO701), (by (with_reducible repeat (first | apply Kd.R_alloc | apply Kd.R_drewN | apply Kd.R_drew)); exact Kd.R_mono HO709.out (fun _ hk => ⟨hk.1.1, ⟨hk.1.2.1, ⟨hk.1.2.2, hk.2⟩⟩⟩)), (by (with_reducible repeat (first | apply Kd.R_alloc | apply Kd.R_drewN | apply Kd.R_drew)); exact Kd.R_mono HO717.out (fun _ hk => ⟨hk.1.1, ⟨hk.1.2.1, ⟨hk.1.2.2, hk.2⟩⟩⟩)), (by (with_reducible repeat (first | apply Kd.R_alloc | apply Kd.R_drewN | apply Kd.R_drew)); exact Kd.R_mono HO725.out (fun _ hk => ⟨hk.1.1.1.2, ⟨hk.1.1.2, ⟨hk.1.2, hk.2⟩⟩⟩)), (rs_ HO728), (hq_ HB)⟩)
            ·refine Kd.R_make_step (Kd.int .i64) _ 2 (by rfl) (N := 213) rfl 24 _ _ rfl 200 rfl rfl Try.underlying24 (.int .i64 0) 8 info2 rfl (by decide) (by omega) 0 (ok := fun _ => True) (okp := fun _ => True) rfl (fun _ hk => hk) trivial (by omega) (by omega) (Below.refl _ _) (Nat.le_refl _) ?_
             intro v730 w149 ho150 hb hg_ hnew_
             clear hg_ hnew_
             (first | rw [← Ny729.out] at ho150 | (simp only [Int.reduceToNat] at ho150; rw [← Ny729.out] at ho150))
             have HO731 := Aside0.mk (Kd.R_lower ho150 (below_size (hq_ HB)))
             replace HO689 := rb_ HO689 hb
             replace HO699 := rb_ HO699 hb
             replace HO701 := rb_ HO701 hb
             replace HO709 := rb_ HO709 hb
             replace HO717 := rb_ HO717 hb
             replace HO728 := rb_ HO728 hb
             replace HB := bs_ w hb
             clear hb ho150
             refine hK.out _ _ trivial (fun hHeld => ?_)
             clear hK K
             refine nm_ (some 213) ?_
             exact no_ (hJ1_2 (v727, v730) _ ⟨(rs_ HO689), (rs_ HO699), (rs_ HO701), (rs_ HO709), (rs_ HO717), (rs_ HO728), (rs_ HO731), (hq_ HB)⟩)
          ·rintro v724 w147 ⟨h0_, h1_, h2_, h3_, h4_, h5_, h6_⟩
           have HO725 : Aside0 (Kd.R k37 37 w147 w.heap.size (fun k_ => some k_ ≠ (v688 : Value).ownBlock ∧ some k_ ≠ (v698 : Value).ownBlock ∧ some k_ ≠ (v708 : Value).ownBlock ∧ some k_ ≠ (v716 : Value).ownBlock) v724 t723) := ⟨h5_⟩
           replace HO689 : Aside0 (Kd.R k37 37 w147 w.heap.size (fun k_ => some k_ ≠ (v698 : Value).ownBlock ∧ some k_ ≠ (v708 : Value).ownBlock ∧ some k_ ≠ (v716 : Value).ownBlock ∧ some k_ ≠ (v724 : Value).ownBlock) v688 t685) := ⟨h0_⟩
           replace HO699 : Aside0 (Kd.R k37 37 w147 w.heap.size (fun k_ => some k_ ≠ (v688 : Value).ownBlock ∧ some k_ ≠ (v708 : Value).ownBlock ∧ some k_ ≠ (v716 : Value).ownBlock ∧ some k_ ≠ (v724 : Value).ownBlock) v698 t695) := ⟨h1_⟩
           replace HO701 : Aside0 (Kd.R Kd.bool 4 w147 w.heap.size (fun _ => True) v700 t696) := ⟨h2_⟩
           replace HO709 : Aside0 (Kd.R k37 37 w147 w.heap.size (fun k_ => some k_ ≠ (v688 : Value).ownBlock ∧ some k_ ≠ (v698 : Value).ownBlock ∧ some k_ ≠ (v716 : Value).ownBlock ∧ some k_ ≠ (v724 : Value).ownBlock) v708 t705) := ⟨h3_⟩
           replace HO717 : Aside0 (Kd.R k37 37 w147 w.heap.size (fun k_ => some k_ ≠ (v688 : Value).ownBlock ∧ some k_ ≠ (v698 : Value).ownBlock ∧ some k_ ≠ (v708 : Value).ownBlock ∧ some k_ ≠ (v724 : Value).ownBlock) v716 t713) := ⟨h4_⟩
           replace HB := Aside0.mk h6_
           clear h0_ h1_ h2_ h3_ h4_ h5_ h6_
           have hHeld := trivial
           refine nq_ ?_
           refine tw_ 1 2 (some 212) (some 213) (bl_ 11 3) (bl_ 11 5) HT_ (fun K hK => ?_) fun K hK => ?_
           ·refine Kd.R_make_step (Kd.int .u64) _ 35 (by rfl) (N := 212) rfl 23 _ _ rfl 200 rfl rfl Try.underlying23 (.int .u64 0) 8 info35 rfl (by decide) (by omega) 0 (ok := fun _ => True) (okp := fun _ => True) rfl (fun _ hk => hk) trivial (by omega) (by omega) (Below.refl _ _) (Nat.le_refl _) ?_
            intro v727 w148 ho149 hb hg_ hnew_
            clear hg_ hnew_
            (first | rw [← Ny726.out] at ho149 | (simp only [Int.reduceToNat] at ho149; rw [← Ny726.out] at ho149))
            have HO728 := Aside0.mk (Kd.R_lower ho149 (below_size (hq_ HB)))
            replace HO689 := rb_ HO689 hb
            replace HO699 := rb_ HO699 hb
            replace HO701 := rb_ HO701 hb
            replace HO709 := rb_ HO709 hb
            replace HO717 := rb_ HO717 hb
            replace HO725 := rb_ HO725 hb
            replace HB := bs_ w hb
            clear hb ho149
            refine hK.out _ _ trivial (fun hHeld => ?_)
            clear hK K
            refine nm_ (some 212) ?_
            exact no_ (hJ0_1 (v724, v727) _ ⟨(rs_ HO689), (rs_ HO699), (rs_ HO701), (rs_ HO709), (rs_ HO717), (rs_ HO725), (rs_ HO728), (hq_ HB)⟩)
           ·refine Kd.R_make_step (Kd.int .i64) _ 2 (by rfl) (N := 213) rfl 24 _ _ rfl 200 rfl rfl Try.underlying24 (.int .i64 0) 8 info2 rfl (by decide) (by omega) 0 (ok := fun _ => True) (okp := fun _ => True) rfl (fun _ hk => hk) trivial (by omega) (by omega) (Below.refl _ _) (Nat.le_refl _) ?_
            intro v730 w148 ho149 hb hg_ hnew_
            clear hg_ hnew_
            (first | rw [← Ny729.out] at ho149 | (simp only [Int.reduceToNat] at ho149; rw [← Ny729.out] at ho149))
            have HO731 := Aside0.mk (Kd.R_lower ho149 (below_size (hq_ HB)))
            replace HO689 := rb_ HO689 hb
            replace HO699 := rb_ HO699 hb
            replace HO701 := rb_ HO701 hb
            replace HO709 := rb_ HO709 hb
            replace HO717 := rb_ HO717 hb
            replace HO725 := rb_ HO725 hb
            replace HB := bs_ w hb
            clear hb ho149
            refine hK.out _ _ trivial (fun hHeld => ?_)
            clear hK K
            refine nm_ (some 213) ?_
            exact no_ (hJ0_2 (v724, v730) _ ⟨(rs_ HO689), (rs_ HO699), (rs_ HO701), (rs_ HO709), (rs_ HO717), (rs_ HO725), (rs_ HO731), (hq_ HB)⟩)
         ·rintro ⟨v727, v730⟩ w150 ⟨h0_, h1_, h2_, h3_, h4_, h5_, h6_, h7_⟩
          have HO728 : Aside0 (Kd.R (Kd.int .u64) 35 w150 w.heap.size (fun _ => True) v727 y726) := ⟨h5_⟩
          have HO731 : Aside0 (Kd.R (Kd.int .i64) 2 w150 w.heap.size (fun _ => True) v730 y729) := ⟨h6_⟩
          replace HO689 : Aside0 (Kd.R k37 37 w150 w.heap.size (fun k_ => some k_ ≠ (v698 : Value).ownBlock ∧ some k_ ≠ (v708 : Value).ownBlock ∧ some k_ ≠ (v716 : Value).ownBlock) v688 t685) := ⟨h0_⟩
          replace HO699 : Aside0 (Kd.R k37 37 w150 w.heap.size (fun k_ => some k_ ≠ (v688 : Value).ownBlock ∧ some k_ ≠ (v708 : Value).ownBlock ∧ some k_ ≠ (v716 : Value).ownBlock) v698 t695) := ⟨h1_⟩
          replace HO701 : Aside0 (Kd.R Kd.bool 4 w150 w.heap.size (fun _ => True) v700 t696) := ⟨h2_⟩
          replace HO709 : Aside0 (Kd.R k37 37 w150 w.heap.size (fun k_ => some k_ ≠ (v688 : Value).ownBlock ∧ some k_ ≠ (v698 : Value).ownBlock ∧ some k_ ≠ (v716 : Value).ownBlock) v708 t705) := ⟨h3_⟩
          replace HO717 : Aside0 (Kd.R k37 37 w150 w.heap.size (fun k_ => some k_ ≠ (v688 : Value).ownBlock ∧ some k_ ≠ (v698 : Value).ownBlock ∧ some k_ ≠ (v708 : Value).ownBlock) v716 t713) := ⟨h4_⟩
          replace HB := Aside0.mk h7_
          clear h0_ h1_ h2_ h3_ h4_ h5_ h6_ h7_
          have hHeld := trivial
          refine nq_ ?_
          refine oa_ 0 (some 211) (bl_ 11 7) HT_ fun K hK => ?_
          refine goesB_ Try.func31 #[] ?_
          with_reducible refine (spigotlaw04_given.calls  t723 _ A45.out).mono ?_
          rintro e w151 ⟨v724, rfl, ho0, hb⟩
          refine ⟨_, rfl, ?_⟩
          have HO725 := Aside0.mk (Kd.R_lower (Kd.R_new' (Kd.R_new' (Kd.R_new' (Kd.R_new' ho0 (Kd.R_lt (rs_ HO689))) (Kd.R_lt (rs_ HO699))) (Kd.R_lt (rs_ HO709))) (Kd.R_lt (rs_ HO717))) (below_size (hq_ HB)))
          replace HO689 := Aside0.mk (Kd.R_elder' (rs_ HO689) (Kd.R_base ho0) hb)
          replace HO699 := Aside0.mk (Kd.R_elder' (rs_ HO699) (Kd.R_base ho0) hb)
          replace HO701 := rb_ HO701 hb
          replace HO709 := Aside0.mk (Kd.R_elder' (rs_ HO709) (Kd.R_base ho0) hb)
          replace HO717 := Aside0.mk (Kd.R_elder' (rs_ HO717) (Kd.R_base ho0) hb)
          replace HO728 := rb_ HO728 hb
          replace HO731 := rb_ HO731 hb
          replace HB := bs_ w hb
          (try clear hb)
          (try clear hb2)
          (try clear hk)
          (try clear hi)
          (try clear ho0)
          refine hK.out _ _ trivial (fun hHeld => ?_)
          clear hK K
          refine nm_ (some 211) ?_
          exact no_ (hJ0_1_2 (v724, v727, v730) _ ⟨(by (with_reducible repeat (first | apply Kd.R_alloc | apply Kd.R_drewN | apply Kd.R_drew)); exact Kd.R_mono HO689.out (fun _ hk => ⟨hk.1.1, ⟨hk.1.2.1, ⟨hk.1.2.2, hk.2⟩⟩⟩)), (by (with_reducible repeat (first | apply Kd.R_alloc | apply Kd.R_drewN | apply Kd.R_drew)); exact Kd.R_mono HO699.out (fun _ hk => ⟨hk.1.1, ⟨hk.1.2.1, ⟨hk.1.2.2, hk.2⟩⟩⟩)), (rs_ HO701), (by (with_reducible repeat (first | apply Kd.R_alloc | apply Kd.R_drewN | apply Kd.R_drew)); exact Kd.R_mono HO709.out (fun _ hk => ⟨hk.1.1, ⟨hk.1.2.1, ⟨hk.1.2.2, hk.2⟩⟩⟩)), (by (with_reducible repeat (first | apply Kd.R_alloc | apply Kd.R_drewN | apply Kd.R_drew)); exact Kd.R_mono HO717.out (fun _ hk => ⟨hk.1.1, ⟨hk.1.2.1, ⟨hk.1.2.2, hk.2⟩⟩⟩)), (by (with_reducible repeat (first | apply Kd.R_alloc | apply Kd.R_drewN | apply Kd.R_drew)); exact Kd.R_mono HO725.out (fun _ hk => ⟨hk.1.1.1.2, ⟨hk.1.1.2, ⟨hk.1.2, hk.2⟩⟩⟩)), (rs_ HO728), (rs_ HO731), (hq_ HB)⟩)
        ·rintro ⟨v724, v730⟩ w149 ⟨h0_, h1_, h2_, h3_, h4_, h5_, h6_, h7_⟩
         have HO725 : Aside0 (Kd.R k37 37 w149 w.heap.size (fun k_ => some k_ ≠ (v688 : Value).ownBlock ∧ some k_ ≠ (v698 : Value).ownBlock ∧ some k_ ≠ (v708 : Value).ownBlock ∧ some k_ ≠ (v716 : Value).ownBlock) v724 t723) := ⟨h5_⟩
         have HO731 : Aside0 (Kd.R (Kd.int .i64) 2 w149 w.heap.size (fun _ => True) v730 y729) := ⟨h6_⟩
         replace HO689 : Aside0 (Kd.R k37 37 w149 w.heap.size (fun k_ => some k_ ≠ (v698 : Value).ownBlock ∧ some k_ ≠ (v708 : Value).ownBlock ∧ some k_ ≠ (v716 : Value).ownBlock ∧ some k_ ≠ (v724 : Value).ownBlock) v688 t685) := ⟨h0_⟩
         replace HO699 : Aside0 (Kd.R k37 37 w149 w.heap.size (fun k_ => some k_ ≠ (v688 : Value).ownBlock ∧ some k_ ≠ (v708 : Value).ownBlock ∧ some k_ ≠ (v716 : Value).ownBlock ∧ some k_ ≠ (v724 : Value).ownBlock) v698 t695) := ⟨h1_⟩
         replace HO701 : Aside0 (Kd.R Kd.bool 4 w149 w.heap.size (fun _ => True) v700 t696) := ⟨h2_⟩
         replace HO709 : Aside0 (Kd.R k37 37 w149 w.heap.size (fun k_ => some k_ ≠ (v688 : Value).ownBlock ∧ some k_ ≠ (v698 : Value).ownBlock ∧ some k_ ≠ (v716 : Value).ownBlock ∧ some k_ ≠ (v724 : Value).ownBlock) v708 t705) := ⟨h3_⟩
         replace HO717 : Aside0 (Kd.R k37 37 w149 w.heap.size (fun k_ => some k_ ≠ (v688 : Value).ownBlock ∧ some k_ ≠ (v698 : Value).ownBlock ∧ some k_ ≠ (v708 : Value).ownBlock ∧ some k_ ≠ (v724 : Value).ownBlock) v716 t713) := ⟨h4_⟩
         replace HB := Aside0.mk h7_
         clear h0_ h1_ h2_ h3_ h4_ h5_ h6_ h7_
         have hHeld := trivial
         refine nq_ ?_
         refine oa_ 1 (some 212) (bl_ 11 7) HT_ fun K hK => ?_
         refine Kd.R_make_step (Kd.int .u64) _ 35 (by rfl) (N := 212) rfl 23 _ _ rfl 200 rfl rfl Try.underlying23 (.int .u64 0) 8 info35 rfl (by decide) (by omega) 0 (ok := fun _ => True) (okp := fun _ => True) rfl (fun _ hk => hk) trivial (by omega) (by omega) (Below.refl _ _) (Nat.le_refl _) ?_
         intro v727 w150 ho151 hb hg_ hnew_
         clear hg_ hnew_
         (first | rw [← Ny726.out] at ho151 | (simp only [Int.reduceToNat] at ho151; rw [← Ny726.out] at ho151))
         have HO728 := Aside0.mk (Kd.R_lower ho151 (below_size (hq_ HB)))
         replace HO689 := rb_ HO689 hb
         replace HO699 := rb_ HO699 hb
         replace HO701 := rb_ HO701 hb
         replace HO709 := rb_ HO709 hb
         replace HO717 := rb_ HO717 hb
         replace HO725 := rb_ HO725 hb
         replace HO731 := rb_ HO731 hb
         replace HB := bs_ w hb
         clear hb ho151
         refine hK.out _ _ trivial (fun hHeld => ?_)
         clear hK K
         refine nm_ (some 212) ?_
         exact no_ (hJ0_1_2 (v724, v727, v730) _ ⟨(rs_ HO689), (rs_ HO699), (rs_ HO701), (rs_ HO709), (rs_ HO717), (rs_ HO725), (rs_ HO728), (rs_ HO731), (hq_ HB)⟩)
       ·rintro ⟨v724, v727⟩ w149 ⟨h0_, h1_, h2_, h3_, h4_, h5_, h6_, h7_⟩
        have HO725 : Aside0 (Kd.R k37 37 w149 w.heap.size (fun k_ => some k_ ≠ (v688 : Value).ownBlock ∧ some k_ ≠ (v698 : Value).ownBlock ∧ some k_ ≠ (v708 : Value).ownBlock ∧ some k_ ≠ (v716 : Value).ownBlock) v724 t723) := ⟨h5_⟩
        have HO728 : Aside0 (Kd.R (Kd.int .u64) 35 w149 w.heap.size (fun _ => True) v727 y726) := ⟨h6_⟩
        replace HO689 : Aside0 (Kd.R k37 37 w149 w.heap.size (fun k_ => some k_ ≠ (v698 : Value).ownBlock ∧ some k_ ≠ (v708 : Value).ownBlock ∧ some k_ ≠ (v716 : Value).ownBlock ∧ some k_ ≠ (v724 : Value).ownBlock) v688 t685) := ⟨h0_⟩
        replace HO699 : Aside0 (Kd.R k37 37 w149 w.heap.size (fun k_ => some k_ ≠ (v688 : Value).ownBlock ∧ some k_ ≠ (v708 : Value).ownBlock ∧ some k_ ≠ (v716 : Value).ownBlock ∧ some k_ ≠ (v724 : Value).ownBlock) v698 t695) := ⟨h1_⟩
        replace HO701 : Aside0 (Kd.R Kd.bool 4 w149 w.heap.size (fun _ => True) v700 t696) := ⟨h2_⟩
        replace HO709 : Aside0 (Kd.R k37 37 w149 w.heap.size (fun k_ => some k_ ≠ (v688 : Value).ownBlock ∧ some k_ ≠ (v698 : Value).ownBlock ∧ some k_ ≠ (v716 : Value).ownBlock ∧ some k_ ≠ (v724 : Value).ownBlock) v708 t705) := ⟨h3_⟩
        replace HO717 : Aside0 (Kd.R k37 37 w149 w.heap.size (fun k_ => some k_ ≠ (v688 : Value).ownBlock ∧ some k_ ≠ (v698 : Value).ownBlock ∧ some k_ ≠ (v708 : Value).ownBlock ∧ some k_ ≠ (v724 : Value).ownBlock) v716 t713) := ⟨h4_⟩
        replace HB := Aside0.mk h7_
        clear h0_ h1_ h2_ h3_ h4_ h5_ h6_ h7_
        have hHeld := trivial
        refine nq_ ?_
        refine oa_ 2 (some 213) (bl_ 11 7) HT_ fun K hK => ?_
        refine Kd.R_make_step (Kd.int .i64) _ 2 (by rfl) (N := 213) rfl 24 _ _ rfl 200 rfl rfl Try.underlying24 (.int .i64 0) 8 info2 rfl (by decide) (by omega) 0 (ok := fun _ => True) (okp := fun _ => True) rfl (fun _ hk => hk) trivial (by omega) (by omega) (Below.refl _ _) (Nat.le_refl _) ?_
        intro v730 w150 ho151 hb hg_ hnew_
        clear hg_ hnew_
        (first | rw [← Ny729.out] at ho151 | (simp only [Int.reduceToNat] at ho151; rw [← Ny729.out] at ho151))
        have HO731 := Aside0.mk (Kd.R_lower ho151 (below_size (hq_ HB)))
        replace HO689 := rb_ HO689 hb
        replace HO699 := rb_ HO699 hb
        replace HO701 := rb_ HO701 hb
        replace HO709 := rb_ HO709 hb
        replace HO717 := rb_ HO717 hb
        replace HO725 := rb_ HO725 hb
        replace HO728 := rb_ HO728 hb
        replace HB := bs_ w hb
        clear hb ho151
        refine hK.out _ _ trivial (fun hHeld => ?_)
        clear hK K
        refine nm_ (some 213) ?_
        exact no_ (hJ0_1_2 (v724, v727, v730) _ ⟨(rs_ HO689), (rs_ HO699), (rs_ HO701), (rs_ HO709), (rs_ HO717), (rs_ HO725), (rs_ HO728), (rs_ HO731), (hq_ HB)⟩)
      rintro ⟨v724, v727, v730⟩ w151 ⟨h0_, h1_, h2_, h3_, h4_, h5_, h6_, h7_, h8_⟩
      have HO725 : Aside0 (Kd.R k37 37 w151 w.heap.size (fun k_ => some k_ ≠ (v688 : Value).ownBlock ∧ some k_ ≠ (v698 : Value).ownBlock ∧ some k_ ≠ (v708 : Value).ownBlock ∧ some k_ ≠ (v716 : Value).ownBlock) v724 t723) := ⟨h5_⟩
      have HO728 : Aside0 (Kd.R (Kd.int .u64) 35 w151 w.heap.size (fun _ => True) v727 y726) := ⟨h6_⟩
      have HO731 : Aside0 (Kd.R (Kd.int .i64) 2 w151 w.heap.size (fun _ => True) v730 y729) := ⟨h7_⟩
      replace HO689 : Aside0 (Kd.R k37 37 w151 w.heap.size (fun k_ => some k_ ≠ (v698 : Value).ownBlock ∧ some k_ ≠ (v708 : Value).ownBlock ∧ some k_ ≠ (v716 : Value).ownBlock ∧ some k_ ≠ (v724 : Value).ownBlock) v688 t685) := ⟨h0_⟩
      replace HO699 : Aside0 (Kd.R k37 37 w151 w.heap.size (fun k_ => some k_ ≠ (v688 : Value).ownBlock ∧ some k_ ≠ (v708 : Value).ownBlock ∧ some k_ ≠ (v716 : Value).ownBlock ∧ some k_ ≠ (v724 : Value).ownBlock) v698 t695) := ⟨h1_⟩
      replace HO701 : Aside0 (Kd.R Kd.bool 4 w151 w.heap.size (fun _ => True) v700 t696) := ⟨h2_⟩
      replace HO709 : Aside0 (Kd.R k37 37 w151 w.heap.size (fun k_ => some k_ ≠ (v688 : Value).ownBlock ∧ some k_ ≠ (v698 : Value).ownBlock ∧ some k_ ≠ (v716 : Value).ownBlock ∧ some k_ ≠ (v724 : Value).ownBlock) v708 t705) := ⟨h3_⟩
      replace HO717 : Aside0 (Kd.R k37 37 w151 w.heap.size (fun k_ => some k_ ≠ (v688 : Value).ownBlock ∧ some k_ ≠ (v698 : Value).ownBlock ∧ some k_ ≠ (v708 : Value).ownBlock ∧ some k_ ≠ (v724 : Value).ownBlock) v716 t713) := ⟨h4_⟩
      replace HB := Aside0.mk h8_
      clear h0_ h1_ h2_ h3_ h4_ h5_ h6_ h7_ h8_
      have hHeld := trivial
      obtain ⟨Ao152, co152, eo152⟩ := Kd.R_slice HO725.out
      (first | subst eo152 | (injection eo152 with f1_ f2_ f3_; have f4_ := f1_.symm; have f5_ := f3_.symm; clear f1_ f2_ f3_; subst f4_; subst f5_))
      obtain ⟨Ao153, co153, eo153⟩ := Kd.R_slice HO728.out
      (first | subst eo153 | (injection eo153 with f1_ f2_ f3_; have f4_ := f1_.symm; have f5_ := f3_.symm; clear f1_ f2_ f3_; subst f4_; subst f5_))
      obtain ⟨Ao154, co154, eo154⟩ := Kd.R_slice HO731.out
      (first | subst eo154 | (injection eo154 with f1_ f2_ f3_; have f4_ := f1_.symm; have f5_ := f3_.symm; clear f1_ f2_ f3_; subst f4_; subst f5_))
      refine nq_ ?_
      refine oa_ 3 (some 214) (bl_ 11 15) HT_ fun K hK => ?_
      refine goesB_ Try.func12 #[.slice Ao152 t723.length co152, .slice Ao153 y726.length co153, .slice Ao154 y729.length co154] ?_
      with_reducible refine (levels_Run.calls k _ _ t723 _ _ y726 _ _ y729 t732 t733 t734 _ ?side1 ?side2 ?side3 ?side4 ?side5 ?side6 A46.out).mono ?_
      (case side1 => exact cr_ HO725)
      (case side2 => exact (Kd.R_reads' HO725.out).2.1)
      (case side3 => exact cr_ HO728)
      (case side4 => exact (Kd.R_reads' HO728.out).2.1)
      (case side5 => exact cr_ HO731)
      (case side6 => exact (Kd.R_reads' HO731.out).2.1)
      rintro e w155 ⟨v735, v737, rfl, ho0, ho1, hb⟩
      refine ⟨_, rfl, ?_⟩
      have HO736 := Aside0.mk (Kd.R_lower (Kd.R_new' (Kd.R_new' (Kd.R_new' (Kd.R_new' (Kd.R_new' ho0 (Kd.R_lt (rs_ HO689))) (Kd.R_lt (rs_ HO699))) (Kd.R_lt (rs_ HO709))) (Kd.R_lt (rs_ HO717))) (Kd.R_lt (rs_ HO725))) (below_size (hq_ HB)))
      have HO738 := Aside0.mk (Kd.R_lower (Kd.R_new' ho1 (Kd.R_lt (rs_ HO701))) (below_size (hq_ HB)))
      replace HO689 := Aside0.mk (Kd.R_elder' (rs_ HO689) (Kd.R_base ho0) hb)
      replace HO699 := Aside0.mk (Kd.R_elder' (rs_ HO699) (Kd.R_base ho0) hb)
      replace HO701 := Aside0.mk (Kd.R_elder' (rs_ HO701) (Kd.R_base ho1) hb)
      replace HO709 := Aside0.mk (Kd.R_elder' (rs_ HO709) (Kd.R_base ho0) hb)
      replace HO717 := Aside0.mk (Kd.R_elder' (rs_ HO717) (Kd.R_base ho0) hb)
      replace HO725 := Aside0.mk (Kd.R_elder' (rs_ HO725) (Kd.R_base ho0) hb)
      replace HO728 := rb_ HO728 hb
      replace HO731 := rb_ HO731 hb
      replace HB := bs_ w hb
      (try clear hb)
      (try clear hb2)
      (try clear hk)
      (try clear hi)
      (try clear ho0)
      (try clear ho1)
      refine hK.out _ _ trivial (fun hHeld => ?_)
      clear hK K
      refine nm_ (some 214) ?_
      refine pa_ 4 (some 210) (bl_ 11 31) HT_ ?_
      refine pa_ 5 (some 215) (bl_ 11 63) HT_ ?_
      refine pa_ 6 (some 216) (bl_ 11 127) HT_ ?_
      refine pa_ 7 (some 217) (bl_ 11 255) HT_ ?_
      refine pa_ 8 (some 49) (bl_ 11 511) HT_ ?_
      refine pa_ 9 (some 50) (bl_ 11 1023) HT_ ?_
      refine pa_ 10 (some 51) (bl_ 11 2047) HT_ ?_
      refine done_ (done_of HT_.out (by kernel_rfl)) ?_
      have n_ := Aside0.mk (Kd.R_mono (ok' := (fun k_ => some k_ ≠ (v698 : Value).ownBlock ∧ some k_ ≠ (v708 : Value).ownBlock ∧ some k_ ≠ (v716 : Value).ownBlock ∧ some k_ ≠ (v735 : Value).ownBlock)) HO689.out (fun k_ hk => ⟨hk.1.1, ⟨hk.1.2.1, ⟨hk.1.2.2.1, hk.2⟩⟩⟩))
      clear HO689
      have HO689 := n_
      clear n_
      have n_ := Aside0.mk (Kd.R_mono (ok' := (fun k_ => some k_ ≠ (v688 : Value).ownBlock ∧ some k_ ≠ (v708 : Value).ownBlock ∧ some k_ ≠ (v716 : Value).ownBlock ∧ some k_ ≠ (v735 : Value).ownBlock)) HO699.out (fun k_ hk => ⟨hk.1.1, ⟨hk.1.2.1, ⟨hk.1.2.2.1, hk.2⟩⟩⟩))
      clear HO699
      have HO699 := n_
      clear n_
      have n_ := Aside0.mk (Kd.R_mono (ok' := (fun k_ => some k_ ≠ (v688 : Value).ownBlock ∧ some k_ ≠ (v698 : Value).ownBlock ∧ some k_ ≠ (v716 : Value).ownBlock ∧ some k_ ≠ (v735 : Value).ownBlock)) HO709.out (fun k_ hk => ⟨hk.1.1, ⟨hk.1.2.1, ⟨hk.1.2.2.1, hk.2⟩⟩⟩))
      clear HO709
      have HO709 := n_
      clear n_
      have n_ := Aside0.mk (Kd.R_mono (ok' := (fun k_ => some k_ ≠ (v688 : Value).ownBlock ∧ some k_ ≠ (v698 : Value).ownBlock ∧ some k_ ≠ (v708 : Value).ownBlock ∧ some k_ ≠ (v735 : Value).ownBlock)) HO717.out (fun k_ hk => ⟨hk.1.1, ⟨hk.1.2.1, ⟨hk.1.2.2.1, hk.2⟩⟩⟩))
      clear HO717
      have HO717 := n_
      clear n_
      have n_ := Aside0.mk (Kd.R_mono (ok' := (fun k_ => some k_ ≠ (v688 : Value).ownBlock ∧ some k_ ≠ (v698 : Value).ownBlock ∧ some k_ ≠ (v708 : Value).ownBlock ∧ some k_ ≠ (v716 : Value).ownBlock)) HO736.out (fun k_ hk => ⟨hk.1.1.1.1.2, ⟨hk.1.1.1.2, ⟨hk.1.1.2, hk.1.2⟩⟩⟩))
      clear HO736
      have HO736 := n_
      clear n_
      (try clear HO725 HO728 HO731)
      obtain ⟨Ao156, co156, eo156⟩ := Kd.R_slice HO689.out
      subst eo156
      have n_ := Aside0.mk (Kd.R_mono (ok' := (fun k_ => some k_ ≠ (v708 : Value).ownBlock ∧ some k_ ≠ (v716 : Value).ownBlock ∧ some k_ ≠ (v735 : Value).ownBlock)) HO699.out (fun k_ hk => ⟨hk.2.1, ⟨hk.2.2.1, hk.2.2.2⟩⟩))
      clear HO699
      have HO699 := n_
      clear n_
      have n_ := Aside0.mk (Kd.R_mono (ok' := (fun k_ => some k_ ≠ (v698 : Value).ownBlock ∧ some k_ ≠ (v716 : Value).ownBlock ∧ some k_ ≠ (v735 : Value).ownBlock)) HO709.out (fun k_ hk => ⟨hk.2.1, ⟨hk.2.2.1, hk.2.2.2⟩⟩))
      clear HO709
      have HO709 := n_
      clear n_
      have n_ := Aside0.mk (Kd.R_mono (ok' := (fun k_ => some k_ ≠ (v698 : Value).ownBlock ∧ some k_ ≠ (v708 : Value).ownBlock ∧ some k_ ≠ (v735 : Value).ownBlock)) HO717.out (fun k_ hk => ⟨hk.2.1, ⟨hk.2.2.1, hk.2.2.2⟩⟩))
      clear HO717
      have HO717 := n_
      clear n_
      have n_ := Aside0.mk (Kd.R_mono (ok' := (fun k_ => some k_ ≠ (v698 : Value).ownBlock ∧ some k_ ≠ (v708 : Value).ownBlock ∧ some k_ ≠ (v716 : Value).ownBlock)) HO736.out (fun k_ hk => ⟨hk.2.1, ⟨hk.2.2.1, hk.2.2.2⟩⟩))
      clear HO736
      have HO736 := n_
      clear n_
      (try clear HO689)
      try go_wp2_with (first | (go_at_call 31; (with_reducible refine (spigotlaw04_given.calls  t739 _ A53.out).mono ?_); rintro e w157 ⟨v740, rfl, ho0, hb⟩; have HO741 := Aside0.mk (Kd.R_lower (Kd.R_new' (Kd.R_new' (Kd.R_new' (Kd.R_new' ho0 (Kd.R_lt (rs_ HO699))) (Kd.R_lt (rs_ HO709))) (Kd.R_lt (rs_ HO717))) (Kd.R_lt (rs_ HO736))) (below_size (hq_ HB))); replace HO699 := Aside0.mk (Kd.R_elder' (rs_ HO699) (Kd.R_base ho0) hb); replace HO701 := rb_ HO701 hb; replace HO709 := Aside0.mk (Kd.R_elder' (rs_ HO709) (Kd.R_base ho0) hb); replace HO717 := Aside0.mk (Kd.R_elder' (rs_ HO717) (Kd.R_base ho0) hb); replace HO736 := Aside0.mk (Kd.R_elder' (rs_ HO736) (Kd.R_base ho0) hb); replace HO738 := rb_ HO738 hb; replace HB := bs_ w hb; (try clear hb); (try clear hb2); (try clear hk); (try clear hi); (try clear ho0); obtain ⟨Ao158, co158, eo158⟩ := Kd.R_slice HO699.out; subst eo158; obtain ⟨Ao159, co159, eo159⟩ := Kd.R_slice HO741.out; subst eo159) | (go_at_call 15; (with_reducible refine (spigotref04_Same.calls k _ _ t695 _ _ t739 true _ ?side1 ?side2 ?side3 ?side4 A54.out).mono ?_); (case side1 => exact cr_ HO699); (case side2 => exact (Kd.R_reads' HO699.out).2.1); (case side3 => exact cr_ HO741); (case side4 => exact (Kd.R_reads' HO741.out).2.1); rintro e w' ⟨rfl, ⟨nd, rfl⟩⟩; have n_ := Aside0.mk (Kd.R_mono (ok' := (fun k_ => some k_ ≠ (v716 : Value).ownBlock ∧ some k_ ≠ (v735 : Value).ownBlock)) HO709.out (fun k_ hk => ⟨hk.1.2.1, hk.1.2.2⟩)); clear HO709; have HO709 := n_; clear n_; have n_ := Aside0.mk (Kd.R_mono (ok' := (fun k_ => some k_ ≠ (v708 : Value).ownBlock ∧ some k_ ≠ (v735 : Value).ownBlock)) HO717.out (fun k_ hk => ⟨hk.1.2.1, hk.1.2.2⟩)); clear HO717; have HO717 := n_; clear n_; have n_ := Aside0.mk (Kd.R_mono (ok' := (fun k_ => some k_ ≠ (v708 : Value).ownBlock ∧ some k_ ≠ (v716 : Value).ownBlock)) HO736.out (fun k_ hk => ⟨hk.1.2.1, hk.1.2.2⟩)); clear HO736; have HO736 := n_; clear n_; (try clear HO699 HO741); obtain ⟨Ao160, co160, eo160⟩ := Kd.R_slice HO701.out; subst eo160; have n_ := Aside0.mk (Kd.R_mono (ok' := (fun _ => True)) HO738.out (fun k_ hk => trivial)); clear HO738; have HO738 := n_; clear n_; (try clear HO701)) | (go_at_call 31; (with_reducible refine (spigotlaw04_given.calls  t743 _ A59.out).mono ?_); rintro e w161 ⟨v744, rfl, ho0, hb⟩; have HO745 := Aside0.mk (Kd.R_lower (Kd.R_new' (Kd.R_new' (Kd.R_new' ho0 (Kd.R_lt (rs_ HO709))) (Kd.R_lt (rs_ HO717))) (Kd.R_lt (rs_ HO736))) (below_size (hq_ HB))); replace HO709 := Aside0.mk (Kd.R_elder' (rs_ HO709) (Kd.R_base ho0) hb); replace HO717 := Aside0.mk (Kd.R_elder' (rs_ HO717) (Kd.R_base ho0) hb); replace HO736 := Aside0.mk (Kd.R_elder' (rs_ HO736) (Kd.R_base ho0) hb); replace HO738 := rb_ HO738 hb; replace HB := bs_ w hb; (try clear hb); (try clear hb2); (try clear hk); (try clear hi); (try clear ho0); obtain ⟨Ao162, co162, eo162⟩ := Kd.R_slice HO709.out; subst eo162; obtain ⟨Ao163, co163, eo163⟩ := Kd.R_slice HO745.out; subst eo163) | (go_at_call 15; (with_reducible refine (spigotref04_Same.calls k _ _ t705 _ _ t743 true _ ?side1 ?side2 ?side3 ?side4 A60.out).mono ?_); (case side1 => exact cr_ HO709); (case side2 => exact (Kd.R_reads' HO709.out).2.1); (case side3 => exact cr_ HO745); (case side4 => exact (Kd.R_reads' HO745.out).2.1); rintro e w' ⟨rfl, ⟨nd, rfl⟩⟩; have n_ := Aside0.mk (Kd.R_mono (ok' := (fun k_ => some k_ ≠ (v735 : Value).ownBlock)) HO717.out (fun k_ hk => hk.1.2)); clear HO717; have HO717 := n_; clear n_; have n_ := Aside0.mk (Kd.R_mono (ok' := (fun k_ => some k_ ≠ (v716 : Value).ownBlock)) HO736.out (fun k_ hk => hk.1.2)); clear HO736; have HO736 := n_; clear n_; (try clear HO709 HO745); obtain ⟨Ao164, co164, eo164⟩ := Kd.R_slice HO717.out; subst eo164; have p747 : 0 ≤ (0 : Int) := (by omega); have q747 : 0 < (t713.length : Int) := of_decide_eq_true (by first | (with_reducible assumption) | assumption); obtain ⟨ad747, e747, hx747_0, hx747_1, hx747_2, hx747_3, hx747_4, hx747_5⟩ := at_T37 (Kd.R_reads' HO717.out).2.2 0 p747 q747; cases e747; have qi747 : (0 < t713.length) = True := eq_true (by omega); (try rw [show ((0 : Int)).toNat = 0 from rfl] at hx747_0); (try rw [show 0 * 6 = 0 from rfl] at hx747_0); (try rw [Addr.add_zero'] at hx747_0); (try rw [show ((0 : Int)).toNat = 0 from rfl] at hx747_1); (try rw [show 0 * 6 = 0 from rfl] at hx747_1); (try rw [Addr.add_zero'] at hx747_1); (try rw [show ((0 : Int)).toNat = 0 from rfl] at hx747_2); (try rw [show 0 * 6 = 0 from rfl] at hx747_2); (try rw [Addr.add_zero'] at hx747_2); (try rw [show ((0 : Int)).toNat = 0 from rfl] at hx747_3); (try rw [show 0 * 6 = 0 from rfl] at hx747_3); (try rw [Addr.add_zero'] at hx747_3); (try rw [show ((0 : Int)).toNat = 0 from rfl] at hx747_4); (try rw [show 0 * 6 = 0 from rfl] at hx747_4); (try rw [Addr.add_zero'] at hx747_4); (try rw [show ((0 : Int)).toNat = 0 from rfl] at hx747_5); (try rw [show 0 * 6 = 0 from rfl] at hx747_5); (try rw [Addr.add_zero'] at hx747_5); replace p747 := eq_true p747; replace q747 := eq_true q747; have p748 : 0 ≤ (0 : Int) := (by omega); have q748 : 0 < (t713.length : Int) := of_decide_eq_true (by first | (with_reducible assumption) | assumption); obtain ⟨ad748, e748, hx748_0, hx748_1, hx748_2, hx748_3, hx748_4, hx748_5⟩ := at_T37 (Kd.R_reads' HO717.out).2.2 0 p748 q748; obtain rfl : ad747 = ad748 := (by injection e748); have qi748 : (0 < t713.length) = True := eq_true (by omega); (try rw [show ((0 : Int)).toNat = 0 from rfl] at hx748_0); (try rw [show 0 * 6 = 0 from rfl] at hx748_0); (try rw [Addr.add_zero'] at hx748_0); (try rw [show ((0 : Int)).toNat = 0 from rfl] at hx748_1); (try rw [show 0 * 6 = 0 from rfl] at hx748_1); (try rw [Addr.add_zero'] at hx748_1); (try rw [show ((0 : Int)).toNat = 0 from rfl] at hx748_2); (try rw [show 0 * 6 = 0 from rfl] at hx748_2); (try rw [Addr.add_zero'] at hx748_2); (try rw [show ((0 : Int)).toNat = 0 from rfl] at hx748_3); (try rw [show 0 * 6 = 0 from rfl] at hx748_3); (try rw [Addr.add_zero'] at hx748_3); (try rw [show ((0 : Int)).toNat = 0 from rfl] at hx748_4); (try rw [show 0 * 6 = 0 from rfl] at hx748_4); (try rw [Addr.add_zero'] at hx748_4); (try rw [show ((0 : Int)).toNat = 0 from rfl] at hx748_5); (try rw [show 0 * 6 = 0 from rfl] at hx748_5); (try rw [Addr.add_zero'] at hx748_5); replace p748 := eq_true p748; replace q748 := eq_true q748; have n_ := Aside0.mk (Kd.R_mono (ok' := (fun _ => True)) HO736.out (fun k_ hk => trivial)); clear HO736; have HO736 := n_; clear n_; (try clear HO717); obtain ⟨Ao165, co165, eo165⟩ := Kd.R_slice HO738.out; subst eo165; (try clear HO738); obtain ⟨Ao166, co166, eo166⟩ := Kd.R_slice HO736.out; subst eo166; (try clear HO736)) | (go_at_call 17; (with_reducible refine (spigotlaw04_alive.calls k  t749 _ A74.out).mono ?_); rintro e w167 ⟨rfl, hb⟩; replace HB := bs_ w hb; clear hb))
      go_ret
      exact fi_
    ·replace c62 := Bool.eq_false_iff.mpr c62
     subst c62
     replace H : (none) = some r := by rw [if_neg (show ¬ (false = true) by decide)] at H; exact H
     exact absurd H (by simp)
   ·replace c58 := Bool.eq_false_iff.mpr c58
    subst c58
    replace H : (none) = some r := by rw [if_neg (show ¬ (false = true) by decide)] at H; exact H
    exact absurd H (by simp)
  ·replace c55 := Bool.eq_false_iff.mpr c55
   subst c55
   replace H : (none) = some r := by rw [if_neg (show ¬ (false = true) by decide)] at H; exact H
   exact absurd H (by simp)
 ·replace c48 := Bool.eq_false_iff.mpr c48
  subst c48
  replace H : (none) = some r := by rw [if_neg (show ¬ (false = true) by decide)] at H; exact H
  exact absurd H (by simp)

end Go.Proofs.Ytaegpnbgppjicaa.X
