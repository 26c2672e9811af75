-- written by xprint.py, a program of this session over the kit's print
import Derived.Test.YtnijohomnajngaaX0
import Derived.Test.YtnijohomnajngaaX4
import Derived.Test.YtnijohomnajngaaX5
import Derived.Test.YtnijohomnajngaaX9
import Derived.Test.YtnijohomnajngaaX16
import Derived.Test.YtnijohomnajngaaX19
import Derived.Test.YtnijohomnajngaaX25
import Derived.Test.YtnijohomnajngaaX28
import Derived.Test.YtnijohomnajngaaX30
import Derived.Test.YtnijohomnajngaaX34
import Derived.Test.YtnijohomnajngaaX35
namespace Go.Proofs.Ytnijohomnajngaa.X
open Go.RowKit Go.Proofs.YtnijohomnajngaaW.PrintWords Go.Proofs.YtnijohomnajngaaW.PrintLast Go.Proofs.YtnijohomnajngaaW.PrintMore
attribute [local go_sem] max2_int min2_int max_two min_two max_three min_three max_four min_four   -- for this text's walks alone
set_option linter.unusedVariables false
set_option linter.unusedSimpArgs false

attribute [local go_sem high] eqA30
/-! ### spigotlaw37_GcraNames: function 6 -/
def spigotlaw37_GcraNames.f (k : Nat)  : Option (Bool) := (gcra_New.f 1000000000 1000000000 1000000000 18446744073709551615).bind fun bt646 => ((gcra_Ask.f k bt646.1 bt646.2.1 bt646.2.2.1 bt646.2.2.2.1 bt646.2.2.2.2.1 bt646.2.2.2.2.2.1 0 1000000000).bind fun bt654 => ((gcra_Ask.f k bt654.1 bt654.2.1 bt654.2.2.1 bt654.2.2.2.1 bt654.2.2.2.2.1 bt654.2.2.2.2.2.1 18446744073709551615 1).bind fun bt663 => ((gcra_Wait.f k bt654.1 bt654.2.1 bt654.2.2.1 bt654.2.2.2.1 bt654.2.2.2.2.1 bt654.2.2.2.2.2.1 1).bind fun bt672 => ((gcra_Bucket.f k bt646.1 bt646.2.1 bt646.2.2.1 bt646.2.2.2.1 bt646.2.2.2.2.1 bt646.2.2.2.2.2.1).bind fun bt674 => ((gcra_Bucket.f k bt654.1 bt654.2.1 bt654.2.2.1 bt654.2.2.2.1 bt654.2.2.2.2.1 bt654.2.2.2.2.2.1).bind fun bt682 => (if bt646.2.2.2.2.2.2 = 0 then (if bt654.2.2.2.2.2.2.2 = 0 then (if bt654.2.2.2.2.2.2.1 = true then (if bt663.2.2.2.2.2.2.2 = 0 then (if bt663.2.2.2.2.2.2.1 = true then (none) else (if bt672.2 = 0 then (if bt672.1 = 18446744073709551615 then (if bt674.2.2.2.2.2.2 = 0 then (if ((bt674.1 == 1000000000 && (bt674.2.1 == 1000000000 && (bt674.2.2.1 == 1000000000))) && (bt674.2.2.2.1 == 1000000000 && (bt674.2.2.2.2.1 == 0 && (bt674.2.2.2.2.2.1 == 18446744073709551615)))) = true then (if bt682.2.2.2.2.2.2 = 0 then ((gcra_New.f 2 0 1 5).bind fun bt691 => ((gcra_Ask.f k bt691.1 bt691.2.1 bt691.2.2.1 bt691.2.2.2.1 bt691.2.2.2.2.1 bt691.2.2.2.2.2.1 9 2).bind fun bt699 => ((gcra_Wait.f k bt699.1 bt699.2.1 bt699.2.2.1 bt699.2.2.2.1 bt699.2.2.2.2.1 bt699.2.2.2.2.2.1 1).bind fun bt708 => ((gcra_Wait.f k bt699.1 bt699.2.1 bt699.2.2.1 bt699.2.2.2.1 bt699.2.2.2.2.1 bt699.2.2.2.2.2.1 0).bind fun bt710 => ((gcra_Level.f k bt699.1 bt699.2.1 bt699.2.2.1 bt699.2.2.2.1 bt699.2.2.2.2.1 bt699.2.2.2.2.2.1 1000).bind fun bt712 => ((gcra_Wait.f k bt691.1 bt691.2.1 bt691.2.2.1 bt691.2.2.2.1 bt691.2.2.2.2.1 bt691.2.2.2.2.2.1 3).bind fun bt714 => (if bt691.2.2.2.2.2.2 = 0 then (if bt699.2.2.2.2.2.2.2 = 0 then (if bt699.2.2.2.2.2.2.1 = true then (if bt699.2.2.2.2.2.1 = 9 then (if bt708.2 = 0 then (if bt708.1 = 18446744073709551615 then (if bt710.2 = 0 then (if bt710.1 = 0 then (if bt712.2 = 0 then (if bt712.1 = 0 then (if bt714.2 = 0 then ((spigotlaw37_given.f).bind fun bt716 => ((gcra_New.f bt716.1 bt716.2.1 bt716.2.2 10).bind fun bt719 => ((gcra_Ask.f k bt719.1 bt719.2.1 bt719.2.2.1 bt719.2.2.2.1 bt719.2.2.2.2.1 bt719.2.2.2.2.2.1 3 3).bind fun bt727 => ((gcra_New.f 0 0 0 0).bind fun bt736 => ((gcra_Ask.f k bt719.1 bt719.2.1 bt719.2.2.1 bt719.2.2.2.1 bt719.2.2.2.2.1 bt719.2.2.2.2.2.1 10 (-1)).bind fun bt744 => ((gcra_Wait.f k bt719.1 bt719.2.1 bt719.2.2.1 bt719.2.2.2.1 bt719.2.2.2.2.1 bt719.2.2.2.2.2.1 (-1)).bind fun bt753 => ((gcra_Ask.f k bt719.1 bt719.2.1 bt719.2.2.1 bt719.2.2.2.1 bt719.2.2.2.2.1 bt719.2.2.2.2.2.1 11 9223372036854775807).bind fun bt755 => ((gcra_Level.f k bt719.1 bt719.2.1 bt719.2.2.1 bt719.2.2.2.1 (IntKind.u64.wrap (bt719.2.2.2.2.1 + 16)) bt719.2.2.2.2.2.1 10).bind fun bt766 => ((gcra_Ask.f k bt719.1 bt719.2.1 bt719.2.2.1 bt719.2.2.2.1 (IntKind.u64.wrap (bt719.2.2.2.2.1 - 1)) bt719.2.2.2.2.2.1 10 (-1)).bind fun bt768 => ((spigotlaw37_given.f).bind fun bt777 => ((gcra_Of.f k bt777.1 bt777.2.1 bt777.2.2 4 0 0).bind fun bt780 => (if bt719.2.2.2.2.2.2 = 0 then (if bt727.2.2.2.2.2.2.2 = 0 then (if bt727.2.2.2.2.2.2.1 = true then ((spigotlaw37_tat.f bt727.1 bt727.2.1 bt727.2.2.1 bt727.2.2.2.1 bt727.2.2.2.2.1 bt727.2.2.2.2.2.1 bt727.2.2.2.2.2.2.2 35 10).bind fun t788 => (if t788 = true then (if bt736.2.2.2.2.2.2 = 8 then (if bt744.2.2.2.2.2.2.2 = 2 then (if bt753.2 = 2 then (if bt755.2.2.2.2.2.2.2 = 0 then (if bt755.2.2.2.2.2.2.1 = true then (none) else ((spigotlaw37_tat.f bt755.1 bt755.2.1 bt755.2.2.1 bt755.2.2.2.1 bt755.2.2.2.2.1 bt755.2.2.2.2.2.1 bt755.2.2.2.2.2.2.2 22 11).bind fun t789 => (if t789 = true then ((gcra_Check.f k bt719.1 bt719.2.1 bt719.2.2.1 bt719.2.2.2.1 (IntKind.u64.wrap (bt719.2.2.2.2.1 - 1)) bt719.2.2.2.2.2.1).bind fun t790 => (if t790 = 8 then ((gcra_Check.f k bt719.1 bt719.2.1 bt719.2.2.1 bt719.2.2.2.1 (IntKind.u64.wrap (bt719.2.2.2.2.1 + 16)) bt719.2.2.2.2.2.1).bind fun t791 => (if t791 = 8 then (if bt766.2 = 8 then (if bt768.2.2.2.2.2.2.2 = 8 then (if bt780.2.2.2.2.2.2 = 8 then ((gcra_Check.f k 0 0 0 0 0 0).bind fun t792 => (if ((bt682.1 == 1000000000 && (bt682.2.1 == 1000000000 && (bt682.2.2.1 == 1000000000))) && (bt682.2.2.2.1 == 0 && (bt682.2.2.2.2.1 == 0 && (bt682.2.2.2.2.2.1 == 18446744073709551615)))) = true then (if bt714.1 = 18446744073709551615 then (if t792 = 8 then ((spigotlaw37_alive.f k).bind fun t793 => (some t793)) else (none)) else (none)) else (none))) else (none)) else (none)) else (none)) else (none))) else (none))) else (none)))) else (none)) else (none)) else (none)) else (none)) else (none))) else (none)) else (none)) else (none))))))))))))) else (none)) else (none)) else (none)) else (none)) else (none)) else (none)) else (none)) else (none)) else (none)) else (none)) else (none)))))))) else (none)) else (none)) else (none)) else (none)) else (none))) else (none)) else (none)) else (none)) else (none)))))))
theorem spigotlaw37_GcraNames.mono : ∀ k, LeO (spigotlaw37_GcraNames.f k ) (spigotlaw37_GcraNames.f (k + 1) ) := by
  intro  k
  unfold spigotlaw37_GcraNames.f
  repeat' first
      | (with_reducible exact gcra_Ask.mono _ _ _ _ _ _ _ _ _)
      | (with_reducible exact gcra_Bucket.mono _ _ _ _ _ _ _)
      | (with_reducible exact gcra_Check.mono _ _ _ _ _ _ _)
      | (with_reducible exact gcra_Level.mono _ _ _ _ _ _ _ _)
      | (with_reducible exact gcra_Of.mono _ _ _ _ _ _ _)
      | (with_reducible exact gcra_Wait.mono _ _ _ _ _ _ _ _)
      | (with_reducible exact spigotlaw37_alive.mono _)
      | (with_reducible exact LeO.refl _)
      | (with_reducible exact LeO.none _)
      | (with_reducible refine LeO.ite ?_ ?_)
      | (with_reducible refine LeO.bind ?_ (fun _ => ?_))
      | exact gcra_Ask.mono _ _ _ _ _ _ _ _ _
      | exact gcra_Bucket.mono _ _ _ _ _ _ _
      | exact gcra_Check.mono _ _ _ _ _ _ _
      | exact gcra_Level.mono _ _ _ _ _ _ _ _
      | exact gcra_Of.mono _ _ _ _ _ _ _
      | exact gcra_Wait.mono _ _ _ _ _ _ _ _
      | exact spigotlaw37_alive.mono _
      | exact LeO.none _
      | refine LeO.ite ?_ ?_
      | refine LeO.bind ?_ (fun _ => ?_)
set_option maxHeartbeats 80000000 in
set_option maxRecDepth 100000 in
theorem spigotlaw37_GcraNames.calls (k : Nat)  (r : Bool) (w : World) (h : spigotlaw37_GcraNames.f k  = some r) :
  Calls Try.prog 6 #[] w fun e w' => e = .returned (.bool r) ∧ Below w.heap.size w w' := by
 have hu23 := Try.underlying23
 have hu28 := Try.underlying28
 have hu30 := Try.underlying30
 have HB := Aside0.mk (Below.refl w.heap.size w)
 have H : ((gcra_New.f 1000000000 1000000000 1000000000 18446744073709551615).bind fun bt646 => ((gcra_Ask.f k bt646.1 bt646.2.1 bt646.2.2.1 bt646.2.2.2.1 bt646.2.2.2.2.1 bt646.2.2.2.2.2.1 0 1000000000).bind fun bt654 => ((gcra_Ask.f k bt654.1 bt654.2.1 bt654.2.2.1 bt654.2.2.2.1 bt654.2.2.2.2.1 bt654.2.2.2.2.2.1 18446744073709551615 1).bind fun bt663 => ((gcra_Wait.f k bt654.1 bt654.2.1 bt654.2.2.1 bt654.2.2.2.1 bt654.2.2.2.2.1 bt654.2.2.2.2.2.1 1).bind fun bt672 => ((gcra_Bucket.f k bt646.1 bt646.2.1 bt646.2.2.1 bt646.2.2.2.1 bt646.2.2.2.2.1 bt646.2.2.2.2.2.1).bind fun bt674 => ((gcra_Bucket.f k bt654.1 bt654.2.1 bt654.2.2.1 bt654.2.2.2.1 bt654.2.2.2.2.1 bt654.2.2.2.2.2.1).bind fun bt682 => (if bt646.2.2.2.2.2.2 = 0 then (if bt654.2.2.2.2.2.2.2 = 0 then (if bt654.2.2.2.2.2.2.1 = true then (if bt663.2.2.2.2.2.2.2 = 0 then (if bt663.2.2.2.2.2.2.1 = true then (none) else (if bt672.2 = 0 then (if bt672.1 = 18446744073709551615 then (if bt674.2.2.2.2.2.2 = 0 then (if ((bt674.1 == 1000000000 && (bt674.2.1 == 1000000000 && (bt674.2.2.1 == 1000000000))) && (bt674.2.2.2.1 == 1000000000 && (bt674.2.2.2.2.1 == 0 && (bt674.2.2.2.2.2.1 == 18446744073709551615)))) = true then (if bt682.2.2.2.2.2.2 = 0 then ((gcra_New.f 2 0 1 5).bind fun bt691 => ((gcra_Ask.f k bt691.1 bt691.2.1 bt691.2.2.1 bt691.2.2.2.1 bt691.2.2.2.2.1 bt691.2.2.2.2.2.1 9 2).bind fun bt699 => ((gcra_Wait.f k bt699.1 bt699.2.1 bt699.2.2.1 bt699.2.2.2.1 bt699.2.2.2.2.1 bt699.2.2.2.2.2.1 1).bind fun bt708 => ((gcra_Wait.f k bt699.1 bt699.2.1 bt699.2.2.1 bt699.2.2.2.1 bt699.2.2.2.2.1 bt699.2.2.2.2.2.1 0).bind fun bt710 => ((gcra_Level.f k bt699.1 bt699.2.1 bt699.2.2.1 bt699.2.2.2.1 bt699.2.2.2.2.1 bt699.2.2.2.2.2.1 1000).bind fun bt712 => ((gcra_Wait.f k bt691.1 bt691.2.1 bt691.2.2.1 bt691.2.2.2.1 bt691.2.2.2.2.1 bt691.2.2.2.2.2.1 3).bind fun bt714 => (if bt691.2.2.2.2.2.2 = 0 then (if bt699.2.2.2.2.2.2.2 = 0 then (if bt699.2.2.2.2.2.2.1 = true then (if bt699.2.2.2.2.2.1 = 9 then (if bt708.2 = 0 then (if bt708.1 = 18446744073709551615 then (if bt710.2 = 0 then (if bt710.1 = 0 then (if bt712.2 = 0 then (if bt712.1 = 0 then (if bt714.2 = 0 then ((spigotlaw37_given.f).bind fun bt716 => ((gcra_New.f bt716.1 bt716.2.1 bt716.2.2 10).bind fun bt719 => ((gcra_Ask.f k bt719.1 bt719.2.1 bt719.2.2.1 bt719.2.2.2.1 bt719.2.2.2.2.1 bt719.2.2.2.2.2.1 3 3).bind fun bt727 => ((gcra_New.f 0 0 0 0).bind fun bt736 => ((gcra_Ask.f k bt719.1 bt719.2.1 bt719.2.2.1 bt719.2.2.2.1 bt719.2.2.2.2.1 bt719.2.2.2.2.2.1 10 (-1)).bind fun bt744 => ((gcra_Wait.f k bt719.1 bt719.2.1 bt719.2.2.1 bt719.2.2.2.1 bt719.2.2.2.2.1 bt719.2.2.2.2.2.1 (-1)).bind fun bt753 => ((gcra_Ask.f k bt719.1 bt719.2.1 bt719.2.2.1 bt719.2.2.2.1 bt719.2.2.2.2.1 bt719.2.2.2.2.2.1 11 9223372036854775807).bind fun bt755 => ((gcra_Level.f k bt719.1 bt719.2.1 bt719.2.2.1 bt719.2.2.2.1 (IntKind.u64.wrap (bt719.2.2.2.2.1 + 16)) bt719.2.2.2.2.2.1 10).bind fun bt766 => ((gcra_Ask.f k bt719.1 bt719.2.1 bt719.2.2.1 bt719.2.2.2.1 (IntKind.u64.wrap (bt719.2.2.2.2.1 - 1)) bt719.2.2.2.2.2.1 10 (-1)).bind fun bt768 => ((spigotlaw37_given.f).bind fun bt777 => ((gcra_Of.f k bt777.1 bt777.2.1 bt777.2.2 4 0 0).bind fun bt780 => (if bt719.2.2.2.2.2.2 = 0 then (if bt727.2.2.2.2.2.2.2 = 0 then (if bt727.2.2.2.2.2.2.1 = true then ((spigotlaw37_tat.f bt727.1 bt727.2.1 bt727.2.2.1 bt727.2.2.2.1 bt727.2.2.2.2.1 bt727.2.2.2.2.2.1 bt727.2.2.2.2.2.2.2 35 10).bind fun t788 => (if t788 = true then (if bt736.2.2.2.2.2.2 = 8 then (if bt744.2.2.2.2.2.2.2 = 2 then (if bt753.2 = 2 then (if bt755.2.2.2.2.2.2.2 = 0 then (if bt755.2.2.2.2.2.2.1 = true then (none) else ((spigotlaw37_tat.f bt755.1 bt755.2.1 bt755.2.2.1 bt755.2.2.2.1 bt755.2.2.2.2.1 bt755.2.2.2.2.2.1 bt755.2.2.2.2.2.2.2 22 11).bind fun t789 => (if t789 = true then ((gcra_Check.f k bt719.1 bt719.2.1 bt719.2.2.1 bt719.2.2.2.1 (IntKind.u64.wrap (bt719.2.2.2.2.1 - 1)) bt719.2.2.2.2.2.1).bind fun t790 => (if t790 = 8 then ((gcra_Check.f k bt719.1 bt719.2.1 bt719.2.2.1 bt719.2.2.2.1 (IntKind.u64.wrap (bt719.2.2.2.2.1 + 16)) bt719.2.2.2.2.2.1).bind fun t791 => (if t791 = 8 then (if bt766.2 = 8 then (if bt768.2.2.2.2.2.2.2 = 8 then (if bt780.2.2.2.2.2.2 = 8 then ((gcra_Check.f k 0 0 0 0 0 0).bind fun t792 => (if ((bt682.1 == 1000000000 && (bt682.2.1 == 1000000000 && (bt682.2.2.1 == 1000000000))) && (bt682.2.2.2.1 == 0 && (bt682.2.2.2.2.1 == 0 && (bt682.2.2.2.2.2.1 == 18446744073709551615)))) = true then (if bt714.1 = 18446744073709551615 then (if t792 = 8 then ((spigotlaw37_alive.f k).bind fun t793 => (some t793)) else (none)) else (none)) else (none))) else (none)) else (none)) else (none)) else (none))) else (none))) else (none)))) else (none)) else (none)) else (none)) else (none)) else (none))) else (none)) else (none)) else (none))))))))))))) else (none)) else (none)) else (none)) else (none)) else (none)) else (none)) else (none)) else (none)) else (none)) else (none)) else (none)))))))) else (none)) else (none)) else (none)) else (none)) else (none))) else (none)) else (none)) else (none)) else (none)))))))) = some r := h
 clear h
 have H0_ := bo_ H; clear H; obtain ⟨⟨t646, t647, t648, t649, t650, t651, t652⟩, A1, H⟩ := H0_
 try dsimp only at H
 have H0_ := bo_ H; clear H; obtain ⟨⟨t654, t655, t656, t657, t658, t659, t660, t661⟩, A2, H⟩ := H0_
 try dsimp only at H
 have H0_ := bo_ H; clear H; obtain ⟨⟨t663, t664, t665, t666, t667, t668, t669, t670⟩, A3, H⟩ := H0_
 try dsimp only at H
 have H0_ := bo_ H; clear H; obtain ⟨⟨t672, t673⟩, A4, H⟩ := H0_
 try dsimp only at H
 have H0_ := bo_ H; clear H; obtain ⟨⟨t674, t675, t676, t677, t678, t679, t680⟩, A5, H⟩ := H0_
 try dsimp only at H
 have H0_ := bo_ H; clear H; obtain ⟨⟨t682, t683, t684, t685, t686, t687, t688⟩, A6, H⟩ := H0_
 try dsimp only at H
 replace H := ct_ H; obtain ⟨c7b0, c7b1, H⟩ := H
 replace H := ct_ H; obtain ⟨c8b0, c8b1, H⟩ := H
 by_cases c9 : t660 = true
 ·subst c9
  rw [if_pos rfl] at H
  try dsimp only at H
  replace H := ct_ H; obtain ⟨c10b0, c10b1, H⟩ := H
  by_cases c11 : t669 = true
  ·subst c11
   replace H : (none) = some r := by rw [if_pos rfl] at H; exact H
   exact absurd H (by simp)
  ·replace c11 := Bool.eq_false_iff.mpr c11
   subst c11
   rw [if_neg (show ¬ (false = true) by decide)] at H
   try dsimp only at H
   replace H := ct_ H; obtain ⟨c12b0, c12b1, H⟩ := H
   replace H := ct_ H; obtain ⟨c13b0, c13b1, H⟩ := H
   replace H := ct_ H; obtain ⟨c14b0, c14b1, H⟩ := H
   by_cases c15 : ((t674 == 1000000000 && (t675 == 1000000000 && (t676 == 1000000000))) && (t677 == 1000000000 && (t678 == 0 && (t679 == 18446744073709551615)))) = true
   rotate_left
   ·rw [if_neg c15] at H; exact absurd H (by simp)
   rw [if_pos c15] at H
   have c15b0 : ((t674 == 1000000000 && (t675 == 1000000000 && (t676 == 1000000000))) && (t677 == 1000000000 && (t678 == 0 && (t679 == 18446744073709551615)))) = true := c15
   clear c15
   replace H := ct_ H; obtain ⟨c16b0, c16b1, H⟩ := H
   have H0_ := bo_ H; clear H; obtain ⟨⟨t691, t692, t693, t694, t695, t696, t697⟩, A17, H⟩ := H0_
   try dsimp only at H
   have H0_ := bo_ H; clear H; obtain ⟨⟨t699, t700, t701, t702, t703, t704, t705, t706⟩, A18, H⟩ := H0_
   try dsimp only at H
   have H0_ := bo_ H; clear H; obtain ⟨⟨t708, t709⟩, A19, H⟩ := H0_
   try dsimp only at H
   have H0_ := bo_ H; clear H; obtain ⟨⟨t710, t711⟩, A20, H⟩ := H0_
   try dsimp only at H
   have H0_ := bo_ H; clear H; obtain ⟨⟨t712, t713⟩, A21, H⟩ := H0_
   try dsimp only at H
   have H0_ := bo_ H; clear H; obtain ⟨⟨t714, t715⟩, A22, H⟩ := H0_
   try dsimp only at H
   replace H := ct_ H; obtain ⟨c23b0, c23b1, H⟩ := H
   replace H := ct_ H; obtain ⟨c24b0, c24b1, H⟩ := H
   by_cases c25 : t705 = true
   ·subst c25
    rw [if_pos rfl] at H
    try dsimp only at H
    replace H := ct_ H; obtain ⟨c26b0, c26b1, H⟩ := H
    replace H := ct_ H; obtain ⟨c27b0, c27b1, H⟩ := H
    replace H := ct_ H; obtain ⟨c28b0, c28b1, H⟩ := H
    replace H := ct_ H; obtain ⟨c29b0, c29b1, H⟩ := H
    replace H := ct_ H; obtain ⟨c30b0, c30b1, H⟩ := H
    replace H := ct_ H; obtain ⟨c31b0, c31b1, H⟩ := H
    replace H := ct_ H; obtain ⟨c32b0, c32b1, H⟩ := H
    replace H := ct_ H; obtain ⟨c33b0, c33b1, H⟩ := H
    have H0_ := bo_ H; clear H; obtain ⟨⟨t716, t717, t718⟩, A34, H⟩ := H0_
    try dsimp only at H
    have H0_ := bo_ H; clear H; obtain ⟨⟨t719, t720, t721, t722, t723, t724, t725⟩, A35, H⟩ := H0_
    try dsimp only at H
    have H0_ := bo_ H; clear H; obtain ⟨⟨t727, t728, t729, t730, t731, t732, t733, t734⟩, A36, H⟩ := H0_
    try dsimp only at H
    have H0_ := bo_ H; clear H; obtain ⟨⟨t736, t737, t738, t739, t740, t741, t742⟩, A37, H⟩ := H0_
    try dsimp only at H
    have H0_ := bo_ H; clear H; obtain ⟨⟨t744, t745, t746, t747, t748, t749, t750, t751⟩, A38, H⟩ := H0_
    try dsimp only at H
    have H0_ := bo_ H; clear H; obtain ⟨⟨t753, t754⟩, A39, H⟩ := H0_
    try dsimp only at H
    have H0_ := bo_ H; clear H; obtain ⟨⟨t755, t756, t757, t758, t759, t760, t761, t762⟩, A40, H⟩ := H0_
    try dsimp only at H
    have H0_ := bo_ H; clear H; obtain ⟨⟨t766, t767⟩, A41, H⟩ := H0_
    try dsimp only at H
    have H0_ := bo_ H; clear H; obtain ⟨⟨t768, t769, t770, t771, t772, t773, t774, t775⟩, A42, H⟩ := H0_
    try dsimp only at H
    have H0_ := bo_ H; clear H; obtain ⟨⟨t777, t778, t779⟩, A43, H⟩ := H0_
    try dsimp only at H
    have H0_ := bo_ H; clear H; obtain ⟨⟨t780, t781, t782, t783, t784, t785, t786⟩, A44, H⟩ := H0_
    try dsimp only at H
    replace H := ct_ H; obtain ⟨c45b0, c45b1, H⟩ := H
    replace H := ct_ H; obtain ⟨c46b0, c46b1, H⟩ := H
    by_cases c47 : t733 = true
    ·subst c47
     rw [if_pos rfl] at H
     try dsimp only at H
     have H0_ := bo_ H; clear H; obtain ⟨t788, A48, H⟩ := H0_
     try dsimp only at H
     by_cases c49 : t788 = true
     ·subst c49
      rw [if_pos rfl] at H
      try dsimp only at H
      replace H := ct_ H; obtain ⟨c50b0, c50b1, H⟩ := H
      replace H := ct_ H; obtain ⟨c51b0, c51b1, H⟩ := H
      replace H := ct_ H; obtain ⟨c52b0, c52b1, H⟩ := H
      replace H := ct_ H; obtain ⟨c53b0, c53b1, H⟩ := H
      by_cases c54 : t761 = true
      ·subst c54
       replace H : (none) = some r := by rw [if_pos rfl] at H; exact H
       exact absurd H (by simp)
      ·replace c54 := Bool.eq_false_iff.mpr c54
       subst c54
       rw [if_neg (show ¬ (false = true) by decide)] at H
       try dsimp only at H
       have H0_ := bo_ H; clear H; obtain ⟨t789, A55, H⟩ := H0_
       try dsimp only at H
       by_cases c56 : t789 = true
       ·subst c56
        rw [if_pos rfl] at H
        try dsimp only at H
        have H0_ := bo_ H; clear H; obtain ⟨t790, A57, H⟩ := H0_
        try dsimp only at H
        replace H := ct_ H; obtain ⟨c58b0, c58b1, H⟩ := H
        have H0_ := bo_ H; clear H; obtain ⟨t791, A59, H⟩ := H0_
        try dsimp only at H
        replace H := ct_ H; obtain ⟨c60b0, c60b1, H⟩ := H
        replace H := ct_ H; obtain ⟨c61b0, c61b1, H⟩ := H
        replace H := ct_ H; obtain ⟨c62b0, c62b1, H⟩ := H
        replace H := ct_ H; obtain ⟨c63b0, c63b1, H⟩ := H
        have H0_ := bo_ H; clear H; obtain ⟨t792, A64, H⟩ := H0_
        try dsimp only at H
        by_cases c65 : ((t682 == 1000000000 && (t683 == 1000000000 && (t684 == 1000000000))) && (t685 == 0 && (t686 == 0 && (t687 == 18446744073709551615)))) = true
        rotate_left
        ·rw [if_neg c65] at H; exact absurd H (by simp)
        rw [if_pos c65] at H
        have c65b0 : ((t682 == 1000000000 && (t683 == 1000000000 && (t684 == 1000000000))) && (t685 == 0 && (t686 == 0 && (t687 == 18446744073709551615)))) = true := c65
        clear c65
        replace H := ct_ H; obtain ⟨c66b0, c66b1, H⟩ := H
        replace H := ct_ H; obtain ⟨c67b0, c67b1, H⟩ := H
        have H0_ := bo_ H; clear H; obtain ⟨t793, A68, H⟩ := H0_
        replace H : (some t793) = some r := H
        obtain rfl := Option.some.inj H
        go_enter Try.func6, Try.ntmps6
        try simp only [List.append]
        try go_wp2_with (first | ((with_reducible refine gate_dst (N := 1) rfl ?_); (try refine ug_ (by rfl) ?_); refine bx_ #[.int .i64 0, .int .i64 0, .int .i64 0] 23 ?_; intro gb645 hg w69 BK645 hb; have GW645 := bz_ w hg; replace HB := bs_ w hb; clear hb hg; replace hc645 := ce3_ BK645) | ((with_reducible refine gate_callee (f := 9) rfl ?_); (try refine ug_ (by rfl) ?_); refine goesA_ (some 60) Try.func9 #[.agg #[.int .i64 1000000000, .int .i64 1000000000, .int .i64 1000000000], .int .u64 18446744073709551615] ?_; (with_reducible refine (gcra_New.calls 1000000000 1000000000 1000000000 18446744073709551615 t646 t647 t648 t649 t650 t651 t652 _ A1.out).mono ?_); rintro e w71 ⟨rfl, hb⟩; refine ⟨_, rfl, ?_⟩; replace BK645 := Aside0.mk (blk_below (g := gb645) (o := .cells #[.int .i64 1000000000, .int .i64 1000000000, .int .i64 1000000000] 23 (0, 0)) (bp3_ (bq_ BK645)) hb); replace HB := bs_ w hb; clear hb) | ((with_reducible refine gate_dst (N := 2) rfl ?_); (try refine ug_ (by rfl) ?_); refine bx_ #[.int .i64 0, .int .i64 0, .int .i64 0, .int .u64 0, .int .u64 0, .int .u64 0] 28 ?_; intro gb653 hg w72 BK653 hb; have GW653 := bz_ w hg; have NB645_653 := bn_ BK645 hg; have NB653_645 := bm_ BK645 hg; replace BK645 := bb_ BK645 hb; replace HB := bs_ w hb; clear hb hg; replace hn653_645 := NB653_645.out; replace hn645_653 := NB645_653.out; replace hc653 := ce6_ BK653) | ((with_reducible refine gate_callee (f := 17) rfl ?_); (try refine ug_ (by rfl) ?_); refine goesA_ (some 65) Try.func17 #[.agg #[.int .i64 t646, .int .i64 t647, .int .i64 t648, .int .u64 t649, .int .u64 t650, .int .u64 t651], .int .u64 0, .int .i64 1000000000] ?_; (with_reducible refine (gcra_Ask.calls k t646 t647 t648 t649 t650 t651 0 1000000000 t654 t655 t656 t657 t658 t659 true t661 _ A2.out).mono ?_); rintro e w75 ⟨rfl, hb⟩; refine ⟨_, rfl, ?_⟩; replace BK645 := bf_ BK645 hb; replace BK653 := Aside0.mk (blk_below (g := gb653) (o := .cells #[.int .i64 t646, .int .i64 t647, .int .i64 t648, .int .u64 t649, .int .u64 t650, .int .u64 t651] 28 (0, 0)) (bp6_ (bq_ BK653)) hb); replace HB := bs_ w hb; clear hb) | ((with_reducible refine gate_dst (N := 4) rfl ?_); (try refine ug_ (by rfl) ?_); refine bx_ #[.int .i64 0, .int .i64 0, .int .i64 0, .int .u64 0, .int .u64 0, .int .u64 0] 28 ?_; intro gb662 hg w76 BK662 hb; have GW662 := bz_ w hg; have NB645_662 := bn_ BK645 hg; have NB662_645 := bm_ BK645 hg; have NB653_662 := bn_ BK653 hg; have NB662_653 := bm_ BK653 hg; replace BK645 := bb_ BK645 hb; replace BK653 := bb_ BK653 hb; replace HB := bs_ w hb; clear hb hg; replace hn662_645 := NB662_645.out; replace hn645_662 := NB645_662.out; replace hn662_653 := NB662_653.out; replace hn653_662 := NB653_662.out; replace hc662 := ce6_ BK662) | ((with_reducible refine gate_callee (f := 17) rfl ?_); (try refine ug_ (by rfl) ?_); refine goesA_ (some 71) Try.func17 #[.agg #[.int .i64 t654, .int .i64 t655, .int .i64 t656, .int .u64 t657, .int .u64 t658, .int .u64 t659], .int .u64 18446744073709551615, .int .i64 1] ?_; (with_reducible refine (gcra_Ask.calls k t654 t655 t656 t657 t658 t659 18446744073709551615 1 t663 t664 t665 t666 t667 t668 false t670 _ A3.out).mono ?_); rintro e w80 ⟨rfl, hb⟩; refine ⟨_, rfl, ?_⟩; replace BK645 := bf_ BK645 hb; replace BK653 := bf_ BK653 hb; replace BK662 := Aside0.mk (blk_below (g := gb662) (o := .cells #[.int .i64 t654, .int .i64 t655, .int .i64 t656, .int .u64 t657, .int .u64 t658, .int .u64 t659] 28 (0, 0)) (bp6_ (bq_ BK662)) hb); replace HB := bs_ w hb; clear hb) | ((with_reducible refine gate_dst (N := 7) rfl ?_); (try refine ug_ (by rfl) ?_); refine bx_ #[.int .i64 0, .int .i64 0, .int .i64 0, .int .u64 0, .int .u64 0, .int .u64 0] 28 ?_; intro gb671 hg w81 BK671 hb; have GW671 := bz_ w hg; have NB645_671 := bn_ BK645 hg; have NB671_645 := bm_ BK645 hg; have NB653_671 := bn_ BK653 hg; have NB671_653 := bm_ BK653 hg; have NB662_671 := bn_ BK662 hg; have NB671_662 := bm_ BK662 hg; replace BK645 := bb_ BK645 hb; replace BK653 := bb_ BK653 hb; replace BK662 := bb_ BK662 hb; replace HB := bs_ w hb; clear hb hg; replace hn671_645 := NB671_645.out; replace hn645_671 := NB645_671.out; replace hn671_653 := NB671_653.out; replace hn653_671 := NB653_671.out; replace hn671_662 := NB671_662.out; replace hn662_671 := NB662_671.out; replace hc671 := ce6_ BK671; replace hc662 := ce6_ BK662) | ((with_reducible refine gate_callee (f := 21) rfl ?_); (try refine ug_ (by rfl) ?_); refine goesA_ (some 77) Try.func21 #[.agg #[.int .i64 t654, .int .i64 t655, .int .i64 t656, .int .u64 t657, .int .u64 t658, .int .u64 t659], .int .i64 1] ?_; (with_reducible refine (gcra_Wait.calls k t654 t655 t656 t657 t658 t659 1 t672 t673 _ A4.out).mono ?_); rintro e w87 ⟨rfl, hb⟩; refine ⟨_, rfl, ?_⟩; replace BK645 := bf_ BK645 hb; replace BK653 := bf_ BK653 hb; replace BK662 := bf_ BK662 hb; replace BK671 := Aside0.mk (blk_below (g := gb671) (o := .cells #[.int .i64 t663, .int .i64 t664, .int .i64 t665, .int .u64 t666, .int .u64 t667, .int .u64 t668] 28 (0, 0)) (bp6_ (bq_ BK671)) hb); replace HB := bs_ w hb; clear hb; (try clear BK671); replace hc653 := ce6_ BK653; (try clear BK653)) | ((with_reducible refine gate_callee (f := 13) rfl ?_); (try refine ug_ (by rfl) ?_); refine goesA_ (some 82) Try.func13 #[.agg #[.int .i64 t646, .int .i64 t647, .int .i64 t648, .int .u64 t649, .int .u64 t650, .int .u64 t651]] ?_; (with_reducible refine (gcra_Bucket.calls k t646 t647 t648 t649 t650 t651 t674 t675 t676 t677 t678 t679 t680 _ A5.out).mono ?_); rintro e w89 ⟨rfl, hb⟩; refine ⟨_, rfl, ?_⟩; replace BK645 := bb_ BK645 hb; replace BK662 := bb_ BK662 hb; replace HB := bs_ w hb; clear hb) | ((with_reducible refine gate_dst (N := 12) rfl ?_); (try refine ug_ (by rfl) ?_); refine bx_ #[.int .i64 0, .int .i64 0, .int .i64 0, .int .i64 0, .int .i64 0, .int .u64 0] 30 ?_; intro gb681 hg w90 BK681 hb; have GW681 := bz_ w hg; have NB645_681 := bn_ BK645 hg; have NB681_645 := bm_ BK645 hg; have NB662_681 := bn_ BK662 hg; have NB681_662 := bm_ BK662 hg; replace BK645 := bb_ BK645 hb; replace BK662 := bb_ BK662 hb; replace HB := bs_ w hb; clear hb hg; replace hn681_645 := NB681_645.out; replace hn645_681 := NB645_681.out; replace hn681_662 := NB681_662.out; replace hn662_681 := NB662_681.out; replace hc681 := ce6_ BK681; replace hc662 := ce6_ BK662) | ((with_reducible refine gate_callee (f := 13) rfl ?_); (try refine ug_ (by rfl) ?_); refine goesA_ (some 87) Try.func13 #[.agg #[.int .i64 t654, .int .i64 t655, .int .i64 t656, .int .u64 t657, .int .u64 t658, .int .u64 t659]] ?_; (with_reducible refine (gcra_Bucket.calls k t654 t655 t656 t657 t658 t659 t682 t683 t684 t685 t686 t687 t688 _ A6.out).mono ?_); rintro e w95 ⟨rfl, hb⟩; refine ⟨_, rfl, ?_⟩; replace BK645 := bf_ BK645 hb; replace BK662 := bf_ BK662 hb; replace BK681 := Aside0.mk (blk_below (g := gb681) (o := .cells #[.int .i64 t674, .int .i64 t675, .int .i64 t676, .int .i64 t677, .int .i64 t678, .int .u64 t679] 30 (0, 0)) (bp6_ (bq_ BK681)) hb); replace HB := bs_ w hb; clear hb; (try clear BK662)) | ((with_reducible refine gate_dst (N := 14) rfl ?_); (try refine ug_ (by rfl) ?_); refine bx_ #[.int .i64 0, .int .i64 0, .int .i64 0, .int .i64 0, .int .i64 0, .int .u64 0] 30 ?_; intro gb689 hg w96 BK689 hb; have GW689 := bz_ w hg; have NB645_689 := bn_ BK645 hg; have NB689_645 := bm_ BK645 hg; have NB681_689 := bn_ BK681 hg; have NB689_681 := bm_ BK681 hg; replace BK645 := bb_ BK645 hb; replace BK681 := bb_ BK681 hb; replace HB := bs_ w hb; clear hb hg; replace hn689_645 := NB689_645.out; replace hn645_689 := NB645_689.out; replace hn689_681 := NB689_681.out; replace hn681_689 := NB681_689.out; replace hc689 := ce6_ BK689; replace hc681 := ce6_ BK681; replace hc645 := ce3_ BK645) | ((with_reducible refine gate_dst (N := 17) rfl ?_); (try refine ug_ (by rfl) ?_); refine bx_ #[.int .i64 0, .int .i64 0, .int .i64 0] 23 ?_; intro gb690 hg w102 BK690 hb; have GW690 := bz_ w hg; have NB645_690 := Aside0.mk ((by rw [hg]; exact Nat.ne_of_lt (blk_lt (g := gb645) (o := .cells #[.int .i64 1000000000, .int .i64 1000000000, .int .i64 1000000000] 23 (0, 0)) (bt_ BK645)) : gb645 ≠ gb690)); have NB690_645 := Aside0.mk ((by rw [hg]; exact Nat.ne_of_gt (blk_lt (g := gb645) (o := .cells #[.int .i64 1000000000, .int .i64 1000000000, .int .i64 1000000000] 23 (0, 0)) (bt_ BK645)) : gb690 ≠ gb645)); have NB681_690 := Aside0.mk ((by rw [hg]; exact Nat.ne_of_lt (blk_lt (g := gb681) (o := .cells #[.int .i64 t674, .int .i64 t675, .int .i64 t676, .int .i64 t677, .int .i64 t678, .int .u64 t679] 30 (0, 0)) (bt_ BK681)) : gb681 ≠ gb690)); have NB690_681 := Aside0.mk ((by rw [hg]; exact Nat.ne_of_gt (blk_lt (g := gb681) (o := .cells #[.int .i64 t674, .int .i64 t675, .int .i64 t676, .int .i64 t677, .int .i64 t678, .int .u64 t679] 30 (0, 0)) (bt_ BK681)) : gb690 ≠ gb681)); have NB689_690 := Aside0.mk ((by rw [hg]; exact Nat.ne_of_lt (blk_lt (g := gb689) (o := .cells #[.int .i64 t682, .int .i64 t683, .int .i64 t684, .int .i64 t685, .int .i64 t686, .int .u64 t687] 30 (0, 0)) (bp6_ (bq_ BK689))) : gb689 ≠ gb690)); have NB690_689 := Aside0.mk ((by rw [hg]; exact Nat.ne_of_gt (blk_lt (g := gb689) (o := .cells #[.int .i64 t682, .int .i64 t683, .int .i64 t684, .int .i64 t685, .int .i64 t686, .int .u64 t687] 30 (0, 0)) (bp6_ (bq_ BK689))) : gb690 ≠ gb689)); replace BK645 := bf_ BK645 hb; replace BK681 := bf_ BK681 hb; replace BK689 := Aside0.mk (blk_below (g := gb689) (o := .cells #[.int .i64 t682, .int .i64 t683, .int .i64 t684, .int .i64 t685, .int .i64 t686, .int .u64 t687] 30 (0, 0)) (bp6_ (bq_ BK689)) hb); replace HB := bs_ w hb; clear hb hg; (try clear BK645 BK681 BK689); replace hc690 := ce3_ BK690) | ((with_reducible refine gate_callee (f := 9) rfl ?_); (try refine ug_ (by rfl) ?_); refine goesA_ (some 138) Try.func9 #[.agg #[.int .i64 2, .int .i64 0, .int .i64 1], .int .u64 5] ?_; (with_reducible refine (gcra_New.calls 2 0 1 5 t691 t692 t693 t694 t695 t696 t697 _ A17.out).mono ?_); rintro e w104 ⟨rfl, hb⟩; refine ⟨_, rfl, ?_⟩; replace BK690 := Aside0.mk (blk_below (g := gb690) (o := .cells #[.int .i64 2, .int .i64 0, .int .i64 1] 23 (0, 0)) (bp3_ (bq_ BK690)) hb); replace HB := bs_ w hb; clear hb; (try clear BK690)) | ((with_reducible refine gate_dst (N := 18) rfl ?_); (try refine ug_ (by rfl) ?_); refine bx_ #[.int .i64 0, .int .i64 0, .int .i64 0, .int .u64 0, .int .u64 0, .int .u64 0] 28 ?_; intro gb698 hg w105 BK698 hb; have GW698 := bz_ w hg; replace HB := bs_ w hb; clear hb hg; replace hc698 := ce6_ BK698) | ((with_reducible refine gate_callee (f := 17) rfl ?_); (try refine ug_ (by rfl) ?_); refine goesA_ (some 143) Try.func17 #[.agg #[.int .i64 t691, .int .i64 t692, .int .i64 t693, .int .u64 t694, .int .u64 t695, .int .u64 t696], .int .u64 9, .int .i64 2] ?_; (with_reducible refine (gcra_Ask.calls k t691 t692 t693 t694 t695 t696 9 2 t699 t700 t701 t702 t703 t704 true t706 _ A18.out).mono ?_); rintro e w107 ⟨rfl, hb⟩; refine ⟨_, rfl, ?_⟩; replace BK698 := Aside0.mk (blk_below (g := gb698) (o := .cells #[.int .i64 t691, .int .i64 t692, .int .i64 t693, .int .u64 t694, .int .u64 t695, .int .u64 t696] 28 (0, 0)) (bp6_ (bq_ BK698)) hb); replace HB := bs_ w hb; clear hb) | ((with_reducible refine gate_dst (N := 20) rfl ?_); (try refine ug_ (by rfl) ?_); refine bx_ #[.int .i64 0, .int .i64 0, .int .i64 0, .int .u64 0, .int .u64 0, .int .u64 0] 28 ?_; intro gb707 hg w108 BK707 hb; have GW707 := bz_ w hg; have NB698_707 := bn_ BK698 hg; have NB707_698 := bm_ BK698 hg; replace BK698 := bb_ BK698 hb; replace HB := bs_ w hb; clear hb hg; replace hn707_698 := NB707_698.out; replace hn698_707 := NB698_707.out; replace hc707 := ce6_ BK707) | ((with_reducible refine gate_callee (f := 21) rfl ?_); (try refine ug_ (by rfl) ?_); refine goesA_ (some 149) Try.func21 #[.agg #[.int .i64 t699, .int .i64 t700, .int .i64 t701, .int .u64 t702, .int .u64 t703, .int .u64 t704], .int .i64 1] ?_; (with_reducible refine (gcra_Wait.calls k t699 t700 t701 t702 t703 t704 1 t708 t709 _ A19.out).mono ?_); rintro e w111 ⟨rfl, hb⟩; refine ⟨_, rfl, ?_⟩; replace BK698 := bf_ BK698 hb; replace BK707 := Aside0.mk (blk_below (g := gb707) (o := .cells #[.int .i64 t699, .int .i64 t700, .int .i64 t701, .int .u64 t702, .int .u64 t703, .int .u64 t704] 28 (0, 0)) (bp6_ (bq_ BK707)) hb); replace HB := bs_ w hb; clear hb; replace hc707 := ce6_ BK707) | ((with_reducible refine gate_callee (f := 21) rfl ?_); (try refine ug_ (by rfl) ?_); refine goesA_ (some 154) Try.func21 #[.agg #[.int .i64 t699, .int .i64 t700, .int .i64 t701, .int .u64 t702, .int .u64 t703, .int .u64 t704], .int .i64 0] ?_; (with_reducible refine (gcra_Wait.calls k t699 t700 t701 t702 t703 t704 0 t710 t711 _ A20.out).mono ?_); rintro e w113 ⟨rfl, hb⟩; refine ⟨_, rfl, ?_⟩; replace BK698 := bb_ BK698 hb; replace BK707 := bb_ BK707 hb; replace HB := bs_ w hb; clear hb; replace hc707 := ce6_ BK707) | ((with_reducible refine gate_callee (f := 19) rfl ?_); (try refine ug_ (by rfl) ?_); refine goesA_ (some 159) Try.func19 #[.agg #[.int .i64 t699, .int .i64 t700, .int .i64 t701, .int .u64 t702, .int .u64 t703, .int .u64 t704], .int .u64 1000] ?_; (with_reducible refine (gcra_Level.calls k t699 t700 t701 t702 t703 t704 1000 t712 t713 _ A21.out).mono ?_); rintro e w115 ⟨rfl, hb⟩; refine ⟨_, rfl, ?_⟩; replace BK698 := bb_ BK698 hb; replace BK707 := bb_ BK707 hb; replace HB := bs_ w hb; clear hb; replace hc698 := ce6_ BK698; (try clear BK698)) | ((with_reducible refine gate_callee (f := 21) rfl ?_); (try refine ug_ (by rfl) ?_); refine goesA_ (some 164) Try.func21 #[.agg #[.int .i64 t691, .int .i64 t692, .int .i64 t693, .int .u64 t694, .int .u64 t695, .int .u64 t696], .int .i64 3] ?_; (with_reducible refine (gcra_Wait.calls k t691 t692 t693 t694 t695 t696 3 t714 t715 _ A22.out).mono ?_); rintro e w117 ⟨rfl, hb⟩; refine ⟨_, rfl, ?_⟩; replace BK707 := bb_ BK707 hb; replace HB := bs_ w hb; clear hb; replace hc707 := ce6_ BK707; (try clear BK707)) | ((with_reducible refine gate_callee (f := 24) rfl ?_); (try refine ug_ (by rfl) ?_); refine goesA_ (some 214) Try.func24 #[] ?_; (with_reducible refine (spigotlaw37_given.calls  t716 t717 t718 _ A34.out).mono ?_); rintro e w119 ⟨rfl, hb⟩; refine ⟨_, rfl, ?_⟩; replace HB := bs_ w hb; clear hb) | ((with_reducible refine gate_callee (f := 9) rfl ?_); (try refine ug_ (by rfl) ?_); refine goesA_ (some 215) Try.func9 #[.agg #[.int .i64 t716, .int .i64 t717, .int .i64 t718], .int .u64 10] ?_; (with_reducible refine (gcra_New.calls t716 t717 t718 10 t719 t720 t721 t722 t723 t724 t725 _ A35.out).mono ?_); rintro e w120 ⟨rfl, hb⟩; refine ⟨_, rfl, ?_⟩; replace HB := bs_ w hb; clear hb) | ((with_reducible refine gate_dst (N := 32) rfl ?_); (try refine ug_ (by rfl) ?_); refine bx_ #[.int .i64 0, .int .i64 0, .int .i64 0, .int .u64 0, .int .u64 0, .int .u64 0] 28 ?_; intro gb726 hg w121 BK726 hb; have GW726 := bz_ w hg; replace HB := bs_ w hb; clear hb hg; replace hc726 := ce6_ BK726) | ((with_reducible refine gate_callee (f := 17) rfl ?_); (try refine ug_ (by rfl) ?_); refine goesA_ (some 220) Try.func17 #[.agg #[.int .i64 t719, .int .i64 t720, .int .i64 t721, .int .u64 t722, .int .u64 t723, .int .u64 t724], .int .u64 3, .int .i64 3] ?_; (with_reducible refine (gcra_Ask.calls k t719 t720 t721 t722 t723 t724 3 3 t727 t728 t729 t730 t731 t732 true t734 _ A36.out).mono ?_); rintro e w123 ⟨rfl, hb⟩; refine ⟨_, rfl, ?_⟩; replace BK726 := Aside0.mk (blk_below (g := gb726) (o := .cells #[.int .i64 t719, .int .i64 t720, .int .i64 t721, .int .u64 t722, .int .u64 t723, .int .u64 t724] 28 (0, 0)) (bp6_ (bq_ BK726)) hb); replace HB := bs_ w hb; clear hb) | ((with_reducible refine gate_dst (N := 34) rfl ?_); (try refine ug_ (by rfl) ?_); refine bx_ #[.int .i64 0, .int .i64 0, .int .i64 0, .int .u64 0, .int .u64 0, .int .u64 0] 28 ?_; intro gb735 hg w124 BK735 hb; have GW735 := bz_ w hg; have NB726_735 := bn_ BK726 hg; have NB735_726 := bm_ BK726 hg; replace BK726 := bb_ BK726 hb; replace HB := bs_ w hb; clear hb hg; replace hn735_726 := NB735_726.out; replace hn726_735 := NB726_735.out; replace hc735 := ce6_ BK735) | ((with_reducible refine gate_callee (f := 9) rfl ?_); (try refine ug_ (by rfl) ?_); refine goesA_ (some 226) Try.func9 #[.agg #[.int .i64 0, .int .i64 0, .int .i64 0], .int .u64 0] ?_; (with_reducible refine (gcra_New.calls 0 0 0 0 t736 t737 t738 t739 t740 t741 t742 _ A37.out).mono ?_); rintro e w127 ⟨rfl, hb⟩; refine ⟨_, rfl, ?_⟩; replace BK726 := bf_ BK726 hb; replace BK735 := Aside0.mk (blk_below (g := gb735) (o := .cells #[.int .i64 t727, .int .i64 t728, .int .i64 t729, .int .u64 t730, .int .u64 t731, .int .u64 t732] 28 (0, 0)) (bp6_ (bq_ BK735)) hb); replace HB := bs_ w hb; clear hb) | ((with_reducible refine gate_dst (N := 37) rfl ?_); (try refine ug_ (by rfl) ?_); refine bx_ #[.int .i64 0, .int .i64 0, .int .i64 0, .int .u64 0, .int .u64 0, .int .u64 0] 28 ?_; intro gb743 hg w128 BK743 hb; have GW743 := bz_ w hg; have NB726_743 := bn_ BK726 hg; have NB743_726 := bm_ BK726 hg; have NB735_743 := bn_ BK735 hg; have NB743_735 := bm_ BK735 hg; replace BK726 := bb_ BK726 hb; replace BK735 := bb_ BK735 hb; replace HB := bs_ w hb; clear hb hg; replace hn743_726 := NB743_726.out; replace hn726_743 := NB726_743.out; replace hn743_735 := NB743_735.out; replace hn735_743 := NB735_743.out; replace hc743 := ce6_ BK743; replace hc726 := ce6_ BK726) | ((with_reducible refine gate_callee (f := 17) rfl ?_); (try refine ug_ (by rfl) ?_); refine goesA_ (some 231) Try.func17 #[.agg #[.int .i64 t719, .int .i64 t720, .int .i64 t721, .int .u64 t722, .int .u64 t723, .int .u64 t724], .int .u64 10, .int .i64 (-1)] ?_; (with_reducible refine (gcra_Ask.calls k t719 t720 t721 t722 t723 t724 10 (-1) t744 t745 t746 t747 t748 t749 t750 t751 _ A38.out).mono ?_); rintro e w133 ⟨rfl, hb⟩; refine ⟨_, rfl, ?_⟩; replace BK726 := bf_ BK726 hb; replace BK735 := bf_ BK735 hb; replace BK743 := Aside0.mk (blk_below (g := gb743) (o := .cells #[.int .i64 t736, .int .i64 t737, .int .i64 t738, .int .u64 t739, .int .u64 t740, .int .u64 t741] 28 (0, 0)) (bp6_ (bq_ BK743)) hb); replace HB := bs_ w hb; clear hb; (try clear BK743)) | ((with_reducible refine gate_dst (N := 39) rfl ?_); (try refine ug_ (by rfl) ?_); refine bx_ #[.int .i64 0, .int .i64 0, .int .i64 0, .int .u64 0, .int .u64 0, .int .u64 0] 28 ?_; intro gb752 hg w134 BK752 hb; have GW752 := bz_ w hg; have NB726_752 := bn_ BK726 hg; have NB752_726 := bm_ BK726 hg; have NB735_752 := bn_ BK735 hg; have NB752_735 := bm_ BK735 hg; replace BK726 := bb_ BK726 hb; replace BK735 := bb_ BK735 hb; replace HB := bs_ w hb; clear hb hg; replace hn752_726 := NB752_726.out; replace hn726_752 := NB726_752.out; replace hn752_735 := NB752_735.out; replace hn735_752 := NB735_752.out; replace hc752 := ce6_ BK752; replace hc726 := ce6_ BK726) | ((with_reducible refine gate_callee (f := 21) rfl ?_); (try refine ug_ (by rfl) ?_); refine goesA_ (some 237) Try.func21 #[.agg #[.int .i64 t719, .int .i64 t720, .int .i64 t721, .int .u64 t722, .int .u64 t723, .int .u64 t724], .int .i64 (-1)] ?_; (with_reducible refine (gcra_Wait.calls k t719 t720 t721 t722 t723 t724 (-1) t753 t754 _ A39.out).mono ?_); rintro e w139 ⟨rfl, hb⟩; refine ⟨_, rfl, ?_⟩; replace BK726 := bf_ BK726 hb; replace BK735 := bf_ BK735 hb; replace BK752 := Aside0.mk (blk_below (g := gb752) (o := .cells #[.int .i64 t744, .int .i64 t745, .int .i64 t746, .int .u64 t747, .int .u64 t748, .int .u64 t749] 28 (0, 0)) (bp6_ (bq_ BK752)) hb); replace HB := bs_ w hb; clear hb; (try clear BK752); replace hc726 := ce6_ BK726) | ((with_reducible refine gate_callee (f := 17) rfl ?_); (try refine ug_ (by rfl) ?_); refine goesA_ (some 242) Try.func17 #[.agg #[.int .i64 t719, .int .i64 t720, .int .i64 t721, .int .u64 t722, .int .u64 t723, .int .u64 t724], .int .u64 11, .int .i64 9223372036854775807] ?_; (with_reducible refine (gcra_Ask.calls k t719 t720 t721 t722 t723 t724 11 9223372036854775807 t755 t756 t757 t758 t759 t760 false t762 _ A40.out).mono ?_); rintro e w141 ⟨rfl, hb⟩; refine ⟨_, rfl, ?_⟩; replace BK726 := bb_ BK726 hb; replace BK735 := bb_ BK735 hb; replace HB := bs_ w hb; clear hb) | ((with_reducible refine gate_dst (N := 44) rfl ?_); (try refine ug_ (by rfl) ?_); refine bx_ #[.int .i64 0, .int .i64 0, .int .i64 0, .int .u64 0, .int .u64 0, .int .u64 0] 28 ?_; intro gb763 hg w142 BK763 hb; have GW763 := bz_ w hg; have NB726_763 := bn_ BK726 hg; have NB763_726 := bm_ BK726 hg; have NB735_763 := bn_ BK735 hg; have NB763_735 := bm_ BK735 hg; replace BK726 := bb_ BK726 hb; replace BK735 := bb_ BK735 hb; replace HB := bs_ w hb; clear hb hg; replace hn763_726 := NB763_726.out; replace hn726_763 := NB726_763.out; replace hn763_735 := NB763_735.out; replace hn735_763 := NB735_763.out; replace hc763 := ce6_ BK763))
        have n0_ : Aside0 (((((((w142.setCell ⟨gb763, 0, none⟩ (.int .i64 t755)).setCell ⟨gb763, 1, none⟩ (.int .i64 t756)).setCell ⟨gb763, 2, none⟩ (.int .i64 t757)).setCell ⟨gb763, 3, none⟩ (.int .u64 t758)).setCell ⟨gb763, 4, none⟩ (.int .u64 t759)).setCell ⟨gb763, 5, none⟩ (.int .u64 t760)).heap[gb726]? = some (.cells #[.int .i64 t719, .int .i64 t720, .int .i64 t721, .int .u64 t722, .int .u64 t723, .int .u64 t724] 28 (0, 0))) := ⟨(bt_ BK726)⟩
        have n1_ : Aside0 (((((((w142.setCell ⟨gb763, 0, none⟩ (.int .i64 t755)).setCell ⟨gb763, 1, none⟩ (.int .i64 t756)).setCell ⟨gb763, 2, none⟩ (.int .i64 t757)).setCell ⟨gb763, 3, none⟩ (.int .u64 t758)).setCell ⟨gb763, 4, none⟩ (.int .u64 t759)).setCell ⟨gb763, 5, none⟩ (.int .u64 t760)).heap[gb735]? = some (.cells #[.int .i64 t727, .int .i64 t728, .int .i64 t729, .int .u64 t730, .int .u64 t731, .int .u64 t732] 28 (0, 0))) := ⟨(bt_ BK735)⟩
        have n2_ : Aside0 (((((((w142.setCell ⟨gb763, 0, none⟩ (.int .i64 t755)).setCell ⟨gb763, 1, none⟩ (.int .i64 t756)).setCell ⟨gb763, 2, none⟩ (.int .i64 t757)).setCell ⟨gb763, 3, none⟩ (.int .u64 t758)).setCell ⟨gb763, 4, none⟩ (.int .u64 t759)).setCell ⟨gb763, 5, none⟩ (.int .u64 t760)).heap[gb763]? = some (.cells #[.int .i64 t755, .int .i64 t756, .int .i64 t757, .int .u64 t758, .int .u64 t759, .int .u64 t760] 28 (0, 0))) := ⟨(bp6_ (bq_ BK763))⟩
        have n3_ : Aside0 (Below w.heap.size w ((((((w142.setCell ⟨gb763, 0, none⟩ (.int .i64 t755)).setCell ⟨gb763, 1, none⟩ (.int .i64 t756)).setCell ⟨gb763, 2, none⟩ (.int .i64 t757)).setCell ⟨gb763, 3, none⟩ (.int .u64 t758)).setCell ⟨gb763, 4, none⟩ (.int .u64 t759)).setCell ⟨gb763, 5, none⟩ (.int .u64 t760))) := bw_
        (try clear BK726)
        (try clear BK735)
        (try clear BK763)
        (try clear HB)
        generalize ((((((w142.setCell ⟨gb763, 0, none⟩ (.int .i64 t755)).setCell ⟨gb763, 1, none⟩ (.int .i64 t756)).setCell ⟨gb763, 2, none⟩ (.int .i64 t757)).setCell ⟨gb763, 3, none⟩ (.int .u64 t758)).setCell ⟨gb763, 4, none⟩ (.int .u64 t759)).setCell ⟨gb763, 5, none⟩ (.int .u64 t760)) = w146 at n0_ n1_ n2_ n3_ ⊢
        have BK726 := n0_
        have BK735 := n1_
        have BK763 := n2_
        have HB := n3_
        clear n0_ n1_ n2_ n3_
        replace BK726 := Aside0.mk (blk_drew BK726.out)
        replace BK735 := Aside0.mk (blk_drew BK735.out)
        replace BK763 := Aside0.mk (blk_drew BK763.out)
        replace HB := Aside0.mk (below_drew1 HB.out)
        refine start_ (n := 6) (S := fun w' => w'.cell? ⟨gb726, 0, none⟩ = some (.int .i64 t719) ∧ w'.cell? ⟨gb726, 1, none⟩ = some (.int .i64 t720) ∧ w'.cell? ⟨gb726, 2, none⟩ = some (.int .i64 t721) ∧ w'.cell? ⟨gb726, 3, none⟩ = some (.int .u64 t722) ∧ w'.cell? ⟨gb726, 4, none⟩ = some (.int .u64 t723) ∧ w'.cell? ⟨gb726, 5, none⟩ = some (.int .u64 t724)) (ds := []) (bl_ 6 0) (by kernel_rfl) rfl (by kernel_rfl) (cc6_ BK726) (fun hHeld => ?_)
        generalize w146.drew = w147 at BK726 BK735 BK763 HB hHeld ⊢
        refine take_ (i := 0) (N := some 246) (v := ?_) (a' := ?_) (bl_ 6 1) rfl rfl (by kernel_rfl) (fun _ _ _ h => h) (Or.inl ⟨by rfl, ?_⟩) hHeld ?_ ?_
        rotate_left
        ·rintro w' ⟨s0, s1, s2, s3, s4, s5⟩
         go_simp
         with_reducible rfl
        rotate_left
        ·simp only [Act.put, List.setIfInBounds_toArray, List.set_cons_zero, List.set_cons_succ, i64_w, i32_w]
         rfl
        refine take_ (i := 1) (N := some 247) (v := ?_) (a' := ?_) (bl_ 6 3) rfl rfl (by kernel_rfl) (fun _ _ _ h => h) (Or.inl ⟨by rfl, ?_⟩) hHeld ?_ ?_
        rotate_left
        ·rintro w' ⟨s0, s1, s2, s3, s4, s5⟩
         go_simp
         with_reducible rfl
        rotate_left
        ·simp only [Act.put, List.setIfInBounds_toArray, List.set_cons_zero, List.set_cons_succ, i64_w, i32_w]
         rfl
        refine join_ (σ := Nat × Nat) 2 (bl_ 6 15) (fun s_ => [(47, .pointer (some ⟨s_.1, 0, none⟩)), (48, .pointer (some ⟨s_.2, 0, none⟩))]) (fun s_ w' => (w'.cell? ⟨gb726, 0, none⟩ = some (.int .i64 t719) ∧ w'.cell? ⟨gb726, 1, none⟩ = some (.int .i64 t720) ∧ w'.cell? ⟨gb726, 2, none⟩ = some (.int .i64 t721) ∧ w'.cell? ⟨gb726, 3, none⟩ = some (.int .u64 t722) ∧ w'.cell? ⟨gb726, 4, none⟩ = some (.int .u64 t723) ∧ w'.cell? ⟨gb726, 5, none⟩ = some (.int .u64 t724)) ∧ (w'.heap[gb726]? = some (.cells #[.int .i64 t719, .int .i64 t720, .int .i64 t721, .int .u64 t722, .int .u64 t723, .int .u64 t724] 28 (0, 0))) ∧ (w'.heap[gb735]? = some (.cells #[.int .i64 t727, .int .i64 t728, .int .i64 t729, .int .u64 t730, .int .u64 t731, .int .u64 t732] 28 (0, 0))) ∧ (w'.heap[gb763]? = some (.cells #[.int .i64 t755, .int .i64 t756, .int .i64 t757, .int .u64 t758, .int .u64 t759, .int .u64 t760] 28 (0, 0))) ∧ (w'.heap[s_.1]? = some (.cells #[.int .i64 0, .int .i64 0, .int .i64 0, .int .u64 0, .int .u64 0, .int .u64 0] 28 (0, 0))) ∧ (w'.heap[s_.2]? = some (.cells #[.int .i64 0, .int .i64 0, .int .i64 0, .int .u64 0, .int .u64 0, .int .u64 0] 28 (0, 0))) ∧ (w.heap.size ≤ s_.1) ∧ (w.heap.size ≤ s_.1) ∧ (gb726 ≠ s_.1) ∧ (s_.1 ≠ gb726) ∧ (gb735 ≠ s_.1) ∧ (s_.1 ≠ gb735) ∧ (gb763 ≠ s_.1) ∧ (s_.1 ≠ gb763) ∧ (s_.2 ≠ s_.1) ∧ (s_.1 ≠ s_.2) ∧ (w.heap.size ≤ s_.2) ∧ (w.heap.size ≤ s_.2) ∧ (gb726 ≠ s_.2) ∧ (s_.2 ≠ gb726) ∧ (gb735 ≠ s_.2) ∧ (s_.2 ≠ gb735) ∧ (gb763 ≠ s_.2) ∧ (s_.2 ≠ gb763) ∧ (Below w.heap.size w w')) ?_ ?_
        rotate_left
        ·intro hCont
         refine two_ (i := 2) (j := 3) (Ni := some 47) (Nj := some 48) (bl_ 6 7) (bl_ 6 11) rfl rfl rfl rfl (by kernel_rfl) (by decide) (by decide) (fun K hK => ?_) (fun K hK => ?_)
         ·refine bs2_ #[.int .i64 0, .int .i64 0, .int .i64 0, .int .u64 0, .int .u64 0, .int .u64 0] 28 ?_
          intro gb764 hg w148 BK764 hb
          have GW764 := bz_ w hg
          have GE764 := GW764
          have NB726_764 := bn_ BK726 hg
          have NB764_726 := bm_ BK726 hg
          have NB735_764 := bn_ BK735 hg
          have NB764_735 := bm_ BK735 hg
          have NB763_764 := bn_ BK763 hg
          have NB764_763 := bm_ BK763 hg
          replace BK726 := bb_ BK726 hb
          replace BK735 := bb_ BK735 hb
          replace BK763 := bb_ BK763 hb
          replace HB := bs_ w hb
          clear hb hg
          refine hK.out _ _ (cc6_ BK726) (fun hHeld => ?_)
          clear hK K
          refine nm_ (some 47) ?_
          refine one_ (i := 3) (N := some 48) (bl_ 6 15) rfl rfl (by kernel_rfl) (by decide) (fun K hK => ?_)
          refine bs2_ #[.int .i64 0, .int .i64 0, .int .i64 0, .int .u64 0, .int .u64 0, .int .u64 0] 28 ?_
          intro gb765 hg w149 BK765 hb
          have GW765 := bz_ w hg
          have GE765 := GW765
          have NB726_765 := bn_ BK726 hg
          have NB765_726 := bm_ BK726 hg
          have NB735_765 := bn_ BK735 hg
          have NB765_735 := bm_ BK735 hg
          have NB763_765 := bn_ BK763 hg
          have NB765_763 := bm_ BK763 hg
          have NB764_765 := bn_ BK764 hg
          have NB765_764 := bm_ BK764 hg
          replace BK726 := bb_ BK726 hb
          replace BK735 := bb_ BK735 hb
          replace BK763 := bb_ BK763 hb
          replace BK764 := bb_ BK764 hb
          replace HB := bs_ w hb
          clear hb hg
          refine hK.out _ _ (cc6_ BK726) (fun hHeld => ?_)
          clear hK K
          refine nm_ (some 48) ?_
          exact no_ (hCont (gb764, gb765) _ ⟨hHeld, (bq_ BK726), (bq_ BK735), (bq_ BK763), (bq_ BK764), (bq_ BK765), GW764.out, GE764.out, NB726_764.out, NB764_726.out, NB735_764.out, NB764_735.out, NB763_764.out, NB764_763.out, NB765_764.out, NB764_765.out, GW765.out, GE765.out, NB726_765.out, NB765_726.out, NB735_765.out, NB765_735.out, NB763_765.out, NB765_763.out, bh_⟩)
         ·refine bs2_ #[.int .i64 0, .int .i64 0, .int .i64 0, .int .u64 0, .int .u64 0, .int .u64 0] 28 ?_
          intro gb765 hg w148 BK765 hb
          have GW765 := bz_ w hg
          have GE765 := GW765
          have NB726_765 := bn_ BK726 hg
          have NB765_726 := bm_ BK726 hg
          have NB735_765 := bn_ BK735 hg
          have NB765_735 := bm_ BK735 hg
          have NB763_765 := bn_ BK763 hg
          have NB765_763 := bm_ BK763 hg
          replace BK726 := bb_ BK726 hb
          replace BK735 := bb_ BK735 hb
          replace BK763 := bb_ BK763 hb
          replace HB := bs_ w hb
          clear hb hg
          refine hK.out _ _ (cc6_ BK726) (fun hHeld => ?_)
          clear hK K
          refine nm_ (some 48) ?_
          refine one_ (i := 2) (N := some 47) (bl_ 6 15) rfl rfl (by kernel_rfl) (by decide) (fun K hK => ?_)
          refine bs2_ #[.int .i64 0, .int .i64 0, .int .i64 0, .int .u64 0, .int .u64 0, .int .u64 0] 28 ?_
          intro gb764 hg w149 BK764 hb
          have GW764 := bz_ w hg
          have GE764 := GW764
          have NB726_764 := bn_ BK726 hg
          have NB764_726 := bm_ BK726 hg
          have NB735_764 := bn_ BK735 hg
          have NB764_735 := bm_ BK735 hg
          have NB763_764 := bn_ BK763 hg
          have NB764_763 := bm_ BK763 hg
          have NB765_764 := bn_ BK765 hg
          have NB764_765 := bm_ BK765 hg
          replace BK726 := bb_ BK726 hb
          replace BK735 := bb_ BK735 hb
          replace BK763 := bb_ BK763 hb
          replace BK765 := bb_ BK765 hb
          replace HB := bs_ w hb
          clear hb hg
          refine hK.out _ _ (cc6_ BK726) (fun hHeld => ?_)
          clear hK K
          refine nm_ (some 47) ?_
          exact no_ (hCont (gb764, gb765) _ ⟨hHeld, (bq_ BK726), (bq_ BK735), (bq_ BK763), (bq_ BK764), (bq_ BK765), GW764.out, GE764.out, NB726_764.out, NB764_726.out, NB735_764.out, NB764_735.out, NB763_764.out, NB764_763.out, NB765_764.out, NB764_765.out, GW765.out, GE765.out, NB726_765.out, NB765_726.out, NB735_765.out, NB765_735.out, NB763_765.out, NB765_763.out, bh_⟩)
        rintro ⟨gb764, gb765⟩ w150 hS0_
        dsimp only at hS0_
        obtain ⟨hS_, h0_, h1_, h2_, h3_, h4_, h5_, h6_, h7_, h8_, h9_, h10_, h11_, h12_, h13_, h14_, h15_, h16_, h17_, h18_, h19_, h20_, h21_, h22_, h23_⟩ := hS0_
        have BK764 := Aside0.mk h3_
        have BK765 := Aside0.mk h4_
        have GW764 := Aside0.mk h5_
        have GE764 := Aside0.mk h6_
        have NB726_764 := Aside0.mk h7_
        have NB764_726 := Aside0.mk h8_
        have NB735_764 := Aside0.mk h9_
        have NB764_735 := Aside0.mk h10_
        have NB763_764 := Aside0.mk h11_
        have NB764_763 := Aside0.mk h12_
        have NB765_764 := Aside0.mk h13_
        have NB764_765 := Aside0.mk h14_
        have GW765 := Aside0.mk h15_
        have GE765 := Aside0.mk h16_
        have NB726_765 := Aside0.mk h17_
        have NB765_726 := Aside0.mk h18_
        have NB735_765 := Aside0.mk h19_
        have NB765_735 := Aside0.mk h20_
        have NB763_765 := Aside0.mk h21_
        have NB765_763 := Aside0.mk h22_
        replace BK726 := Aside0.mk h0_
        replace BK735 := Aside0.mk h1_
        replace BK763 := Aside0.mk h2_
        replace HB := Aside0.mk h23_
        clear h0_ h1_ h2_ h3_ h4_ h5_ h6_ h7_ h8_ h9_ h10_ h11_ h12_ h13_ h14_ h15_ h16_ h17_ h18_ h19_ h20_ h21_ h22_ h23_
        have hHeld := hS_
        refine nq_ ?_
        refine one_ (i := 4) (N := none) (bl_ 6 31) rfl rfl (by kernel_rfl) (by decide) (fun K hK => ?_)
        have hs151 : w150.cell? ⟨gb764, 0, none⟩ = some (.int .i64 0) := (blk_cell BK764.out 0).trans rfl
        have hfs151 := blk_frozen BK764.out 0
        have hns151_0 := NB726_764.out
        have hns151_1 := NB735_764.out
        have hns151_2 := NB763_764.out
        have hns151_4 := NB765_764.out
        have hms151_0 := NB764_726.out
        have hms151_1 := NB764_735.out
        have hms151_2 := NB764_763.out
        have hms151_4 := NB764_765.out
        have hs152 : w150.cell? ⟨gb764, 1, none⟩ = some (.int .i64 0) := (blk_cell BK764.out 1).trans rfl
        have hfs152 := blk_frozen BK764.out 1
        have hns152_0 := NB726_764.out
        have hns152_1 := NB735_764.out
        have hns152_2 := NB763_764.out
        have hns152_4 := NB765_764.out
        have hms152_0 := NB764_726.out
        have hms152_1 := NB764_735.out
        have hms152_2 := NB764_763.out
        have hms152_4 := NB764_765.out
        have hs153 : w150.cell? ⟨gb764, 2, none⟩ = some (.int .i64 0) := (blk_cell BK764.out 2).trans rfl
        have hfs153 := blk_frozen BK764.out 2
        have hns153_0 := NB726_764.out
        have hns153_1 := NB735_764.out
        have hns153_2 := NB763_764.out
        have hns153_4 := NB765_764.out
        have hms153_0 := NB764_726.out
        have hms153_1 := NB764_735.out
        have hms153_2 := NB764_763.out
        have hms153_4 := NB764_765.out
        have hs154 : w150.cell? ⟨gb764, 3, none⟩ = some (.int .u64 0) := (blk_cell BK764.out 3).trans rfl
        have hfs154 := blk_frozen BK764.out 3
        have hns154_0 := NB726_764.out
        have hns154_1 := NB735_764.out
        have hns154_2 := NB763_764.out
        have hns154_4 := NB765_764.out
        have hms154_0 := NB764_726.out
        have hms154_1 := NB764_735.out
        have hms154_2 := NB764_763.out
        have hms154_4 := NB764_765.out
        have hs155 : w150.cell? ⟨gb764, 4, none⟩ = some (.int .u64 0) := (blk_cell BK764.out 4).trans rfl
        have hfs155 := blk_frozen BK764.out 4
        have hns155_0 := NB726_764.out
        have hns155_1 := NB735_764.out
        have hns155_2 := NB763_764.out
        have hns155_4 := NB765_764.out
        have hms155_0 := NB764_726.out
        have hms155_1 := NB764_735.out
        have hms155_2 := NB764_763.out
        have hms155_4 := NB764_765.out
        have hs156 : w150.cell? ⟨gb764, 5, none⟩ = some (.int .u64 0) := (blk_cell BK764.out 5).trans rfl
        have hfs156 := blk_frozen BK764.out 5
        have hns156_0 := NB726_764.out
        have hns156_1 := NB735_764.out
        have hns156_2 := NB763_764.out
        have hns156_4 := NB765_764.out
        have hms156_0 := NB764_726.out
        have hms156_1 := NB764_735.out
        have hms156_2 := NB764_763.out
        have hms156_4 := NB764_765.out
        refine sk_ ?_
        refine hK.out _ _ (cf6_ hHeld) (fun hHeld => ?_)
        clear hK K
        refine one_ (i := 5) (N := none) (bl_ 6 63) rfl rfl (by kernel_rfl) (by decide) (fun K hK => ?_)
        have hs157 : w150.cell? ⟨gb765, 0, none⟩ = some (.int .i64 0) := (blk_cell BK765.out 0).trans rfl
        have hfs157 := blk_frozen BK765.out 0
        have hns157_0 := NB726_765.out
        have hns157_1 := NB735_765.out
        have hns157_2 := NB763_765.out
        have hns157_3 := NB764_765.out
        have hms157_0 := NB765_726.out
        have hms157_1 := NB765_735.out
        have hms157_2 := NB765_763.out
        have hms157_3 := NB765_764.out
        have hs158 : w150.cell? ⟨gb765, 1, none⟩ = some (.int .i64 0) := (blk_cell BK765.out 1).trans rfl
        have hfs158 := blk_frozen BK765.out 1
        have hns158_0 := NB726_765.out
        have hns158_1 := NB735_765.out
        have hns158_2 := NB763_765.out
        have hns158_3 := NB764_765.out
        have hms158_0 := NB765_726.out
        have hms158_1 := NB765_735.out
        have hms158_2 := NB765_763.out
        have hms158_3 := NB765_764.out
        have hs159 : w150.cell? ⟨gb765, 2, none⟩ = some (.int .i64 0) := (blk_cell BK765.out 2).trans rfl
        have hfs159 := blk_frozen BK765.out 2
        have hns159_0 := NB726_765.out
        have hns159_1 := NB735_765.out
        have hns159_2 := NB763_765.out
        have hns159_3 := NB764_765.out
        have hms159_0 := NB765_726.out
        have hms159_1 := NB765_735.out
        have hms159_2 := NB765_763.out
        have hms159_3 := NB765_764.out
        have hs160 : w150.cell? ⟨gb765, 3, none⟩ = some (.int .u64 0) := (blk_cell BK765.out 3).trans rfl
        have hfs160 := blk_frozen BK765.out 3
        have hns160_0 := NB726_765.out
        have hns160_1 := NB735_765.out
        have hns160_2 := NB763_765.out
        have hns160_3 := NB764_765.out
        have hms160_0 := NB765_726.out
        have hms160_1 := NB765_735.out
        have hms160_2 := NB765_763.out
        have hms160_3 := NB765_764.out
        have hs161 : w150.cell? ⟨gb765, 4, none⟩ = some (.int .u64 0) := (blk_cell BK765.out 4).trans rfl
        have hfs161 := blk_frozen BK765.out 4
        have hns161_0 := NB726_765.out
        have hns161_1 := NB735_765.out
        have hns161_2 := NB763_765.out
        have hns161_3 := NB764_765.out
        have hms161_0 := NB765_726.out
        have hms161_1 := NB765_735.out
        have hms161_2 := NB765_763.out
        have hms161_3 := NB765_764.out
        have hs162 : w150.cell? ⟨gb765, 5, none⟩ = some (.int .u64 0) := (blk_cell BK765.out 5).trans rfl
        have hfs162 := blk_frozen BK765.out 5
        have hns162_0 := NB726_765.out
        have hns162_1 := NB735_765.out
        have hns162_2 := NB763_765.out
        have hns162_3 := NB764_765.out
        have hms162_0 := NB765_726.out
        have hms162_1 := NB765_735.out
        have hms162_2 := NB765_763.out
        have hms162_3 := NB765_764.out
        refine sk_ ?_
        refine hK.out _ _ (cf6_ hHeld) (fun hHeld => ?_)
        clear hK K
        refine done_ (by kernel_rfl) ?_
        replace hn764_726 := NB764_726.out
        replace hn726_764 := NB726_764.out
        replace hn764_735 := NB764_735.out
        replace hn735_764 := NB735_764.out
        replace hn764_763 := NB764_763.out
        replace hn763_764 := NB763_764.out
        replace hn764_765 := NB764_765.out
        replace hn765_764 := NB765_764.out
        replace hc764 := ce6_ BK764
        try go_wp2_with (first | ((with_reducible refine gate_store (t := 24) (p := 253) rfl ?_); refine store_event (t := 24) (p := 253) (v := ?vo_w168) (w1 := (((((((((((((w150.setCell ⟨gb764, 0, none⟩ (.int .i64 t719)).setCell ⟨gb764, 1, none⟩ (.int .i64 t720)).setCell ⟨gb764, 2, none⟩ (.int .i64 t721)).setCell ⟨gb764, 3, none⟩ (.int .u64 t722)).setCell ⟨gb764, 4, none⟩ (.int .u64 t723)).setCell ⟨gb764, 5, none⟩ (.int .u64 t724)).setCell ⟨gb765, 0, none⟩ (.int .i64 t719)).setCell ⟨gb765, 1, none⟩ (.int .i64 t720)).setCell ⟨gb765, 2, none⟩ (.int .i64 t721)).setCell ⟨gb765, 3, none⟩ (.int .u64 t722)).setCell ⟨gb765, 4, none⟩ (.int .u64 t723)).setCell ⟨gb765, 5, none⟩ (.int .u64 t724)).setCell ⟨gb764, 4, none⟩ (.int .u64 (IntKind.u64.wrap (t723 - 1))))) ?hg ?ho ?hn ?hr ?_; (case ho => rfl); (case hg => rfl); (case hn => rfl); (case hr => first | (go_simp; done) | (go_simp; rfl)); intro w168 hw; replace BK726 : Aside0 (w168.heap[gb726]? = some (.cells #[.int .i64 t719, .int .i64 t720, .int .i64 t721, .int .u64 t722, .int .u64 t723, .int .u64 t724] 28 (0, 0))) := ⟨(by rw [hw]; exact (bt_ BK726))⟩; replace BK735 : Aside0 (w168.heap[gb735]? = some (.cells #[.int .i64 t727, .int .i64 t728, .int .i64 t729, .int .u64 t730, .int .u64 t731, .int .u64 t732] 28 (0, 0))) := ⟨(by rw [hw]; exact (bt_ BK735))⟩; replace BK763 : Aside0 (w168.heap[gb763]? = some (.cells #[.int .i64 t755, .int .i64 t756, .int .i64 t757, .int .u64 t758, .int .u64 t759, .int .u64 t760] 28 (0, 0))) := ⟨(by rw [hw]; exact (bt_ BK763))⟩; replace BK764 : Aside0 (w168.heap[gb764]? = some (.cells #[.int .i64 t719, .int .i64 t720, .int .i64 t721, .int .u64 t722, .int .u64 (IntKind.u64.wrap (t723 - 1)), .int .u64 t724] 28 (0, 0))) := ⟨(by rw [hw]; exact (blk_put (cs := #[.int .i64 t719, .int .i64 t720, .int .i64 t721, .int .u64 t722, .int .u64 t723, .int .u64 t724]) (fr6_ (bp6_ (bq_ BK764)) NB764_765.out) 4 _ rfl))⟩; replace BK765 : Aside0 (w168.heap[gb765]? = some (.cells #[.int .i64 t719, .int .i64 t720, .int .i64 t721, .int .u64 t722, .int .u64 t723, .int .u64 t724] 28 (0, 0))) := ⟨(by rw [hw]; exact (blk_far (bp6_ (bt_ BK765)) NB765_764.out _))⟩; replace HB : Aside0 (Below w.heap.size w w168) := ⟨(by rw [hw]; exact bh_)⟩; clear hw; (try clear BK726); replace hn765_735 := NB765_735.out; replace hn735_765 := NB735_765.out; replace hn765_763 := NB765_763.out; replace hn763_765 := NB763_765.out; replace hc765 := ce6_ BK765) | ((with_reducible refine gate_callee (f := 19) rfl ?_); (try refine ug_ (by rfl) ?_); refine goesA_ (some 262) Try.func19 #[.agg #[.int .i64 t719, .int .i64 t720, .int .i64 t721, .int .u64 t722, .int .u64 (IntKind.u64.wrap (t723 + 16)), .int .u64 t724], .int .u64 10] ?_; (with_reducible refine (gcra_Level.calls k t719 t720 t721 t722 (IntKind.u64.wrap (t723 + 16)) t724 10 t766 t767 _ A41.out).mono ?_); rintro e w172 ⟨rfl, hb⟩; refine ⟨_, rfl, ?_⟩; replace BK735 := bf_ BK735 hb; replace BK763 := bf_ BK763 hb; replace BK764 := bf_ BK764 hb; replace BK765 := Aside0.mk (blk_below (g := gb765) (o := .cells #[.int .i64 t719, .int .i64 t720, .int .i64 t721, .int .u64 t722, .int .u64 (IntKind.u64.wrap (t723 + 16)), .int .u64 t724] 28 (0, 0)) (blk_put (cs := #[.int .i64 t719, .int .i64 t720, .int .i64 t721, .int .u64 t722, .int .u64 t723, .int .u64 t724]) (bq_ BK765) 4 _ rfl) hb); replace HB := bs_ w hb; clear hb; replace hc764 := ce6_ BK764) | ((with_reducible refine gate_callee (f := 17) rfl ?_); (try refine ug_ (by rfl) ?_); refine goesA_ (some 267) Try.func17 #[.agg #[.int .i64 t719, .int .i64 t720, .int .i64 t721, .int .u64 t722, .int .u64 (IntKind.u64.wrap (t723 - 1)), .int .u64 t724], .int .u64 10, .int .i64 (-1)] ?_; (with_reducible refine (gcra_Ask.calls k t719 t720 t721 t722 (IntKind.u64.wrap (t723 - 1)) t724 10 (-1) t768 t769 t770 t771 t772 t773 t774 t775 _ A42.out).mono ?_); rintro e w174 ⟨rfl, hb⟩; refine ⟨_, rfl, ?_⟩; replace BK735 := bb_ BK735 hb; replace BK763 := bb_ BK763 hb; replace BK764 := bb_ BK764 hb; replace BK765 := bb_ BK765 hb; replace HB := bs_ w hb; clear hb) | ((with_reducible refine gate_dst (N := 51) rfl ?_); (try refine ug_ (by rfl) ?_); refine bx_ #[.int .i64 0, .int .i64 0, .int .i64 0, .int .u64 0, .int .u64 0, .int .u64 0] 28 ?_; intro gb776 hg w175 BK776 hb; have GW776 := bz_ w hg; have NB735_776 := bn_ BK735 hg; have NB776_735 := bm_ BK735 hg; have NB763_776 := bn_ BK763 hg; have NB776_763 := bm_ BK763 hg; have NB764_776 := bn_ BK764 hg; have NB776_764 := bm_ BK764 hg; have NB765_776 := bn_ BK765 hg; have NB776_765 := bm_ BK765 hg; replace BK735 := bb_ BK735 hb; replace BK763 := bb_ BK763 hb; replace BK764 := bb_ BK764 hb; replace BK765 := bb_ BK765 hb; replace HB := bs_ w hb; clear hb hg; replace hn776_735 := NB776_735.out; replace hn735_776 := NB735_776.out; replace hn776_763 := NB776_763.out; replace hn763_776 := NB763_776.out; replace hn776_764 := NB776_764.out; replace hn764_776 := NB764_776.out; replace hn776_765 := NB776_765.out; replace hn765_776 := NB765_776.out; replace hc776 := ce6_ BK776) | ((with_reducible refine gate_callee (f := 24) rfl ?_); (try refine ug_ (by rfl) ?_); refine goesA_ (some 272) Try.func24 #[] ?_; (with_reducible refine (spigotlaw37_given.calls  t777 t778 t779 _ A43.out).mono ?_); rintro e w181 ⟨rfl, hb⟩; refine ⟨_, rfl, ?_⟩; replace BK735 := bf_ BK735 hb; replace BK763 := bf_ BK763 hb; replace BK764 := bf_ BK764 hb; replace BK765 := bf_ BK765 hb; replace BK776 := Aside0.mk (blk_below (g := gb776) (o := .cells #[.int .i64 t768, .int .i64 t769, .int .i64 t770, .int .u64 t771, .int .u64 t772, .int .u64 t773] 28 (0, 0)) (bp6_ (bq_ BK776)) hb); replace HB := bs_ w hb; clear hb; (try clear BK776)) | ((with_reducible refine gate_callee (f := 11) rfl ?_); (try refine ug_ (by rfl) ?_); refine goesA_ (some 274) Try.func11 #[.agg #[.int .i64 t777, .int .i64 t778, .int .i64 t779, .int .i64 4, .int .i64 0, .int .u64 0]] ?_; (with_reducible refine (gcra_Of.calls k t777 t778 t779 4 0 0 t780 t781 t782 t783 t784 t785 t786 _ A44.out).mono ?_); rintro e w182 ⟨rfl, hb⟩; refine ⟨_, rfl, ?_⟩; replace BK735 := bb_ BK735 hb; replace BK763 := bb_ BK763 hb; replace BK764 := bb_ BK764 hb; replace BK765 := bb_ BK765 hb; replace HB := bs_ w hb; clear hb) | ((with_reducible refine gate_dst (N := 54) rfl ?_); (try refine ug_ (by rfl) ?_); refine bx_ #[.int .i64 0, .int .i64 0, .int .i64 0, .int .u64 0, .int .u64 0, .int .u64 0] 28 ?_; intro gb787 hg w183 BK787 hb; have GW787 := bz_ w hg; have NB735_787 := bn_ BK735 hg; have NB787_735 := bm_ BK735 hg; have NB763_787 := bn_ BK763 hg; have NB787_763 := bm_ BK763 hg; have NB764_787 := bn_ BK764 hg; have NB787_764 := bm_ BK764 hg; have NB765_787 := bn_ BK765 hg; have NB787_765 := bm_ BK765 hg; replace BK735 := bb_ BK735 hb; replace BK763 := bb_ BK763 hb; replace BK764 := bb_ BK764 hb; replace BK765 := bb_ BK765 hb; replace HB := bs_ w hb; clear hb hg; replace hn787_735 := NB787_735.out; replace hn735_787 := NB735_787.out; replace hn787_763 := NB787_763.out; replace hn763_787 := NB763_787.out; replace hn787_764 := NB787_764.out; replace hn764_787 := NB764_787.out; replace hn787_765 := NB787_765.out; replace hn765_787 := NB765_787.out; replace hc787 := ce6_ BK787; replace hc735 := ce6_ BK735) | (go_at_call 25; (with_reducible refine (spigotlaw37_tat.calls t727 t728 t729 t730 t731 t732 t734 35 10 true _ A48.out).mono ?_); rintro e w190 ⟨rfl, hb⟩; replace BK735 := bf_ BK735 hb; replace BK763 := bf_ BK763 hb; replace BK764 := bf_ BK764 hb; replace BK765 := bf_ BK765 hb; replace BK787 := Aside0.mk (blk_below (g := gb787) (o := .cells #[.int .i64 t780, .int .i64 t781, .int .i64 t782, .int .u64 t783, .int .u64 t784, .int .u64 t785] 28 (0, 0)) (bp6_ (bq_ BK787)) hb); replace HB := bs_ w hb; clear hb; (try clear BK735 BK787); replace hc763 := ce6_ BK763; (try clear BK763)) | (go_at_call 25; (with_reducible refine (spigotlaw37_tat.calls t755 t756 t757 t758 t759 t760 t762 22 11 true _ A55.out).mono ?_); rintro e w192 ⟨rfl, hb⟩; replace BK764 := bb_ BK764 hb; replace BK765 := bb_ BK765 hb; replace HB := bs_ w hb; clear hb; replace hc764 := ce6_ BK764; (try clear BK764)) | (go_at_call 15; (with_reducible refine (gcra_Check.calls k t719 t720 t721 t722 (IntKind.u64.wrap (t723 - 1)) t724 t790 _ A57.out).mono ?_); rintro e w194 ⟨rfl, hb⟩; replace BK765 := bb_ BK765 hb; replace HB := bs_ w hb; clear hb; replace hc765 := ce6_ BK765; (try clear BK765)) | (go_at_call 15; (with_reducible refine (gcra_Check.calls k t719 t720 t721 t722 (IntKind.u64.wrap (t723 + 16)) t724 t791 _ A59.out).mono ?_); rintro e w196 ⟨rfl, hb⟩; replace HB := bs_ w hb; clear hb) | (go_at_call 15; (with_reducible refine (gcra_Check.calls k 0 0 0 0 0 0 t792 _ A64.out).mono ?_); rintro e w197 ⟨rfl, hb⟩; replace HB := bs_ w hb; clear hb) | (go_at_call 23; (with_reducible refine (spigotlaw37_alive.calls k  t793 _ A68.out).mono ?_); rintro e w198 ⟨rfl, hb⟩; replace HB := bs_ w hb; clear hb))
        go_ret
        exact fi_
       ·replace c56 := Bool.eq_false_iff.mpr c56
        subst c56
        replace H : (none) = some r := by rw [if_neg (show ¬ (false = true) by decide)] at H; exact H
        exact absurd H (by simp)
     ·replace c49 := Bool.eq_false_iff.mpr c49
      subst c49
      replace H : (none) = some r := by rw [if_neg (show ¬ (false = true) by decide)] at H; exact H
      exact absurd H (by simp)
    ·replace c47 := Bool.eq_false_iff.mpr c47
     subst c47
     replace H : (none) = some r := by rw [if_neg (show ¬ (false = true) by decide)] at H; exact H
     exact absurd H (by simp)
   ·replace c25 := Bool.eq_false_iff.mpr c25
    subst c25
    replace H : (none) = some r := by rw [if_neg (show ¬ (false = true) by decide)] at H; exact H
    exact absurd H (by simp)
 ·replace c9 := Bool.eq_false_iff.mpr c9
  subst c9
  replace H : (none) = some r := by rw [if_neg (show ¬ (false = true) by decide)] at H; exact H
  exact absurd H (by simp)

end Go.Proofs.Ytnijohomnajngaa.X
